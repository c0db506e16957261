/-
  Parts of the proof: the executor of states by symbols, and the contracts of the functions that the law reaches. No condition.
-/
import Derived.RangeFuncLeaves
import Derived.LoopNIn
import Derived.OrdersIn
import Derived.WalkKit
import Derived.KernelRfl
import Derived.Laws.CopyRow
import Derived.Laws.StructEq
import Derived.RangeFuncRecord
set_option linter.unusedVariables false
set_option linter.unusedSimpArgs false

/-
  SHAD: symbolic values, symbolic objects, and the relation between them and the machine's values and blocks.
  A symbolic value names a block by a label; an environment says which block a label stands for.
-/
namespace Go.Sh
open Go.RowKit
set_option linter.unusedVariables false
set_option linter.unusedSimpArgs false

inductive SV where
  | any
  | und
  | bool (b : Bool)
  | int (k : IntKind) (n : Int)
  | str (s : ByteArray)
  | ptr (l i j : Nat)
  | gptr (g i : Nat)
  | nilp
  | sl (l o n : Nat)
  | osl (l n : Nat)
  | nils
  | map (l : Nat)
  | nilm
  | fn (f : Fn) (first cap : List SV)
  | nilf
  | agg (cs : List SV)
  | tup (cs : List SV)
  | iface (t : Nat) (v : SV)
  | nili

inductive SO where
  | arr (own : Bool) (n k : Nat) (t : TypeId) (g : Nat → List SV)
  | mp (es : List (SV × SV))
  | tbl (own : Bool) (es : List (SV × SV))
  | loop (st : LoopState) (pend : Option Code) (tmps : List SV) (params : List Tmp) (assign body : Code)
  | defs

abbrev Heap := List (Option SO)

structure Ent where
  blk : Nat
  base : Nat
  cap : Nat
  w : Nat
  nil : Bool
  lp : Option Loop := none

abbrev Env := Nat → Option Ent
def Env.le (e e' : Env) : Prop := ∀ l x, e l = some x → e' l = some x
theorem Env.le_refl (e : Env) : Env.le e e := fun _ _ h => h
theorem Env.le_trans {a b c : Env} (h : Env.le a b) (h' : Env.le b c) : Env.le a c := fun l x hx => h' l x (h l x hx)

/-- A function value: the loop of a 'yield' is named by its label. -/
def FnR (env : Env) : Fn → Fn → Prop
  | .yield l, f => ∃ e, env l = some e ∧ f = .yield e.blk
  | g, f => f = g

mutual
def VR (env : Env) : SV → Value → Prop
  | .any, _ => True
  | .und, v => v = undef
  | .bool b, v => v = .bool b
  | .int k n, v => v = .int k n
  | .str s, v => v = .string s
  | .ptr l i j, v => ∃ e, env l = some e ∧ e.nil = false ∧ v = .pointer (some ⟨e.blk, e.base + (i * e.w + j), none⟩)
  | .gptr g i, v => v = .pointer (some ⟨g, i, none⟩)
  | .nilp, v => v = .pointer none
  | .sl l o n, v => ∃ e a c, env l = some e ∧ v = .slice a n c ∧ n ≤ c ∧ (n = 0 ∨ (e.nil = false ∧ a = some ⟨e.blk, e.base + o * e.w, none⟩))
  | .osl l n, v => ∃ e, env l = some e ∧ ((e.nil = true ∧ n = 0 ∧ v = .slice none 0 0) ∨ (e.nil = false ∧ e.base = 0 ∧ n ≤ e.cap ∧ e.cap ≤ maxLen ∧ v = .slice (some ⟨e.blk, 0, none⟩) n e.cap))
  | .nils, v => v = .slice none 0 0
  | .map l, v => ∃ e, env l = some e ∧ v = .map (some e.blk)
  | .nilm, v => v = .map none
  | .fn f a c, v => ∃ f' a' c', v = .func f' a' c' ∧ FnR env f f' ∧ VRs env a a'.toList ∧ VRs env c c'.toList
  | .nilf, v => v = .nilFunc
  | .agg cs, v => ∃ a : Array Value, v = .agg a ∧ VRs env cs a.toList
  | .tup cs, v => ∃ a : Array Value, v = .tuple a ∧ VRs env cs a.toList
  | .iface t x, v => ∃ y, v = .iface t y ∧ VR env x y
  | .nili, v => v = .nilIface
def VRs (env : Env) : List SV → List Value → Prop
  | [], [] => True
  | s :: ss, v :: vs => VR env s v ∧ VRs env ss vs
  | _, _ => False
end

mutual
theorem VR.mono {e e' : Env} (h : Env.le e e') : ∀ (s : SV) (v : Value), VR e s v → VR e' s v
  | .any, _, _ => trivial
  | .und, _, hv => hv
  | .bool _, _, hv => hv
  | .int _ _, _, hv => hv
  | .str _, _, hv => hv
  | .ptr _ _ _, _, ⟨x, hx, hr⟩ => ⟨x, h _ _ hx, hr⟩
  | .gptr _ _, _, hv => hv
  | .nilp, _, hv => hv
  | .sl _ _ _, _, ⟨x, a, c, hx, hr⟩ => ⟨x, a, c, h _ _ hx, hr⟩
  | .osl _ _, _, ⟨x, hx, hr⟩ => ⟨x, h _ _ hx, hr⟩
  | .nils, _, hv => hv
  | .map _, _, ⟨x, hx, hr⟩ => ⟨x, h _ _ hx, hr⟩
  | .nilm, _, hv => hv
  | .fn f a c, _, ⟨f', a', c', hv, hf, ha, hc⟩ => ⟨f', a', c', hv, by cases f <;> first | exact hf | (obtain ⟨x, hx, hr⟩ := hf; exact ⟨x, h _ _ hx, hr⟩), VRs.mono h a _ ha, VRs.mono h c _ hc⟩
  | .nilf, _, hv => hv
  | .agg cs, _, ⟨a, hv, ha⟩ => ⟨a, hv, VRs.mono h cs _ ha⟩
  | .tup cs, _, ⟨a, hv, ha⟩ => ⟨a, hv, VRs.mono h cs _ ha⟩
  | .iface _ x, _, ⟨y, hv, hy⟩ => ⟨y, hv, VR.mono h x _ hy⟩
  | .nili, _, hv => hv
theorem VRs.mono {e e' : Env} (h : Env.le e e') : ∀ (s : List SV) (v : List Value), VRs e s v → VRs e' s v
  | [], [], _ => trivial
  | s :: ss, v :: vs, ⟨h1, h2⟩ => ⟨VR.mono h s v h1, VRs.mono h ss vs h2⟩
  | [], _ :: _, hv => hv.elim
  | _ :: _, [], hv => hv.elim
end

section vrs
variable {env : Env}
theorem VRs.length : ∀ {ss : List SV} {vs : List Value}, VRs env ss vs → ss.length = vs.length
  | [], [], _ => rfl
  | _ :: ss, _ :: vs, ⟨_, h⟩ => by simp [VRs.length h]
  | [], _ :: _, h => h.elim
  | _ :: _, [], h => h.elim
theorem VRs.get : ∀ {ss : List SV} {vs : List Value}, VRs env ss vs → ∀ {i : Nat} {s : SV}, ss[i]? = some s → ∃ v, vs[i]? = some v ∧ VR env s v
  | _ :: _, _ :: _, ⟨h, _⟩, 0, _, hs => by simp at hs; subst hs; exact ⟨_, rfl, h⟩
  | _ :: ss, _ :: vs, ⟨_, h⟩, i + 1, _, hs => by simpa using VRs.get h (i := i) (by simpa using hs)
  | [], [], _, _, _, hs => by simp at hs
  | [], _ :: _, h, _, _, _ => h.elim
  | _ :: _, [], h, _, _, _ => h.elim
theorem VRs.append : ∀ {ss : List SV} {vs : List Value} {ss' : List SV} {vs' : List Value}, VRs env ss vs → VRs env ss' vs' → VRs env (ss ++ ss') (vs ++ vs')
  | [], [], _, _, _, h' => h'
  | _ :: _, _ :: _, _, _, ⟨h1, h2⟩, h' => ⟨h1, VRs.append h2 h'⟩
  | [], _ :: _, _, _, h, _ => h.elim
  | _ :: _, [], _, _, h, _ => h.elim
theorem VRs.take : ∀ (n : Nat) {ss : List SV} {vs : List Value}, VRs env ss vs → VRs env (ss.take n) (vs.take n)
  | 0, _, _, _ => by simp [VRs]
  | n + 1, [], [], _ => by simp [VRs]
  | n + 1, _ :: _, _ :: _, ⟨h1, h2⟩ => ⟨h1, VRs.take n h2⟩
  | _ + 1, [], _ :: _, h => h.elim
  | _ + 1, _ :: _, [], h => h.elim
theorem VRs.drop : ∀ (n : Nat) {ss : List SV} {vs : List Value}, VRs env ss vs → VRs env (ss.drop n) (vs.drop n)
  | 0, _, _, h => by simpa using h
  | n + 1, [], [], _ => by simp [VRs]
  | n + 1, _ :: _, _ :: _, ⟨_, h2⟩ => by simpa using VRs.drop n h2
  | _ + 1, [], _ :: _, h => h.elim
  | _ + 1, _ :: _, [], h => h.elim
theorem VRs.set : ∀ {ss : List SV} {vs : List Value} (i : Nat) {s : SV} {v : Value}, VRs env ss vs → VR env s v → VRs env (ss.set i s) (vs.set i v)
  | [], [], _, _, _, h, _ => by simpa using h
  | _ :: _, _ :: _, 0, _, _, ⟨_, h2⟩, h => ⟨h, h2⟩
  | _ :: _, _ :: _, i + 1, _, _, ⟨h1, h2⟩, h => ⟨h1, VRs.set i h2 h⟩
  | [], _ :: _, _, _, _, h, _ => h.elim
  | _ :: _, [], _, _, _, h, _ => h.elim
theorem VRs.replicate (n : Nat) {s : SV} {v : Value} (h : VR env s v) : VRs env (List.replicate n s) (List.replicate n v) := by
  induction n with
  | zero => simp [VRs]
  | succ n ih => exact ⟨h, ih⟩
theorem VRs.map {α : Type} (f : α → SV) (g : α → Value) : ∀ (l : List α), (∀ x ∈ l, VR env (f x) (g x)) → VRs env (l.map f) (l.map g)
  | [], _ => trivial
  | a :: l, h => ⟨h a (by simp), VRs.map f g l fun x hx => h x (by simp [hx])⟩
theorem VRs.of_get : ∀ {ss : List SV} {vs : List Value}, ss.length = vs.length → (∀ (i : Nat) (s : SV) (v : Value), ss[i]? = some s → vs[i]? = some v → VR env s v) → VRs env ss vs
  | [], [], _, _ => trivial
  | s :: ss, v :: vs, hl, h => ⟨h 0 s v rfl rfl, VRs.of_get (by simpa using hl) fun i s v hs hv => h (i + 1) s v (by simpa using hs) (by simpa using hv)⟩
  | [], _ :: _, hl, _ => by simp at hl
  | _ :: _, [], hl, _ => by simp at hl
end vrs

/-- Cells: what a variable's block holds. -/
def SV.cells : SV → List SV
  | .agg cs => cs
  | v => [v]

/-- A value of one cell, of which we know the kind. -/
def isCell : SV → Bool
  | .agg _ | .tup _ | .und | .any => false
  | _ => true

theorem oneCell_of_isCell {env : Env} : ∀ {s : SV} {v : Value}, isCell s = true → VR env s v → v.oneCell' = true := by
  intro s v h hv
  cases s <;> simp only [isCell, Bool.false_eq_true] at h <;> simp only [VR] at hv
  case bool => subst hv; rfl
  case int => subst hv; rfl
  case str => subst hv; rfl
  case ptr => obtain ⟨e, _, _, rfl⟩ := hv; rfl
  case gptr => subst hv; rfl
  case nilp => subst hv; rfl
  case sl => obtain ⟨e, a, c, _, rfl, _⟩ := hv; rfl
  case osl => obtain ⟨e, _, ⟨_, _, rfl⟩ | ⟨_, _, _, _, rfl⟩⟩ := hv <;> rfl
  case nils => subst hv; rfl
  case map => obtain ⟨e, _, rfl⟩ := hv; rfl
  case nilm => subst hv; rfl
  case fn => obtain ⟨_, _, _, rfl, _⟩ := hv; rfl
  case nilf => subst hv; rfl
  case iface => obtain ⟨_, rfl, _⟩ := hv; rfl
  case nili => subst hv; rfl

def allCells (cs : List SV) : Bool := cs.all isCell

/-- The cells of a value: known only of an aggregate or of a value of one cell. -/
def cellsOk : SV → Bool
  | .agg cs => allCells cs
  | v => isCell v

theorem cells_of_VR {env : Env} {s : SV} {v : Value} (h : cellsOk s = true) (hv : VR env s v) : VRs env s.cells v.cells.toList ∧ ∀ u ∈ v.cells.toList, u.oneCell' = true := by
  have one : isCell s = true → v.cells = #[v] := fun hc => by
    have := oneCell_of_isCell hc hv
    cases v <;> simp_all [Value.cells, Value.oneCell']
  have main : VRs env s.cells v.cells.toList := by
    cases s with
    | agg cs => obtain ⟨a, rfl, ha⟩ := hv; exact ha
    | _ => first
      | (simp [cellsOk, isCell] at h; done)
      | (rw [one h]; exact ⟨hv, trivial⟩)
  refine ⟨main, fun u hu => ?_⟩
  obtain ⟨i, hi⟩ := List.mem_iff_getElem?.1 hu
  have hl := main.length
  have hlt : i < s.cells.length := by rw [hl]; exact (List.getElem?_eq_some_iff.1 hi).1
  obtain ⟨v', hv', hr⟩ := main.get (List.getElem?_eq_getElem hlt)
  rw [hi] at hv'
  cases hv'
  refine oneCell_of_isCell ?_ hr
  cases s <;> first
    | (simp [cellsOk, isCell] at h; done)
    | (simp only [SV.cells, List.length_singleton] at hlt; obtain rfl : i = 0 := by omega
       exact h)
    | (simp only [cellsOk, allCells, List.all_eq_true] at h; exact h _ (List.getElem_mem _))

/-! ### Blocks -/

def ER (env : Env) : List (SV × SV) → List MapEntry → Prop
  | [], [] => True
  | (k, v) :: es, m :: ms => VR env k m.key ∧ VR env v m.val ∧ ER env es ms
  | _, _ => False

theorem ER.mono {e e' : Env} (h : Env.le e e') : ∀ {es : List (SV × SV)} {ms : List MapEntry}, ER e es ms → ER e' es ms
  | [], [], _ => trivial
  | (k, v) :: es, m :: ms, ⟨h1, h2, h3⟩ => ⟨VR.mono h _ _ h1, VR.mono h _ _ h2, ER.mono h h3⟩
  | [], _ :: _, hx => hx.elim
  | _ :: _, [], hx => hx.elim

/-- What the cells of an array read as. -/
def CellsR (env : Env) (W : World) (blk base n k : Nat) (g : Nat → List SV) : Prop :=
  ∀ i, i < n → (g i).length = k ∧ ∀ j sv, (g i)[j]? = some sv → isCell sv = true ∧ ∃ v, W.cell? ⟨blk, base + (i * k + j), none⟩ = some v ∧ VR env sv v

def OR (env : Env) (W : World) (B : Nat) (e : Ent) : SO → Prop
  | .arr own n k t g => e.w = k ∧ (e.nil = true → n = 0) ∧ (e.nil = false → e.blk < W.heap.size ∧ CellsR env W e.blk e.base n k g ∧
      (own = true → B ≤ e.blk ∧ e.base = 0 ∧ n ≤ e.cap ∧ ∃ vs : Array Value, W.heap[e.blk]? = some (.cells vs t (0, 0)) ∧ vs.size = e.cap * k))
  | .mp es => e.nil = false ∧ B ≤ e.blk ∧ ∃ ms c, W.heap[e.blk]? = some (.map ms c) ∧ ER env es ms.toList
  | .tbl own es => e.nil = false ∧ (own = true → B ≤ e.blk) ∧ ∃ ms c es2, W.heap[e.blk]? = some (.map ms c) ∧ List.Perm es2 es ∧ ER env es2 ms.toList
  | .loop st pd tm ps asg body => e.nil = false ∧ B ≤ e.blk ∧ ∃ L : Loop, e.lp = some L ∧ W.heap[e.blk]? = some (.loop { L with state := st, pending := pd }) ∧ VRs env tm L.tmps.toList ∧ L.params.toList = ps ∧ L.assign = asg ∧ L.body = body
  | .defs => e.nil = false ∧ B ≤ e.blk ∧ W.heap[e.blk]? = some (.deferred (some []))

def SO.mut : SO → Bool
  | .arr own _ _ _ _ => own
  | .tbl own _ => own
  | _ => true

def hget (h : Heap) (l : Nat) : Option SO := match h[l]? with | some o => o | none => none

structure Rel (B : Nat) (W0 : World) (env : Env) (h : Heap) (W : World) : Prop where
  base : B ≤ W0.heap.size
  below : Below B W0 W
  obj : ∀ l o, hget h l = some o → ∃ e, env l = some e ∧ OR env W B e o
  sep : ∀ l l' o o' e e', l ≠ l' → hget h l = some o → o.mut = true → hget h l' = some o' → env l = some e → env l' = some e' → e.nil = false → e'.nil = false → e.blk ≠ e'.blk
  fresh : ∀ l, h.length ≤ l → env l = none

theorem CellsR.mono {env env' : Env} {W W' : World} {blk base n k : Nat} {g : Nat → List SV} (he : Env.le env env') (hW : W'.heap[blk]? = W.heap[blk]?) (h : CellsR env W blk base n k g) : CellsR env' W' blk base n k g := by
  intro i hi
  obtain ⟨h1, h2⟩ := h i hi
  refine ⟨h1, fun j sv hj => ?_⟩
  obtain ⟨hc, v, hv, hr⟩ := h2 j sv hj
  exact ⟨hc, v, (World.cell?_of_block (by simpa using hW)).trans hv, VR.mono he _ _ hr⟩

/-- An object is kept if its block is. -/
theorem OR.kept {env env' : Env} {W W' : World} {B : Nat} {e : Ent} {o : SO} (he : Env.le env env') (hs : W.heap.size ≤ W'.heap.size) (hW : e.nil = false → W'.heap[e.blk]? = W.heap[e.blk]?) (h : OR env W B e o) : OR env' W' B e o := by
  cases o with
  | arr own n k t g =>
    obtain ⟨h1, h2, h3⟩ := h
    refine ⟨h1, h2, fun hn => ?_⟩
    obtain ⟨hb, hc, ho⟩ := h3 hn
    refine ⟨Nat.lt_of_lt_of_le hb hs, hc.mono he (hW hn), fun hown => ?_⟩
    obtain ⟨a, b, c, vs, hv, hz⟩ := ho hown
    exact ⟨a, b, c, vs, by rw [hW hn]; exact hv, hz⟩
  | mp es =>
    obtain ⟨hn, hb, ms, c, hm, hr⟩ := h
    exact ⟨hn, hb, ms, c, by rw [hW hn]; exact hm, hr.mono he⟩
  | tbl own es =>
    obtain ⟨hn, hb, ms, c, es2, hm, hp, hr⟩ := h
    exact ⟨hn, hb, ms, c, es2, by rw [hW hn]; exact hm, hp, hr.mono he⟩
  | loop st pd tm ps asg body =>
    obtain ⟨hn, hb, L, hl, hL, c, d⟩ := h
    exact ⟨hn, hb, L, hl, by rw [hW hn]; exact hL, VRs.mono he _ _ c, d⟩
  | defs =>
    obtain ⟨hn, hb, hd⟩ := h
    exact ⟨hn, hb, by rw [hW hn]; exact hd⟩

theorem OR.lt {env : Env} {W : World} {B : Nat} {e : Ent} {o : SO} (h : OR env W B e o) (hn : e.nil = false) : e.blk < W.heap.size := by
  cases o with
  | arr own n k t g => exact (h.2.2 hn).1
  | mp es => obtain ⟨_, _, ms, c, hm, _⟩ := h; exact (Array.getElem?_eq_some_iff.1 hm).1
  | tbl own es => obtain ⟨_, _, ms, c, _, hm, _⟩ := h; exact (Array.getElem?_eq_some_iff.1 hm).1
  | loop st pd tm ps asg body => obtain ⟨_, _, L, _, hL, _⟩ := h; exact (Array.getElem?_eq_some_iff.1 hL).1
  | defs => exact (Array.getElem?_eq_some_iff.1 h.2.2).1

theorem OR.base {env : Env} {W : World} {B : Nat} {e : Ent} {o : SO} (h : OR env W B e o) (hm : o.mut = true) (hn : e.nil = false) : B ≤ e.blk := by
  cases o with
  | arr own n k t g => exact ((h.2.2 hn).2.2 hm).1
  | mp es => exact h.2.1
  | tbl own es => exact h.2.1 hm
  | loop st pd tm ps asg body => exact h.2.1
  | defs => exact h.2.1

section heap
variable {h : Heap} {l l' : Nat} {o : SO}
theorem hget_lt (h1 : hget h l = some o) : l < h.length := by
  unfold hget at h1
  cases hl : h[l]? with
  | none => simp [hl] at h1
  | some x => exact (List.getElem?_eq_some_iff.1 hl).1
theorem hget_append_old (x : Option SO) (hl : l < h.length) : hget (h ++ [x]) l = hget h l := by simp [hget, List.getElem?_append_left hl]
theorem hget_append_new (x : Option SO) : hget (h ++ [x]) h.length = x := by cases x <;> simp [hget]
theorem hget_append (x : Option SO) : hget (h ++ [x]) l = if l = h.length then x else hget h l := by
  by_cases hl : l < h.length
  · rw [hget_append_old x hl, if_neg (by omega)]
  · by_cases he : l = h.length
    · subst he; rw [hget_append_new]; simp
    · rw [if_neg he]
      have h1 : (h ++ [x])[l]? = none := List.getElem?_eq_none (by simp; omega)
      have h2 : h[l]? = none := List.getElem?_eq_none (by omega)
      simp [hget, h1, h2]
theorem hget_set (x : Option SO) (hl : l < h.length) : hget (h.set l x) l' = if l' = l then x else hget h l' := by
  unfold hget
  rw [List.getElem?_set]
  by_cases he : l = l'
  · subst he; simp [hl]
  · rw [if_neg he, if_neg (fun e => he e.symm)]
end heap

def Env.upd (env : Env) (l : Nat) (e : Ent) : Env := fun x => if x = l then some e else env x
theorem Env.le_upd {env : Env} {l : Nat} {e : Ent} (h : env l = none) : Env.le env (env.upd l e) := by
  intro x y hx
  unfold Env.upd
  split
  · rename_i hl; subst hl; rw [h] at hx; cases hx
  · exact hx
@[simp] theorem Env.upd_same {env : Env} {l : Nat} {e : Ent} : env.upd l e l = some e := by simp [Env.upd]
theorem Env.upd_ne {env : Env} {l x : Nat} {e : Ent} (h : x ≠ l) : env.upd l e x = env x := by simp [Env.upd, h]

namespace Rel
variable {B : Nat} {W0 W W' : World} {env : Env} {h : Heap}

theorem hB (R : Rel B W0 env h W) : B ≤ W.heap.size := Nat.le_trans R.base R.below.size

/-- The heap as it was (a draw). -/
theorem same (R : Rel B W0 env h W) (hW : W'.heap = W.heap) (ho : W'.os = W.os) (ht : W'.tape = W.tape) (hp : W'.output = W.output) : Rel B W0 env h W' :=
  { base := R.base
    below := R.below.trans ⟨ho, ht, hp, by rw [hW]; exact Nat.le_refl _, fun k _ => by rw [hW]⟩
    obj := fun l o hl => by
      obtain ⟨e, he, hor⟩ := R.obj l o hl
      exact ⟨e, he, hor.kept (Env.le_refl _) (by rw [hW]; exact Nat.le_refl _) fun _ => by rw [hW]⟩
    sep := R.sep
    fresh := R.fresh }

theorem drew (R : Rel B W0 env h W) : Rel B W0 env h W.drew := R.same rfl rfl rfl rfl

/-- One new block, one new label. -/
theorem alloc (R : Rel B W0 env h W) (ob : Obj) (e : Ent) (o : SO) (hb : e.nil = false → e.blk = W.heap.size)
    (ho : OR (env.upd h.length e) (W.alloc ob) B e o) : Rel B W0 (env.upd h.length e) (h ++ [some o]) (W.alloc ob) := by
  have hf : env h.length = none := R.fresh _ (Nat.le_refl _)
  have hle : Env.le env (env.upd h.length e) := Env.le_upd hf
  have old : ∀ l o', hget h l = some o' → ∃ e', env l = some e' ∧ OR env W B e' o' := R.obj
  have blk : ∀ k, k < W.heap.size → (W.alloc ob).heap[k]? = W.heap[k]? := fun k hk => Below.heap_alloc W ob k hk
  refine ⟨R.base, R.below.alloc R.hB ob, fun l o' hl => ?_, fun l l' o1 o2 e1 e2 hne h1 hm h2 he1 he2 hn1 hn2 => ?_, fun l hl => ?_⟩
  · rw [hget_append] at hl
    by_cases hln : l = h.length
    · rw [if_pos hln] at hl
      cases hl
      subst hln
      exact ⟨e, by simp, ho⟩
    · rw [if_neg hln] at hl
      obtain ⟨e', he', hor⟩ := old l o' hl
      exact ⟨e', hle _ _ he', hor.kept hle (by simp) fun hn => blk _ (hor.lt hn)⟩
  · rw [hget_append] at h1 h2
    by_cases hl1 : l = h.length
    · by_cases hl2 : l' = h.length
      · exact absurd (hl1.trans hl2.symm) hne
      · rw [if_neg hl2] at h2
        subst hl1
        rw [Env.upd_same] at he1
        cases he1
        obtain ⟨e', he', hor⟩ := old l' o2 h2
        rw [Env.upd_ne hl2, he'] at he2
        cases he2
        have := hor.lt hn2
        rw [hb hn1]
        omega
    · rw [if_neg hl1] at h1
      obtain ⟨e', he', hor⟩ := old l o1 h1
      rw [Env.upd_ne hl1, he'] at he1
      cases he1
      by_cases hl2 : l' = h.length
      · subst hl2
        rw [Env.upd_same] at he2
        cases he2
        have := hor.lt hn1
        rw [hb hn2]
        omega
      · rw [if_neg hl2] at h2
        rw [Env.upd_ne hl2] at he2
        exact R.sep l l' o1 o2 _ e2 hne h1 hm h2 he' he2 hn1 hn2
  · simp only [List.length_append, List.length_singleton] at hl
    rw [Env.upd_ne (by omega)]
    exact R.fresh l (by omega)

/-- The block of a label that may be written is written; nothing else. -/
theorem write (R : Rel B W0 env h W) {l : Nat} {o o' : SO} {e : Ent} (hl : hget h l = some o) (hm : o.mut = true) (hm' : o'.mut = true) (he : env l = some e) (hn : e.nil = false)
    (hos : W'.os = W.os) (ht : W'.tape = W.tape) (hp : W'.output = W.output) (hsz : W'.heap.size = W.heap.size) (hblk : ∀ k, k ≠ e.blk → W'.heap[k]? = W.heap[k]?)
    (ho : OR env W' B e o') : Rel B W0 env (h.set l (some o')) W' := by
  have hlt := hget_lt hl
  obtain ⟨e0, he0, hor0⟩ := R.obj l o hl
  rw [he] at he0
  cases he0
  have hbb : B ≤ e.blk := hor0.base hm hn
  refine ⟨R.base, R.below.trans ⟨hos, ht, hp, by omega, fun k hk => hblk k (by omega)⟩, fun l1 o1 h1 => ?_, fun l1 l2 o1 o2 e1 e2 hne h1 hm1 h2 he1 he2 hn1 hn2 => ?_, fun l1 hl1 => R.fresh l1 (by simpa using hl1)⟩
  · rw [hget_set _ hlt] at h1
    by_cases hll : l1 = l
    · rw [if_pos hll] at h1
      cases h1
      subst hll
      exact ⟨e, he, ho⟩
    · rw [if_neg hll] at h1
      obtain ⟨e1, he1, hor⟩ := R.obj l1 o1 h1
      refine ⟨e1, he1, hor.kept (Env.le_refl _) (by omega) fun hn1 => hblk _ ?_⟩
      exact (R.sep l l1 o o1 e e1 (fun x => hll x.symm) hl hm h1 he he1 hn hn1).symm
  · have get : ∀ {x : Nat} {y : SO}, hget (h.set l (some o')) x = some y → ∃ y', hget h x = some y' ∧ (y.mut = true → y'.mut = true) := by
      intro x y hx
      rw [hget_set _ hlt] at hx
      split at hx
      · rename_i hxl; cases hx; subst hxl; exact ⟨o, hl, fun _ => hm⟩
      · exact ⟨y, hx, id⟩
    obtain ⟨y1, hy1, hm1'⟩ := get h1
    obtain ⟨y2, hy2, _⟩ := get h2
    exact R.sep l1 l2 y1 y2 e1 e2 hne hy1 (hm1' hm1) hy2 he1 he2 hn1 hn2

/-- A label is forgotten. -/
theorem kill (R : Rel B W0 env h W) (l : Nat) : Rel B W0 env (h.set l none) W := by
  have get : ∀ {x : Nat} {y : SO}, hget (h.set l none) x = some y → hget h x = some y := by
    intro x y hx
    by_cases hl : l < h.length
    · rw [hget_set _ hl] at hx
      split at hx
      · cases hx
      · exact hx
    · rwa [List.set_eq_of_length_le (by omega)] at hx
  exact ⟨R.base, R.below, fun l1 o1 h1 => R.obj l1 o1 (get h1), fun l1 l2 o1 o2 e1 e2 hne h1 hm1 h2 => R.sep l1 l2 o1 o2 e1 e2 hne (get h1) hm1 (get h2), fun l1 hl1 => R.fresh l1 (by simpa using hl1)⟩
end Rel
end Go.Sh

/-
  SHAD: the operations on memory: what each does to symbolic values and objects, and that the machine does the same.
-/
namespace Go.Sh
open Go.RowKit
set_option linter.unusedVariables false
set_option linter.unusedSimpArgs false

def ifB (b : Bool) (A B : Prop) : Prop := match b with | true => A | false => B
theorem ifB_true {b : Bool} {A : Prop} (h : ifB b A False) : b = true ∧ A := by cases b; exact h.elim; exact ⟨rfl, h⟩

def szOf (P : Program) (t : TypeId) : Option Nat := (P.info? t).map (·.size)
theorem run_sizeOf {P : Program} {t s : Nat} {W : World} (h : szOf P t = some s) : (sizeOf t).run P W = .ok s W := by
  unfold szOf at h
  cases hi : P.info? t with
  | none => simp [hi] at h
  | some i => simp [hi] at h; subst h; simp [sizeOf, typeInfo, hi]

/-- The end of an operation that yields a value. -/
def VOk (B : Nat) (W0 : World) (env : Env) (k : SV → Heap → Prop) : Result Value → Prop
  | .ok v' W' => ∃ env' v h', Env.le env env' ∧ Rel B W0 env' h' W' ∧ VR env' v v' ∧ k v h'
  | .halt _ _ => False
/-- The end of an operation that yields nothing. -/
def UOk (B : Nat) (W0 : World) (env : Env) (k : Heap → Prop) : Result Unit → Prop
  | .ok _ W' => ∃ env' h', Env.le env env' ∧ Rel B W0 env' h' W' ∧ k h'
  | .halt _ _ => False

section
variable {P : Program} {B : Nat} {W0 W : World} {env : Env} {h : Heap}

theorem list_of_cells : ∀ (L : List SV) (f : Nat → Value → Prop), (∀ j sv, L[j]? = some sv → ∃ v, f j v ∧ VR env sv v) → ∃ vs : List Value, VRs env L vs ∧ ∀ (j : Nat) (v : Value), vs[j]? = some v → f j v
  | [], _, _ => ⟨[], trivial, fun _ _ h => by simp at h⟩
  | s :: L, f, H => by
    obtain ⟨v, hv, hr⟩ := H 0 s rfl
    obtain ⟨vs, h1, h2⟩ := list_of_cells L (fun j => f (j + 1)) fun j sv hj => H (j + 1) sv (by simpa using hj)
    exact ⟨v :: vs, ⟨hr, h1⟩, fun j u hu => by cases j with | zero => simp at hu; subst hu; exact hv | succ j => exact h2 j u (by simpa using hu)⟩

theorem add_at (b o n : Nat) : (⟨b, o, none⟩ : Addr).add n = ⟨b, o + n, none⟩ := by unfold Addr.add; split <;> simp_all

/-! ### load -/

def doLoad (P : Program) (t : TypeId) (h : Heap) (p : SV) (k : SV → Heap → Prop) : Prop :=
  match p with
  | .ptr l i j => match hget h l, P.underlying t, szOf P t with
    | some (.arr _ n w _ g), some d, some s =>
      match d with
      | .struct _ => ifB (decide (i < n) && decide (j + s ≤ w)) (k (.agg (((g i).drop j).take s)) h) False
      | .array m _ => match decide (j = 0) && decide (s = m * w) with
        | true => ifB (decide (i + m ≤ n)) (k (.agg ((List.range m).flatMap fun x => g (i + x))) h) False
        | false => ifB (decide (i < n) && decide (j + s ≤ w)) (k (.agg (((g i).drop j).take s)) h) False
      | _ => ifB (decide (i < n)) (match (g i)[j]? with | some v => k v h | none => False) False
    | _, _, _ => False
  | _ => False

theorem CellsR.part {blk base n w : Nat} {g : Nat → List SV} (H : CellsR env W blk base n w g) {i j s : Nat} (hi : i < n) (hj : j + s ≤ w) :
    ∃ vs : List Value, vs.length = s ∧ VRs env (((g i).drop j).take s) vs ∧ ∀ (x : Nat) (v : Value), vs[x]? = some v → W.cell? ((⟨blk, base + (i * w + j), none⟩ : Addr).add x) = some v := by
  obtain ⟨hl, hc⟩ := H i hi
  obtain ⟨vs, h1, h2⟩ := list_of_cells (env := env) (((g i).drop j).take s) (fun x v => W.cell? ((⟨blk, base + (i * w + j), none⟩ : Addr).add x) = some v) (by
    intro x sv hx
    rw [List.getElem?_take] at hx
    split at hx
    · rw [List.getElem?_drop] at hx
      obtain ⟨_, v, hv, hr⟩ := hc (j + x) sv hx
      refine ⟨v, ?_, hr⟩
      rw [add_at, ← hv]
      congr 2
      omega
    · cases hx)
  refine ⟨vs, ?_, h1, h2⟩
  rw [← h1.length, List.length_take, List.length_drop, hl]
  omega

theorem CellsR.span {blk base n w : Nat} {g : Nat → List SV} (H : CellsR env W blk base n w g) {i : Nat} : ∀ (m : Nat), i + m ≤ n →
    ∃ vs : List Value, vs.length = m * w ∧ VRs env ((List.range m).flatMap fun x => g (i + x)) vs ∧ ∀ (x : Nat) (v : Value), vs[x]? = some v → W.cell? ((⟨blk, base + (i * w + 0), none⟩ : Addr).add x) = some v
  | 0, _ => ⟨[], by simp, by simp [VRs], fun _ _ h => by simp at h⟩
  | m + 1, hm => by
    obtain ⟨vs, h1, h2, h3⟩ := CellsR.span (i := i) H m (by omega)
    obtain ⟨us, g1, g2, g3⟩ := H.part (i := i + m) (j := 0) (s := w) (by omega) (by omega)
    have hl := (H (i + m) (by omega)).1
    rw [List.drop_zero, List.take_of_length_le (by omega)] at g2
    refine ⟨vs ++ us, by rw [List.length_append, h1, g1, Nat.add_mul]; omega, ?_, fun x v hx => ?_⟩
    · rw [List.range_succ, List.flatMap_append]
      refine h2.append ?_
      simpa using g2
    · by_cases hlt : x < vs.length
      · rw [List.getElem?_append_left hlt] at hx
        exact h3 x v hx
      · rw [List.getElem?_append_right (by omega)] at hx
        have := g3 _ v hx
        rw [add_at] at this ⊢
        rw [← this]
        congr 2
        rw [h1]
        rw [h1] at hlt
        have e : (i + m) * w = i * w + m * w := Nat.add_mul ..
        omega

theorem run_loadAgg {t s : Nat} {a : Addr} {vs : List Value} (hs : szOf P t = some s) (hag : (isAgg t).run P W = .ok true W) (hl : vs.length = s) (hc : ∀ (x : Nat) (v : Value), vs[x]? = some v → W.cell? (a.add x) = some v) :
    (loadVar t a).run P W = .ok (.agg vs.toArray) W := by
  have h2 := run_loadCells_list (P := P) W a vs hc
  subst hl
  simp [loadVar, hag, run_sizeOf hs, h2]

theorem run_isAgg {t : Nat} {d : TypeDesc} (hd : P.underlying t = some d) : (isAgg t).run P W = .ok (match d with | .struct _ | .array _ _ => true | _ => false) W := by
  simp only [isAgg, Sem.run_bind, run_underlying hd, Result.andThen_ok]
  cases d <;> simp

theorem load_run {t : TypeId} {p : SV} {pv : Value} {k : SV → Heap → Prop} (R : Rel B W0 env h W) (hp : VR env p pv) (H : doLoad P t h p k) : ∃ ad v x, pv = .pointer (some ad) ∧ (loadVar t ad).run P W = .ok v W ∧ VR env x v ∧ k x h := by
  unfold doLoad at H
  split at H <;> try exact H.elim
  rename_i l i j
  split at H <;> try exact H.elim
  rename_i own n w tt g d s hg hd hs
  obtain ⟨e, he, hn, rfl⟩ := hp
  obtain ⟨e', he', hor⟩ := R.obj l _ hg
  rw [he] at he'
  cases he'
  obtain ⟨hw, _, hrest⟩ := hor
  obtain ⟨hlt, hcells, _⟩ := hrest hn
  subst hw
  have hagg := run_isAgg (W := W) hd
  have fin : ∀ {x : SV} {v : Value}, (loadVar t ⟨e.blk, e.base + (i * e.w + j), none⟩).run P W = .ok v W → VR env x v → k x h → ∃ ad v x, Value.pointer (some ⟨e.blk, e.base + (i * e.w + j), none⟩) = .pointer (some ad) ∧ (loadVar t ad).run P W = .ok v W ∧ VR env x v ∧ k x h := by
    intro x v hrun hr hk
    exact ⟨_, v, x, rfl, hrun, hr, hk⟩
  have aggOne : ∀ (hag : (isAgg t).run P W = .ok true W), ifB (decide (i < n) && decide (j + s ≤ e.w)) (k (.agg (((g i).drop j).take s)) h) False → ∃ ad v x, Value.pointer (some ⟨e.blk, e.base + (i * e.w + j), none⟩) = .pointer (some ad) ∧ (loadVar t ad).run P W = .ok v W ∧ VR env x v ∧ k x h := by
    intro hag H
    obtain ⟨hb, hk⟩ := ifB_true H
    simp only [Bool.and_eq_true, decide_eq_true_eq] at hb
    obtain ⟨vs, h1, h2, h3⟩ := hcells.part hb.1 hb.2
    exact fin (x := .agg _) (run_loadAgg hs hag h1 h3) (by simp only [VR]; exact ⟨vs.toArray, rfl, by simpa using h2⟩) hk
  have cellOne : ∀ (hag : (isAgg t).run P W = .ok false W), ifB (decide (i < n)) (match (g i)[j]? with | some v => k v h | none => False) False → ∃ ad v x, Value.pointer (some ⟨e.blk, e.base + (i * e.w + j), none⟩) = .pointer (some ad) ∧ (loadVar t ad).run P W = .ok v W ∧ VR env x v ∧ k x h := by
    intro hag H
    obtain ⟨hb, hk⟩ := ifB_true H
    simp only [decide_eq_true_eq] at hb
    split at hk <;> try exact hk.elim
    rename_i sv hsv
    obtain ⟨_, v, hv, hr⟩ := (hcells i hb).2 j sv hsv
    exact fin (by simp [loadVar, hag, hv]) hr hk
  cases d with
  | struct fs => exact aggOne hagg H
  | array m el =>
    simp only at H
    split at H
    · rename_i hb
      simp only [Bool.and_eq_true, decide_eq_true_eq] at hb
      obtain ⟨rfl, hsz⟩ := hb
      obtain ⟨hb2, hk⟩ := ifB_true H
      simp only [decide_eq_true_eq] at hb2
      obtain ⟨vs, h1, h2, h3⟩ := hcells.span m hb2
      exact fin (x := .agg _) (run_loadAgg hs hagg (by rw [h1, hsz]) h3) (by simp only [VR]; exact ⟨vs.toArray, rfl, by simpa using h2⟩) hk
    · exact aggOne hagg H
  | _ => exact cellOne hagg H

theorem load_ok {t : TypeId} {p : SV} {pv : Value} {k : SV → Heap → Prop} (R : Rel B W0 env h W) (hp : VR env p pv) (H : doLoad P t h p k) : VOk B W0 env k ((Instr.loadAt t pv).run P W) := by
  obtain ⟨ad, v, x, rfl, hrun, hr, hk⟩ := load_run R hp H
  simp only [Instr.loadAt, Instr.sureAddr, Sem.run_bind, Sem.run_pure, Result.andThen_ok, hrun]
  exact ⟨env, x, h, Env.le_refl _, R, hr, hk⟩

/-! ### store -/

def splice (cs : List SV) (off : Nat) (new : List SV) : List SV := cs.take off ++ (new ++ cs.drop (off + new.length))

def hset (h : Heap) (l : Nat) (o : SO) : Heap := h.set l (some o)

def setOne (n : Nat) (g : Nat → List SV) (i : Nat) (new : List SV → List SV) : Nat → List SV :=
  match n with
  | 1 => fun _ => new (g 0)
  | _ => fun x => if x = i then new (g x) else g x

def doStore (P : Program) (t : TypeId) (h : Heap) (p v : SV) (k : Heap → Prop) : Prop :=
  match p with
  | .ptr l i j => match hget h l, P.underlying t, szOf P t with
    | some (.arr true n w tt g), some d, some s =>
      match cellsOk v && decide (v.cells.length = s) with
      | true => match (match d with | .array m _ => decide (j = 0) && decide (s = m * w) && decide (0 < w) | _ => false) with
        | true => ifB (decide (i + s / w ≤ n)) (k (hset h l (.arr true n w tt fun x => if i ≤ x ∧ x < i + s / w then (v.cells.drop ((x - i) * w)).take w else g x))) False
        | false => ifB (decide (i < n) && decide (j + s ≤ w)) (k (hset h l (.arr true n w tt (setOne n g i fun c => splice c j v.cells)))) False
      | false => False
    | _, _, _ => False
  | _ => False

theorem getElem?_mid {α : Type} (l vs : List α) (o x : Nat) (ho : o + vs.length ≤ l.length) :
    (l.take o ++ vs ++ l.drop (o + vs.length))[x]? = if x < o then l[x]? else if x < o + vs.length then vs[x - o]? else l[x]? := by
  have h1 : (l.take o).length = o := by rw [List.length_take]; omega
  by_cases hx : x < o
  · rw [if_pos hx, List.append_assoc, List.getElem?_append_left (by omega), List.getElem?_take, if_pos hx]
  · rw [if_neg hx, List.append_assoc, List.getElem?_append_right (by omega), h1]
    by_cases hx2 : x < o + vs.length
    · rw [if_pos hx2, List.getElem?_append_left (by omega)]
    · rw [if_neg hx2, List.getElem?_append_right (by omega), List.getElem?_drop]
      congr 1
      omega

/-- A row of the call's own is written from a place on: what the cells then are. -/
theorem write_cells {blk n w cap : Nat} {g g' : Nat → List SV} {vs : Array Value} {t : TypeId} (hv : W.heap[blk]? = some (.cells vs t (0, 0))) (hsz : vs.size = cap * w) (hn : n ≤ cap)
    (hc : CellsR env W blk 0 n w g) {us : List Value} {o : Nat} (ho : o + us.length ≤ n * w)
    (hin : ∀ i, i < n → (g' i).length = w ∧ ∀ (j : Nat) (sv : SV), (g' i)[j]? = some sv → isCell sv = true ∧
      ((i * w + j < o ∨ o + us.length ≤ i * w + j) ∧ (g i)[j]? = some sv ∨ ∃ v, o ≤ i * w + j ∧ us[i * w + j - o]? = some v ∧ VR env sv v)) :
    CellsR env (W.setRow blk (vs.toList.take o ++ us ++ vs.toList.drop (o + us.length)).toArray) blk 0 n w g' := by
  have hfit : o + us.length ≤ vs.toList.length := by
    have := Nat.mul_le_mul_right w hn
    simp; omega
  intro i hi
  obtain ⟨hl, hcell⟩ := hin i hi
  refine ⟨hl, fun j sv hj => ?_⟩
  obtain ⟨h1, h2⟩ := hcell j sv hj
  refine ⟨h1, ?_⟩
  rw [cell_setRow_same W blk _ vs _ t (0, 0) hv, Nat.zero_add]
  simp only [List.getElem?_toArray]
  rw [getElem?_mid _ _ _ _ hfit]
  rcases h2 with ⟨hout, hg⟩ | ⟨v, hlo, hus, hr⟩
  · obtain ⟨_, v, hv', hr⟩ := (hc i hi).2 j sv hg
    rw [cell_of_row W blk _ vs t (0, 0) hv, Nat.zero_add] at hv'
    refine ⟨v, ?_, hr⟩
    rcases hout with hlt | hge
    · rw [if_pos hlt]; simpa using hv'
    · rw [if_neg (by omega), if_neg (by omega)]; simpa using hv'
  · have hlt := (List.getElem?_eq_some_iff.1 hus).1
    exact ⟨v, by rw [if_neg (by omega), if_pos (by omega)]; exact hus, hr⟩

theorem row_apart {i i' j j' s w : Nat} (hne : i' ≠ i) (hj : j' < w) (hs : j + s ≤ w) : i' * w + j' < i * w + j ∨ i * w + j + s ≤ i' * w + j' := by
  rcases Nat.lt_or_gt_of_ne hne with hlt | hgt
  · have := Nat.mul_le_mul_right w (Nat.succ_le_of_lt hlt)
    rw [Nat.succ_mul] at this
    omega
  · have := Nat.mul_le_mul_right w (Nat.succ_le_of_lt hgt)
    rw [Nat.succ_mul] at this
    omega

theorem splice_get {cs new : List SV} {off x : Nat} (h : off + new.length ≤ cs.length) : (splice cs off new)[x]? = if x < off then cs[x]? else if x < off + new.length then new[x - off]? else cs[x]? := by
  unfold splice
  rw [← List.append_assoc]
  exact getElem?_mid cs new off x h
theorem splice_length {cs new : List SV} {off : Nat} (h : off + new.length ≤ cs.length) : (splice cs off new).length = cs.length := by
  simp [splice]; omega

theorem setOne_eq {n : Nat} {g : Nat → List SV} {i : Nat} {new : List SV → List SV} {x : Nat} (hi : i < n) (hx : x < n) : setOne n g i new x = if x = i then new (g x) else g x := by
  unfold setOne
  split
  · obtain rfl : i = 0 := by omega
    obtain rfl : x = 0 := by omega
    simp
  · rfl

theorem store_ok {t : TypeId} {p v : SV} {pv vv : Value} {k : Heap → Prop} (R : Rel B W0 env h W) (hp : VR env p pv) (hvv : VR env v vv) (H : doStore P t h p v k) : UOk B W0 env k ((Instr.storeAt t pv vv).run P W) := by
  unfold doStore at H
  split at H <;> try exact H.elim
  rename_i l i j
  split at H <;> try exact H.elim
  rename_i n w tt g d s hg hd hs
  split at H <;> try exact H.elim
  rename_i hok
  simp only [Bool.and_eq_true, decide_eq_true_eq] at hok
  obtain ⟨hok, hlen⟩ := hok
  obtain ⟨e, he, hn, rfl⟩ := hp
  obtain ⟨e', he', hor⟩ := R.obj l _ hg
  rw [he] at he'
  cases he'
  obtain ⟨hw, hnil, hrest⟩ := hor
  obtain ⟨hlt, hcells, hown⟩ := hrest hn
  obtain ⟨hB, hbase, hcap, vs, hvs, hvsz⟩ := hown rfl
  subst hw
  rw [hbase] at hcells
  obtain ⟨hus, hone⟩ := cells_of_VR hok hvv
  have hul : vv.cells.toList.length = s := by rw [← hus.length, hlen]
  have main : ∀ (g' : Nat → List SV), i * e.w + j + s ≤ n * e.w →
      CellsR env (W.setRow e.blk (vs.toList.take (i * e.w + j) ++ vv.cells.toList ++ vs.toList.drop (i * e.w + j + vv.cells.toList.length)).toArray) e.blk 0 n e.w g' →
      k (hset h l (.arr true n e.w tt g')) → UOk B W0 env k ((Instr.storeAt t (.pointer (some ⟨e.blk, e.base + (i * e.w + j), none⟩)) vv).run P W) := by
    intro g' hfit hc' hk
    have hfit' : (i * e.w + j) + 0 + vv.cells.toList.length ≤ vs.size := by
      have := Nat.mul_le_mul_right e.w hcap
      omega
    have hst := run_storeCells_at P e.blk (i * e.w + j) tt vv.cells.toList 0 vs W hvs hfit' hone
    simp only [Nat.add_zero] at hst
    have hsize : vv.cells.size = s := by simpa using hul
    simp only [Instr.storeAt, Instr.sureAddr, Sem.run_bind, Sem.run_pure, Result.andThen_ok, storeVar, run_sizeOf hs, hsize, hbase, Nat.zero_add, ne_eq, not_true_eq_false, if_false, hst]
    refine ⟨env, _, Env.le_refl _, R.write (o' := .arr true n e.w tt g') hg rfl rfl he hn (setRow_os _ _ _) (setRow_tape _ _ _) (setRow_output _ _ _) (setRow_size _ _ _) (fun k hk => setRow_other _ _ _ _ hk) ?_, hk⟩
    refine ⟨rfl, hnil, fun _ => ⟨by rw [setRow_size]; exact hlt, by rw [hbase]; exact hc', fun _ => ⟨hB, hbase, hcap, _, setRow_heap W e.blk vs _ tt (0, 0) hvs, ?_⟩⟩⟩
    rw [← hvsz]
    simp
    omega
  split at H
  · -- a whole array of elements
    rename_i hsp
    cases d <;> simp only [Bool.false_eq_true] at hsp
    rename_i m el
    simp only [Bool.and_eq_true, decide_eq_true_eq] at hsp
    obtain ⟨⟨rfl, hsz⟩, hw0⟩ := hsp
    obtain ⟨hb, hk⟩ := ifB_true H
    simp only [decide_eq_true_eq] at hb
    have hm : s / e.w = m := by rw [hsz]; exact Nat.mul_div_cancel _ hw0
    rw [hm] at hb hk
    have hnm := Nat.mul_le_mul_right e.w hb
    rw [Nat.add_mul] at hnm
    refine main _ (by omega) (write_cells hvs hvsz hcap hcells (by rw [hul]; omega) fun i' hi' => ?_) hk
    obtain ⟨hl', hc'⟩ := hcells i' hi'
    by_cases hin : i ≤ i' ∧ i' < i + m
    · rw [if_pos hin]
      have hsub : (i' - i) * e.w + e.w ≤ s := by
        have := Nat.mul_le_mul_right e.w (show i' - i + 1 ≤ m by omega)
        rw [Nat.add_mul] at this
        omega
      have hmul : i' * e.w = i * e.w + (i' - i) * e.w := by rw [← Nat.add_mul]; congr 1; omega
      refine ⟨by rw [List.length_take, List.length_drop]; omega, fun j' sv hj' => ?_⟩
      rw [List.getElem?_take] at hj'
      split at hj' <;> try cases hj'
      rename_i hj'w
      rw [List.getElem?_drop] at hj'
      obtain ⟨u, hu, hr⟩ := hus.get hj'
      refine ⟨?_, .inr ⟨u, by omega, ?_, hr⟩⟩
      · have hmem : sv ∈ v.cells := List.mem_of_getElem? hj'
        cases v <;> first
          | (simp only [cellsOk, allCells, List.all_eq_true] at hok; exact hok _ hmem)
          | (simp only [SV.cells, List.mem_singleton] at hmem; subst hmem; exact hok)
      · rw [← hu]; congr 1; omega
    · rw [if_neg hin]
      refine ⟨hl', fun j' sv hj' => ⟨(hc' j' sv hj').1, .inl ⟨?_, hj'⟩⟩⟩
      have hj'w : j' < e.w := by rw [← hl']; exact (List.getElem?_eq_some_iff.1 hj').1
      rw [hul, hsz]
      by_cases hlt' : i' < i
      · left
        have := Nat.mul_le_mul_right e.w (show i' + 1 ≤ i by omega)
        rw [Nat.add_mul] at this
        omega
      · right
        have := Nat.mul_le_mul_right e.w (show i + m ≤ i' by omega)
        rw [Nat.add_mul] at this
        omega
  · obtain ⟨hb, hk⟩ := ifB_true H
    simp only [Bool.and_eq_true, decide_eq_true_eq] at hb
    obtain ⟨hi, hjs⟩ := hb
    have hnm := Nat.mul_le_mul_right e.w (Nat.succ_le_of_lt hi)
    rw [Nat.succ_mul] at hnm
    refine main _ (by omega) (write_cells hvs hvsz hcap hcells (by rw [hul]; omega) fun i' hi' => ?_) hk
    obtain ⟨hl', hc'⟩ := hcells i' hi'
    rw [setOne_eq hi hi']
    by_cases hii : i' = i
    · subst hii
      rw [if_pos rfl]
      have hfit : j + v.cells.length ≤ (g i').length := by omega
      refine ⟨by rw [splice_length hfit]; exact hl', fun j' sv hj' => ?_⟩
      rw [splice_get hfit] at hj'
      split at hj'
      · exact ⟨(hc' j' sv hj').1, .inl ⟨.inl (by omega), hj'⟩⟩
      · split at hj'
        · obtain ⟨u, hu, hr⟩ := hus.get hj'
          refine ⟨?_, .inr ⟨u, by omega, ?_, hr⟩⟩
          · have hmem : sv ∈ v.cells := List.mem_of_getElem? hj'
            cases v <;> first
              | (simp only [cellsOk, allCells, List.all_eq_true] at hok; exact hok _ hmem)
              | (simp only [SV.cells, List.mem_singleton] at hmem; subst hmem; exact hok)
          · rw [← hu]; congr 1; omega
        · exact ⟨(hc' j' sv hj').1, .inl ⟨.inr (by omega), hj'⟩⟩
    · rw [if_neg hii]
      refine ⟨hl', fun j' sv hj' => ⟨(hc' j' sv hj').1, .inl ⟨?_, hj'⟩⟩⟩
      have hj'w : j' < e.w := by rw [← hl']; exact (List.getElem?_eq_some_iff.1 hj').1
      rw [hul]
      exact row_apart hii hj'w hjs
end
end Go.Sh

/-
  SHAD: the operations on values (arithmetic, comparisons, aggregates, slices, lengths).
-/
namespace Go.Sh
open Go.RowKit
set_option linter.unusedVariables false
set_option linter.unusedSimpArgs false

/-! ### arithmetic -/

def intBin (op : BinOp) (k : IntKind) (a b : Int) : Option SV :=
  match op with
  | .add => some (.int k (k.wrap (a + b)))
  | .sub => some (.int k (k.wrap (a - b)))
  | .mul => some (.int k (k.wrap (a * b)))
  | .and => some (.int k (k.wrap ((BitVec.ofInt k.bits a &&& BitVec.ofInt k.bits b).toNat : Int)))
  | .or => some (.int k (k.wrap ((BitVec.ofInt k.bits a ||| BitVec.ofInt k.bits b).toNat : Int)))
  | .xor => some (.int k (k.wrap ((BitVec.ofInt k.bits a ^^^ BitVec.ofInt k.bits b).toNat : Int)))
  | .andNot => some (.int k (k.wrap ((BitVec.ofInt k.bits a &&& ~~~BitVec.ofInt k.bits b).toNat : Int)))
  | .eql => some (.bool (a == b))
  | .neq => some (.bool (a != b))
  | .lss => some (.bool (decide (a < b)))
  | .leq => some (.bool (decide (a ≤ b)))
  | .gtr => some (.bool (decide (a > b)))
  | .geq => some (.bool (decide (a ≥ b)))
  | _ => none

/-- Equality of values at a type. -/
def partSV (P : Program) (t : TypeId) (cs : List SV) (off : Nat) : Option SV :=
  match P.underlying t with
  | some (.struct _) => (szOf P t).map fun s => .agg ((cs.drop off).take s)
  | some (.array _ _) => (szOf P t).map fun s => .agg ((cs.drop off).take s)
  | some _ => cs[off]?
  | none => none

mutual
def eqSV (P : Program) : Nat → TypeId → SV → SV → Option Bool
  | 0, _, _, _ => none
  | d + 1, t, x, y => match P.underlying t with
    | some .bool => match x, y with | .bool a, .bool b => some (a == b) | _, _ => none
    | some (.int _) => match x, y with | .int k a, .int k' b => (match decide (k = k') with | true => some (a == b) | false => none) | _, _ => none
    | some .string => match x, y with | .str a, .str b => some (a == b) | _, _ => none
    | some (.struct fs) => match x, y with | .agg xs, .agg ys => (match P.stoodInHeld t with | false => eqFs P d fs.toList xs ys | true => none) | _, _ => none
    | _ => none
def eqFs (P : Program) : Nat → List Field → List SV → List SV → Option Bool
  | _, [], _, _ => some true
  | 0, _ :: _, _, _ => none
  | d + 1, f :: fs, xs, ys =>
    match f.name != "_", partSV P f.type xs f.offset, partSV P f.type ys f.offset with
    | true, some a, some b => match eqSV P d f.type a b, eqFs P d fs xs ys with
      | some r, some s => some (r && s)
      | _, _ => none
    | _, _, _ => none
end

def shiftSV (op : BinOp) (k : IntKind) (a b : Int) : Option SV :=
  match op with
  | .shl => some (.int k (k.wrap (a * 2 ^ (min b.toNat k.bits))))
  | .shr => some (.int k (a.fdiv (2 ^ (min b.toNat k.bits))))
  | _ => none

def isShift : BinOp → Bool | .shl | .shr => true | _ => false
def isDiv : BinOp → Bool | .quo | .rem => true | _ => false

def divSV (op : BinOp) (k : IntKind) (a b : Int) : Option SV :=
  match op with
  | .quo => some (.int k (k.wrap (a.tdiv b)))
  | .rem => some (.int k (a.tmod b))
  | _ => none

def orF (o : Option SV) (k : SV → Prop) : Prop := match o with | some v => k v | none => False

def doBin (P : Program) (op : BinOp) (t : TypeId) (x y : SV) (k : SV → Prop) : Prop :=
  match x, y with
  | .int kd a, .int kd' b =>
    match isShift op with
    | true => ifB (decide (0 ≤ b)) (orF (shiftSV op kd a b) k) False
    | false => match decide (kd = kd') with
      | true => match isDiv op with
        | true => ifB (b != 0) (orF (divSV op kd a b) k) False
        | false => orF (intBin op kd a b) k
      | false => False
  | .bool a, .bool b => match op, P.underlying t with
    | .eql, some .bool => k (.bool (a == b))
    | .neq, some .bool => k (.bool (!(a == b)))
    | _, _ => False
  | .str a, .str b => match op with
    | .eql => k (.bool (a == b))
    | .neq => k (.bool (!(a == b)))
    | .add => ifB (decide (a.size + b.size ≤ 9223372036854775807)) (k (.str (a ++ b))) False
    | _ => False
  | .agg a, .agg b => match op, P.eqGuardType P.depth t with
    | .eql, false => orF ((eqSV P 10000 t (.agg a) (.agg b)).map .bool) k
    | .neq, false => orF ((eqSV P 10000 t (.agg a) (.agg b)).map fun r => .bool (!r)) k
    | _, _ => False
  | _, _ => False

def doUn (op : UnOp) (x : SV) (k : SV → Prop) : Prop :=
  match op, x with
  | .not, .bool b => k (.bool (!b))
  | .neg, .int kd n => k (.int kd (kd.wrap (0 - n)))
  | .xor, .int kd n => k (.int kd (kd.wrap ((BitVec.ofInt kd.bits (if kd.signed then -1 else kd.max) ^^^ BitVec.ofInt kd.bits n).toNat : Int)))
  | _, _ => False

section
variable {P : Program} {B : Nat} {W0 W : World} {env : Env} {h : Heap}

theorem VR_int {k : IntKind} {n : Int} : VR env (.int k n) (.int k n) := by simp only [VR]
theorem VR_bool {b : Bool} : VR env (.bool b) (.bool b) := by simp only [VR]
theorem VR_str {b : ByteArray} : VR env (.str b) (.string b) := by simp only [VR]

theorem part_ok {t : TypeId} {ss : List SV} {vs : Array Value} {off : Nat} {s : SV} (hv : VRs env ss vs.toList) (H : partSV P t ss off = some s) : ∃ v, (part t vs off).run P W = .ok v W ∧ VR env s v := by
  unfold partSV at H
  cases hd : P.underlying t with
  | none => simp [hd] at H
  | some d =>
    have hag := run_isAgg (W := W) hd
    have agg : ∀ (hag : (isAgg t).run P W = .ok true W) {z : Nat}, szOf P t = some z → s = .agg ((ss.drop off).take z) → ∃ v, (part t vs off).run P W = .ok v W ∧ VR env s v := by
      intro hag z hz hs
      subst hs
      refine ⟨.agg (vs.extract off (off + z)), by simp [part, hag, run_sizeOf hz], ?_⟩
      simp only [VR]
      refine ⟨_, rfl, ?_⟩
      have := (hv.drop off).take z
      simpa [List.extract_eq_take_drop] using this
    have one : ∀ (hag : (isAgg t).run P W = .ok false W), ss[off]? = some s → ∃ v, (part t vs off).run P W = .ok v W ∧ VR env s v := by
      intro hag hs
      obtain ⟨v, hv', hr⟩ := hv.get hs
      have : vs[off]? = some v := by simpa using hv'
      exact ⟨v, by simp [part, hag, this], hr⟩
    cases d with
    | struct fs =>
      simp only [hd, Option.map_eq_some_iff] at H
      obtain ⟨z, hz, rfl⟩ := H
      exact agg hag hz rfl
    | array m e =>
      simp only [hd, Option.map_eq_some_iff] at H
      obtain ⟨z, hz, rfl⟩ := H
      exact agg hag hz rfl
    | _ => exact one hag (by simpa [hd] using H)

theorem eq_ok : ∀ (n : Nat),
    (∀ t x y xv yv r, eqSV P n t x y = some r → VR env x xv → VR env y yv → ∀ d, n ≤ d → (Op.equalIn d t xv yv).run P W = .ok r W) ∧
    (∀ fs xs ys (xv yv : Array Value) r, eqFs P n fs xs ys = some r → VRs env xs xv.toList → VRs env ys yv.toList → ∀ d, n ≤ d → (Op.eqFields d xv yv fs).run P W = .ok r W) := by
  intro n
  induction n with
  | zero =>
    refine ⟨fun t x y xv yv r H => by simp [eqSV] at H, fun fs xs ys xv yv r H hx hy d _ => ?_⟩
    cases fs with
    | nil => simp [eqFs] at H; subst H; simp [Op.eqFields]
    | cons f fs => simp [eqFs] at H
  | succ n ih =>
    obtain ⟨ih1, ih2⟩ := ih
    constructor
    · intro t x y xv yv r H hx hy d hd
      obtain ⟨d, rfl⟩ : ∃ m, d = m + 1 := ⟨d - 1, by omega⟩
      unfold eqSV at H
      cases hu : P.underlying t with
      | none => simp [hu] at H
      | some de =>
        rw [hu] at H
        cases de <;> dsimp only at H <;> try (exact absurd H (by simp))
        case bool =>
          cases x <;> cases y <;> simp at H
          subst H; simp only [VR] at hx hy; subst hx; subst hy
          exact run_equalIn_bool' W d t _ _ hu
        case int kk =>
          cases x <;> cases y <;> simp at H
          rename_i k1 a k2 b
          split at H <;> simp at H
          rename_i hk
          simp at hk
          subst hk; subst H; simp only [VR] at hx hy; subst hx; subst hy
          exact run_equalIn_int W d t _ _ _ _ hu
        case string =>
          cases x <;> cases y <;> simp at H
          subst H; simp only [VR] at hx hy; subst hx; subst hy
          rw [beq_toListBytes]
          exact run_equalIn_string W d t _ _ hu
        case struct fs =>
          cases x <;> cases y <;> simp at H
          split at H <;> try (simp at H; done)
          rename_i hst
          simp only [VR] at hx hy
          obtain ⟨xa, rfl, hxa⟩ := hx
          obtain ⟨ya, rfl, hya⟩ := hy
          have hfs : P.fieldsOf t = fs := by simp [Program.fieldsOf, hu]
          rw [run_equalIn_agg W d t xa ya (by rw [hfs]; exact hu) hst, hfs]
          exact ih2 _ _ _ _ _ _ H hxa hya d (by omega)
    · intro fs xs ys xv yv r H hx hy d hd
      cases fs with
      | nil => simp [eqFs] at H; subst H; simp [Op.eqFields]
      | cons f fs =>
        unfold eqFs at H
        cases hn : (f.name != "_") with
        | false => simp [hn] at H
        | true =>
          cases ha : partSV P f.type xs f.offset with
          | none => simp [hn, ha] at H
          | some a =>
            cases hb : partSV P f.type ys f.offset with
            | none => simp [hn, ha, hb] at H
            | some b =>
              simp only [hn, ha, hb] at H
              cases hr : eqSV P n f.type a b with
              | none => simp [hr] at H
              | some r1 =>
                cases hs : eqFs P n fs xs ys with
                | none => simp [hr, hs] at H
                | some r2 =>
                  simp only [hr, hs, Option.some.injEq] at H
                  subst H
                  obtain ⟨av, hra, hva⟩ := part_ok (P := P) (W := W) hx ha
                  obtain ⟨bv, hrb, hvb⟩ := part_ok (P := P) (W := W) hy hb
                  have h1 := ih1 _ _ _ _ _ _ hr hva hvb d (by omega)
                  have h2 := ih2 _ _ _ _ _ _ hs hx hy d (by omega)
                  have hne : f.name ≠ "_" := by simpa using hn
                  simp only [Op.eqFields, hne, ne_eq, not_false_eq_true, if_true, Sem.run_bind, hra, hrb, h1, Result.andThen_ok]
                  cases r1
                  · simp
                  · simpa using h2

theorem orF_some {o : Option SV} {k : SV → Prop} (H : orF o k) : ∃ v, o = some v ∧ k v := by
  cases o with
  | none => exact H.elim
  | some v => exact ⟨v, rfl, H⟩

theorem bin_ok {op : BinOp} {t : TypeId} {x y : SV} {xo yo : Operand} {xv yv : Value} {k : SV → Heap → Prop} (R : Rel B W0 env h W) (hx : VR env x xv) (hy : VR env y yv)
    (H : doBin P op t x y fun v => k v h) : VOk B W0 env k ((do eqGuard op t xo yo xv yv; binOp op t xv yv).run P W) := by
  have finI : ∀ {kd : IntKind} {n : Int}, k (.int kd n) h → (do eqGuard op t xo yo xv yv; binOp op t xv yv : Sem Value).run P W = .ok (.int kd n) W → VOk B W0 env k ((do eqGuard op t xo yo xv yv; binOp op t xv yv : Sem Value).run P W) := by
    intro kd n hk hrun
    rw [hrun]
    exact ⟨env, _, h, Env.le_refl _, R, VR_int, hk⟩
  have finB : ∀ {r : Bool}, k (.bool r) h → (do eqGuard op t xo yo xv yv; binOp op t xv yv : Sem Value).run P W = .ok (.bool r) W → VOk B W0 env k ((do eqGuard op t xo yo xv yv; binOp op t xv yv : Sem Value).run P W) := by
    intro r hk hrun
    rw [hrun]
    exact ⟨env, _, h, Env.le_refl _, R, VR_bool, hk⟩
  have finS : ∀ {r : ByteArray}, k (.str r) h → (do eqGuard op t xo yo xv yv; binOp op t xv yv : Sem Value).run P W = .ok (.string r) W → VOk B W0 env k ((do eqGuard op t xo yo xv yv; binOp op t xv yv : Sem Value).run P W) := by
    intro r hk hrun
    rw [hrun]
    exact ⟨env, _, h, Env.le_refl _, R, VR_str, hk⟩
  unfold doBin at H
  split at H <;> try exact H.elim
  · rename_i kd a kd' b
    simp only [VR] at hx hy
    subst hx; subst hy
    have hg : (eqGuard op t xo yo (.int kd a) (.int kd' b)).run P W = .ok () W := by cases op <;> simp [eqGuard]
    split at H
    · rename_i hsh
      obtain ⟨hb, H⟩ := ifB_true H
      simp only [decide_eq_true_eq] at hb
      obtain ⟨v, hv, hk⟩ := orF_some H
      have hnb : ¬ b < 0 := by omega
      cases op <;> simp [isShift] at hsh <;> simp only [shiftSV, Option.some.injEq] at hv <;> subst hv
      · exact finI hk (by simp only [Sem.run_bind, hg, Result.andThen_ok, binOp, Op.shift, hnb, if_false, Sem.run_pure])
      · exact finI hk (by simp only [Sem.run_bind, hg, Result.andThen_ok, binOp, Op.shift, hnb, if_false, Sem.run_pure])
    · rename_i hsh
      split at H <;> try exact H.elim
      rename_i hkd
      simp only [decide_eq_true_eq] at hkd
      subst hkd
      split at H
      · rename_i hdv
        obtain ⟨hb, H⟩ := ifB_true H
        obtain ⟨v, hv, hk⟩ := orF_some H
        have hnb : ¬ b = 0 := by simpa using hb
        cases op <;> simp [isDiv] at hdv <;> simp only [divSV, Option.some.injEq] at hv <;> subst hv
        · exact finI hk (by simp only [Sem.run_bind, hg, Result.andThen_ok]; simp [binOp, Op.intDiv, hnb])
        · exact finI hk (by simp only [Sem.run_bind, hg, Result.andThen_ok]; simp [binOp, Op.intDiv, hnb])
      · rename_i hdv
        obtain ⟨v, hv, hk⟩ := orF_some H
        cases op <;> simp [isShift] at hsh <;> simp [isDiv] at hdv <;> simp only [intBin, Option.some.injEq] at hv <;> subst hv <;>
          first
          | (refine finI hk ?_; simp only [Sem.run_bind, hg, Result.andThen_ok]; simp only [binOp, ne_eq, not_true_eq_false, if_false, Op.intArith, Sem.run_pure]; done)
          | (refine finI hk ?_; simp only [Sem.run_bind, hg, Result.andThen_ok]; simp only [binOp, ne_eq, not_true_eq_false, if_false, Op.intBits, Sem.run_pure]; done)
          | (refine finB hk ?_; simp only [Sem.run_bind, hg, Result.andThen_ok]; simp only [binOp, ne_eq, not_true_eq_false, if_false, Op.intCmp, Sem.run_pure]; done)
  · rename_i a b
    simp only [VR] at hx hy
    subst hx; subst hy
    split at H <;> try exact H.elim
    · rename_i hu
      refine finB H ?_
      simp only [Sem.run_bind, eqGuard, Sem.run_pure]
      simp [binOp, Op.equal, Op.maxDepth, run_equalIn_bool' W 9999 t a b hu]
    · rename_i hu
      refine finB H ?_
      simp only [Sem.run_bind, eqGuard, Sem.run_pure]
      simp [binOp, Op.equal, Op.maxDepth, run_equalIn_bool' W 9999 t a b hu]
  · rename_i a b
    simp only [VR] at hx hy
    subst hx; subst hy
    split at H <;> try exact H.elim
    · refine finB H ?_
      simp [eqGuard, binOp, Op.stringOp, beq_toListBytes]
    · refine finB H ?_
      simp [eqGuard, binOp, Op.stringOp, beq_toListBytes]
    · obtain ⟨hb, H⟩ := ifB_true H
      simp only [decide_eq_true_eq] at hb
      refine finS H ?_
      have : ¬ (((a.size + b.size : Nat) : Int) > IntKind.i64.max) := by
        have : IntKind.i64.max = 9223372036854775807 := by decide
        rw [this]; omega
      simp only [eqGuard, binOp, Op.stringOp, this, if_false]
      simp
  · rename_i a b
    have eqg : ∀ (hm : P.eqGuardType P.depth t = false), (eqGuard op t xo yo xv yv).run P W = .ok () W := by
      intro hm
      simp only [VR] at hx hy
      obtain ⟨xa, rfl, _⟩ := hx
      obtain ⟨ya, rfl, _⟩ := hy
      exact run_eqGuard_agg W op t xo yo xa ya hm
    split at H <;> try exact H.elim
    · rename_i hm
      obtain ⟨v, hv, hk⟩ := orF_some H
      simp only [Option.map_eq_some_iff] at hv
      obtain ⟨r, hr, rfl⟩ := hv
      have he := (eq_ok (P := P) (W := W) 10000).1 _ _ _ _ _ _ hr hx hy 10000 (Nat.le_refl _)
      refine finB hk ?_
      simp only [Sem.run_bind, eqg hm, Result.andThen_ok]
      simp only [VR] at hx hy
      obtain ⟨xa, rfl, _⟩ := hx
      obtain ⟨ya, rfl, _⟩ := hy
      rw [run_eql_struct, he]
      rfl
    · rename_i hm
      obtain ⟨v, hv, hk⟩ := orF_some H
      simp only [Option.map_eq_some_iff] at hv
      obtain ⟨r, hr, rfl⟩ := hv
      have he := (eq_ok (P := P) (W := W) 10000).1 _ _ _ _ _ _ hr hx hy 10000 (Nat.le_refl _)
      refine finB hk ?_
      simp only [Sem.run_bind, eqg hm, Result.andThen_ok]
      simp only [VR] at hx hy
      obtain ⟨xa, rfl, _⟩ := hx
      obtain ⟨ya, rfl, _⟩ := hy
      rw [run_neq_struct, he]
      rfl

theorem un_ok {op : UnOp} {x : SV} {xv : Value} {k : SV → Heap → Prop} (R : Rel B W0 env h W) (hx : VR env x xv) (H : doUn op x fun v => k v h) : VOk B W0 env k ((Op.unary op xv).run P W) := by
  unfold doUn at H
  split at H <;> try exact H.elim
  · simp only [VR] at hx; subst hx
    simp only [Op.unary, Sem.run_pure]
    exact ⟨env, _, h, Env.le_refl _, R, by simp only [VR], H⟩
  · simp only [VR] at hx; subst hx
    simp only [Op.unary, Op.intArith, Sem.run_pure]
    exact ⟨env, _, h, Env.le_refl _, R, by simp only [VR], H⟩
  · simp only [VR] at hx; subst hx
    simp only [Op.unary, Op.intBits, Sem.run_pure]
    exact ⟨env, _, h, Env.le_refl _, R, by simp only [VR], H⟩
end
end Go.Sh

/-
  SHAD: new blocks, aggregates, addresses, slices.
-/
namespace Go.Sh
open Go.RowKit
set_option linter.unusedVariables false
set_option linter.unusedSimpArgs false

/-! ### constants -/
mutual
def ofV : Nat → Value → SV
  | 0, _ => .any
  | n + 1, v => match v with
    | .bool b => .bool b
    | .int k x => .int k x
    | .string s => .str s
    | .pointer none => .nilp
    | .slice none 0 0 => .nils
    | .map none => .nilm
    | .nilFunc => .nilf
    | .nilIface => .nili
    | .agg cs => .agg (ofVs n cs.toList)
    | .iface t v => .iface t (ofV n v)
    | _ => .any
def ofVs : Nat → List Value → List SV
  | 0, vs => vs.map fun _ => .any
  | _ + 1, [] => []
  | n + 1, v :: vs => ofV n v :: ofVs n vs
end

section
variable {P : Program} {B : Nat} {W0 W : World} {env : Env} {h : Heap}

theorem ofV_ok : ∀ (n : Nat), (∀ v, VR env (ofV n v) v) ∧ (∀ vs, VRs env (ofVs n vs) vs) := by
  intro n
  induction n with
  | zero =>
    refine ⟨fun v => by simp [ofV, VR], fun vs => ?_⟩
    induction vs with
    | nil => simp [ofVs, VRs]
    | cons v vs ih => simp [ofVs, VRs, VR] at ih ⊢; exact ih
  | succ n ih =>
    refine ⟨fun v => ?_, fun vs => ?_⟩
    · unfold ofV
      split <;> first
        | (simp only [VR]; done)
        | (simp only [VR]; exact ⟨_, rfl, ih.2 _⟩)
        | (simp only [VR]; exact ⟨_, rfl, ih.1 _⟩)
    · cases vs with
      | nil => simp [ofVs, VRs]
      | cons v vs => simp only [ofVs, VRs]; exact ⟨ih.1 v, ih.2 vs⟩

def zeroSV (P : Program) (t : TypeId) : Option SV := ((P.info? t).bind (·.zero)).map (ofV 30)

theorem zero_ok {t : TypeId} {z : SV} (H : zeroSV P t = some z) : ∃ zv, (zeroValue t).run P W = .ok zv W ∧ VR env z zv := by
  unfold zeroSV at H
  simp only [Option.map_eq_some_iff] at H
  obtain ⟨zv, hz, rfl⟩ := H
  cases hi : P.info? t with
  | none => simp [hi] at hz
  | some i =>
    simp [hi] at hz
    exact ⟨zv, by simp [zeroValue, typeInfo, hi, hz], (ofV_ok 30).1 zv⟩

/-! ### new variables -/

/-- The object of a new variable with these cells. -/
def mkArr (P : Program) (t : TypeId) (cells : List SV) : Option SO :=
  match allCells cells with
  | false => none
  | true => match P.underlying t with
    | some (.array n e) => match szOf P e with
      | some w => match decide (cells.length = n * w) with
        | true => some (.arr true n w t fun i => (cells.drop (i * w)).take w)
        | false => none
      | none => none
    | _ => some (.arr true 1 cells.length t fun _ => cells)

theorem cells_new {t : TypeId} {cells : List SV} {vs : Array Value} {n w : Nat} {g : Nat → List SV} {o : Obj} (hv : VRs env cells vs.toList) (hall : allCells cells = true) (hl : cells.length = n * w)
    (hW : W.heap[W.heap.size - 1]? = some (.cells vs t (0, 0))) (hg : ∀ i, i < n → g i = (cells.drop (i * w)).take w) : CellsR env W (W.heap.size - 1) 0 n w g := by
  intro i hi
  have hm := Nat.mul_le_mul_right w (Nat.succ_le_of_lt hi)
  rw [Nat.succ_mul] at hm
  rw [hg i hi]
  refine ⟨by rw [List.length_take, List.length_drop]; omega, fun j sv hj => ?_⟩
  rw [List.getElem?_take] at hj
  split at hj <;> try cases hj
  rw [List.getElem?_drop] at hj
  obtain ⟨v, hv', hr⟩ := hv.get hj
  refine ⟨?_, v, ?_, hr⟩
  · simp only [allCells, List.all_eq_true] at hall
    exact hall _ (List.mem_of_getElem? hj)
  · rw [cell_of_row W _ _ vs t (0, 0) hW, Nat.zero_add]
    simpa using hv'

theorem new_ok {t : TypeId} {cells : List SV} {vs : Array Value} {o : SO} {k : SV → Heap → Prop} (R : Rel B W0 env h W) (hv : VRs env cells vs.toList) (ho : mkArr P t cells = some o)
    (H : k (.ptr h.length 0 0) (h ++ [some o])) : VOk B W0 env k (.ok (.pointer (some ⟨W.heap.size, 0, none⟩)) (W.alloc (.cells vs t))) := by
  have key : ∀ (n w : Nat) (g : Nat → List SV), allCells cells = true → cells.length = n * w → (∀ i, i < n → g i = (cells.drop (i * w)).take w) → o = .arr true n w t g →
      VOk B W0 env k (.ok (.pointer (some ⟨W.heap.size, 0, none⟩)) (W.alloc (.cells vs t))) := by
    intro n w g hall hl hg ho
    subst ho
    let e : Ent := { blk := W.heap.size, base := 0, cap := n, w := w, nil := false }
    have hf : env h.length = none := R.fresh _ (Nat.le_refl _)
    have hle : Env.le env (env.upd h.length e) := Env.le_upd hf
    have hnew : (W.alloc (.cells vs t)).heap[W.heap.size]? = some (.cells vs t (0, 0)) := heap_alloc_new W _
    refine ⟨env.upd h.length e, .ptr h.length 0 0, _, hle, R.alloc (.cells vs t) e (.arr true n w t g) (fun _ => rfl) ?_, ?_, H⟩
    · refine ⟨rfl, (fun hn => by cases hn), fun _ => ⟨by simp [e], ?_, fun _ => ⟨R.hB, rfl, Nat.le_refl _, vs, hnew, ?_⟩⟩⟩
      · have := cells_new (W := W.alloc (.cells vs t)) (o := .cells vs t) (VRs.mono hle _ _ hv) hall hl (by simpa using hnew) hg
        simpa [e] using this
      · rw [show e.cap = n from rfl, ← hl, hv.length, Array.length_toList]
    · simp only [VR]
      exact ⟨e, by simp, rfl, by simp [e]⟩
  unfold mkArr at ho
  cases hall : allCells cells with
  | false => simp [hall] at ho
  | true =>
    simp only [hall] at ho
    split at ho
    · rename_i n el hu
      cases hw : szOf P el with
      | none => simp [hw] at ho
      | some w =>
        simp only [hw] at ho
        by_cases hl : cells.length = n * w
        · simp only [hl, decide_true, Option.some.injEq] at ho
          exact key n w _ hall hl (fun i _ => rfl) ho.symm
        · simp [hl] at ho
    · simp only [Option.some.injEq] at ho
      exact key 1 cells.length _ hall (by omega) (fun i hi => by obtain rfl : i = 0 := by omega
                                                                 rw [Nat.zero_mul, List.drop_zero, List.take_length]) ho.symm

def doAlloc (P : Program) (t : TypeId) (h : Heap) (k : SV → Heap → Prop) : Prop :=
  match zeroSV P t with
  | some z => match cellsOk z with
    | true => match mkArr P t z.cells with
      | some o => k (.ptr h.length 0 0) (h ++ [some o])
      | none => False
    | false => False
  | none => False

theorem alloc_ok {t : TypeId} {k : SV → Heap → Prop} (R : Rel B W0 env h W) (H : doAlloc P t h k) : VOk B W0 env k ((Instr.alloc t true (.tuple #[])).run P W) := by
  unfold doAlloc at H
  split at H <;> try exact H.elim
  rename_i z hz
  split at H <;> try exact H.elim
  rename_i hok
  split at H <;> try exact H.elim
  rename_i o ho
  obtain ⟨zv, hrun, hr⟩ := zero_ok (W := W) (env := env) hz
  have := new_ok R (cells_of_VR hok hr).1 ho H
  simpa [Instr.alloc, hrun, newVar, newRow] using this

def doBox (P : Program) (t : TypeId) (h : Heap) (x : SV) (k : SV → Heap → Prop) : Prop :=
  match cellsOk x with
  | true => match mkArr P t x.cells with
    | some o => k (.ptr h.length 0 0) (h ++ [some o])
    | none => False
  | false => False

theorem box_ok {t : TypeId} {x : SV} {xv : Value} {k : SV → Heap → Prop} (R : Rel B W0 env h W) (hx : VR env x xv) (H : doBox P t h x k) : VOk B W0 env k ((Instr.box t xv).run P W) := by
  unfold doBox at H
  split at H <;> try exact H.elim
  rename_i hok
  split at H <;> try exact H.elim
  rename_i o ho
  have := new_ok R (cells_of_VR hok hx).1 ho H
  simpa [Instr.box, newVar, newRow] using this

/-! ### aggregates -/

def sfill (place : Nat → Option (Nat × Nat)) (cells : List SV) : List (Nat × SV) → Option (List SV)
  | [] => some cells
  | (i, v) :: rest => match place i with
    | none => none
    | some (off, size) => match cellsOk v && decide (v.cells.length = size) && decide (off + size ≤ cells.length) with
      | true => sfill place (splice cells off v.cells) rest
      | false => none

theorem foldl_set : ∀ (us : List Value) (k : Nat) (off : Nat) (cs : Array Value), off + k + us.length ≤ cs.size →
    ((us.zipIdx k).foldl (fun (cs : Array Value) (x : Value × Nat) => cs.setIfInBounds (off + x.2) x.1) cs).toList = cs.toList.take (off + k) ++ us ++ cs.toList.drop (off + k + us.length)
  | [], k, off, cs, _ => by simp
  | u :: us, k, off, cs, hl => by
    simp only [List.zipIdx_cons, List.foldl_cons]
    rw [foldl_set us (k + 1) off _ (by simp at hl ⊢; omega)]
    simp only [Array.toList_setIfInBounds]
    have := list_seg_step cs.toList (off + k) u us (by simp at hl ⊢; omega)
    rw [show off + (k + 1) = off + k + 1 by omega]
    rw [this]
    simp

theorem sfill_ok (place : Nat → Option (Nat × Nat)) : ∀ (ps : List (Nat × SV)) (qs : List (Nat × Value)) (cells cells' : List SV) (vs : Array Value),
    ps.length = qs.length → (∀ (i : Nat) (p : Nat × SV) (q : Nat × Value), ps[i]? = some p → qs[i]? = some q → p.1 = q.1 ∧ VR env p.2 q.2) → VRs env cells vs.toList → sfill place cells ps = some cells' →
    ∃ vs', Instr.fill place vs qs = some vs' ∧ VRs env cells' vs'.toList
  | [], [], cells, cells', vs, _, _, hv, H => by simp [sfill] at H; subst H; exact ⟨vs, rfl, hv⟩
  | [], _ :: _, _, _, _, hl, _, _, _ => by simp at hl
  | _ :: _, [], _, _, _, hl, _, _, _ => by simp at hl
  | (i, s) :: ps, (i', v) :: qs, cells, cells', vs, hl, hr, hv, H => by
    obtain ⟨he, hsv⟩ := hr 0 (i, s) (i', v) rfl rfl
    simp only at he hsv
    subst he
    unfold sfill at H
    unfold Instr.fill
    cases hp : place i with
    | none => simp [hp] at H
    | some os =>
      obtain ⟨off, size⟩ := os
      simp only [hp] at H ⊢
      split at H <;> try cases H
      rename_i hc
      simp only [Bool.and_eq_true, decide_eq_true_eq] at hc
      obtain ⟨⟨hok, hsz⟩, hfit⟩ := hc
      obtain ⟨hcv, _⟩ := cells_of_VR hok hsv
      have hvsz : v.cells.size = size := by rw [← hsz, hcv.length, Array.length_toList]
      have hvl : cells.length = vs.size := by rw [hv.length, Array.length_toList]
      have hno : ¬ ((decide (v.cells.size ≠ size) || decide (off + v.cells.size > vs.size)) = true) := by simp only [Bool.or_eq_true, decide_eq_true_eq]; omega
      rw [if_neg hno]
      refine sfill_ok place ps qs _ cells' _ (by simpa using hl) (fun j p q hpj hqj => hr (j + 1) p q (by simpa using hpj) (by simpa using hqj)) ?_ H
      have e : (v.cells.zipIdx.foldl (fun (cs : Array Value) (x : Value × Nat) => match x with | (c, j) => cs.setIfInBounds (off + j) c) vs).toList = vs.toList.take off ++ v.cells.toList ++ vs.toList.drop (off + v.cells.toList.length) := by
        have := foldl_set v.cells.toList 0 off vs (by rw [Array.length_toList]; omega)
        simp only [Nat.add_zero] at this
        rw [← this, ← Array.foldl_toList, Array.toList_zipIdx]
      rw [e]
      unfold splice
      have hlen : v.cells.toList.length = s.cells.length := by rw [← hcv.length]
      rw [hlen, List.append_assoc]
      exact (hv.take off).append (hcv.append (hv.drop _))

theorem parts_rel {ρ : Operand → SV} {ρ' : Operand → Value} (hρ : ∀ x, VR env (ρ x) (ρ' x)) (parts : List (Nat × Operand)) :
    (parts.map fun p => (p.1, ρ p.2)).length = (parts.map fun p => (p.1, ρ' p.2)).length ∧
    ∀ (i : Nat) (p : Nat × SV) (q : Nat × Value), (parts.map fun p => (p.1, ρ p.2))[i]? = some p → (parts.map fun p => (p.1, ρ' p.2))[i]? = some q → p.1 = q.1 ∧ VR env p.2 q.2 := by
  refine ⟨by simp, fun i p q hp hq => ?_⟩
  simp only [List.getElem?_map, Option.map_eq_some_iff] at hp hq
  obtain ⟨a, ha, rfl⟩ := hp
  obtain ⟨b, hb, rfl⟩ := hq
  rw [ha] at hb
  cases hb
  exact ⟨rfl, hρ _⟩

def sbuilt (P : Program) (t : TypeId) (parts : List (Nat × SV)) : Option (List SV) :=
  match P.underlying t, zeroSV P t with
  | some (.array _ e), some z => match szOf P e, cellsOk z with
    | some w, true => sfill (fun i => some (i * w, w)) z.cells parts
    | _, _ => none
  | some (.struct fs), some z => match fs.toList.mapM (fun f => (P.info? f.type).map fun i => (f.offset, i.size)), cellsOk z with
    | some places, true => sfill (places.toArray[·]?) z.cells parts
    | _, _ => none
  | _, _ => none

theorem build_ok {t : TypeId} {parts : Array (Nat × Operand)} {ρ : Operand → SV} {ρ' : Operand → Value} (hρ : ∀ x, VR env (ρ x) (ρ' x)) {cs : List SV} (H : sbuilt P t (parts.toList.map fun p => (p.1, ρ p.2)) = some cs) :
    ∃ vs : Array Value, (Instr.build t (parts.map fun (i, x) => (i, ρ' x))).run P W = .ok (.agg vs) W ∧ VRs env cs vs.toList := by
  obtain ⟨hl, hr⟩ := parts_rel hρ parts.toList
  have hlist : (parts.map fun (i, x) => (i, ρ' x)).toList = parts.toList.map fun p => (p.1, ρ' p.2) := by simp
  unfold sbuilt at H
  split at H
  · rename_i n e z hu hz
    split at H <;> try cases H
    rename_i w hw hok
    unfold zeroSV at hz
    simp only [Option.map_eq_some_iff] at hz
    obtain ⟨zv, hzv, rfl⟩ := hz
    cases hi : P.info? t with
    | none => simp [hi] at hzv
    | some it =>
      simp [hi] at hzv
      obtain ⟨vs, hf, hvs⟩ := sfill_ok _ _ _ _ _ _ hl hr (cells_of_VR hok ((ofV_ok 30).1 zv)).1 H
      refine ⟨vs, run_build W t _ vs ?_, hvs⟩
      unfold szOf at hw
      simp only [Option.map_eq_some_iff] at hw
      obtain ⟨ie, hie, rfl⟩ := hw
      simp [Program.built, hi, hu, hzv, hie, hlist, hf]
  · rename_i fs z hu hz
    split at H <;> try cases H
    rename_i places hp hok
    unfold zeroSV at hz
    simp only [Option.map_eq_some_iff] at hz
    obtain ⟨zv, hzv, rfl⟩ := hz
    cases hi : P.info? t with
    | none => simp [hi] at hzv
    | some it =>
      simp [hi] at hzv
      obtain ⟨vs, hf, hvs⟩ := sfill_ok _ _ _ _ _ _ hl hr (cells_of_VR hok ((ofV_ok 30).1 zv)).1 H
      refine ⟨vs, run_build W t _ vs ?_, hvs⟩
      simp only [Program.built, hi, hu, hzv, hp, hlist, hf]
  · cases H
end
end Go.Sh

/-
  SHAD: slices, addresses, lengths, append, maps.
-/
namespace Go.Sh
open Go.RowKit
set_option linter.unusedVariables false
set_option linter.unusedSimpArgs false

section
variable {P : Program} {B : Nat} {W0 W : World} {env : Env} {h : Heap}

/-! ### a slice literal -/

/-- The elements of a composite literal of a slice. -/
def sliceG (len w : Nat) (cs : List SV) : Nat → List SV := match len with
  | 1 => fun _ => cs.take w
  | _ => fun i => (cs.drop (i * w)).take w
theorem sliceG_eq {len w : Nat} {cs : List SV} {i : Nat} (h : i < len) : sliceG len w cs i = (cs.drop (i * w)).take w := by
  unfold sliceG
  split
  · obtain rfl : i = 0 := by omega
    simp
  · rfl

def doBuildSlice (P : Program) (t : TypeId) (len : Nat) (parts : List (Nat × SV)) (h : Heap) (k : SV → Heap → Prop) : Prop :=
  match P.underlying t with
  | some (.slice e) => match szOf P e, zeroSV P e with
    | some w, some z => match cellsOk z && decide (z.cells.length = w) && decide (0 < len) && decide (0 < w) && decide (len * w ≤ 16777216) with
      | true => match sfill (fun i => some (i * w, w)) ((List.range (len * w)).map fun i => (z.cells[i % w]?).getD .any) parts with
        | some cs => match allCells cs && decide (cs.length = len * w) with
          | true => k (.osl h.length len) (h ++ [some (.arr true len w e (sliceG len w cs))])
          | false => False
        | none => False
      | false => False
    | _, _ => False
  | _ => False

theorem buildSlice_ok {t : TypeId} {len : Nat} {parts : Array (Nat × Operand)} {ρ : Operand → SV} {ρ' : Operand → Value} {k : SV → Heap → Prop} (R : Rel B W0 env h W) (hρ : ∀ x, VR env (ρ x) (ρ' x))
    (H : doBuildSlice P t len (parts.toList.map fun p => (p.1, ρ p.2)) h k) : VOk B W0 env k ((Instr.buildSlice t len (parts.map fun (i, x) => (i, ρ' x))).run P W) := by
  obtain ⟨hl, hr⟩ := parts_rel hρ parts.toList
  have hlist : (parts.map fun (i, x) => (i, ρ' x)).toList = parts.toList.map fun p => (p.1, ρ' p.2) := by simp
  unfold doBuildSlice at H
  split at H <;> try exact H.elim
  rename_i e hu
  split at H <;> try exact H.elim
  rename_i w z hw hz
  split at H <;> try exact H.elim
  rename_i hc
  simp only [Bool.and_eq_true, decide_eq_true_eq] at hc
  obtain ⟨⟨⟨⟨hok, hzl⟩, hlen⟩, hw0⟩, hbig⟩ := hc
  split at H <;> try exact H.elim
  rename_i cs hf
  split at H <;> try exact H.elim
  rename_i hcs
  simp only [Bool.and_eq_true, decide_eq_true_eq] at hcs
  obtain ⟨hall, hcl⟩ := hcs
  obtain ⟨zv, hzrun, hzr⟩ := zero_ok (W := W) (env := env) hz
  obtain ⟨hzc, _⟩ := cells_of_VR hok hzr
  have hzs : zv.cells.size = w := by rw [← hzl, hzc.length, Array.length_toList]
  have hinit : VRs env ((List.range (len * w)).map fun i => (z.cells[i % w]?).getD .any) ((Array.range (len * w)).map (zv.cells[· % zv.cells.size]!)).toList := by
    rw [Array.toList_map, Array.toList_range]
    refine VRs.map _ _ _ fun i _ => ?_
    have hm : i % w < z.cells.length := by rw [hzl]; exact Nat.mod_lt _ hw0
    have hg : z.cells[i % w]? = some z.cells[i % w] := List.getElem?_eq_getElem hm
    obtain ⟨v, hv, hr⟩ := hzc.get hg
    rw [hg, Option.getD_some, hzs]
    have : zv.cells[i % w]? = some v := by simpa using hv
    rw [getElem!_def, this]
    exact hr
  obtain ⟨vs, hfill, hvs⟩ := sfill_ok _ _ _ _ _ _ hl hr hinit hf
  have hne : ¬ len * w = 0 := by have := Nat.mul_pos hlen hw0; omega
  have hnb : ¬ len * w > 2 ^ 24 := by omega
  have hrun : (Instr.buildSlice t len (parts.map fun (i, x) => (i, ρ' x))).run P W = .ok (.slice (some ⟨W.heap.size, 0, none⟩) len len) (W.alloc (.cells vs e)) := by
    simp only [Instr.buildSlice, Sem.run_bind, run_underlying hu, Result.andThen_ok, run_sizeOf hw, hnb, hne, if_false, hzrun, Sem.run_pure, hlist, hfill, newRow, run_newObj]
    rfl
  rw [hrun]
  let en : Ent := { blk := W.heap.size, base := 0, cap := len, w := w, nil := false }
  have hfr : env h.length = none := R.fresh _ (Nat.le_refl _)
  have hle : Env.le env (env.upd h.length en) := Env.le_upd hfr
  have hnew : (W.alloc (.cells vs e)).heap[W.heap.size]? = some (.cells vs e (0, 0)) := heap_alloc_new W _
  have hlw : len ≤ len * w := Nat.le_mul_of_pos_right _ hw0
  refine ⟨env.upd h.length en, .osl h.length len, _, hle, R.alloc (.cells vs e) en (.arr true len w e _) (fun _ => rfl) ?_, ?_, H⟩
  · refine ⟨rfl, (fun hn => by cases hn), fun _ => ⟨by simp [en], ?_, fun _ => ⟨R.hB, rfl, Nat.le_refl _, vs, hnew, ?_⟩⟩⟩
    · have := cells_new (W := W.alloc (.cells vs e)) (o := .cells vs e) (VRs.mono hle _ _ hvs) hall hcl (by simpa using hnew) (g := sliceG len w cs) (fun i hi => sliceG_eq hi)
      simpa [en] using this
    · rw [show en.cap = len from rfl, ← hcl, hvs.length, Array.length_toList]
  · simp only [VR]
    exact ⟨en, by simp, .inr ⟨rfl, rfl, Nat.le_refl _, by simp only [maxLen]; show len ≤ _; omega, rfl⟩⟩

/-! ### addresses -/

def fieldOff (P : Program) (t : TypeId) (f : Nat) : Option Nat := match P.underlying t with
  | some (.struct fs) => match fs[f]? with
    | some x => match szOf P x.type with
      | some s => match decide (0 < s) with | true => some x.offset | false => none
      | none => none
    | none => none
  | _ => none

theorem fieldAt_ok {t : TypeId} {f l i j off : Nat} {pv : Value} (hp : VR env (.ptr l i j) pv) (ho : fieldOff P t f = some off) : ∃ v, (Instr.fieldAt t pv f).run P W = .ok v W ∧ VR env (.ptr l i (j + off)) v := by
  unfold fieldOff at ho
  split at ho <;> try cases ho
  rename_i fs hu
  split at ho <;> try cases ho
  rename_i x hx
  split at ho <;> try cases ho
  rename_i s hs
  split at ho <;> try cases ho
  rename_i hpos
  simp only [decide_eq_true_eq] at hpos
  simp only [VR] at hp ⊢
  obtain ⟨e, he, hn, rfl⟩ := hp
  refine ⟨_, ?_, e, he, hn, rfl⟩
  have hs0 : ¬ s = 0 := by omega
  simp only [Instr.fieldAt, Sem.run_bind, run_underlying hu, Result.andThen_ok, hx, Instr.sureAddr, Sem.run_pure, fieldPlace, run_sizeOf hs, hs0, if_false, add_at, Nat.add_assoc]

def doField (P : Program) (t : TypeId) (x : SV) (f : Nat) (k : SV → Prop) : Prop :=
  match x, P.underlying t with
  | .agg cs, some (.struct fs) => match fs[f]? with
    | some fl => orF (partSV P fl.type cs fl.offset) k
    | none => False
  | _, _ => False

theorem field_ok {t : TypeId} {f : Nat} {x : SV} {xv : Value} {k : SV → Heap → Prop} (R : Rel B W0 env h W) (hx : VR env x xv) (H : doField P t x f fun v => k v h) : VOk B W0 env k ((Instr.field t xv f).run P W) := by
  unfold doField at H
  split at H <;> try exact H.elim
  rename_i cs fs hu
  split at H <;> try exact H.elim
  rename_i fl hfl
  obtain ⟨v, hv, hk⟩ := orF_some H
  simp only [VR] at hx
  obtain ⟨a, rfl, ha⟩ := hx
  obtain ⟨u, hrun, hr⟩ := part_ok (P := P) (W := W) ha hv
  simp only [Instr.field, Sem.run_bind, run_underlying hu, Result.andThen_ok, hfl, asAgg, Sem.run_pure, hrun]
  exact ⟨env, v, h, Env.le_refl _, R, hr, hk⟩

def doIndexAddr (P : Program) (t : TypeId) (h : Heap) (x ix : SV) (k : SV → Prop) : Prop :=
  match x, ix with
  | .sl l o n, .int _ i => match P.underlying t, hget h l with
    | some (.slice e), some (.arr _ _ w _ _) => match szOf P e with
      | some s => match decide (s = w) with
        | true => ifB (decide (0 ≤ i) && decide (i < (n : Int))) (k (.ptr l (o + i.toNat) 0)) False
        | false => False
      | none => False
    | _, _ => False
  | .osl l n, .int _ i => match P.underlying t, hget h l with
    | some (.slice e), some (.arr _ _ w _ _) => match szOf P e with
      | some s => match decide (s = w) with
        | true => ifB (decide (0 ≤ i) && decide (i < (n : Int))) (k (.ptr l i.toNat 0)) False
        | false => False
      | none => False
    | _, _ => False
  | .ptr l i0 j, .int _ i => match P.underlying t, hget h l with
    | some (.array n e), some (.arr _ _ w _ _) => match szOf P e with
      | some s => ifB (decide (0 ≤ i) && decide (i < (n : Int)))
        (match decide (s = w) && decide (j = 0) with | true => k (.ptr l (i0 + i.toNat) 0) | false => k (.ptr l i0 (j + i.toNat * s))) False
      | none => False
    | _, _ => False
  | _, _ => False

theorem indexAddr_ok {t : TypeId} {x ix : SV} {xv iv : Value} {k : SV → Heap → Prop} (R : Rel B W0 env h W) (hx : VR env x xv) (hi : VR env ix iv) (H : doIndexAddr P t h x ix fun v => k v h) :
    VOk B W0 env k ((Instr.indexAt t xv iv).run P W) := by
  have fin : ∀ {l a b : Nat} {e : Ent} {o : Nat}, env l = some e → e.nil = false → (Instr.indexAt t xv iv).run P W = .ok (.pointer (some ⟨e.blk, o, none⟩)) W → o = e.base + (a * e.w + b) → k (.ptr l a b) h → VOk B W0 env k ((Instr.indexAt t xv iv).run P W) := by
    intro l a b e o he hn hrun ho hk
    rw [hrun]
    refine ⟨env, _, h, Env.le_refl _, R, ?_, hk⟩
    simp only [VR]
    exact ⟨e, he, hn, by rw [ho]⟩
  unfold doIndexAddr at H
  split at H <;> try exact H.elim
  · rename_i l o n kd i
    split at H <;> try exact H.elim
    rename_i el own n0 w tt g hu hg
    split at H <;> try exact H.elim
    rename_i s hs
    split at H <;> try exact H.elim
    rename_i hsw
    simp only [decide_eq_true_eq] at hsw
    subst hsw
    obtain ⟨hb, hk⟩ := ifB_true H
    simp only [Bool.and_eq_true, decide_eq_true_eq] at hb
    obtain ⟨e, he, hor⟩ := R.obj l _ hg
    simp only [VR] at hx hi
    obtain ⟨e', a, c, he', rfl, hnc, hx⟩ := hx
    rw [he] at he'; cases he'
    subst hi
    rcases hx with h0 | ⟨hn, rfl⟩
    · omega
    have hw : e.w = s := hor.1
    refine fin he hn (o := e.base + o * e.w + i.toNat * s) ?_ ?_ hk
    · simp [Instr.indexAt, asIntOf, run_underlying hu, hb, run_sizeOf hs, add_at]
    · rw [hw, Nat.add_mul]; omega
  · rename_i l n kd i
    split at H <;> try exact H.elim
    rename_i el own n0 w tt g hu hg
    split at H <;> try exact H.elim
    rename_i s hs
    split at H <;> try exact H.elim
    rename_i hsw
    simp only [decide_eq_true_eq] at hsw
    subst hsw
    obtain ⟨hb, hk⟩ := ifB_true H
    simp only [Bool.and_eq_true, decide_eq_true_eq] at hb
    obtain ⟨e, he, hor⟩ := R.obj l _ hg
    simp only [VR] at hx hi
    obtain ⟨e', he', hx⟩ := hx
    rw [he] at he'; cases he'
    subst hi
    have hw : e.w = s := hor.1
    rcases hx with ⟨_, rfl, _⟩ | ⟨hn, hb0, hnc, _, rfl⟩
    · omega
    refine fin he hn (o := i.toNat * s) ?_ ?_ hk
    · simp [Instr.indexAt, asIntOf, run_underlying hu, hb, run_sizeOf hs, add_at]
    · rw [hw, hb0]; omega
  · rename_i l i0 j kd i
    split at H <;> try exact H.elim
    rename_i n el own n0 w tt g hu hg
    split at H <;> try exact H.elim
    rename_i s hs
    obtain ⟨hb, H2⟩ := ifB_true H
    clear H
    simp only [Bool.and_eq_true, decide_eq_true_eq] at hb
    obtain ⟨e, he, hor⟩ := R.obj l _ hg
    have hw : e.w = w := hor.1
    simp only [VR] at hx hi
    obtain ⟨e', he', hn, rfl⟩ := hx
    rw [he] at he'; cases he'
    subst hi
    have hrun : (Instr.indexAt t (.pointer (some ⟨e.blk, e.base + (i0 * e.w + j), none⟩)) (.int kd i)).run P W = .ok (.pointer (some ⟨e.blk, e.base + (i0 * e.w + j) + i.toNat * s, none⟩)) W := by
      simp [Instr.indexAt, Instr.sureAddr, asIntOf, run_underlying hu, hb, run_sizeOf hs, add_at]
    split at H2
    · rename_i hc
      simp only [Bool.and_eq_true, decide_eq_true_eq] at hc
      obtain ⟨hsw, hj0⟩ := hc
      exact fin he hn hrun (by rw [hw, Nat.add_mul, hsw, hj0]; omega) H2
    · exact fin he hn hrun (by omega) H2

def doIndex (P : Program) (t : TypeId) (x ix : SV) (k : SV → Prop) : Prop :=
  match x, ix with
  | .agg cs, .int _ i => match P.underlying t with
    | some (.array n e) => match szOf P e with
      | some s => ifB (decide (0 ≤ i) && decide (i < (n : Int))) (orF (partSV P e cs (i.toNat * s)) k) False
      | none => False
    | _ => False
  | .str s, .int _ i => match P.underlying t with
    | some .string => ifB (decide (0 ≤ i) && decide (i < (s.size : Int))) (k (.int .u8 ((s.data.getD i.toNat 0).toNat : Int))) False
    | _ => False
  | _, _ => False

theorem index_ok {t : TypeId} {x ix : SV} {xv iv : Value} {k : SV → Heap → Prop} (R : Rel B W0 env h W) (hx : VR env x xv) (hi : VR env ix iv) (H : doIndex P t x ix fun v => k v h) :
    VOk B W0 env k ((Instr.index t xv iv).run P W) := by
  unfold doIndex at H
  split at H <;> try exact H.elim
  · rename_i cs kd i
    split at H <;> try exact H.elim
    rename_i n el hu
    split at H <;> try exact H.elim
    rename_i s hs
    obtain ⟨hb, H⟩ := ifB_true H
    simp only [Bool.and_eq_true, decide_eq_true_eq] at hb
    obtain ⟨v, hv, hk⟩ := orF_some H
    simp only [VR] at hx hi
    obtain ⟨a, rfl, ha⟩ := hx
    subst hi
    obtain ⟨u, hrun, hr⟩ := part_ok (P := P) (W := W) ha hv
    have : (Instr.index t (.agg a) (.int kd i)).run P W = .ok u W := by
      simp [Instr.index, asIntOf, run_underlying hu, hb, run_sizeOf hs, hrun]
    rw [this]
    exact ⟨env, v, h, Env.le_refl _, R, hr, hk⟩
  · rename_i s kd i
    split at H <;> try exact H.elim
    rename_i hu
    obtain ⟨hb, H⟩ := ifB_true H
    simp only [Bool.and_eq_true, decide_eq_true_eq] at hb
    simp only [VR] at hx hi
    subst hx; subst hi
    have hlt : i.toNat < s.size := by omega
    have hlt' : i.toNat < s.data.size := hlt
    have e1 : s[i.toNat]? = some (s.data.getD i.toNat 0) := by
      rw [getElem?_pos s i.toNat hlt]
      simp only [Array.getD, hlt', dite_true]
      rfl
    have : (Instr.index t (.string s) (.int kd i)).run P W = .ok (.int .u8 ((s.data.getD i.toNat 0).toNat : Int)) W := by
      simp [Instr.index, asIntOf, run_underlying hu, hb, e1]
      rfl
    rw [this]
    exact ⟨env, _, h, Env.le_refl _, R, VR_int, H⟩

/-! ### length, min, max -/

def doLen (P : Program) (t : TypeId) (h : Heap) (x : SV) (k : SV → Prop) : Prop :=
  match P.underlying t with
  | some (.slice _) => match x with
    | .sl _ _ n => k (.int .i64 (n : Int))
    | .osl _ n => k (.int .i64 (n : Int))
    | .nils => k (.int .i64 0)
    | _ => False
  | some .string => match x with
    | .str s => k (.int .i64 (s.size : Int))
    | _ => False
  | some (.array n _) => k (.int .i64 (n : Int))
  | some (.map _ _) => match x with
    | .map l => match hget h l with
      | some (.mp es) => k (.int .i64 (es.length : Int))
      | _ => False
    | _ => False
  | _ => False

theorem ER.length {env : Env} : ∀ {es : List (SV × SV)} {ms : List MapEntry}, ER env es ms → es.length = ms.length
  | [], [], _ => rfl
  | _ :: _, _ :: _, ⟨_, _, h⟩ => by simp [ER.length h]
  | [], _ :: _, h => h.elim
  | _ :: _, [], h => h.elim

theorem len_ok {t ty : TypeId} {ts : Array TypeId} {x : SV} {xv : Value} {k : SV → Heap → Prop} (R : Rel B W0 env h W) (hx : VR env x xv) (H : doLen P t h x fun v => k v h) :
    VOk B W0 env k ((Builtin.len_ (#[t] ++ ts) ty #[xv]).run P W) := by
  have fin : ∀ {n : Int}, k (.int .i64 n) h → (Builtin.len_ (#[t] ++ ts) ty #[xv]).run P W = .ok (.int .i64 n) W → VOk B W0 env k ((Builtin.len_ (#[t] ++ ts) ty #[xv]).run P W) := by
    intro n hk hrun
    rw [hrun]
    exact ⟨env, _, h, Env.le_refl _, R, VR_int, hk⟩
  have hts : (#[t] ++ ts)[0]? = some t := by rw [Array.getElem?_append_left (by simp)]; rfl
  unfold doLen at H
  split at H <;> try exact H.elim
  · rename_i e hu
    split at H <;> try exact H.elim
    · simp only [VR] at hx
      obtain ⟨_, a, c, _, rfl, _⟩ := hx
      exact fin H (by simp [Builtin.len_, hts, run_underlying hu, goInt])
    · simp only [VR] at hx
      obtain ⟨_, _, ⟨_, rfl, rfl⟩ | ⟨_, _, _, _, rfl⟩⟩ := hx
      · exact fin H (by simp [Builtin.len_, hts, run_underlying hu, goInt])
      · exact fin H (by simp [Builtin.len_, hts, run_underlying hu, goInt])
    · simp only [VR] at hx
      subst hx
      exact fin H (by simp [Builtin.len_, hts, run_underlying hu, goInt])
  · rename_i hu
    split at H <;> try exact H.elim
    simp only [VR] at hx
    subst hx
    exact fin H (by simp [Builtin.len_, hts, run_underlying hu, goInt])
  · rename_i n e hu
    exact fin H (by simp [Builtin.len_, hts, run_underlying hu, goInt])
  · rename_i a b hu
    split at H <;> try exact H.elim
    split at H <;> try exact H.elim
    rename_i l _ es hg
    obtain ⟨e, he, hn, _, ms, c, hm, hr⟩ := R.obj l _ hg
    simp only [VR] at hx
    obtain ⟨e', he', rfl⟩ := hx
    rw [he] at he'; cases he'
    have hlen : es.length = ms.size := by rw [hr.length]; simp
    rw [hlen] at H
    have hgo : (getObj e.blk).run P W = .ok (.map ms c) W := by simp [getObj, Sem.run, hm]
    exact fin H (by simp [Builtin.len_, hts, run_underlying hu, goInt, hgo])

def doMinMax (mx : Bool) (x y : SV) (k : SV → Prop) : Prop :=
  match x, y with
  | .int kd a, .int _ b => k (.int kd (match mx with | true => if b > a then b else a | false => if b < a then b else a))
  | _, _ => False

theorem max_ok {ty : TypeId} {ts : Array TypeId} {x y : SV} {xv yv : Value} {k : SV → Heap → Prop} (R : Rel B W0 env h W) (hx : VR env x xv) (hy : VR env y yv) (H : doMinMax true x y fun v => k v h) :
    VOk B W0 env k ((Builtin.max_ ts ty #[xv, yv]).run P W) := by
  unfold doMinMax at H
  split at H <;> try exact H.elim
  simp only [VR] at hx hy
  subst hx; subst hy
  simp only [Builtin.max_, List.foldlM, Builtin.max2, Sem.run_bind, Sem.run_pure, Result.andThen_ok]
  exact ⟨env, _, h, Env.le_refl _, R, VR_int, H⟩

theorem min_ok {ty : TypeId} {ts : Array TypeId} {x y : SV} {xv yv : Value} {k : SV → Heap → Prop} (R : Rel B W0 env h W) (hx : VR env x xv) (hy : VR env y yv) (H : doMinMax false x y fun v => k v h) :
    VOk B W0 env k ((Builtin.min_ ts ty #[xv, yv]).run P W) := by
  unfold doMinMax at H
  split at H <;> try exact H.elim
  simp only [VR] at hx hy
  subst hx; subst hy
  simp only [Builtin.min_, List.foldlM, Builtin.min2, Sem.run_bind, Sem.run_pure, Result.andThen_ok]
  exact ⟨env, _, h, Env.le_refl _, R, VR_int, H⟩

/-! ### append -/

/-- The elements that are appended: how many, and the i-th. -/
def elemsOf (h : Heap) (x : SV) : Option (Nat × Nat × (Nat → List SV)) :=
  match x with
  | .sl l o n => match hget h l with
    | some (.arr _ n0 w _ g) => match decide (o + n ≤ n0) with | true => some (n, w, fun i => g (o + i)) | false => none
    | _ => none
  | .osl l n => match hget h l with
    | some (.arr _ n0 w _ g) => match decide (n ≤ n0) with | true => some (n, w, g) | false => none
    | _ => none
  | _ => none

/-- A move of an object to a new label, its block being the same. -/
theorem Rel.move (R : Rel B W0 env h W) {l : Nat} {o : SO} {e : Ent} (hl : hget h l = some o) (he : env l = some e) : Rel B W0 (env.upd h.length e) (h.set l none ++ [some o]) W := by
  have hf : env h.length = none := R.fresh _ (Nat.le_refl _)
  have hle : Env.le env (env.upd h.length e) := Env.le_upd hf
  have hlt := hget_lt hl
  have hlen : (h.set l none).length = h.length := by simp
  have get : ∀ {x : Nat} {y : SO}, hget (h.set l none ++ [some o]) x = some y → (x = h.length ∧ y = o) ∨ (x ≠ h.length ∧ x ≠ l ∧ hget h x = some y) := by
    intro x y hx
    rw [hget_append, hlen] at hx
    by_cases hxe : x = h.length
    · rw [if_pos hxe] at hx; cases hx; exact .inl ⟨hxe, rfl⟩
    · rw [if_neg hxe, hget_set _ hlt] at hx
      by_cases hxl : x = l
      · rw [if_pos hxl] at hx; cases hx
      · rw [if_neg hxl] at hx; exact .inr ⟨hxe, hxl, hx⟩
  obtain ⟨e0, he0, hor0⟩ := R.obj l o hl
  rw [he] at he0; cases he0
  refine ⟨R.base, R.below, fun x y hx => ?_, fun x x' y y' ex ex' hne hx hm hx' hex hex' hn hn' => ?_, fun x hx => ?_⟩
  · rcases get hx with ⟨rfl, rfl⟩ | ⟨h1, h2, h3⟩
    · exact ⟨e, by simp, hor0.kept hle (Nat.le_refl _) fun _ => rfl⟩
    · obtain ⟨ey, hey, hor⟩ := R.obj x y h3
      exact ⟨ey, hle _ _ hey, hor.kept hle (Nat.le_refl _) fun _ => rfl⟩
  · rcases get hx with ⟨rfl, rfl⟩ | ⟨h1, h2, h3⟩
    · rcases get hx' with ⟨rfl, _⟩ | ⟨g1, g2, g3⟩
      · exact absurd rfl hne
      · rw [Env.upd_same] at hex; cases hex
        rw [Env.upd_ne g1] at hex'
        exact R.sep l x' y y' e ex' (fun q => g2 q.symm) hl hm g3 he hex' hn hn'
    · rw [Env.upd_ne h1] at hex
      rcases get hx' with ⟨rfl, rfl⟩ | ⟨g1, g2, g3⟩
      · rw [Env.upd_same] at hex'; cases hex'
        exact R.sep x l y y' ex e h2 h3 hm hl hex he hn hn'
      · rw [Env.upd_ne g1] at hex'
        exact R.sep x x' y y' ex ex' hne h3 hm g3 hex hex' hn hn'
  · simp only [List.length_append, hlen, List.length_singleton] at hx
    rw [Env.upd_ne (by omega)]
    exact R.fresh x (by omega)

/-- One value or another: of values of the same kind, one value of that kind. -/
def svIf (b : Bool) (x y : SV) : SV := match x, y with
  | .int k a, .int k' c => match decide (k = k') with
    | true => .int k (cond b a c)
    | false => match b with | true => x | false => y
  | .bool a, .bool c => .bool (cond b a c)
  | .str a, .str c => .str (cond b a c)
  | _, _ => match b with | true => x | false => y
theorem svIf_eq {b : Bool} {x y : SV} : svIf b x y = match b with | true => x | false => y := by
  unfold svIf
  split
  · split
    · rename_i hk
      simp only [decide_eq_true_eq] at hk
      subst hk
      cases b <;> rfl
    · rfl
  · cases b <;> rfl
  · cases b <;> rfl
  · rfl
def svsIf (b : Bool) : List SV → List SV → List SV
  | x :: xs, y :: ys => svIf b x y :: svsIf b xs ys
  | [], [] => []
  | [], ys => match b with | true => [] | false => ys
  | xs, [] => match b with | true => xs | false => []
theorem svsIf_eq {b : Bool} : ∀ {xs ys : List SV}, svsIf b xs ys = match b with | true => xs | false => ys
  | x :: xs, y :: ys => by
    unfold svsIf
    rw [svIf_eq, svsIf_eq]
    cases b <;> rfl
  | [], [] => by unfold svsIf; cases b <;> rfl
  | [], y :: ys => by unfold svsIf; rfl
  | x :: xs, [] => by unfold svsIf; rfl
@[simp] theorem svsIf_true {xs ys : List SV} : svsIf true xs ys = xs := svsIf_eq
@[simp] theorem svsIf_false {xs ys : List SV} : svsIf false xs ys = ys := svsIf_eq

def appG (n : Nat) (g g' : Nat → List SV) : Nat → List SV := fun i => svsIf (decide (i < n)) (g i) (g' (i - n))

def bytesOf (P : Program) (e : TypeId) : Option Nat := (P.info? e).map (·.bytes)

def doAppend (P : Program) (t : TypeId) (h : Heap) (x y : SV) (k : SV → Heap → Prop) : Prop :=
  match P.underlying t with
  | some (.slice e) => match szOf P e, bytesOf P e, zeroSV P e with
    | some w, some b, some z => match cellsOk z && decide (z.cells.length = w) && decide (0 < w) && decide (0 < b) with
      | true => match elemsOf h y with
        | some (m, w', g') => match decide (w' = w) with
          | true => match x with
            | .nils => ifB (decide (m * b ≤ 140737488355328)) (k (.osl h.length m) (h ++ [some (.arr true m w e g')])) False
            | .osl l n => match hget h l, (match y with | .sl l' _ _ => decide (l' ≠ l) | .osl l' _ => decide (l' ≠ l) | _ => false) with
              | some (.arr true n0 w0 e0 g), true => match decide (w0 = w) && decide (e0 = e) with
                | true => ifB (decide (n ≤ n0) && decide ((n + m) * b ≤ 140737488355328)) (k (.osl h.length (n + m)) (h.set l none ++ [some (.arr true (n + m) w e (appG n g g'))])) False
                | false => False
              | _, _ => False
            | _ => False
          | false => False
        | none => False
      | false => False
    | _, _, _ => False
  | _ => False
end
end Go.Sh

/-
  SHAD: append, slicing, maps.
-/
namespace Go.Sh
open Go.RowKit
set_option linter.unusedVariables false
set_option linter.unusedSimpArgs false

def flat (g : Nat → List SV) (n : Nat) : List SV := (List.range n).flatMap g

theorem flat_succ (g : Nat → List SV) (n : Nat) : flat g (n + 1) = flat g n ++ g n := by simp [flat, List.range_succ, List.flatMap_append]
theorem flat_length {g : Nat → List SV} {w : Nat} : ∀ {n : Nat}, (∀ i, i < n → (g i).length = w) → (flat g n).length = n * w
  | 0, _ => by simp [flat]
  | n + 1, h => by rw [flat_succ, List.length_append, flat_length fun i hi => h i (by omega), h n (by omega), Nat.add_mul]; omega
theorem flat_get {g : Nat → List SV} {w : Nat} : ∀ {n i j : Nat}, (∀ i, i < n → (g i).length = w) → i < n → j < w → (flat g n)[i * w + j]? = (g i)[j]?
  | 0, _, _, _, hi, _ => by omega
  | n + 1, i, j, h, hi, hj => by
    have hl : (flat g n).length = n * w := flat_length fun i hi => h i (by omega)
    rw [flat_succ]
    by_cases hin : i < n
    · have := Nat.mul_le_mul_right w (Nat.succ_le_of_lt hin)
      rw [Nat.succ_mul] at this
      rw [List.getElem?_append_left (by omega)]
      exact flat_get (fun i hi => h i (by omega)) hin hj
    · obtain rfl : i = n := by omega
      rw [List.getElem?_append_right (by omega), hl]
      congr 1
      omega
theorem flat_congr {g g' : Nat → List SV} {n : Nat} (h : ∀ i, i < n → g i = g' i) : flat g n = flat g' n := by
  unfold flat
  rw [List.flatMap_def, List.flatMap_def]
  congr 1
  exact List.map_congr_left fun i hi => h i (by simpa using hi)
theorem flat_appG (g g' : Nat → List SV) (n : Nat) : ∀ m, flat (appG n g g') (n + m) = flat g n ++ flat g' m
  | 0 => by
    simp only [Nat.add_zero, flat, List.range_zero, List.flatMap_nil, List.append_nil]
    exact flat_congr fun i hi => by simp [appG, hi]
  | m + 1 => by
    rw [← Nat.add_assoc, flat_succ, flat_appG g g' n m, flat_succ, List.append_assoc]
    congr 2
    have hlt : ¬ (n + m < n) := by omega
    simp [appG, hlt]

section
variable {P : Program} {B : Nat} {W0 W : World} {env : Env} {h : Heap}

theorem CellsR.flat_ok {blk base n w : Nat} {g : Nat → List SV} (H : CellsR env W blk base n w g) : ∃ vs : List Value, vs.length = n * w ∧ VRs env (flat g n) vs ∧ ∀ (x : Nat) (v : Value), vs[x]? = some v → W.cell? ((⟨blk, base, none⟩ : Addr).add x) = some v := by
  obtain ⟨vs, h1, h2, h3⟩ := CellsR.span (i := 0) H n (by omega)
  refine ⟨vs, h1, ?_, fun x v hx => ?_⟩
  · rw [show Go.Sh.flat g n = (List.range n).flatMap fun x => g (0 + x) from flat_congr fun i _ => by simp]
    exact h2
  · have := h3 x v hx
    simpa using this

theorem CellsR.of_flat {blk n w : Nat} {g : Nat → List SV} {vs : Array Value} {t : TypeId} {us : List Value} (hW : W.heap[blk]? = some (.cells vs t (0, 0))) (hus : vs.toList.take us.length = us) (hv : VRs env (flat g n) us)
    (hg : ∀ i, i < n → (g i).length = w ∧ ∀ sv ∈ g i, isCell sv = true) : CellsR env W blk 0 n w g := by
  intro i hi
  refine ⟨(hg i hi).1, fun j sv hj => ⟨(hg i hi).2 sv (List.mem_of_getElem? hj), ?_⟩⟩
  have hjw : j < w := by rw [← (hg i hi).1]; exact (List.getElem?_eq_some_iff.1 hj).1
  have := flat_get (g := g) (w := w) (n := n) (fun i hi => (hg i hi).1) hi hjw
  rw [hj] at this
  obtain ⟨v, hv', hr⟩ := hv.get this
  refine ⟨v, ?_, hr⟩
  rw [cell_of_row W blk _ vs t (0, 0) hW, Nat.zero_add]
  rw [← hus, List.getElem?_take] at hv'
  split at hv'
  · simpa using hv'
  · cases hv'

theorem elems_ok {y : SV} {yv : Value} {m w : Nat} {g' : Nat → List SV} (R : Rel B W0 env h W) (hy : VR env y yv) (H : elemsOf h y = some (m, w, g')) :
    (∀ i, i < m → (g' i).length = w ∧ ∀ sv ∈ g' i, isCell sv = true) ∧
    ((m = 0 ∧ ∃ a c, yv = .slice a 0 c) ∨ ∃ (ad : Addr) (c : Nat) (us : List Value), yv = .slice (some ad) m c ∧ us.length = m * w ∧ VRs env (flat g' m) us ∧ (∀ u ∈ us, u.oneCell' = true) ∧
      ∀ (x : Nat) (v : Value), us[x]? = some v → W.cell? (ad.add x) = some v) := by
  have one : ∀ {us : List Value}, VRs env (flat g' m) us → (∀ i, i < m → (g' i).length = w ∧ ∀ sv ∈ g' i, isCell sv = true) → ∀ u ∈ us, u.oneCell' = true := by
    intro us hv hg u hu
    obtain ⟨x, hx⟩ := List.mem_iff_getElem?.1 hu
    have hlt : x < (flat g' m).length := by rw [hv.length]; exact (List.getElem?_eq_some_iff.1 hx).1
    obtain ⟨v, hv', hr⟩ := hv.get (List.getElem?_eq_getElem hlt)
    rw [hx] at hv'; cases hv'
    refine oneCell_of_isCell ?_ hr
    have hmem : (flat g' m)[x] ∈ flat g' m := List.getElem_mem _
    simp only [flat, List.mem_flatMap, List.mem_range] at hmem
    obtain ⟨i, hi, hs⟩ := hmem
    exact (hg i hi).2 _ hs
  unfold elemsOf at H
  split at H <;> try cases H
  · rename_i l o n
    split at H <;> try cases H
    rename_i own n0 w0 tt g hg
    split at H <;> try cases H
    rename_i hon
    simp only [decide_eq_true_eq] at hon
    obtain ⟨e, he, hor⟩ := R.obj l _ hg
    obtain ⟨hw, hnil, hrest⟩ := hor
    simp only [VR] at hy
    obtain ⟨e', a, c, he', rfl, hnc, hadr⟩ := hy
    rw [he] at he'; cases he'
    have hcell : e.nil = false → CellsR env W e.blk e.base n0 w g := fun hn => (hrest hn).2.1
    have part1 : ∀ i, i < m → (g (o + i)).length = w ∧ ∀ sv ∈ g (o + i), isCell sv = true := by
      intro i hi
      have hn : e.nil = false := by
        cases hb : e.nil with
        | false => rfl
        | true => have := hnil hb; omega
      obtain ⟨h1, h2⟩ := hcell hn (o + i) (by omega)
      refine ⟨h1, fun sv hs => ?_⟩
      obtain ⟨j, hj⟩ := List.mem_iff_getElem?.1 hs
      exact (h2 j sv hj).1
    refine ⟨part1, ?_⟩
    rcases hadr with rfl | ⟨hn, rfl⟩
    · exact .inl ⟨rfl, a, c, rfl⟩
    · obtain ⟨us, h1, h2, h3⟩ := CellsR.span (i := o) (hcell hn) m hon
      refine .inr ⟨_, c, us, rfl, h1, h2, one h2 part1, fun x v hx => ?_⟩
      have := h3 x v hx
      rw [hw]
      simpa using this
  · rename_i l n
    split at H <;> try cases H
    rename_i own n0 w0 tt g0 hg
    split at H <;> try cases H
    rename_i hon
    simp only [decide_eq_true_eq] at hon
    obtain ⟨e, he, hor⟩ := R.obj l _ hg
    obtain ⟨hw, hnil, hrest⟩ := hor
    simp only [VR] at hy
    obtain ⟨e', he', hadr⟩ := hy
    rw [he] at he'; cases he'
    have part1 : ∀ i, i < m → (g' i).length = w ∧ ∀ sv ∈ g' i, isCell sv = true := by
      intro i hi
      have hn : e.nil = false := by
        cases hb : e.nil with
        | false => rfl
        | true => have := hnil hb; omega
      obtain ⟨h1, h2⟩ := (hrest hn).2.1 i (by omega)
      refine ⟨h1, fun sv hs => ?_⟩
      obtain ⟨j, hj⟩ := List.mem_iff_getElem?.1 hs
      exact (h2 j sv hj).1
    refine ⟨part1, ?_⟩
    rcases hadr with ⟨_, rfl, rfl⟩ | ⟨hn, hb0, _, _, rfl⟩
    · exact .inl ⟨rfl, _, _, rfl⟩
    · obtain ⟨us, h1, h2, h3⟩ := CellsR.span (i := 0) (hrest hn).2.1 m (by omega)
      have h2' : VRs env (flat g' m) us := by
        rw [show flat g' m = (List.range m).flatMap fun x => g' (0 + x) from flat_congr fun i _ => by simp]
        exact h2
      refine .inr ⟨_, _, us, rfl, h1, h2', one h2' part1, fun x v hx => ?_⟩
      have := h3 x v hx
      rw [hb0] at this
      simpa using this

theorem run_append_zero {t ty e : TypeId} {i : TypeInfo} (ht : P.underlying t = some (.slice e)) (hi : P.info? e = some i) (base a : Option Addr) (n cap c : Nat) (hn : n ≤ cap) :
    (Builtin.append_ #[t, t] ty #[.slice base n cap, .slice a 0 c]).run P W = .ok (.slice base n cap) W := by
  have hf : (Builtin.firstCells i.size 0 (.slice a 0 c)).run P W = .ok #[] W := by
    cases a <;> simp [Builtin.firstCells, loadCells, loadCellsFrom]
  cases base <;> simp [Builtin.append_, run_underlying ht, sizeOf, typeInfo, hi, Builtin.lenOf, hn, hf, storeCells]

/-- A new row of elements, in a new block, at the end of an append. -/
theorem append_new {e : TypeId} {n w cap : Nat} {g : Nat → List SV} {us : List Value} {rest : Array Value} {k : SV → Heap → Prop} {h' : Heap} (R : Rel B W0 env h' W) (hn : n ≤ cap) (hcap : cap ≤ maxLen)
    (hv : VRs env (flat g n) us) (hg : ∀ i, i < n → (g i).length = w ∧ ∀ sv ∈ g i, isCell sv = true) (hus : us.length = n * w) (hr : rest.size = (cap - n) * w)
    (H : k (.osl h'.length n) (h' ++ [some (.arr true n w e g)])) :
    VOk B W0 env k (.ok (.slice (some ⟨W.heap.size, 0, none⟩) n cap) (W.drew.alloc (.cells (us.toArray ++ rest) e))) := by
  have R' := R.drew
  let en : Ent := { blk := W.heap.size, base := 0, cap := cap, w := w, nil := false }
  have hfr : env h'.length = none := R.fresh _ (Nat.le_refl _)
  have hle : Env.le env (env.upd h'.length en) := Env.le_upd hfr
  have hnew : (W.drew.alloc (.cells (us.toArray ++ rest) e)).heap[W.heap.size]? = some (.cells (us.toArray ++ rest) e (0, 0)) := heap_alloc_new W.drew _
  refine ⟨env.upd h'.length en, .osl h'.length n, _, hle, R'.alloc (.cells (us.toArray ++ rest) e) en (.arr true n w e g) (fun _ => rfl) ?_, ?_, H⟩
  · refine ⟨rfl, (fun hn => by cases hn), fun _ => ⟨by simp [en], ?_, fun _ => ⟨R.hB, rfl, hn, _, hnew, ?_⟩⟩⟩
    · exact CellsR.of_flat (us := us) hnew (by simp) (VRs.mono hle _ _ hv) hg
    · simp only [Array.size_append, List.size_toArray, hus, hr, en]
      rw [← Nat.add_mul]
      congr 1
      omega
  · simp only [VR]
    exact ⟨en, by simp, .inr ⟨rfl, rfl, hn, hcap, rfl⟩⟩

theorem append_ok {t ty : TypeId} {x y : SV} {xv yv : Value} {k : SV → Heap → Prop} (R : Rel B W0 env h W) (hx : VR env x xv) (hy : VR env y yv) (H : doAppend P t h x y k) :
    VOk B W0 env k ((Builtin.append_ #[t, t] ty #[xv, yv]).run P W) := by
  unfold doAppend at H
  split at H <;> try exact H.elim
  rename_i e hu
  split at H <;> try exact H.elim
  rename_i w b z hw hb hz
  split at H <;> try exact H.elim
  rename_i hc
  simp only [Bool.and_eq_true, decide_eq_true_eq] at hc
  obtain ⟨⟨⟨hok, hzl⟩, hw0⟩, hb0⟩ := hc
  split at H <;> try exact H.elim
  rename_i m w' g' hel
  split at H <;> try exact H.elim
  rename_i hww
  simp only [decide_eq_true_eq] at hww
  subst hww
  obtain ⟨i, hi, hib⟩ : ∃ i, P.info? e = some i ∧ i.bytes = b := by
    unfold bytesOf at hb
    simpa only [Option.map_eq_some_iff] using hb
  have hsz : i.size = w' := by
    unfold szOf at hw
    rw [hi] at hw
    simpa using hw
  obtain ⟨zv, hzv, hzr⟩ : ∃ zv, i.zero = some zv ∧ VR env z zv := by
    unfold zeroSV at hz
    rw [hi] at hz
    simp only [Option.bind_some, Option.map_eq_some_iff] at hz
    obtain ⟨zv, h1, rfl⟩ := hz
    exact ⟨zv, h1, (ofV_ok 30).1 zv⟩
  have hzs : zv.cells.size = w' := by rw [← hzl, (cells_of_VR hok hzr).1.length, Array.length_toList]
  obtain ⟨hg', hyc⟩ := elems_ok R hy hel
  have small : ∀ {q : Nat}, q * b ≤ 140737488355328 → q ≤ 140737488355328 := fun {q} hq => Nat.le_trans (Nat.le_mul_of_pos_right q hb0) hq
  have hmax : (140737488355328 : Nat) ≤ maxLen := by decide
  split at H <;> try exact H.elim
  · -- nil
    obtain ⟨hmb, hk⟩ := ifB_true H
    simp only [decide_eq_true_eq] at hmb
    simp only [VR] at hx
    subst hx
    rcases hyc with ⟨rfl, a, c, rfl⟩ | ⟨ad, c, us, rfl, hul, hus, hone, hcell⟩
    · rw [run_append_zero hu hi none a 0 0 c (Nat.le_refl _)]
      let en : Ent := { blk := 0, base := 0, cap := 0, w := w', nil := true }
      have hfr : env h.length = none := R.fresh _ (Nat.le_refl _)
      have hle : Env.le env (env.upd h.length en) := Env.le_upd hfr
      have hOR0 : OR (env.upd h.length en) W B en (.arr true 0 w' e g') := ⟨rfl, (fun _ => rfl), (fun hn => by cases hn)⟩
      -- a label without a block
      refine ⟨env.upd h.length en, .osl h.length 0, _, hle, ?_, ?_, hk⟩
      · refine ⟨R.base, R.below, fun l o hl => ?_, fun l l' o o' e1 e2 hne h1 hm h2 he1 he2 hn1 hn2 => ?_, fun l hl => ?_⟩
        · rw [hget_append] at hl
          by_cases hln : l = h.length
          · rw [if_pos hln] at hl; cases hl; subst hln
            exact ⟨en, by simp, hOR0⟩
          · rw [if_neg hln] at hl
            obtain ⟨e1, he1, hor⟩ := R.obj l o hl
            exact ⟨e1, hle _ _ he1, hor.kept hle (Nat.le_refl _) fun _ => rfl⟩
        · rw [hget_append] at h1 h2
          by_cases hl1 : l = h.length
          · subst hl1; rw [Env.upd_same] at he1; cases he1; cases hn1
          · by_cases hl2 : l' = h.length
            · subst hl2; rw [Env.upd_same] at he2; cases he2; cases hn2
            · rw [if_neg hl1] at h1; rw [if_neg hl2] at h2
              rw [Env.upd_ne hl1] at he1; rw [Env.upd_ne hl2] at he2
              exact R.sep l l' o o' e1 e2 hne h1 hm h2 he1 he2 hn1 hn2
        · simp only [List.length_append, List.length_singleton] at hl
          rw [Env.upd_ne (by omega)]
          exact R.fresh l (by omega)
      · simp only [VR]
        exact ⟨en, by simp, .inl ⟨rfl, trivial, trivial⟩⟩
    · by_cases hm0 : m = 0
      · subst hm0
        have := run_append_zero (W := W) (ty := ty) hu hi none (some ad) 0 0 c (Nat.le_refl _)
        rw [this]
        have hul0 : us = [] := List.eq_nil_of_length_eq_zero (by simpa using hul)
        let en : Ent := { blk := 0, base := 0, cap := 0, w := w', nil := true }
        have hfr : env h.length = none := R.fresh _ (Nat.le_refl _)
        have hle : Env.le env (env.upd h.length en) := Env.le_upd hfr
        have hOR0 : OR (env.upd h.length en) W B en (.arr true 0 w' e g') := ⟨rfl, (fun _ => rfl), (fun hn => by cases hn)⟩
        refine ⟨env.upd h.length en, .osl h.length 0, _, hle, ?_, ?_, hk⟩
        · refine ⟨R.base, R.below, fun l o hl => ?_, fun l l' o o' e1 e2 hne h1 hm h2 he1 he2 hn1 hn2 => ?_, fun l hl => ?_⟩
          · rw [hget_append] at hl
            by_cases hln : l = h.length
            · rw [if_pos hln] at hl; cases hl; subst hln
              exact ⟨en, by simp, hOR0⟩
            · rw [if_neg hln] at hl
              obtain ⟨e1, he1, hor⟩ := R.obj l o hl
              exact ⟨e1, hle _ _ he1, hor.kept hle (Nat.le_refl _) fun _ => rfl⟩
          · rw [hget_append] at h1 h2
            by_cases hl1 : l = h.length
            · subst hl1; rw [Env.upd_same] at he1; cases he1; cases hn1
            · by_cases hl2 : l' = h.length
              · subst hl2; rw [Env.upd_same] at he2; cases he2; cases hn2
              · rw [if_neg hl1] at h1; rw [if_neg hl2] at h2
                rw [Env.upd_ne hl1] at he1; rw [Env.upd_ne hl2] at he2
                exact R.sep l l' o o' e1 e2 hne h1 hm h2 he1 he2 hn1 hn2
          · simp only [List.length_append, List.length_singleton] at hl
            rw [Env.upd_ne (by omega)]
            exact R.fresh l (by omega)
        · simp only [VR]
          exact ⟨en, by simp, .inl ⟨rfl, trivial, trivial⟩⟩
      · have hm47 := small hmb
        rw [run_append_nil (P := P) W t ty e i zv hu hi hzv ad m c us (by rw [hsz]; exact hul) hcell (by omega) (by omega) (by rw [hib]; omega)]
        refine append_new R (grownCap_ge W m 0 e) (grownCap_le_maxLen W m 0 e (by omega)) hus hg' hul ?_ hk
        rw [size_zeroCells, hzs]
  · -- a row of the call's own
    rename_i l n
    split at H <;> try exact H.elim
    rename_i n0 w0 e0 g hg hne
    split at H <;> try exact H.elim
    rename_i hwe
    simp only [Bool.and_eq_true, decide_eq_true_eq] at hwe
    obtain ⟨rfl, rfl⟩ := hwe
    obtain ⟨hb2, hk⟩ := ifB_true H
    simp only [Bool.and_eq_true, decide_eq_true_eq] at hb2
    obtain ⟨hnn0, hnb⟩ := hb2
    have hnm47 := small hnb
    obtain ⟨en, hen, hor⟩ := R.obj l _ hg
    have hor' := hor
    obtain ⟨hew, hnil, hrest⟩ := hor'
    simp only [VR] at hx
    obtain ⟨en', hen', hx⟩ := hx
    rw [hen] at hen'; cases hen'
    rcases hx with ⟨hnt, rfl, rfl⟩ | ⟨hnf, hbase, hncap, hcm, rfl⟩
    · -- it is nil
      have hn00 : n0 = 0 := hnil hnt
      subst hn00
      have e0' : flat (appG 0 g g') (0 + m) = flat g' m := by rw [flat_appG]; simp [flat]
      have hgg : ∀ i, i < 0 + m → (appG 0 g g' i).length = w0 ∧ ∀ sv ∈ appG 0 g g' i, isCell sv = true := by
        intro i hi
        have : appG 0 g g' i = g' i := by simp [appG]
        rw [this]
        exact hg' i (by omega)
      by_cases hm0 : m = 0
      · subst hm0
        obtain ⟨a, c, rfl⟩ : ∃ a c, yv = .slice a 0 c := by
          rcases hyc with ⟨_, a, c, rfl⟩ | ⟨ad, c, us, rfl, _⟩
          · exact ⟨a, c, rfl⟩
          · exact ⟨some ad, c, rfl⟩
        rw [run_append_zero hu hi none a 0 0 c (Nat.le_refl _)]
        have R2 := R.move hg hen
        have hlen : (h.set l none).length = h.length := by simp
        have hOR0 : OR (env.upd h.length en) W B en (.arr true (0 + 0) w0 e0 (appG 0 g g')) := ⟨hew, (fun _ => rfl), (fun hn => by rw [hnt] at hn; cases hn)⟩
        refine ⟨env.upd h.length en, .osl h.length (0 + 0), _, Env.le_upd (R.fresh _ (Nat.le_refl _)), ?_, ?_, hk⟩
        · -- the object's elements are none
          refine ⟨R2.base, R2.below, fun x y hx => ?_, fun x x' y y' ex ex' hne' hx hm hx' hex hex' h1 h2 => ?_, fun x hx => R2.fresh x (by simpa using hx)⟩
          · rw [hget_append, hlen] at hx
            by_cases hxe : x = h.length
            · rw [if_pos hxe] at hx; cases hx; subst hxe
              exact ⟨en, by simp, hOR0⟩
            · rw [if_neg hxe] at hx
              exact R2.obj x y (by rw [hget_append, hlen, if_neg hxe]; exact hx)
          · rw [hget_append, hlen] at hx hx'
            by_cases hxe : x = h.length
            · subst hxe; rw [Env.upd_same] at hex; cases hex; rw [hnt] at h1; cases h1
            · by_cases hxe' : x' = h.length
              · subst hxe'; rw [Env.upd_same] at hex'; cases hex'; rw [hnt] at h2; cases h2
              · rw [if_neg hxe] at hx; rw [if_neg hxe'] at hx'
                exact R2.sep x x' y y' ex ex' hne' (by rw [hget_append, hlen, if_neg hxe]; exact hx) hm (by rw [hget_append, hlen, if_neg hxe']; exact hx') hex hex' h1 h2
        · simp only [VR]
          exact ⟨en, by simp, .inl ⟨hnt, by simp, trivial⟩⟩
      · rcases hyc with ⟨h0, _⟩ | ⟨ad, c, us, rfl, hul, hus, hone, hcell⟩
        · exact absurd h0 hm0
        rw [run_append_nil (P := P) W t ty e0 i zv hu hi hzv ad m c us (by rw [hsz]; exact hul) hcell (by omega) (by omega) (by rw [hib]; simp at hnb; omega)]
        have R2 := R.kill l
        have hlen : (h.set l none).length = h.length := by simp
        have hk' : k (.osl (h.set l none).length (0 + m)) (h.set l none ++ [some (.arr true (0 + m) w0 e0 (appG 0 g g'))]) := by rw [hlen]; exact hk
        have := append_new (e := e0) (n := 0 + m) (cap := grownCap W m 0 e0) R2 (by have := grownCap_ge W m 0 e0; omega) (grownCap_le_maxLen W m 0 e0 (by omega)) (us := us) (by rw [e0']; exact hus) hgg (by rw [hul]; simp) (rest := Builtin.zeroCells zv.cells (grownCap W m 0 e0 - m)) (by rw [size_zeroCells, hzs]; simp) hk'
        simpa using this
    · -- it has a block
      obtain ⟨hlt, hcells, hown⟩ := hrest hnf
      obtain ⟨hBb, _, hn0cap, vs, hvs, hvsz⟩ := hown rfl
      rw [hbase] at hcells
      have hcn : CellsR env W en.blk 0 n w0 g := fun i hi => hcells i (by omega)
      obtain ⟨olds, hol, hov, hoc⟩ := hcn.flat_ok
      have hgn : ∀ i, i < n → (g i).length = w0 ∧ ∀ sv ∈ g i, isCell sv = true := by
        intro i hi
        obtain ⟨h1, h2⟩ := hcn i hi
        refine ⟨h1, fun sv hs => ?_⟩
        obtain ⟨j, hj⟩ := List.mem_iff_getElem?.1 hs
        exact (h2 j sv hj).1
      have hgg : ∀ i, i < n + m → (appG n g g' i).length = w0 ∧ ∀ sv ∈ appG n g g' i, isCell sv = true := by
        intro i hi
        by_cases hin : i < n
        · have : appG n g g' i = g i := by simp [appG, hin]
          rw [this]; exact hgn i hin
        · have : appG n g g' i = g' (i - n) := by simp [appG, hin]
          rw [this]; exact hg' _ (by omega)
      have hnw : n * w0 ≤ en.cap * w0 := Nat.mul_le_mul_right _ hncap
      have holds : vs.toList.take (n * w0) = olds := by
        apply List.ext_getElem?
        intro x
        rw [List.getElem?_take]
        by_cases hx : x < n * w0
        · rw [if_pos hx]
          have hxl : x < olds.length := by omega
          have := hoc x olds[x] (List.getElem?_eq_getElem hxl)
          rw [add_at, Nat.zero_add, cell_of_row W _ _ vs _ (0, 0) hvs] at this
          rw [List.getElem?_eq_getElem hxl, ← this]
          simp
        · rw [if_neg hx, List.getElem?_eq_none (by omega)]
      have hlen : (h.set l none).length = h.length := by simp
      have hk' : k (.osl (h.set l none).length (n + m)) (h.set l none ++ [some (.arr true (n + m) w0 e0 (appG n g g'))]) := by rw [hlen]; exact hk
      by_cases hm0 : m = 0 ∧ ∃ a c, yv = .slice a 0 c
      · obtain ⟨rfl, a, c, rfl⟩ := hm0
        rw [run_append_zero hu hi (some ⟨en.blk, 0, none⟩) a n en.cap c hncap]
        have R2 := R.move hg hen
        refine ⟨env.upd h.length en, .osl h.length (n + 0), _, Env.le_upd (R.fresh _ (Nat.le_refl _)), ?_, ?_, hk⟩
        · have hl2 : hget (h.set l none ++ [some (.arr true n0 w0 e0 g)]) h.length = some (.arr true n0 w0 e0 g) := by rw [hget_append, hlen, if_pos rfl]
          have := R2.write (W' := W) (o' := .arr true (n + 0) w0 e0 (appG n g g')) hl2 rfl rfl (by simp) hnf rfl rfl rfl rfl (fun _ _ => rfl) (e := en) ⟨hew, (fun hn => by rw [hnf] at hn; cases hn), fun _ => ⟨hlt, ?_, fun _ => ⟨hBb, hbase, hncap, vs, hvs, hvsz⟩⟩⟩
          · rw [List.set_append_right _ _ (by simp)] at this
            simpa using this
          · rw [hbase]
            intro i hi
            have hin : i < n := by omega
            have : appG n g g' i = g i := by simp [appG, hin]
            rw [this]
            obtain ⟨h1, h2⟩ := hcn i (by omega)
            refine ⟨h1, fun j sv hj => ?_⟩
            obtain ⟨hc, v, hv, hr⟩ := h2 j sv hj
            exact ⟨hc, v, hv, VR.mono (Env.le_upd (R.fresh _ (Nat.le_refl _))) _ _ hr⟩
        · simp only [VR]
          exact ⟨en, by simp, .inr ⟨hnf, hbase, hncap, hcm, rfl⟩⟩
      · rcases hyc with h0 | ⟨ad, c, us, rfl, hul, hus, hone, hcell⟩
        · exact absurd h0 hm0
        by_cases hroom : n + m ≤ en.cap
        · -- in place
          have hfit : n * w0 + us.length ≤ vs.size := by
            have := Nat.mul_le_mul_right w0 hroom
            rw [Nat.add_mul] at this
            omega
          rw [run_append_room (P := P) W t ty e0 i hu hi en.blk n en.cap vs hvs ad m c us (by rw [hsz]; exact hul) hcell hone hroom (by rw [hsz]; exact hfit)]
          rw [hsz]
          have R2 := R.move hg hen
          have hle : Env.le env (env.upd h.length en) := Env.le_upd (R.fresh _ (Nat.le_refl _))
          have hl2 : hget (h.set l none ++ [some (.arr true n0 w0 e0 g)]) h.length = some (.arr true n0 w0 e0 g) := by rw [hget_append, hlen, if_pos rfl]
          have hrow := setRow_heap W en.blk vs (vs.toList.take (n * w0) ++ us ++ vs.toList.drop (n * w0 + us.length)).toArray e0 (0, 0) hvs
          refine ⟨env.upd h.length en, .osl h.length (n + m), _, hle, ?_, ?_, hk⟩
          · have := R2.write (W' := W.setRow en.blk (vs.toList.take (n * w0) ++ us ++ vs.toList.drop (n * w0 + us.length)).toArray) (o' := .arr true (n + m) w0 e0 (appG n g g')) hl2 rfl rfl (by simp) hnf (setRow_os _ _ _) (setRow_tape _ _ _) (setRow_output _ _ _) (setRow_size _ _ _) (fun k hk => setRow_other _ _ _ _ hk) (e := en)
              ⟨hew, (fun hn => by rw [hnf] at hn; cases hn), fun _ => ⟨by rw [setRow_size]; exact hlt, ?_, fun _ => ⟨hBb, hbase, hroom, _, hrow, ?_⟩⟩⟩
            · rw [List.set_append_right _ _ (by simp)] at this
              simpa using this
            · rw [hbase]
              refine CellsR.of_flat (us := olds ++ us) hrow ?_ ?_ hgg
              · rw [holds, List.toList_toArray, List.take_append_of_le_length (by simp), List.take_of_length_le (by simp)]
              · rw [flat_appG]
                exact (VRs.mono hle _ _ hov).append (VRs.mono hle _ _ hus)
            · rw [← hvsz]
              simp
              omega
          · simp only [VR]
            exact ⟨en, by simp, .inr ⟨hnf, hbase, hroom, hcm, rfl⟩⟩
        · -- a new block
          rw [run_append_grow (P := P) W t ty e0 i zv hu hi hzv ⟨en.blk, 0, none⟩ n en.cap olds (by rw [hsz]; exact hol) hoc ad m c us (by rw [hsz]; exact hul) hcell (by omega) (by omega) (growslice_fits (by omega) (by rw [hib]; exact hnb))]
          have R2 := R.kill l
          have := append_new (e := e0) (n := n + m) (cap := grownCap W (n + m) en.cap e0) R2 (grownCap_ge W _ _ e0) (grownCap_le_maxLen W _ _ e0 (by omega)) (us := olds ++ us) (by rw [flat_appG]; exact hov.append hus) hgg (by rw [List.length_append, hol, hul, Nat.add_mul]) (rest := Builtin.zeroCells zv.cells (grownCap W (n + m) en.cap e0 - (n + m))) (by rw [size_zeroCells, hzs]) hk'
          simpa using this
end
end Go.Sh

/-
  SHAD: slicing, maps.
-/
namespace Go.Sh
open Go.RowKit
set_option linter.unusedVariables false
set_option linter.unusedSimpArgs false

section
variable {P : Program} {B : Nat} {W0 W : World} {env : Env} {h : Heap}

/-! ### slicing -/

/-- A bound: what it is where it is left out. -/
def bnd (o : Option SV) (d : Int) : Option Int := match o with
  | none => some d
  | some (.int _ i) => some i
  | _ => none

def OptR (env : Env) : Option SV → Option Value → Prop
  | none, none => True
  | some s, some v => VR env s v
  | _, _ => False

theorem bnd_some {o : Option SV} {ov : Option Value} {d i : Int} (hr : OptR env o ov) (hb : bnd o d = some i) : (o = none ∧ ov = none ∧ i = d) ∨ ∃ k, ov = some (.int k i) := by
  cases o with
  | none => cases ov with
    | none => simp [bnd] at hb; exact .inl ⟨rfl, rfl, hb.symm⟩
    | some v => exact hr.elim
  | some s => cases ov with
    | none => exact hr.elim
    | some v =>
      cases s <;> simp [bnd] at hb
      subst hb
      simp only [OptR, VR] at hr
      exact .inr ⟨_, by rw [hr]⟩

theorem run_bounds {isS : Bool} {n cap : Nat} {lo hi mx : Option SV} {lov hiv mxv : Option Value} {L H M : Int} (rl : OptR env lo lov) (rh : OptR env hi hiv) (rm : OptR env mx mxv)
    (hl : bnd lo 0 = some L) (hh : bnd hi (n : Int) = some H) (hm : bnd mx (cap : Int) = some M) (h0 : 0 ≤ L) (h1 : L ≤ H) (h2 : H ≤ M) (h3 : M ≤ cap) (hmh : mx.isSome = true → hi.isSome = true) :
    (Instr.sliceBounds isS n cap lov hiv mxv).run P W = .ok (L.toNat, H.toNat, M.toNat) W := by
  have sb : ∀ {k : IntKind} {i : Int} {y : Nat} {c : BoundsCode}, 0 ≤ i → i ≤ y → (Instr.sliceBound (.int k i) y c).run P W = .ok i.toNat W := fun h0 h1 => run_sliceBound W _ _ _ _ h0 h1
  have hM : ((M.toNat : Nat) : Int) = M := by omega
  have hH : ((H.toNat : Nat) : Int) = H := by omega
  rcases bnd_some rm hm with ⟨rfl, rfl, rfl⟩ | ⟨km, rfl⟩
  · rcases bnd_some rh hh with ⟨rfl, rfl, rfl⟩ | ⟨kh, rfl⟩
    · rcases bnd_some rl hl with ⟨rfl, rfl, rfl⟩ | ⟨kl, rfl⟩
      · simp [Instr.sliceBounds]
      · simp [Instr.sliceBounds, sb h0 h1]
    · rcases bnd_some rl hl with ⟨rfl, rfl, rfl⟩ | ⟨kl, rfl⟩
      · simp [Instr.sliceBounds, sb (Int.le_trans h0 h1) h2]
      · simp [Instr.sliceBounds, sb (Int.le_trans h0 h1) h2, sb h0 (show L ≤ ((H.toNat : Nat) : Int) by omega)]
  · rcases bnd_some rh hh with ⟨rfl, rfl, rfl⟩ | ⟨kh, rfl⟩
    · cases mx with
      | none => exact rm.elim
      | some m => simp at hmh
    · rcases bnd_some rl hl with ⟨rfl, rfl, rfl⟩ | ⟨kl, rfl⟩
      · simp [Instr.sliceBounds, sb (show 0 ≤ M by omega) h3, sb (Int.le_trans h0 h1) (show H ≤ ((M.toNat : Nat) : Int) by omega)]
      · simp [Instr.sliceBounds, sb (show 0 ≤ M by omega) h3, sb (Int.le_trans h0 h1) (show H ≤ ((M.toNat : Nat) : Int) by omega), sb h0 (show L ≤ ((H.toNat : Nat) : Int) by omega)]

def doSlice (P : Program) (t : TypeId) (h : Heap) (x : SV) (lo hi mx : Option SV) (k : SV → Prop) : Prop :=
  match x with
  | .str s => match P.underlying t, mx, bnd lo 0, bnd hi (s.size : Int) with
    | some .string, none, some L, some H => ifB (decide (0 ≤ L) && decide (L ≤ H) && decide (H ≤ (s.size : Int))) (k (.str (s.extract L.toNat H.toNat))) False
    | _, _, _, _ => False
  | .osl l n => match P.underlying t, bnd lo 0, bnd hi (n : Int), hget h l with
    | some (.slice e), some L, some H, some (.arr _ _ w _ _) => match szOf P e with
      | some s => match decide (s = w) with
        | true => match mx with
          | none => ifB (decide (0 ≤ L) && decide (L ≤ H) && decide (H ≤ (n : Int))) (match lo with | none => k (.osl l H.toNat) | some _ => k (.sl l L.toNat (H.toNat - L.toNat))) False
          | some m => match bnd (some m) 0 with
            | some M => ifB (hi.isSome && decide (0 ≤ L) && decide (L ≤ H) && decide (H ≤ M) && decide (M ≤ (n : Int))) (k (.sl l L.toNat (H.toNat - L.toNat))) False
            | none => False
        | false => False
      | none => False
    | _, _, _, _ => False
  | .sl l o n => match P.underlying t, bnd lo 0, bnd hi (n : Int), hget h l with
    | some (.slice e), some L, some H, some (.arr _ _ w _ _) => match szOf P e with
      | some s => match decide (s = w) with
        | true => match mx with
          | none => ifB (decide (0 ≤ L) && decide (L ≤ H) && decide (H ≤ (n : Int))) (k (.sl l (o + L.toNat) (H.toNat - L.toNat))) False
          | some m => match bnd (some m) 0 with
            | some M => ifB (hi.isSome && decide (0 ≤ L) && decide (L ≤ H) && decide (H ≤ M) && decide (M ≤ (n : Int))) (k (.sl l (o + L.toNat) (H.toNat - L.toNat))) False
            | none => False
        | false => False
      | none => False
    | _, _, _, _ => False
  | .ptr l i j => match P.underlying t, hget h l, mx, bnd lo 0 with
    | some (.array n e), some (.arr _ _ w _ _), none, some L => match szOf P e, bnd hi (n : Int) with
      | some s, some H => match decide (s = w) && decide (j = 0) with
        | true => ifB (decide (0 ≤ L) && decide (L ≤ H) && decide (H ≤ (n : Int))) (k (.sl l (i + L.toNat) (H.toNat - L.toNat))) False
        | false => False
      | _, _ => False
    | _, _, _, _ => False
  | _ => False

theorem slice_fin {a : Option Addr} {blk base o w s len c M L H : Nat} (hsw : s = w) (ha : len = 0 ∨ a = some ⟨blk, base + o * w, none⟩) (h1 : L ≤ H) (h2 : H ≤ len) (h3 : H ≤ M) :
    H - L = 0 ∨ (if M = L then a else a.map (·.add (L * s))) = some ⟨blk, base + (o + L) * w, none⟩ := by
  by_cases hz : H - L = 0
  · exact .inl hz
  · right
    rcases ha with h0 | rfl
    · omega
    · rw [if_neg (by omega)]
      simp only [Option.map_some, add_at, hsw, Nat.add_mul]
      congr 2
      omega

theorem sliceAt_ok {t : TypeId} {x : SV} {xv : Value} {lo hi mx : Option SV} {lov hiv mxv : Option Value} {k : SV → Heap → Prop} (R : Rel B W0 env h W) (hx : VR env x xv) (rl : OptR env lo lov) (rh : OptR env hi hiv) (rm : OptR env mx mxv)
    (H : doSlice P t h x lo hi mx fun v => k v h) : VOk B W0 env k ((Instr.sliceAt t xv lov hiv mxv).run P W) := by
  have fin : ∀ {v : SV} {vv : Value}, k v h → (Instr.sliceAt t xv lov hiv mxv).run P W = .ok vv W → VR env v vv → VOk B W0 env k ((Instr.sliceAt t xv lov hiv mxv).run P W) := by
    intro v vv hk hrun hr
    rw [hrun]
    exact ⟨env, _, h, Env.le_refl _, R, hr, hk⟩
  -- a slice of a slice
  have sli : ∀ {l o n w s : Nat} {e : TypeId} {a : Option Addr} {c : Nat} {L Hh M : Int} {en : Ent}, P.underlying t = some (.slice e) → szOf P e = some s → s = w → xv = .slice a n c → n ≤ c → env l = some en → en.w = w →
      (n = 0 ∨ (en.nil = false ∧ a = some ⟨en.blk, en.base + o * en.w, none⟩)) → bnd lo 0 = some L → bnd hi (n : Int) = some Hh → bnd mx (c : Int) = some M → 0 ≤ L → L ≤ Hh → Hh ≤ n → Hh ≤ M → M ≤ c → (mx.isSome = true → hi.isSome = true) →
      k (.sl l (o + L.toNat) (Hh.toNat - L.toNat)) h → VOk B W0 env k ((Instr.sliceAt t xv lov hiv mxv).run P W) := by
    intro l o n w s e a c L Hh M en hu hs hsw hxv hnc hen hw hadr hl hh hm h0 h1 h2 h3 h4 hmh hk
    have hrun := run_bounds (P := P) (W := W) (isS := true) rl rh rm hl hh hm h0 h1 h3 h4 hmh
    refine fin (vv := .slice (if M.toNat = L.toNat then a else a.map (·.add (L.toNat * s))) (Hh.toNat - L.toNat) (M.toNat - L.toNat)) hk ?_ ?_
    · subst hxv
      simp [Instr.sliceAt, Instr.slice, run_underlying hu, hrun, run_sizeOf hs]
    · simp only [VR]
      refine ⟨en, _, _, hen, rfl, by omega, ?_⟩
      rcases hadr with hn0 | ⟨hn, ha⟩
      · exact .inl (by omega)
      · have := slice_fin (s := s) (w := w) (blk := en.blk) (base := en.base) (o := o) (len := n) (M := M.toNat) (L := L.toNat) (H := Hh.toNat) (a := a) (c := c) hsw (.inr (by rw [ha, hw])) (by omega) (by omega) (by omega)
        rw [hw]
        exact this.imp id fun q => ⟨hn, q⟩
  unfold doSlice at H
  split at H <;> try exact H.elim
  · -- a string
    rename_i s
    split at H <;> try exact H.elim
    rename_i L Hh hu hl hh
    obtain ⟨hb, hk⟩ := ifB_true H
    simp only [Bool.and_eq_true, decide_eq_true_eq] at hb
    obtain ⟨⟨h0, h1⟩, h2⟩ := hb
    simp only [VR] at hx
    subst hx
    have hm : mxv = none := by cases mxv with | none => rfl | some v => exact rm.elim
    subst hm
    have hrun := run_bounds (P := P) (W := W) (isS := false) (cap := s.size) (mx := none) (mxv := none) rl rh trivial hl hh (by rfl) h0 h1 h2 (Int.le_refl _) (by simp)
    refine fin hk (vv := .string (s.extract L.toNat Hh.toNat)) ?_ VR_str
    simp [Instr.sliceAt, Instr.slice, run_underlying hu, hrun]
  · -- a row of the call's own
    rename_i l n
    split at H <;> try exact H.elim
    rename_i e L Hh own n0 w tt g hu hl hh hg
    split at H <;> try exact H.elim
    rename_i s hs
    split at H <;> try exact H.elim
    rename_i hsw
    simp only [decide_eq_true_eq] at hsw
    obtain ⟨en, hen, hor⟩ := R.obj l _ hg
    have hw : en.w = w := hor.1
    have hx' := hx
    simp only [VR] at hx
    obtain ⟨en', hen', hx⟩ := hx
    rw [hen] at hen'; cases hen'
    obtain ⟨a, c, hxv, hnc, hadr⟩ : ∃ a c, xv = .slice a n c ∧ n ≤ c ∧ (n = 0 ∨ (en.nil = false ∧ a = some ⟨en.blk, en.base + 0 * en.w, none⟩)) := by
      rcases hx with ⟨_, rfl, rfl⟩ | ⟨hn, hb0, hnc, _, rfl⟩
      · exact ⟨none, 0, rfl, Nat.le_refl _, .inl rfl⟩
      · exact ⟨_, _, rfl, hnc, .inr ⟨hn, by rw [hb0]; simp⟩⟩
    split at H
    · obtain ⟨hb, hk⟩ := ifB_true H
      simp only [Bool.and_eq_true, decide_eq_true_eq] at hb
      obtain ⟨⟨h0, h1⟩, h2⟩ := hb
      split at hk
      · -- it begins where the row begins
        simp only [bnd, Option.some.injEq] at hl
        subst hl
        have hlv : lov = none := by cases lov with | none => rfl | some v => exact rl.elim
        subst hlv
        have hmv : mxv = none := by cases mxv with | none => rfl | some v => exact rm.elim
        subst hmv
        have hrun := run_bounds (P := P) (W := W) (isS := true) (cap := c) (lo := none) (lov := none) (mx := none) (mxv := none) (L := 0) (M := c) trivial rh trivial rfl hh rfl h0 h1 (by omega) (Int.le_refl _) (by simp)
        refine fin hk (vv := .slice a Hh.toNat c) ?_ ?_
        · subst hxv
          simp [Instr.sliceAt, Instr.slice, run_underlying hu, hrun, run_sizeOf hs]
          cases a with
          | none => simp
          | some ad => simp [Addr.add]
        · simp only [VR]
          refine ⟨en, hen, ?_⟩
          rcases hx with ⟨hn, rfl, rfl⟩ | ⟨hn, hb0, hnc', hcm, hv⟩
          · simp only [Value.slice.injEq] at hxv
            obtain ⟨rfl, _, rfl⟩ := hxv
            have : Hh.toNat = 0 := by omega
            rw [this]
            exact .inl ⟨hn, rfl, rfl⟩
          · rw [hv] at hxv
            simp only [Value.slice.injEq] at hxv
            obtain ⟨rfl, _, rfl⟩ := hxv
            exact .inr ⟨hn, hb0, by omega, hcm, rfl⟩
      · have hmv : mxv = none := by cases mxv with | none => rfl | some v => exact rm.elim
        subst hmv
        refine sli (o := 0) (M := (c : Int)) hu hs hsw hxv hnc hen hw hadr hl hh rfl h0 h1 h2 (by omega) (Int.le_refl _) (by simp) ?_
        simpa using hk
    · rename_i m
      split at H <;> try exact H.elim
      rename_i M hm
      obtain ⟨hb, hk⟩ := ifB_true H
      simp only [Bool.and_eq_true, decide_eq_true_eq] at hb
      obtain ⟨⟨⟨⟨hhi, h0⟩, h1⟩, h2⟩, h3⟩ := hb
      have hm' : bnd (some m) (c : Int) = some M := by cases m <;> simp [bnd] at hm ⊢; exact hm
      refine sli (o := 0) (M := M) hu hs hsw hxv hnc hen hw hadr hl hh hm' h0 h1 (by omega) h2 (by omega) (fun _ => hhi) ?_
      simpa using hk
  · -- a view
    rename_i l o n
    split at H <;> try exact H.elim
    rename_i e L Hh own n0 w tt g hu hl hh hg
    split at H <;> try exact H.elim
    rename_i s hs
    split at H <;> try exact H.elim
    rename_i hsw
    simp only [decide_eq_true_eq] at hsw
    obtain ⟨en, hen, hor⟩ := R.obj l _ hg
    have hw : en.w = w := hor.1
    simp only [VR] at hx
    obtain ⟨en', a, c, hen', hxv, hnc, hadr⟩ := hx
    rw [hen] at hen'; cases hen'
    split at H
    · obtain ⟨hb, hk⟩ := ifB_true H
      simp only [Bool.and_eq_true, decide_eq_true_eq] at hb
      obtain ⟨⟨h0, h1⟩, h2⟩ := hb
      have hmv : mxv = none := by cases mxv with | none => rfl | some v => exact rm.elim
      subst hmv
      exact sli (M := (c : Int)) hu hs hsw hxv hnc hen hw hadr hl hh rfl h0 h1 h2 (by omega) (Int.le_refl _) (by simp) hk
    · rename_i m
      split at H <;> try exact H.elim
      rename_i M hm
      obtain ⟨hb, hk⟩ := ifB_true H
      simp only [Bool.and_eq_true, decide_eq_true_eq] at hb
      obtain ⟨⟨⟨⟨hhi, h0⟩, h1⟩, h2⟩, h3⟩ := hb
      have hm' : bnd (some m) (c : Int) = some M := by cases m <;> simp [bnd] at hm ⊢; exact hm
      exact sli (M := M) hu hs hsw hxv hnc hen hw hadr hl hh hm' h0 h1 (by omega) h2 (by omega) (fun _ => hhi) hk
  · -- an array
    rename_i l i j
    split at H <;> try exact H.elim
    rename_i n e own n0 w tt g L hu hg hl
    split at H <;> try exact H.elim
    rename_i s Hh hs hh
    split at H <;> try exact H.elim
    rename_i hc
    simp only [Bool.and_eq_true, decide_eq_true_eq] at hc
    obtain ⟨hsw, rfl⟩ := hc
    obtain ⟨hb, hk⟩ := ifB_true H
    simp only [Bool.and_eq_true, decide_eq_true_eq] at hb
    obtain ⟨⟨h0, h1⟩, h2⟩ := hb
    obtain ⟨en, hen, hor⟩ := R.obj l _ hg
    have hw : en.w = w := hor.1
    simp only [VR] at hx
    obtain ⟨en', hen', hn, hxv⟩ := hx
    rw [hen] at hen'; cases hen'
    have hmv : mxv = none := by cases mxv with | none => rfl | some v => exact rm.elim
    subst hmv
    have hrun := run_bounds (P := P) (W := W) (isS := false) (cap := n) (mx := none) (mxv := none) (M := n) rl rh trivial hl hh rfl h0 h1 h2 (Int.le_refl _) (by simp)
    refine fin hk (vv := .slice (some (if n = L.toNat then ⟨en.blk, en.base + (i * en.w + 0), none⟩ else (⟨en.blk, en.base + (i * en.w + 0), none⟩ : Addr).add (L.toNat * s))) (Hh.toNat - L.toNat) (n - L.toNat)) ?_ ?_
    · subst hxv
      simp [Instr.sliceAt, Instr.sureAddr, run_underlying hu, hrun, run_sizeOf hs]
    · simp only [VR]
      refine ⟨en, _, _, hen, rfl, by omega, ?_⟩
      by_cases hz : Hh.toNat - L.toNat = 0
      · exact .inl hz
      · right
        refine ⟨hn, ?_⟩
        rw [if_neg (by omega), add_at, hw, hsw, Nat.add_mul]
        congr 2
        omega
end
end Go.Sh

/-
  SHAD: maps.
-/
namespace Go.Sh
open Go.RowKit
set_option linter.unusedVariables false
set_option linter.unusedSimpArgs false

section
variable {P : Program} {B : Nat} {W0 W : World} {env : Env} {h : Heap}

/-- May this be a key of this type? -/
def keyOk (P : Program) (t : TypeId) (x : SV) : Bool :=
  match P.underlying t, x with
  | some (.int _), .int _ _ => true
  | some .string, .str _ => true
  | some .bool, .bool _ => true
  | some (.struct fs), .agg cs => fs.toList.all fun f => match P.underlying f.type, partSV P f.type cs f.offset with
    | some (.int _), some (.int _ _) => true
    | some .string, some (.str _) => true
    | _, _ => false
  | _, _ => false

theorem checkKey_ok' {t : TypeId} {x : SV} {xv : Value} {emp : Bool} (n : Nat) (hx : VR env x xv) (H : keyOk P t x = true) : (Instr.checkKey emp (n + 2) t xv).run P W = .ok () W := by
  unfold keyOk at H
  split at H <;> try cases H
  · rename_i k k' m hu
    simp only [VR] at hx; subst hx
    simp [Instr.checkKey, run_underlying hu]
  · rename_i s hu
    simp only [VR] at hx; subst hx
    simp [Instr.checkKey, run_underlying hu]
  · rename_i b hu
    simp only [VR] at hx; subst hx
    simp [Instr.checkKey, run_underlying hu]
  · rename_i fs cs hu
    simp only [VR] at hx
    obtain ⟨a, rfl, ha⟩ := hx
    have inner : ∀ f ∈ fs.toList, ∃ u, (part f.type a f.offset).run P W = .ok u W ∧ (Instr.checkKey emp (n + 1) f.type u).run P W = .ok () W := by
      intro f hf
      simp only [List.all_eq_true] at H
      have hf := H f hf
      split at hf <;> try cases hf
      · rename_i k k' m hu' hp
        obtain ⟨u, hrun, hr⟩ := part_ok (P := P) (W := W) ha hp
        simp only [VR] at hr; subst hr
        exact ⟨_, hrun, by simp [Instr.checkKey, run_underlying hu']⟩
      · rename_i s hu' hp
        obtain ⟨u, hrun, hr⟩ := part_ok (P := P) (W := W) ha hp
        simp only [VR] at hr; subst hr
        exact ⟨_, hrun, by simp [Instr.checkKey, run_underlying hu']⟩
    unfold Instr.checkKey
    simp only [Sem.run_bind, run_underlying hu, Result.andThen_ok]
    rw [← Array.forIn_toList]
    revert inner
    clear H
    generalize Instr.checkKey emp (n + 1) = ck
    generalize fs.toList = l
    intro inner
    induction l with
    | nil => simp
    | cons f l ih =>
      have ih' := ih (fun g hg => inner g (by simp [hg]))
      obtain ⟨u, h1, h2⟩ := inner f (by simp)
      by_cases hn : f.name = "_"
      · simpa [hn] using ih'
      · simp only [List.forIn_cons, Sem.run_bind, hn, ne_eq, not_false_eq_true, if_true, h1, Result.andThen_ok, h2, Sem.run_pure]
        simpa [hn] using ih'
theorem checkKey_ok {t : TypeId} {x : SV} {xv : Value} {emp : Bool} (hx : VR env x xv) (H : keyOk P t x = true) : (Instr.checkKey emp 10000 t xv).run P W = .ok () W := checkKey_ok' 9998 hx H

/-! ### the entry of a key -/

def findEntry (P : Program) (t : TypeId) (key : SV) (es : List (SV × SV)) (some_ : SV → Prop) (none_ : Prop) : Prop :=
  match es with
  | [] => none_
  | (k, v) :: r => match eqSV P 9999 t key k with
    | some b => ifB b (some_ v) (findEntry P t key r some_ none_)
    | none => False

/-- The machine's comparison of two keys at once. -/
theorem eqSV_now {n : Nat} {t : TypeId} {d : TypeDesc} {x y : SV} {xv yv : Value} {r : Bool} (hu : P.underlying t = some d) (hx : VR env x xv) (hy : VR env y yv) (H : eqSV P (n + 1) t x y = some r) :
    Instr.sameNow d xv yv = some r ∨ Instr.sameNow d xv yv = none := by
  unfold eqSV at H
  rw [hu] at H
  cases d <;> dsimp only at H <;> try (exact absurd H (by simp))
  case bool =>
    cases x <;> cases y <;> simp at H
    simp only [VR] at hx hy; subst hx; subst hy; subst H
    exact .inl rfl
  case int kk =>
    cases x <;> cases y <;> simp at H
    split at H <;> try (simp at H; done)
    rename_i hk
    simp only [decide_eq_true_eq] at hk
    simp only [VR] at hx hy; subst hx; subst hy; subst hk
    simp only [Option.some.injEq] at H
    subst H
    exact .inl (by simp [Instr.sameNow])
  case string =>
    cases x <;> cases y <;> simp at H
    simp only [VR] at hx hy; subst hx; subst hy; subst H
    exact .inl rfl
  case struct fs =>
    cases x <;> cases y <;> simp at H
    simp only [VR] at hx hy
    obtain ⟨a, rfl, _⟩ := hx
    obtain ⟨b, rfl, _⟩ := hy
    exact .inr rfl

/-- What a search finds. -/
inductive Found (env : Env) (S : SV → Prop) (N : Prop) : Option (Nat × Value) → Prop
  | yes (i : Nat) (v : SV) (mv : Value) (hr : VR env v mv) (hs : S v) : Found env S N (some (i, mv))
  | no (hn : N) : Found env S N none

theorem findAsking_ok {t : TypeId} {key : SV} {kv : Value} {S : SV → Prop} {N : Prop} (hk : VR env key kv) : ∀ (es : List (SV × SV)) (ms : List MapEntry) (i : Nat), ER env es ms → findEntry P t key es S N →
    ∃ r, (Instr.findAsking t kv ms i).run P W = .ok r W ∧ Found env S N r
  | [], [], i, _, H => ⟨none, by simp [Instr.findAsking], .no H⟩
  | (k, v) :: es, m :: ms, i, ⟨h1, h2, h3⟩, H => by
    unfold findEntry at H
    split at H <;> try exact H.elim
    rename_i b hb
    have he := (eq_ok (P := P) (W := W) 9999).1 _ _ _ _ _ _ hb hk h1 10000 (by omega)
    cases b with
    | true => exact ⟨some (i, m.val), by simp [Instr.findAsking, Op.equal, Op.maxDepth, he], .yes i v _ h2 H⟩
    | false =>
      obtain ⟨r, hrun, hf⟩ := findAsking_ok hk es ms (i + 1) h3 H
      exact ⟨r, by simp [Instr.findAsking, Op.equal, Op.maxDepth, he, hrun], hf⟩
  | [], _ :: _, _, h, _ => h.elim
  | _ :: _, [], _, h, _ => h.elim

theorem findNow_ok {t : TypeId} {d : TypeDesc} (hu : P.underlying t = some d) {key : SV} {kv : Value} {S : SV → Prop} {N : Prop} (hk : VR env key kv) : ∀ (es : List (SV × SV)) (ms : List MapEntry) (i : Nat), ER env es ms → findEntry P t key es S N →
    (∃ r, Instr.findNow d kv ms i = some r ∧ Found env S N r) ∨ Instr.findNow d kv ms i = none
  | [], [], i, _, H => .inl ⟨none, rfl, .no H⟩
  | (k, v) :: es, m :: ms, i, ⟨h1, h2, h3⟩, H => by
    unfold findEntry at H
    split at H <;> try exact H.elim
    rename_i b hb
    rcases eqSV_now (n := 9998) hu hk h1 hb with he | he
    · cases b with
      | true => exact .inl ⟨some (i, m.val), by simp [Instr.findNow, he], .yes i v _ h2 H⟩
      | false =>
        rcases findNow_ok hu hk es ms (i + 1) h3 H with ⟨r, hr, hf⟩ | hn
        · exact .inl ⟨r, by simp [Instr.findNow, he, hr], hf⟩
        · exact .inr (by simp [Instr.findNow, he, hn])
    · exact .inr (by simp [Instr.findNow, he])
  | [], _ :: _, _, h, _ => h.elim
  | _ :: _, [], _, h, _ => h.elim

theorem findKey_ok {t : TypeId} {d : TypeDesc} (hu : P.underlying t = some d) {key : SV} {kv : Value} {S : SV → Prop} {N : Prop} (hk : VR env key kv) {es : List (SV × SV)} {ms : List MapEntry} (he : ER env es ms) (H : findEntry P t key es S N) :
    ∃ r, (Instr.findKey t kv ms).run P W = .ok r W ∧ Found env S N r := by
  simp only [Instr.findKey, Sem.run_bind, run_underlying hu, Result.andThen_ok]
  rcases findNow_ok hu hk es ms 0 he H with ⟨r, hr, hf⟩ | hn
  · exact ⟨r, by simp [hr], hf⟩
  · obtain ⟨r, hrun, hf⟩ := findAsking_ok (W := W) hk es ms 0 he H
    exact ⟨r, by simp [hn, hrun], hf⟩

def lookBody (P : Program) (kt e : TypeId) (key : SV) (commaOk : Bool) (es : List (SV × SV)) (k : SV → Prop) : Prop :=
  match keyOk P kt key with
  | true => findEntry P kt key es (fun v => match commaOk with | true => k (.tup [v, .bool true]) | false => k v)
    (match zeroSV P e with | some z => (match commaOk with | true => k (.tup [z, .bool false]) | false => k z) | none => False)
  | false => False

def exc1 (P : Program) (t : TypeId) (key : SV) (b : Bool) : List (SV × SV) → Prop
  | [] => True
  | (k', _) :: r => (match eqSV P 9999 t key k' with | some b' => (b = true → b' = true → False) | none => False) ∧ exc1 P t key b r
/-- No two entries have this key. -/
def exclP (P : Program) (t : TypeId) (key : SV) : List (SV × SV) → Prop
  | [] => True
  | (k', _) :: r => (match eqSV P 9999 t key k' with | some b => exc1 P t key b r | none => False) ∧ exclP P t key r

def doLookup (P : Program) (t : TypeId) (h : Heap) (x key : SV) (commaOk : Bool) (k : SV → Prop) : Prop :=
  match P.underlying t with
  | some (.map kt e) => match x with
    | .map l => match hget h l with
      | some (.mp es) => lookBody P kt e key commaOk es k
      | some (.tbl _ es) => exclP P kt key es ∧ lookBody P kt e key commaOk es k
      | _ => False
    | _ => False
  | _ => False

theorem exc1_get {t : TypeId} {key : SV} {b : Bool} : ∀ {es : List (SV × SV)}, exc1 P t key b es → ∀ e ∈ es, ∃ b', eqSV P 9999 t key e.1 = some b' ∧ (b = true → b' = true → False)
  | [], _, e, he => by cases he
  | (k', v) :: r, H, e, he => by
    obtain ⟨h1, h2⟩ := H
    rcases List.mem_cons.1 he with rfl | he
    · split at h1
      · rename_i b' hb; exact ⟨b', hb, h1⟩
      · exact h1.elim
    · exact exc1_get h2 e he

/-- What the sequence of tests comes to, of whatever order. -/
theorem findEntry_all {t : TypeId} {key : SV} {S : SV → Prop} {N : Prop} : ∀ {es : List (SV × SV)}, exclP P t key es → findEntry P t key es S N →
    (∀ e ∈ es, ∃ b, eqSV P 9999 t key e.1 = some b ∧ (b = true → S e.2)) ∧ ((∀ e ∈ es, eqSV P 9999 t key e.1 = some false) → N)
  | [], _, H => ⟨(fun _ h => by cases h), fun _ => H⟩
  | (k', v) :: r, hx, H => by
    obtain ⟨h1, h2⟩ := hx
    unfold findEntry at H
    split at H <;> try exact H.elim
    rename_i b hb
    rw [hb] at h1
    dsimp only at h1
    cases b with
    | true =>
      refine ⟨fun e he => ?_, fun hall => ?_⟩
      · rcases List.mem_cons.1 he with rfl | he
        · exact ⟨true, hb, fun _ => H⟩
        · obtain ⟨b', hb', hn⟩ := exc1_get h1 e he
          exact ⟨b', hb', fun h => (hn rfl h).elim⟩
      · have := hall (k', v) (by simp)
        rw [hb] at this; cases this
    | false =>
      obtain ⟨h3, h4⟩ := findEntry_all h2 H
      refine ⟨fun e he => ?_, fun hall => h4 fun e he => hall e (by simp [he])⟩
      rcases List.mem_cons.1 he with rfl | he
      · exact ⟨false, hb, fun h => by cases h⟩
      · exact h3 e he

theorem findEntry_of_all {t : TypeId} {key : SV} {S : SV → Prop} {N : Prop} : ∀ {es : List (SV × SV)}, (∀ e ∈ es, ∃ b, eqSV P 9999 t key e.1 = some b ∧ (b = true → S e.2)) → ((∀ e ∈ es, eqSV P 9999 t key e.1 = some false) → N) → findEntry P t key es S N
  | [], _, h => h fun _ h => by cases h
  | (k', v) :: r, h1, h2 => by
    obtain ⟨b, hb, hs⟩ := h1 (k', v) (by simp)
    unfold findEntry
    rw [hb]
    dsimp only
    cases b with
    | true => exact hs rfl
    | false =>
      refine findEntry_of_all (fun e he => h1 e (by simp [he])) fun hall => h2 fun e he => ?_
      rcases List.mem_cons.1 he with rfl | he
      · exact hb
      · exact hall e he

theorem look_ok {kt e t : TypeId} {key : SV} {kv : Value} {commaOk : Bool} {k : SV → Heap → Prop} {es : List (SV × SV)} {en : Ent} {ms : Array MapEntry} {c : Nat} (R : Rel B W0 env h W) (hu : P.underlying t = some (.map kt e)) (hm : W.heap[en.blk]? = some (.map ms c)) (hr : ER env es ms.toList) (hk : VR env key kv)
    (hkey : keyOk P kt key = true) (H : findEntry P kt key es (fun v => match commaOk with | true => k (.tup [v, .bool true]) h | false => k v h)
      (match zeroSV P e with | some z => (match commaOk with | true => k (.tup [z, .bool false]) h | false => k z h) | none => False)) :
    VOk B W0 env k ((Instr.lookup t (.map (some en.blk)) kv commaOk).run P W) := by
  have hgo : (getObj en.blk).run P W = .ok (.map ms c) W := by simp [getObj, Sem.run, hm]
  have hck := checkKey_ok (W := W) (emp := ms.isEmpty) hk hkey
  obtain ⟨d, hd⟩ : ∃ d, P.underlying kt = some d := by
    unfold keyOk at hkey
    cases hq : P.underlying kt with
    | none => simp [hq] at hkey
    | some d => exact ⟨d, rfl⟩
  obtain ⟨r, hrun, hf⟩ := findKey_ok (W := W) hd hk hr H
  cases hf with
  | yes i v mv hv hs =>
    have : (Instr.lookup t (.map (some en.blk)) kv commaOk).run P W = .ok (if commaOk then .tuple #[mv, .bool true] else mv) W := by
      simp only [Instr.lookup, Sem.run_bind, run_underlying hu, Result.andThen_ok, hgo, Sem.run_pure, hck, hrun]
    rw [this]
    cases commaOk with
    | true => exact ⟨env, _, h, Env.le_refl _, R, by simp only [VR]; exact ⟨_, rfl, by simp [VRs, VR, hv]⟩, hs⟩
    | false => exact ⟨env, _, h, Env.le_refl _, R, hv, hs⟩
  | no hn =>
    split at hn <;> try exact hn.elim
    rename_i z hz
    obtain ⟨zv, hzr, hzv⟩ := zero_ok (W := W) (env := env) hz
    have : (Instr.lookup t (.map (some en.blk)) kv commaOk).run P W = .ok (if commaOk then .tuple #[zv, .bool false] else zv) W := by
      simp only [Instr.lookup, Sem.run_bind, run_underlying hu, Result.andThen_ok, hgo, Sem.run_pure, hck, hrun, hzr]
    rw [this]
    cases commaOk with
    | true => exact ⟨env, _, h, Env.le_refl _, R, by simp only [VR]; exact ⟨_, rfl, by simp [VRs, VR, hzv]⟩, hn⟩
    | false => exact ⟨env, _, h, Env.le_refl _, R, hzv, hn⟩

theorem lookup_ok {t : TypeId} {x key : SV} {xv kv : Value} {commaOk : Bool} {k : SV → Heap → Prop} (R : Rel B W0 env h W) (hx : VR env x xv) (hk : VR env key kv) (H : doLookup P t h x key commaOk fun v => k v h) :
    VOk B W0 env k ((Instr.lookup t xv kv commaOk).run P W) := by
  unfold doLookup at H
  split at H <;> try exact H.elim
  rename_i kt e hu
  split at H <;> try exact H.elim
  rename_i l
  simp only [VR] at hx
  obtain ⟨en', hen', rfl⟩ := hx
  split at H <;> try exact H.elim
  · rename_i es hg
    obtain ⟨en, hen, hn, _, ms, c, hm, hr⟩ := R.obj l _ hg
    rw [hen] at hen'; cases hen'
    unfold lookBody at H
    split at H <;> try exact H.elim
    rename_i hkey
    exact look_ok R hu hm hr hk hkey H
  · rename_i es hg
    obtain ⟨en, hen, hn, _, ms, c, es2, hm, hp, hr⟩ := R.obj l _ hg
    rw [hen] at hen'; cases hen'
    obtain ⟨hex, H⟩ := H
    unfold lookBody at H
    split at H <;> try exact H.elim
    rename_i hkey
    obtain ⟨h1, h2⟩ := findEntry_all hex H
    exact look_ok R hu hm hr hk hkey (findEntry_of_all (fun e he => h1 e (hp.mem_iff.1 he)) fun hall => h2 fun e he => hall e (hp.mem_iff.2 he))

/-! ### a new entry -/

theorem ER.append {env : Env} : ∀ {es : List (SV × SV)} {ms : List MapEntry} {k v : SV} {m : MapEntry}, ER env es ms → VR env k m.key → VR env v m.val → ER env (es ++ [(k, v)]) (ms ++ [m])
  | [], [], _, _, _, _, hk, hv => ⟨hk, hv, trivial⟩
  | _ :: _, _ :: _, _, _, _, ⟨h1, h2, h3⟩, hk, hv => ⟨h1, h2, ER.append h3 hk hv⟩
  | [], _ :: _, _, _, _, h, _, _ => h.elim
  | _ :: _, [], _, _, _, h, _, _ => h.elim

def doInsert (P : Program) (t : TypeId) (h : Heap) (x key v : SV) (k : Heap → Prop) : Prop :=
  match P.underlying t with
  | some (.map kt _) => match x with
    | .map l => match hget h l with
      | some (.mp es) => match keyOk P kt key with
        | true => findEntry P kt key es (fun _ => False) (k (hset h l (.mp (es ++ [(key, v)]))))
        | false => False
      | _ => False
    | _ => False
  | _ => False

theorem insert_ok {t : TypeId} {x key v : SV} {xv kv vv : Value} {k : Heap → Prop} (R : Rel B W0 env h W) (hx : VR env x xv) (hk : VR env key kv) (hv : VR env v vv) (H : doInsert P t h x key v k) :
    UOk B W0 env k ((Instr.mapUpdate t xv kv vv).run P W) := by
  unfold doInsert at H
  split at H <;> try exact H.elim
  rename_i kt e hu
  split at H <;> try exact H.elim
  rename_i l
  split at H <;> try exact H.elim
  rename_i o es hg
  split at H <;> try exact H.elim
  rename_i hkey
  obtain ⟨en, hen, hor⟩ := R.obj l _ hg
  obtain ⟨hn, hB, ms, c, hm, hr⟩ := hor
  simp only [VR] at hx
  obtain ⟨en', hen', rfl⟩ := hx
  rw [hen] at hen'; cases hen'
  have hgo : (getObj en.blk).run P W = .ok (.map ms c) W := by simp [getObj, Sem.run, hm]
  have hck := checkKey_ok (W := W) (emp := false) hk hkey
  obtain ⟨d, hd⟩ : ∃ d, P.underlying kt = some d := by
    unfold keyOk at hkey
    cases hq : P.underlying kt with
    | none => simp [hq] at hkey
    | some d => exact ⟨d, rfl⟩
  obtain ⟨r, hrun, hf⟩ := findKey_ok (W := W) hd hk hr H
  cases hf with
  | yes i v mv hv hs => exact hs.elim
  | no hnk =>
    let W' : World := { W with heap := W.heap.setIfInBounds en.blk (.map (ms.push { key := kv, val := vv, born := c }) (c + 1)) }
    have hlt : en.blk < W.heap.size := (Array.getElem?_eq_some_iff.1 hm).1
    have : (Instr.mapUpdate t (.map (some en.blk)) kv vv).run P W = .ok () W' := by
      simp only [Instr.mapUpdate, Sem.run_bind, run_underlying hu, Result.andThen_ok, hgo, hck, hrun]
      simp [setObj, Sem.run, hm, W']
    rw [this]
    refine ⟨env, _, Env.le_refl _, R.write (o' := .mp (es ++ [(key, v)])) hg rfl rfl hen hn rfl rfl rfl (by simp [W']) (fun q hq => ?_) ⟨hn, hB, ms.push { key := kv, val := vv, born := c }, c + 1, ?_, ?_⟩, hnk⟩
    · simp only [W']
      rw [Array.getElem?_setIfInBounds, if_neg (fun e => hq e.symm)]
    · show (W.heap.setIfInBounds en.blk _)[en.blk]? = _
      rw [Array.getElem?_setIfInBounds, if_pos rfl, if_pos hlt]
    · simpa using hr.append hk hv

def doMakeMap (h : Heap) (k : SV → Heap → Prop) : Prop := k (.map h.length) (h ++ [some (.mp [])])

theorem makeMap_ok {t : TypeId} {k : SV → Heap → Prop} (R : Rel B W0 env h W) (H : doMakeMap h k) : VOk B W0 env k ((Instr.makeMap t none).run P W) := by
  have : (Instr.makeMap t none).run P W = .ok (.map (some W.heap.size)) (W.alloc (.map #[] 0)) := by
    simp only [Instr.makeMap, Sem.run_bind, run_newObj]
    rfl
  rw [this]
  let en : Ent := { blk := W.heap.size, base := 0, cap := 0, w := 0, nil := false }
  have hfr : env h.length = none := R.fresh _ (Nat.le_refl _)
  refine ⟨env.upd h.length en, .map h.length, _, Env.le_upd hfr, R.alloc (.map #[] 0) en (.mp []) (fun _ => rfl) ⟨rfl, R.hB, #[], 0, heap_alloc_new W _, trivial⟩, ?_, H⟩
  simp only [VR]
  exact ⟨en, by simp, rfl⟩
end
end Go.Sh

/-
  SHAD: one operation.
-/
namespace Go.Sh
open Go.RowKit
set_option linter.unusedVariables false
set_option linter.unusedSimpArgs false

structure SS where
  tmps : List SV
  heap : Heap
  defs : List Nat
  rnd : Option Nat

def SS.get (S : SS) (t : Nat) : SV := match S.tmps[t]? with | some v => v | none => .und
def SS.put (S : SS) (d : Option Nat) (v : SV) : SS := match d with | some d => { S with tmps := S.tmps.set d v } | none => S
def SS.hp (S : SS) (h : Heap) : SS := { S with heap := h }

def SS.ev (S : SS) : Operand → SV
  | .tmp t => S.get t
  | .const v => ofV 30 v
  | .global g => .gptr g 0
  | .func f => .fn (.func f) [] []

abbrev KV := SV → Heap → Prop

/-- The wide fence, in a round or not. -/
def FW (r : Option Nat) : Fence := { Fence.wide with round := r }

def optEv (ρ : Operand → SV) : Option Operand → Option SV | none => none | some x => some (ρ x)

def doCall (P : Program) (call : FuncId → List SV → Heap → KV → Prop) (round : Nat → List SV → Heap → KV → Prop) (f : SV) (args : List SV) (h : Heap) (k : KV) : Prop :=
  match f with
  | .fn (.func g) first cap => match (P.funcs[g]?).bind (·.body) with
    | some _ => call g (first ++ args ++ cap) h k
    | none => False
  | .fn (.yield l) first _ => round l (first ++ args) h k
  | _ => False

def doConvert (P : Program) (s d : TypeId) (x : SV) (k : SV → Prop) : Prop :=
  match x, P.underlying s, P.underlying d with
  | .int _ n, some _, some (.int kd) => k (.int kd (kd.wrap n))
  | .str b, some _, some .string => k (.str b)
  | _, _, _ => False

/-- One operation whose guard has been asked. -/
def sop (P : Program) (call : FuncId → List SV → Heap → KV → Prop) (round : Nat → List SV → Heap → KV → Prop) (op : Op) (ρ : Operand → SV) (h : Heap) (k : KV) : Prop :=
  match op with
  | .move x => k (ρ x) h
  | .assign x => k (ρ x) h
  | .pick c a b => match ρ c with | .bool c => ifB c (k (ρ a) h) (k (ρ b) h) | _ => False
  | .alloc t => doAlloc P t h k
  | .box t x => doBox P t h (ρ x) k
  | .build t parts => match sbuilt P t (parts.toList.map fun p => (p.1, ρ p.2)) with
    | some cs => k (.agg cs) h
    | none => False
  | .buildSlice t len parts => doBuildSlice P t len (parts.toList.map fun p => (p.1, ρ p.2)) h k
  | .load t x => doLoad P t h (ρ x) k
  | .store t x v => doStore P t h (ρ x) (ρ v) fun h => k .und h
  | .nilCheck x => match ρ x with | .ptr l i j => k (.ptr l i j) h | .fn (.func f) a b => k (.fn (.func f) a b) h | _ => False
  | .fieldAddr t x f => match ρ x, fieldOff P t f with
    | .ptr l i j, some off => k (.ptr l i (j + off)) h
    | _, _ => False
  | .field t x f => doField P t (ρ x) f fun v => k v h
  | .indexAddr t x ix => doIndexAddr P t h (ρ x) (ρ ix) fun v => k v h
  | .index t x ix => doIndex P t (ρ x) (ρ ix) fun v => k v h
  | .binOp op t x y _ => doBin P op t (ρ x) (ρ y) fun v => k v h
  | .unOp op _ x => doUn op (ρ x) fun v => k v h
  | .convert s d x => doConvert P s d (ρ x) fun v => k v h
  | .extract x i => match ρ x with
    | .tup cs => match cs[i]? with | some v => k v h | none => False
    | _ => False
  | .makeFunc f a c => match f with
    | .func g => k (.fn (.func g) (a.toList.map ρ) (c.toList.map ρ)) h
    | _ => False
  | .makeMap _ none => doMakeMap h k
  | .insert t m key v => doInsert P t h (ρ m) (ρ key) (ρ v) fun h => k .und h
  | .mapUpdate t m key v => doInsert P t h (ρ m) (ρ key) (ρ v) fun h => k .und h
  | .lookup t m key ok => doLookup P t h (ρ m) (ρ key) ok fun v => k v h
  | .slice t x lo hi mx => doSlice P t h (ρ x) (optEv ρ lo) (optEv ρ hi) (optEv ρ mx) fun v => k v h
  | .call c => match c.callee with
    | .value f => doCall P call round (ρ f) (c.args.toList.map ρ) h k
    | .builtin b => match b, c.argTypes.toList, c.args.toList with
      | .len, t :: _, [x] => doLen P t h (ρ x) fun v => k v h
      | .append, [t, t'], [x, y] => match decide (t = t') with | true => doAppend P t h (ρ x) (ρ y) k | false => False
      | .max, _, [x, y] => doMinMax true (ρ x) (ρ y) fun v => k v h
      | .min, _, [x, y] => doMinMax false (ρ x) (ρ y) fun v => k v h
      | _, _, _ => False
    | _ => False
  | _ => False

section
variable {P : Program} {B : Nat} {W0 W : World} {env : Env} {h : Heap}

/-- What is known of the program beside its tables. -/
structure POk (P : Program) : Prop where
  names : ∀ (f : FuncId) (fn : Func), P.funcs[f]? = some fn → (fn.name == "runtime.NumGoroutine") = false
  mixed : P.follows .mixedOrders = true

/-- The end of a call. -/
def EOk (B : Nat) (W0 : World) (env : Env) (k : KV) (e : Ending) (W' : World) : Prop := ∃ v', e = .returned v' ∧ VOk B W0 env k (.ok v' W')

def SCall (P : Program) (f : FuncId) (args : List SV) (h : Heap) (k : KV) : Prop :=
  ∀ (B : Nat) (W0 : World) (env : Env) (vs : Array Value) (W : World), Rel B W0 env h W → VRs env args vs.toList → Calls P f vs W (EOk B W0 env k)

def CallOK (P : Program) (call : FuncId → List SV → Heap → KV → Prop) : Prop := ∀ f args h k, call f args h k → SCall P f args h k

def RoundOK (P : Program) (round : Nat → List SV → Heap → KV → Prop) : Prop :=
  ∀ l args h k, round l args h k → ∀ (B : Nat) (W0 : World) (env : Env) (vs : Array Value) (W : World) (e : Ent), Rel B W0 env h W → env l = some e → VRs env args vs.toList →
    ∃ fn tmps asg body, (Instr.yield e.blk vs).run P W = .ok (.round e.blk fn tmps asg body) W ∧ RoundIn Fence.wide 0 P e.blk fn tmps asg body W (EOk B W0 env k)

theorem calls_fw {r : Option Nat} {f : FuncId} {vs : Array Value} {R : Ending → World → Prop} (hc : Calls P f vs W R) : CallsIn (FW r) 0 P f vs W R := callsIn_wide.2 hc
theorem round_fw {r : Option Nat} {l : Nat} {f : FuncId} {tmps : Array Value} {asg body : Code} {R : Ending → World → Prop} (hc : RoundIn Fence.wide 0 P l f tmps asg body W R) : RoundIn (FW r) 0 P l f tmps asg body W R := hc

theorem ev_ok {S : SS} {a : Act} (hv : VRs env S.tmps a.tmps.toList) (x : Operand) : VR env (S.ev x) (a.eval x) := by
  cases x with
  | tmp t =>
    simp only [SS.ev, SS.get, Act.eval]
    cases hs : S.tmps[t]? with
    | none =>
      have hl := hv.length
      have : a.tmps.size ≤ t := by
        have := List.getElem?_eq_none_iff.1 hs
        simp at hl; omega
      simp [Array.getD, Nat.not_lt.2 this, VR]
    | some s =>
      obtain ⟨v, h1, h2⟩ := hv.get hs
      have h1' : a.tmps[t]? = some v := by simpa using h1
      have : a.tmps.getD t undef = v := by
        rw [Array.getD_eq_getD_getElem?, h1']
        rfl
      rw [this]
      exact h2
  | const v => exact (ofV_ok 30).1 v
  | global g => simp [SS.ev, Act.eval, VR]
  | func f => simp only [SS.ev, Act.eval, VR]; exact ⟨_, _, _, rfl, rfl, trivial, trivial⟩

/-- The fenced end of an operation that yields a value. -/
theorem upon_value {r : Option Nat} {o : Oper} {a : Act} {next : Act → World → Prop} {Q : Exit → Act → World → Prop} {k : KV} {res : Result Value} (hv : VOk B W0 env k res)
    (hn : ∀ env' v h' v' W', Env.le env env' → Rel B W0 env' h' W' → VR env' v v' → k v h' → next (a.put o.dst v') W') :
    o.uponIn (FW r) 0 P a next Q (res.andThen fun v w => .ok (.value v) w) := by
  cases res with
  | halt h w => exact hv.elim
  | ok v' W' =>
    obtain ⟨env', v, h', h1, h2, h3, h4⟩ := hv
    exact hn env' v h' v' W' h1 h2 h3 h4

theorem upon_unit {r : Option Nat} {o : Oper} {a : Act} {next : Act → World → Prop} {Q : Exit → Act → World → Prop} {k : KV} {res : Result Unit} (hv : UOk B W0 env (fun h => k .und h) res)
    (hn : ∀ env' v h' v' W', Env.le env env' → Rel B W0 env' h' W' → VR env' v v' → k v h' → next (a.put o.dst v') W') :
    o.uponIn (FW r) 0 P a next Q (res.andThen fun _ w => .ok .skip w) := by
  cases res with
  | halt h w => exact hv.elim
  | ok v' W' =>
    obtain ⟨env', h', h1, h2, h4⟩ := hv
    exact hn env' .und h' undef W' h1 h2 (by simp [VR]) h4

theorem VRs.of_map {ρ : Operand → SV} {ρ' : Operand → Value} (hρ : ∀ x, VR env (ρ x) (ρ' x)) (l : List Operand) : VRs env (l.map ρ) (l.map ρ') := VRs.map _ _ l fun x _ => hρ x

theorem optEv_ok {ρ : Operand → SV} {ρ' : Operand → Value} (hρ : ∀ x, VR env (ρ x) (ρ' x)) (x : Option Operand) : OptR env (optEv ρ x) (x.map ρ') := by
  cases x with
  | none => trivial
  | some x => exact hρ x

theorem convert_ok {s d : TypeId} {x : SV} {xv : Value} {k : KV} (R : Rel B W0 env h W) (hx : VR env x xv) (H : doConvert P s d x fun v => k v h) : VOk B W0 env k ((convert s d xv).run P W) := by
  unfold doConvert at H
  split at H <;> try exact H.elim
  · rename_i kd0 n sd kd hs hd
    simp only [VR] at hx; subst hx
    have : (convert s d (.int kd0 n)).run P W = .ok (.int kd (kd.wrap n)) W := by
      simp only [convert, Sem.run_bind, run_underlying hs, run_underlying hd, Result.andThen_ok, Conv.intToInt, Sem.run_pure]
    rw [this]
    exact ⟨env, _, h, Env.le_refl _, R, VR_int, H⟩
  · rename_i b sd hs hd
    simp only [VR] at hx; subst hx
    have : (convert s d (.string b)).run P W = .ok (.string b) W := by
      cases sd <;> simp only [convert, Sem.run_bind, run_underlying hs, run_underlying hd, Result.andThen_ok, Sem.run_pure]
    rw [this]
    exact ⟨env, _, h, Env.le_refl _, R, VR_str, H⟩

theorem sop_ok {call : FuncId → List SV → Heap → KV → Prop} {round : Nat → List SV → Heap → KV → Prop} (pok : POk P) (hc : CallOK P call) (hr : RoundOK P round)
    {r : Option Nat} {o : Oper} {a : Act} {ρ : Operand → SV} {k : KV} {next : Act → World → Prop} {Q : Exit → Act → World → Prop}
    (R : Rel B W0 env h W) (hρ : ∀ x, VR env (ρ x) (a.eval x)) (H : sop P call round o.op ρ h k)
    (hn : ∀ env' v h' v' W', Env.le env env' → Rel B W0 env' h' W' → VR env' v v' → k v h' → next (a.put o.dst v') W') : o.wpIn (FW r) 0 P a W next Q := by
  refine ⟨fun _ _ => trivial, ?_⟩
  have hsem : o.semAt (FW r).round a.eval = execOp a.eval o := Oper.semAt_eq _ _ _ fun c e => by rw [e] at H; exact H
  rw [hsem]
  have val : ∀ {m : Sem Value}, execOp a.eval o = (do pure (.value (← m))) → VOk B W0 env k (m.run P W) → o.uponIn (FW r) 0 P a next Q ((execOp a.eval o).run P W) := by
    intro m hm hv
    rw [hm]
    simp only [Sem.run_bind, Sem.run_pure]
    exact upon_value hv hn
  have uni : ∀ {m : Sem Unit}, execOp a.eval o = (do m; pure .skip) → UOk B W0 env (fun h => k .und h) (m.run P W) → o.uponIn (FW r) 0 P a next Q ((execOp a.eval o).run P W) := by
    intro m hm hv
    rw [hm]
    simp only [Sem.run_bind, Sem.run_pure]
    exact upon_unit hv hn
  have imm : ∀ {v' : Value} {v : SV}, execOp a.eval o = pure (.value v') → VR env v v' → k v h → o.uponIn (FW r) 0 P a next Q ((execOp a.eval o).run P W) := by
    intro v' v hm hv hk
    rw [hm]
    exact hn env v h v' W (Env.le_refl _) R hv hk
  cases ho : o.op with
  | move x => rw [ho] at H; exact imm (by simp only [execOp, ho]) (hρ x) H
  | assign x => rw [ho] at H; exact imm (by simp only [execOp, ho]) (hρ x) H
  | pick c x y =>
    rw [ho] at H
    simp only [sop] at H
    split at H <;> try exact H.elim
    rename_i b hb
    have hcv := hρ c
    rw [hb] at hcv
    simp only [VR] at hcv
    cases b with
    | true => exact imm (v' := a.eval x) (by simp only [execOp, ho, hcv, asBool]; rfl) (hρ x) H
    | false => exact imm (v' := a.eval y) (by simp only [execOp, ho, hcv, asBool]; rfl) (hρ y) H
  | alloc t => rw [ho] at H; exact val (by simp only [execOp, ho]) (alloc_ok R H)
  | box t x => rw [ho] at H; exact val (by simp only [execOp, ho]) (box_ok R (hρ x) H)
  | build t parts =>
    rw [ho] at H
    simp only [sop] at H
    split at H <;> try exact H.elim
    rename_i cs hcs
    obtain ⟨vs, hrun, hvs⟩ := build_ok (W := W) hρ hcs
    refine val (m := Instr.build t (parts.map fun (i, x) => (i, a.eval x))) (by simp only [execOp, ho]) ?_
    rw [hrun]
    exact ⟨env, _, h, Env.le_refl _, R, by simp only [VR]; exact ⟨vs, rfl, hvs⟩, H⟩
  | buildSlice t len parts => rw [ho] at H; exact val (by simp only [execOp, ho]) (buildSlice_ok R hρ H)
  | load t x => rw [ho] at H; exact val (by simp only [execOp, ho]) (load_ok R (hρ x) H)
  | store t x v => rw [ho] at H; exact uni (by simp only [execOp, ho]) (store_ok R (hρ x) (hρ v) H)
  | nilCheck x =>
    rw [ho] at H
    simp only [sop] at H
    have hx := hρ x
    split at H <;> try exact H.elim
    · rename_i l i j hp
      rw [hp] at hx
      have hx' := hx
      simp only [VR] at hx
      obtain ⟨e, _, _, hv⟩ := hx
      exact imm (v' := a.eval x) (by simp only [execOp, ho, hv]) hx' H
    · rename_i f fa fb hp
      rw [hp] at hx
      have hx' := hx
      simp only [VR] at hx
      obtain ⟨f', a', c', hv, hf, _⟩ := hx
      simp only [FnR] at hf
      subst hf
      exact imm (v' := a.eval x) (by simp only [execOp, ho, hv]) hx' H
  | fieldAddr t x f =>
    rw [ho] at H
    simp only [sop] at H
    have hx := hρ x
    split at H <;> try exact H.elim
    rename_i l i j off hp hoff
    rw [hp] at hx
    obtain ⟨v, hrun, hv⟩ := fieldAt_ok (W := W) hx hoff
    refine val (m := Instr.fieldAt t (a.eval x) f) (by simp only [execOp, ho]) ?_
    rw [hrun]
    exact ⟨env, _, h, Env.le_refl _, R, hv, H⟩
  | field t x f => rw [ho] at H; exact val (by simp only [execOp, ho]) (field_ok R (hρ x) H)
  | indexAddr t x ix => rw [ho] at H; exact val (by simp only [execOp, ho]) (indexAddr_ok R (hρ x) (hρ ix) H)
  | index t x ix => rw [ho] at H; exact val (by simp only [execOp, ho]) (index_ok R (hρ x) (hρ ix) H)
  | binOp op t x y ty => rw [ho] at H; exact val (m := do eqGuard op t x y (a.eval x) (a.eval y); binOp op t (a.eval x) (a.eval y)) (by simp only [execOp, ho]) (bin_ok R (hρ x) (hρ y) H)
  | unOp op t x => rw [ho] at H; exact val (by simp only [execOp, ho]) (un_ok R (hρ x) H)
  | convert s d x => rw [ho] at H; exact val (by simp only [execOp, ho]) (convert_ok R (hρ x) H)
  | extract x i =>
    rw [ho] at H
    simp only [sop] at H
    have hx := hρ x
    split at H <;> try exact H.elim
    rename_i cs hp
    split at H <;> try exact H.elim
    rename_i v hv
    rw [hp] at hx
    simp only [VR] at hx
    obtain ⟨vs, hvs, hr'⟩ := hx
    obtain ⟨u, hu, hru⟩ := hr'.get hv
    have hu' : vs[i]? = some u := by simpa using hu
    refine val (m := Instr.extract (a.eval x) i) (by simp only [execOp, ho]) ?_
    simp only [hvs, Instr.extract, hu', Sem.run_pure]
    exact ⟨env, _, h, Env.le_refl _, R, hru, H⟩
  | makeFunc f fa c =>
    rw [ho] at H
    simp only [sop] at H
    split at H <;> try exact H.elim
    rename_i g
    refine val (m := Instr.makeFunc (.func g) (fa.map a.eval) (c.map a.eval)) (by simp only [execOp, ho]) ?_
    simp only [Instr.makeFunc, Sem.run_pure]
    refine ⟨env, _, h, Env.le_refl _, R, ?_, H⟩
    simp only [VR]
    exact ⟨_, _, _, rfl, rfl, by simpa using VRs.of_map hρ fa.toList, by simpa using VRs.of_map hρ c.toList⟩
  | makeMap t res =>
    rw [ho] at H
    cases res with
    | some x => exact H.elim
    | none => exact val (by simp only [execOp, ho]; rfl) (makeMap_ok (t := t) R H)
  | insert t m key v => rw [ho] at H; exact uni (by simp only [execOp, ho]) (insert_ok R (hρ m) (hρ key) (hρ v) H)
  | mapUpdate t m key v => rw [ho] at H; exact uni (by simp only [execOp, ho]) (insert_ok R (hρ m) (hρ key) (hρ v) H)
  | lookup t m key ok => rw [ho] at H; exact val (by simp only [execOp, ho]) (lookup_ok R (hρ m) (hρ key) H)
  | slice t x lo hi mx => rw [ho] at H; exact val (by simp only [execOp, ho]) (sliceAt_ok R (hρ x) (optEv_ok hρ lo) (optEv_ok hρ hi) (optEv_ok hρ mx) H)
  | call c =>
    rw [ho] at H
    simp only [sop] at H
    obtain ⟨callee, args, argTypes⟩ := c
    cases callee with
    | value f =>
      have hf := hρ f
      simp only [doCall] at H
      split at H <;> try exact H.elim
      · rename_i g first cap hp
        split at H <;> try exact H.elim
        rename_i bd hbd
        rw [hp] at hf
        simp only [VR] at hf
        obtain ⟨f', a', c', hv, hfn, hfa, hfc⟩ := hf
        simp only [FnR] at hfn
        subst hfn
        obtain ⟨fn, hfun, hbody⟩ : ∃ fn, P.funcs[g]? = some fn ∧ fn.body = some bd := by
          cases hq : P.funcs[g]? with
          | none => simp [hq] at hbd
          | some fn => exact ⟨fn, rfl, by simpa [hq] using hbd⟩
        have hnm : ¬ fn.name = "runtime.NumGoroutine" := by simpa using pok.names g fn hfun
        have hexec : (execOp a.eval o).run P W = .ok (.enter g (a' ++ args.map a.eval ++ c')) W := by
          simp [execOp, ho, resolve, hv, Deferred.ofValue, invoke, callFunc, hfun, hnm, hbody]
        rw [hexec]
        refine ⟨fun h => by simp [FW, Fence.wide] at h, ?_⟩
        have := hc g _ h k H B W0 env (a' ++ args.map a.eval ++ c') W R (by
          simp only [Array.toList_append, Array.toList_map]
          exact (hfa.append (VRs.of_map hρ args.toList)).append hfc)
        refine CallsIn.mono (calls_fw this) fun e W' he => ?_
        obtain ⟨v', rfl, env', v, h', h1, h2, h3, h4⟩ := he
        exact hn env' v h' v' W' h1 h2 h3 h4
      · rename_i l first cap hp
        rw [hp] at hf
        simp only [VR] at hf
        obtain ⟨f', a', c', hv, hfn, hfa, hfc⟩ := hf
        simp only [FnR] at hfn
        obtain ⟨e, he, rfl⟩ := hfn
        obtain ⟨fn, tmps, asg, body, hy, hround⟩ := hr l _ h k H B W0 env (a' ++ args.map a.eval) W e R he (by
          simp only [Array.toList_append, Array.toList_map]
          exact hfa.append (VRs.of_map hρ args.toList))
        have hexec : (execOp a.eval o).run P W = .ok (.round e.blk fn tmps asg body) W := by
          simp [execOp, ho, resolve, hv, Deferred.ofValue, invoke, hy]
        rw [hexec]
        refine ⟨fun h => by simp [FW, Fence.wide] at h, ?_⟩
        refine RoundIn.mono (round_fw hround) fun en W' he => ?_
        obtain ⟨v', rfl, env', v, h', h1, h2, h3, h4⟩ := he
        exact hn env' v h' v' W' h1 h2 h3 h4
    | builtin b =>
      obtain ⟨args⟩ := args
      obtain ⟨argTypes⟩ := argTypes
      have hb : ∀ {m : Sem Value} , builtin b (Array.mk argTypes) o.type ((Array.mk args).map fun | .const _ => true | _ => false) ((Array.mk args).map a.eval) = (do pure (.value (← m))) → VOk B W0 env k (m.run P W) → o.uponIn (FW r) 0 P a next Q ((execOp a.eval o).run P W) := by
        intro m hm hv
        refine val (m := m) ?_ hv
        rw [← hm]
        simp only [execOp, ho, resolve, invoke, pure_bind]
        rfl
      simp only at H
      split at H <;> try exact H.elim
      · rename_i t ts x
        exact hb (by simp only [Go.builtin]; rfl) (by simpa using len_ok (ty := o.type) (ts := ts.toArray) R (hρ x) H)
      · rename_i t t' x y
        split at H <;> try exact H.elim
        rename_i htt
        simp only [decide_eq_true_eq] at htt
        subst htt
        exact hb (by simp only [Go.builtin]; rfl) (by simpa using append_ok (ty := o.type) R (hρ x) (hρ y) H)
      · rename_i x y
        exact hb (by simp only [Go.builtin]; rfl) (by simpa using max_ok (ty := o.type) (ts := argTypes.toArray) R (hρ x) (hρ y) H)
      · rename_i x y
        exact hb (by simp only [Go.builtin]; rfl) (by simpa using min_ok (ty := o.type) (ts := argTypes.toArray) R (hρ x) (hρ y) H)
    | invoke rcv m => exact H.elim
  | _ => rw [ho] at H; exact H.elim
end
end Go.Sh

/-
  SHAD: what an operation's step hangs on (for regions that draw their order).
-/
namespace Go.Sh
open Go.RowKit
set_option linter.unusedVariables false
set_option linter.unusedSimpArgs false

/-- What there is stays as it is; there may be more. -/
def HExt (h h' : Heap) : Prop := h.length ≤ h'.length ∧ ∀ l, l < h.length → hget h' l = hget h l
theorem HExt.refl (h : Heap) : HExt h h := ⟨Nat.le_refl _, fun _ _ => rfl⟩
theorem HExt.trans {a b c : Heap} (h : HExt a b) (h' : HExt b c) : HExt a c := ⟨Nat.le_trans h.1 h'.1, fun l hl => (h'.2 l (Nat.lt_of_lt_of_le hl h.1)).trans (h.2 l hl)⟩
theorem HExt.append (h : Heap) (x : Option SO) : HExt h (h ++ [x]) := ⟨by simp, fun l hl => hget_append_old x hl⟩
theorem HExt.get {h h' : Heap} {l : Nat} {o : SO} (H : HExt h h') (hl : hget h l = some o) : hget h' l = some o := (H.2 l (hget_lt hl)).trans hl

/-- An operation that only yields a value: the same value wherever there is more. -/
def Quiet (step : Heap → KV → Prop) : Prop := ∀ h K, step h K → ∃ v, K v h ∧ ∀ h' k, HExt h h' → k v h' → step h' k

def isQuiet : Op → Bool
  | .move _ | .assign _ | .pick .. | .load .. | .nilCheck _ | .fieldAddr .. | .field .. | .indexAddr .. | .index .. | .binOp .. | .unOp .. | .convert .. | .extract .. | .makeFunc .. | .build .. | .slice .. | .lookup .. => true
  | .call c => match c.callee with
    | .builtin .len | .builtin .max | .builtin .min => true
    | _ => false
  | _ => false

theorem ifB_intro {b : Bool} {A : Prop} (hb : b = true) (h : A) : ifB b A False := by subst hb; exact h

section
variable {P : Program}

theorem doLoad_quiet {t : TypeId} {p : SV} : Quiet fun h k => doLoad P t h p k := by
  intro h K H
  unfold doLoad at H
  split at H <;> try exact H.elim
  rename_i l i j
  split at H <;> try exact H.elim
  rename_i own n w tt g d s hg hd hs
  have key : ∀ h', HExt h h' → hget h' l = some (.arr own n w tt g) := fun h' hx => hx.get hg
  cases d <;> dsimp only at H
  case struct fs =>
    obtain ⟨hb, hk⟩ := ifB_true H
    exact ⟨_, hk, fun h' k hx hk' => by simp only [doLoad, key h' hx, hd, hs]; exact ifB_intro hb hk'⟩
  case array m e =>
    cases hc : (decide (j = 0) && decide (s = m * w)) with
    | true =>
      rw [hc] at H
      obtain ⟨hb, hk⟩ := ifB_true H
      exact ⟨_, hk, fun h' k hx hk' => by simp only [doLoad, key h' hx, hd, hs, hc]; exact ifB_intro hb hk'⟩
    | false =>
      rw [hc] at H
      obtain ⟨hb, hk⟩ := ifB_true H
      exact ⟨_, hk, fun h' k hx hk' => by simp only [doLoad, key h' hx, hd, hs, hc]; exact ifB_intro hb hk'⟩
  all_goals
    obtain ⟨hb, hk⟩ := ifB_true H
    split at hk <;> try exact hk.elim
    rename_i v hv
    exact ⟨v, hk, fun h' k hx hk' => by simp only [doLoad, key h' hx, hd, hs, hv]; exact ifB_intro hb hk'⟩

theorem doIndexAddr_quiet {t : TypeId} {x ix : SV} : Quiet fun h k => doIndexAddr P t h x ix fun v => k v h := by
  intro h K H
  unfold doIndexAddr at H
  split at H <;> try exact H.elim
  · rename_i l o n kd i
    split at H <;> try exact H.elim
    rename_i e own n0 w tt g hu hg
    split at H <;> try exact H.elim
    rename_i s hs
    split at H <;> try exact H.elim
    rename_i hw
    obtain ⟨hb, hk⟩ := ifB_true H
    exact ⟨_, hk, fun h' k hx hk' => by simp only [doIndexAddr, hu, hx.get hg, hs, hw]; exact ifB_intro hb hk'⟩
  · rename_i l n kd i
    split at H <;> try exact H.elim
    rename_i e own n0 w tt g hu hg
    split at H <;> try exact H.elim
    rename_i s hs
    split at H <;> try exact H.elim
    rename_i hw
    obtain ⟨hb, hk⟩ := ifB_true H
    exact ⟨_, hk, fun h' k hx hk' => by simp only [doIndexAddr, hu, hx.get hg, hs, hw]; exact ifB_intro hb hk'⟩
  · rename_i l i0 j kd i
    split at H <;> try exact H.elim
    rename_i n e own n0 w tt g hu hg
    split at H <;> try exact H.elim
    rename_i s hs
    obtain ⟨hb, hk⟩ := ifB_true H
    cases hc : (decide (s = w) && decide (j = 0)) with
    | true =>
      rw [hc] at hk
      exact ⟨_, hk, fun h' k hx hk' => by simp only [doIndexAddr, hu, hx.get hg, hs, hc]; exact ifB_intro hb hk'⟩
    | false =>
      rw [hc] at hk
      exact ⟨_, hk, fun h' k hx hk' => by simp only [doIndexAddr, hu, hx.get hg, hs, hc]; exact ifB_intro hb hk'⟩

/-- A step that does not look at the heap. -/
def Blind (step : (SV → Prop) → Prop) : Prop := ∀ K, step K → ∃ v, K v ∧ ∀ k : SV → Prop, k v → step k

theorem Blind.quiet {step : (SV → Prop) → Prop} (hb : Blind step) : Quiet fun h k => step fun v => k v h := by
  intro h K H
  obtain ⟨v, hv, hy⟩ := hb _ H
  exact ⟨v, hv, fun h' k _ hk => hy _ hk⟩

theorem orF_blind {o : Option SV} : Blind (orF o) := by
  intro K H
  obtain ⟨v, rfl, hk⟩ := orF_some H
  exact ⟨v, hk, fun k hk' => hk'⟩

theorem ifB_blind {b : Bool} {step : (SV → Prop) → Prop} (hs : Blind step) : Blind fun k => ifB b (step k) False := by
  intro K H
  obtain ⟨hb, hk⟩ := ifB_true H
  obtain ⟨v, hv, hy⟩ := hs _ hk
  exact ⟨v, hv, fun k hk' => ifB_intro hb (hy k hk')⟩

theorem const_blind {v : SV} : Blind fun k => k v := fun K H => ⟨v, H, fun k hk => hk⟩
theorem false_blind : Blind fun _ => False := fun K H => H.elim

theorem doBin_blind {op : BinOp} {t : TypeId} {x y : SV} : Blind (doBin P op t x y) := by
  cases x <;> cases y <;> try exact false_blind
  · rename_i a b
    unfold doBin
    dsimp only
    cases op <;> try exact false_blind
    all_goals (split <;> first | exact const_blind | exact false_blind)
  · rename_i k1 a k2 b
    unfold doBin
    dsimp only
    cases isShift op with
    | true => exact ifB_blind orF_blind
    | false =>
      dsimp only
      cases decide (k1 = k2) with
      | false => exact false_blind
      | true =>
        dsimp only
        cases isDiv op with
        | true => exact ifB_blind orF_blind
        | false => exact orF_blind
  · rename_i a b
    unfold doBin
    dsimp only
    cases op <;> first | exact const_blind | exact ifB_blind const_blind | exact false_blind
  · rename_i a b
    unfold doBin
    dsimp only
    cases op <;> try exact false_blind
    all_goals (split <;> first | exact orF_blind | exact false_blind)

theorem doUn_blind {op : UnOp} {x : SV} : Blind (doUn op x) := by
  unfold doUn
  split <;> first | exact const_blind | exact false_blind

theorem doConvert_blind {s d : TypeId} {x : SV} : Blind (doConvert P s d x) := by
  unfold doConvert
  split <;> first | exact const_blind | exact false_blind

theorem doField_blind {t : TypeId} {f : Nat} {x : SV} : Blind (doField P t x f) := by
  unfold doField
  split <;> try exact false_blind
  split <;> first | exact orF_blind | exact false_blind

theorem doIndex_blind {t : TypeId} {x ix : SV} : Blind (doIndex P t x ix) := by
  unfold doIndex
  split <;> try exact false_blind
  · split <;> try exact false_blind
    split <;> first | exact ifB_blind orF_blind | exact false_blind
  · split <;> first | exact ifB_blind const_blind | exact false_blind

theorem doMinMax_blind {b : Bool} {x y : SV} : Blind (doMinMax b x y) := by
  unfold doMinMax
  split <;> first | exact const_blind | exact false_blind

theorem doLen_quiet {t : TypeId} {x : SV} : Quiet fun h k => doLen P t h x fun v => k v h := by
  intro h K H
  unfold doLen at H
  split at H <;> try exact H.elim
  · rename_i e hu
    split at H <;> try exact H.elim
    all_goals exact ⟨_, H, fun h' k _ hk => by simp only [doLen, hu]; exact hk⟩
  · rename_i hu
    split at H <;> try exact H.elim
    exact ⟨_, H, fun h' k _ hk => by simp only [doLen, hu]; exact hk⟩
  · rename_i n e hu
    exact ⟨_, H, fun h' k _ hk => by simp only [doLen, hu]; exact hk⟩
  · rename_i a b hu
    split at H <;> try exact H.elim
    split at H <;> try exact H.elim
    rename_i l _ es hg
    exact ⟨_, H, fun h' k hx hk => by simp only [doLen, hu, hx.get hg]; exact hk⟩

theorem doSlice_quiet {t : TypeId} {x : SV} {lo hi mx : Option SV} : Quiet fun h k => doSlice P t h x lo hi mx fun v => k v h := by
  intro h K H
  unfold doSlice at H
  split at H <;> try exact H.elim
  · split at H <;> try exact H.elim
    rename_i s L Hh hu hl hh
    obtain ⟨hb, hk⟩ := ifB_true H
    exact ⟨_, hk, fun h' k _ hk' => by simp only [doSlice, hu, hl, hh]; exact ifB_intro hb hk'⟩
  · rename_i l n
    split at H <;> try exact H.elim
    rename_i e L Hh own n0 w tt g hu hl hh hg
    split at H <;> try exact H.elim
    rename_i s hs
    split at H <;> try exact H.elim
    rename_i hsw
    split at H
    · obtain ⟨hb, hk⟩ := ifB_true H
      split at hk
      · exact ⟨_, hk, fun h' k hx hk' => by simp only [doSlice, hu, hl, hh, hx.get hg, hs, hsw]; exact ifB_intro hb hk'⟩
      · exact ⟨_, hk, fun h' k hx hk' => by simp only [doSlice, hu, hl, hh, hx.get hg, hs, hsw]; exact ifB_intro hb hk'⟩
    · split at H <;> try exact H.elim
      rename_i m M hm
      obtain ⟨hb, hk⟩ := ifB_true H
      exact ⟨_, hk, fun h' k hx hk' => by simp only [doSlice, hu, hl, hh, hx.get hg, hs, hsw, hm]; exact ifB_intro hb hk'⟩
  · rename_i l o n
    split at H <;> try exact H.elim
    rename_i e L Hh own n0 w tt g hu hl hh hg
    split at H <;> try exact H.elim
    rename_i s hs
    split at H <;> try exact H.elim
    rename_i hsw
    split at H
    · obtain ⟨hb, hk⟩ := ifB_true H
      exact ⟨_, hk, fun h' k hx hk' => by simp only [doSlice, hu, hl, hh, hx.get hg, hs, hsw]; exact ifB_intro hb hk'⟩
    · split at H <;> try exact H.elim
      rename_i m M hm
      obtain ⟨hb, hk⟩ := ifB_true H
      exact ⟨_, hk, fun h' k hx hk' => by simp only [doSlice, hu, hl, hh, hx.get hg, hs, hsw, hm]; exact ifB_intro hb hk'⟩
  · rename_i l i j
    split at H <;> try exact H.elim
    rename_i n e own n0 w tt g L hu hg hl
    split at H <;> try exact H.elim
    rename_i s Hh hs hh
    split at H <;> try exact H.elim
    rename_i hc
    obtain ⟨hb, hk⟩ := ifB_true H
    exact ⟨_, hk, fun h' k hx hk' => by simp only [doSlice, hu, hl, hx.get hg, hs, hh, hc]; exact ifB_intro hb hk'⟩

theorem findEntry_quiet {t : TypeId} {key : SV} {f : SV → SV} : ∀ (es : List (SV × SV)) (N K : SV → Prop) (z : Option SV),
    findEntry P t key es (fun v => K (f v)) (orF z K) → ∃ v, K v ∧ ∀ k : SV → Prop, k v → findEntry P t key es (fun v => k (f v)) (orF z k)
  | [], N, K, z, H => by
    obtain ⟨v, rfl, hk⟩ := orF_some H
    exact ⟨v, hk, fun k hk' => hk'⟩
  | (a, b) :: es, N, K, z, H => by
    unfold findEntry at H
    split at H <;> try exact H.elim
    rename_i r hr
    cases r with
    | true => exact ⟨f b, H, fun k hk' => by simp only [findEntry, hr]; exact hk'⟩
    | false =>
      obtain ⟨v, hv, hy⟩ := findEntry_quiet es N K z H
      exact ⟨v, hv, fun k hk' => by simp only [findEntry, hr]; exact hy k hk'⟩

theorem lookBody_blind {kt e : TypeId} {key : SV} {ok : Bool} {es : List (SV × SV)} : Blind (lookBody P kt e key ok es) := by
  intro K H
  unfold lookBody at H
  split at H <;> try exact H.elim
  rename_i hkey
  cases ok with
  | true =>
    obtain ⟨v, hv, hy⟩ := findEntry_quiet (f := fun v => .tup [v, .bool true]) es K K ((zeroSV P e).map fun z => .tup [z, .bool false]) (by
      cases hz : zeroSV P e with
      | none => simpa [hz, orF] using H
      | some z => simpa [hz, orF] using H)
    refine ⟨v, hv, fun k hk' => ?_⟩
    have := hy k hk'
    simp only [lookBody, hkey]
    cases hz : zeroSV P e with
    | none => simpa [hz, orF] using this
    | some z => simpa [hz, orF] using this
  | false =>
    obtain ⟨v, hv, hy⟩ := findEntry_quiet (f := fun v => v) es K K (zeroSV P e) (by
      cases hz : zeroSV P e with
      | none => simpa [hz, orF] using H
      | some z => simpa [hz, orF] using H)
    refine ⟨v, hv, fun k hk' => ?_⟩
    have := hy k hk'
    simp only [lookBody, hkey]
    cases hz : zeroSV P e with
    | none => simpa [hz, orF] using this
    | some z => simpa [hz, orF] using this

theorem doLookup_quiet {t : TypeId} {x key : SV} {ok : Bool} : Quiet fun h k => doLookup P t h x key ok fun v => k v h := by
  intro h K H
  unfold doLookup at H
  split at H <;> try exact H.elim
  rename_i kt e hu
  split at H <;> try exact H.elim
  rename_i l
  split at H <;> try exact H.elim
  · rename_i es hg
    obtain ⟨v, hv, hy⟩ := lookBody_blind _ H
    exact ⟨v, hv, fun h' k hx hk' => by simp only [doLookup, hu, hx.get hg]; exact hy _ hk'⟩
  · rename_i es hg
    obtain ⟨v, hv, hy⟩ := lookBody_blind _ H.2
    exact ⟨v, hv, fun h' k hx hk' => by simp only [doLookup, hu, hx.get hg]; exact ⟨H.1, hy _ hk'⟩⟩

theorem sop_quiet {call : FuncId → List SV → Heap → KV → Prop} {round : Nat → List SV → Heap → KV → Prop} {op : Op} {ρ : Operand → SV} (hq : isQuiet op = true) : Quiet fun h k => sop P call round op ρ h k := by
  cases op <;> simp only [isQuiet, Bool.false_eq_true] at hq <;> simp only [sop]
  case move x => exact Blind.quiet const_blind
  case assign x => exact Blind.quiet const_blind
  case pick c a b =>
    cases ρ c <;> try exact Blind.quiet false_blind
    rename_i b'
    cases b' <;> exact Blind.quiet const_blind
  case build t parts => split <;> first | exact Blind.quiet const_blind | exact Blind.quiet false_blind
  case load t x => exact doLoad_quiet
  case nilCheck x => split <;> first | exact Blind.quiet const_blind | exact Blind.quiet false_blind
  case fieldAddr t x f => split <;> first | exact Blind.quiet const_blind | exact Blind.quiet false_blind
  case field t x f => exact Blind.quiet doField_blind
  case indexAddr t x ix => exact doIndexAddr_quiet
  case index t x ix => exact Blind.quiet doIndex_blind
  case binOp op t x y ty => exact Blind.quiet doBin_blind
  case unOp op t x => exact Blind.quiet doUn_blind
  case convert s d x => exact Blind.quiet doConvert_blind
  case extract x i =>
    split <;> try exact Blind.quiet false_blind
    split <;> first | exact Blind.quiet const_blind | exact Blind.quiet false_blind
  case makeFunc f a c => split <;> first | exact Blind.quiet const_blind | exact Blind.quiet false_blind
  case lookup t m key ok => exact doLookup_quiet
  case slice t x lo hi mx => exact doSlice_quiet
  case call c =>
    obtain ⟨callee, args, ts⟩ := c
    cases callee with
    | value f => simp at hq
    | invoke r m => simp at hq
    | builtin b =>
      dsimp only
      cases b <;> simp at hq
      all_goals (split <;> first | exact doLen_quiet | exact Blind.quiet doMinMax_blind | exact Blind.quiet false_blind | (rename_i hh _; cases hh) | skip)
      all_goals simp_all
end
end Go.Sh

/-
  SHAD: regions, and the orders in which their operations may be carried out.
-/
namespace Go.Sh
open Go.RowKit
set_option linter.unusedVariables false
set_option linter.unusedSimpArgs false

/-- An operation that adds to what there is, and changes nothing of it. -/
def isExt (con : FuncId → Bool) : Op → Bool
  | .alloc _ | .box .. | .buildSlice .. | .makeMap .. => true
  | .call c => match c.callee with
    | .value (.func f) => con f
    | .builtin .len | .builtin .max | .builtin .min => true
    | _ => false
  | op => isQuiet op

def MonoCall {α : Type} (call : α → List SV → Heap → KV → Prop) : Prop := ∀ f args h (k k' : KV), (∀ v h', k v h' → k' v h') → call f args h k → call f args h k'
def ExtCall (con : FuncId → Bool) (call : FuncId → List SV → Heap → KV → Prop) : Prop := ∀ f args h (k : KV), con f = true → call f args h k → call f args h fun v h' => HExt h h' ∧ k v h'

section
variable {P : Program} {call : FuncId → List SV → Heap → KV → Prop} {round : Nat → List SV → Heap → KV → Prop}

theorem findEntry_mono {t : TypeId} {key : SV} : ∀ {es : List (SV × SV)} {S S' : SV → Prop} {N N' : Prop}, (∀ v, S v → S' v) → (N → N') → findEntry P t key es S N → findEntry P t key es S' N'
  | [], _, _, _, _, _, hN, H => hN H
  | (a, b) :: es, S, S', N, N', hS, hN, H => by
    unfold findEntry at H ⊢
    split at H <;> try exact H.elim
    rename_i r hr
    cases r with
    | true => exact hS _ H
    | false => exact findEntry_mono hS hN H

theorem doInsert_mono {t : TypeId} {h : Heap} {x key v : SV} {k k' : Heap → Prop} (hk : ∀ h, k h → k' h) (H : doInsert P t h x key v k) : doInsert P t h x key v k' := by
  unfold doInsert at H ⊢
  split at H <;> try exact H.elim
  split at H <;> try exact H.elim
  split at H <;> try exact H.elim
  split at H <;> try exact H.elim
  exact findEntry_mono (fun _ h => h) (hk _) H

theorem doStore_mono {t : TypeId} {h : Heap} {p v : SV} {k k' : Heap → Prop} (hk : ∀ h, k h → k' h) (H : doStore P t h p v k) : doStore P t h p v k' := by
  unfold doStore at H ⊢
  split at H <;> try exact H.elim
  split at H <;> try exact H.elim
  split at H <;> try exact H.elim
  split at H
  · obtain ⟨hb, h'⟩ := ifB_true H
    exact ifB_intro hb (hk _ h')
  · obtain ⟨hb, h'⟩ := ifB_true H
    exact ifB_intro hb (hk _ h')

theorem doAppend_mono {t : TypeId} {h : Heap} {x y : SV} {k k' : KV} (hk : ∀ v h, k v h → k' v h) (H : doAppend P t h x y k) : doAppend P t h x y k' := by
  unfold doAppend at H ⊢
  split at H <;> try exact H.elim
  split at H <;> try exact H.elim
  split at H <;> try exact H.elim
  split at H <;> try exact H.elim
  split at H <;> try exact H.elim
  split at H <;> try exact H.elim
  · obtain ⟨hb, h'⟩ := ifB_true H
    exact ifB_intro hb (hk _ _ h')
  · split at H <;> try exact H.elim
    split at H <;> try exact H.elim
    obtain ⟨hb, h'⟩ := ifB_true H
    exact ifB_intro hb (hk _ _ h')

theorem doAlloc_ext {t : TypeId} {h : Heap} {k : KV} (H : doAlloc P t h k) : ∃ v h', HExt h h' ∧ k v h' ∧ ∀ k' : KV, k' v h' → doAlloc P t h k' := by
  unfold doAlloc at H
  split at H <;> try exact H.elim
  rename_i z hz
  split at H <;> try exact H.elim
  rename_i hok
  split at H <;> try exact H.elim
  rename_i o ho
  exact ⟨_, _, HExt.append h _, H, fun k' hk => by simp only [doAlloc, hz, hok, ho]; exact hk⟩
theorem doBox_ext {t : TypeId} {h : Heap} {x : SV} {k : KV} (H : doBox P t h x k) : ∃ v h', HExt h h' ∧ k v h' ∧ ∀ k' : KV, k' v h' → doBox P t h x k' := by
  unfold doBox at H
  split at H <;> try exact H.elim
  rename_i hok
  split at H <;> try exact H.elim
  rename_i o ho
  exact ⟨_, _, HExt.append h _, H, fun k' hk => by simp only [doBox, hok, ho]; exact hk⟩
theorem doBuildSlice_ext {t : TypeId} {n : Nat} {ps : List (Nat × SV)} {h : Heap} {k : KV} (H : doBuildSlice P t n ps h k) : ∃ v h', HExt h h' ∧ k v h' ∧ ∀ k' : KV, k' v h' → doBuildSlice P t n ps h k' := by
  unfold doBuildSlice at H
  split at H <;> try exact H.elim
  rename_i e hu
  split at H <;> try exact H.elim
  rename_i w z hw hz
  split at H <;> try exact H.elim
  rename_i hc
  split at H <;> try exact H.elim
  rename_i cs hf
  split at H <;> try exact H.elim
  rename_i hcs
  exact ⟨_, _, HExt.append h _, H, fun k' hk => by simp only [doBuildSlice, hu, hw, hz, hc, hf, hcs]; exact hk⟩

theorem doCall_mono (hc : MonoCall call) (hr : MonoCall round) {f : SV} {args : List SV} {h : Heap} {k k' : KV} (hk : ∀ v h, k v h → k' v h) (H : doCall P call round f args h k) : doCall P call round f args h k' := by
  unfold doCall at H ⊢
  split at H <;> try exact H.elim
  · split at H <;> try exact H.elim
    exact hc _ _ _ _ _ hk H
  · exact hr _ _ _ _ _ hk H

theorem sop_mono (hc : MonoCall call) (hr : MonoCall round) {op : Op} {ρ : Operand → SV} {h : Heap} {k k' : KV} (hk : ∀ v h, k v h → k' v h) (H : sop P call round op ρ h k) : sop P call round op ρ h k' := by
  by_cases hq : isQuiet op = true
  · obtain ⟨v, hv, hy⟩ := sop_quiet hq h k H
    exact hy h k' (HExt.refl h) (hk _ _ hv)
  · cases op <;> simp only [isQuiet, not_true_eq_false] at hq <;> try exact H.elim
    case alloc t => obtain ⟨v, h', _, hv, hy⟩ := doAlloc_ext H; exact hy k' (hk _ _ hv)
    case box t x => obtain ⟨v, h', _, hv, hy⟩ := doBox_ext H; exact hy k' (hk _ _ hv)
    case buildSlice t n ps => obtain ⟨v, h', _, hv, hy⟩ := doBuildSlice_ext H; exact hy k' (hk _ _ hv)
    case store t x v => exact doStore_mono (fun h => hk _ h) H
    case makeMap t r => cases r with | none => exact hk _ _ H | some x => exact H.elim
    case insert t m key v => exact doInsert_mono (fun h => hk _ h) H
    case mapUpdate t m key v => exact doInsert_mono (fun h => hk _ h) H
    case call c =>
      obtain ⟨callee, args, ts⟩ := c
      cases callee with
      | value f => exact doCall_mono hc hr hk H
      | invoke r m => exact H.elim
      | builtin b =>
        simp only [sop] at H ⊢
        cases b <;> simp at hq <;> try exact H.elim
        split at H <;> first
          | exact H.elim
          | (rename_i h1 _; cases h1; done)
          | skip
        all_goals simp_all
        split at H <;> try exact H.elim
        rename_i hd
        exact doAppend_mono hk H

theorem sop_ext (hc : MonoCall call) (hr : MonoCall round) {con : FuncId → Bool} (he : ExtCall con call) {op : Op} {ρ : Operand → SV} (hρ : ∀ f, ρ (.func f) = .fn (.func f) [] []) {h : Heap} {k : KV} (hx : isExt con op = true) (H : sop P call round op ρ h k) :
    sop P call round op ρ h fun v h' => HExt h h' ∧ k v h' := by
  by_cases hq : isQuiet op = true
  · obtain ⟨v, hv, hy⟩ := sop_quiet hq h k H
    exact hy h _ (HExt.refl h) ⟨HExt.refl h, hv⟩
  · cases op <;> simp only [isQuiet, not_true_eq_false] at hq <;> simp only [isExt, isQuiet, Bool.false_eq_true] at hx
    case alloc t => obtain ⟨v, h', h1, hv, hy⟩ := doAlloc_ext H; exact hy (fun v h'' => HExt h h'' ∧ k v h'') ⟨h1, hv⟩
    case box t x => obtain ⟨v, h', h1, hv, hy⟩ := doBox_ext H; exact hy (fun v h'' => HExt h h'' ∧ k v h'') ⟨h1, hv⟩
    case buildSlice t n ps => obtain ⟨v, h', h1, hv, hy⟩ := doBuildSlice_ext H; exact hy (fun v h'' => HExt h h'' ∧ k v h'') ⟨h1, hv⟩
    case makeMap t r => cases r with | none => exact ⟨HExt.append h _, H⟩ | some x => exact H.elim
    case call c =>
      obtain ⟨callee, args, ts⟩ := c
      cases callee with
      | invoke r m => exact H.elim
      | builtin b => cases b <;> simp at hx hq
      | value f =>
        cases f <;> simp at hx
        rename_i f
        simp only [sop, hρ, doCall] at H ⊢
        split at H <;> try exact H.elim
        exact he _ _ _ _ hx H

theorem map_parts_congr {ρ ρ' : Operand → SV} {ps : List (Nat × Operand)} (h : ∀ x ∈ ps.map (·.2), ρ x = ρ' x) : (ps.map fun p => (p.1, ρ p.2)) = ps.map fun p => (p.1, ρ' p.2) := by
  apply List.map_congr_left
  intro p hp
  rw [h p.2 (List.mem_map_of_mem hp)]

theorem sop_congr {op : Op} {ρ ρ' : Operand → SV} {h : Heap} {k : KV} (hx : ∀ x ∈ op.operands, ρ x = ρ' x) : sop P call round op ρ h k = sop P call round op ρ' h k := by
  cases op <;> simp only [Op.operands, Call.operands] at hx <;> simp only [sop]
  case build t ps => rw [map_parts_congr (ps := ps.toList) fun x hm => hx x (by simpa using hm)]
  case buildSlice t n ps => rw [map_parts_congr (ps := ps.toList) fun x hm => hx x (by simpa using hm)]
  case makeFunc f a c =>
    rw [List.map_congr_left (l := a.toList) (f := ρ) (g := ρ') fun x hm => hx x (by simp; exact .inl (by simpa using hm)), List.map_congr_left (l := c.toList) (f := ρ) (g := ρ') fun x hm => hx x (by simp; exact .inr (by simpa using hm))]
  case makeMap t r => cases r <;> rfl
  case slice t x lo hi mx =>
    have e : ∀ o : Option Operand, (∀ y, o = some y → ρ y = ρ' y) → optEv ρ o = optEv ρ' o := fun o ho => by cases o with | none => rfl | some y => simp [optEv, ho y rfl]
    rw [hx x (by simp), e lo fun y hy => hx y (by simp [hy]), e hi fun y hy => hx y (by simp [hy]), e mx fun y hy => hx y (by simp [hy])]
  case call c =>
    obtain ⟨callee, ⟨args⟩, ts⟩ := c
    have ha : List.map ρ args = List.map ρ' args := List.map_congr_left fun x hm => hx x (by cases callee <;> simp [hm])
    cases callee with
    | value f => dsimp only; rw [hx f (by simp), ha]
    | invoke r m => rfl
    | builtin b =>
      dsimp only
      split <;> simp_all
  all_goals (first | rfl | (simp_all; done))
end
end Go.Sh

/-
  SHAD: regions.
-/
namespace Go.Sh
open Go.RowKit
set_option linter.unusedVariables false
set_option linter.unusedSimpArgs false

def DR (env : Env) : List Nat → List Deferred → Prop
  | [], [] => True
  | l :: ls, d :: ds => (∃ e, env l = some e ∧ d = { target := .collected e.blk, args := #[] }) ∧ DR env ls ds
  | _, _ => False
theorem DR.mono {e e' : Env} (h : Env.le e e') : ∀ {ls : List Nat} {ds : List Deferred}, DR e ls ds → DR e' ls ds
  | [], [], _ => trivial
  | l :: ls, d :: ds, ⟨⟨x, hx, hd⟩, h2⟩ => ⟨⟨x, h _ _ hx, hd⟩, DR.mono h h2⟩
  | [], _ :: _, hx => hx.elim
  | _ :: _, [], hx => hx.elim

structure St (B : Nat) (W0 : World) (env : Env) (S : SS) (a : Act) (W : World) : Prop where
  rel : Rel B W0 env S.heap W
  tmps : VRs env S.tmps a.tmps.toList
  defs : DR env S.defs a.defers

def stepOp (P : Program) (call : FuncId → List SV → Heap → KV → Prop) (round : Nat → List SV → Heap → KV → Prop) (ops : Array Oper) (i : Nat) (S : SS) (k : SS → Prop) : Prop :=
  match ops[i]? with
  | none => k S
  | some o => match o.guard with
    | none => sop P call round o.op S.ev S.heap fun v h => k ((S.hp h).put o.dst v)
    | some (j, want) => match (ops[j]?).bind (·.dst) with
      | none => k (S.put o.dst .und)
      | some t => match S.get t with
        | .bool b => ifB (b == want) (sop P call round o.op (S.put (some t) (.bool want)).ev S.heap fun v h => k (((S.put (some t) (.bool want)).hp h).put o.dst v)) (k ((S.put (some t) (.bool !want)).put o.dst .und))
        | .und => k (S.put o.dst .und)
        | _ => False

theorem SS.put_same {S : SS} {t : Nat} {b : Bool} (h : S.get t = .bool b) : S.put (some t) (.bool b) = S := by
  unfold SS.get at h
  cases hs : S.tmps[t]? with
  | none => rw [hs] at h; cases h
  | some v =>
    rw [hs] at h
    dsimp only at h
    subst h
    simp only [SS.put]
    have : S.tmps.set t (.bool b) = S.tmps := by
      obtain ⟨hl, hg⟩ := List.getElem?_eq_some_iff.1 hs
      rw [← hg]
      exact List.set_getElem_self hl
    rw [this]

section
variable {P : Program} {call : FuncId → List SV → Heap → KV → Prop} {round : Nat → List SV → Heap → KV → Prop} {ops : Array Oper}

/-- The step, the guard's value being a known one. -/
theorem stepOp_eq {i : Nat} {S : SS} {k : SS → Prop} (H : stepOp P call round ops i S k) :
    ops[i]? = none ∧ k S ∨ ∃ o, ops[i]? = some o ∧
      ((o.guard = none ∨ ∃ j want t, o.guard = some (j, want) ∧ (ops[j]?).bind (·.dst) = some t ∧ S.get t = .bool want) ∧ sop P call round o.op S.ev S.heap (fun v h => k ((S.hp h).put o.dst v)) ∨
       (∃ j want, o.guard = some (j, want) ∧ ((ops[j]?).bind (·.dst) = none ∨ ∃ t, (ops[j]?).bind (·.dst) = some t ∧ (S.get t = .bool (!want) ∨ S.get t = .und))) ∧ k (S.put o.dst .und)) := by
  unfold stepOp at H
  cases ho : ops[i]? with
  | none => rw [ho] at H; exact .inl ⟨rfl, H⟩
  | some o =>
    rw [ho] at H
    refine .inr ⟨o, rfl, ?_⟩
    dsimp only at H
    cases hg : o.guard with
    | none => rw [hg] at H; exact .inl ⟨.inl rfl, H⟩
    | some g =>
      obtain ⟨j, want⟩ := g
      rw [hg] at H
      dsimp only at H
      cases hd : (ops[j]?).bind (·.dst) with
      | none => rw [hd] at H; exact .inr ⟨⟨j, want, rfl, .inl hd⟩, H⟩
      | some t =>
        rw [hd] at H
        dsimp only at H
        split at H <;> try exact H.elim
        · rename_i b hb
          by_cases hbw : b = want
          · subst hbw
            simp only [beq_self_eq_true, ifB, SS.put_same hb] at H
            exact .inl ⟨.inr ⟨j, b, t, rfl, hd, hb⟩, H⟩
          · have hbn : (b == want) = false := by simpa using hbw
            have hb' : b = !want := by cases b <;> cases want <;> simp_all
            simp only [hbn, ifB] at H
            rw [hb'] at hb
            rw [SS.put_same hb] at H
            exact .inr ⟨⟨j, want, rfl, .inr ⟨t, hd, .inl hb⟩⟩, H⟩
        · rename_i hb
          exact .inr ⟨⟨j, want, rfl, .inr ⟨t, hd, .inr hb⟩⟩, H⟩

theorem stepOp_mk {i : Nat} {S : SS} {k : SS → Prop} (H : ops[i]? = none ∧ k S ∨ ∃ o, ops[i]? = some o ∧
      ((o.guard = none ∨ ∃ j want t, o.guard = some (j, want) ∧ (ops[j]?).bind (·.dst) = some t ∧ S.get t = .bool want) ∧ sop P call round o.op S.ev S.heap (fun v h => k ((S.hp h).put o.dst v)) ∨
       (∃ j want, o.guard = some (j, want) ∧ ((ops[j]?).bind (·.dst) = none ∨ ∃ t, (ops[j]?).bind (·.dst) = some t ∧ (S.get t = .bool (!want) ∨ S.get t = .und))) ∧ k (S.put o.dst .und))) : stepOp P call round ops i S k := by
  unfold stepOp
  rcases H with ⟨ho, hk⟩ | ⟨o, ho, ⟨hg, hs⟩ | ⟨⟨j, want, hg, hd⟩, hk⟩⟩
  · rw [ho]; exact hk
  · rw [ho]
    dsimp only
    rcases hg with hg | ⟨j, want, t, hg, hd, hb⟩
    · rw [hg]; exact hs
    · rw [hg]
      dsimp only
      rw [hd]
      dsimp only
      rw [hb]
      dsimp only
      rw [SS.put_same hb]
      simp only [beq_self_eq_true, ifB]
      exact hs
  · rw [ho]
    dsimp only
    rw [hg]
    dsimp only
    rcases hd with hd | ⟨t, hd, hb | hb⟩
    · rw [hd]; exact hk
    · rw [hd]
      dsimp only
      rw [hb]
      dsimp only
      have : ((!want) == want) = false := by cases want <;> rfl
      rw [this, SS.put_same hb]
      exact hk
    · rw [hd]
      dsimp only
      rw [hb]
      exact hk

/-! ### the machine's step -/

variable {B : Nat} {W0 W : World} {env : Env}

theorem St.put {S : SS} {a : Act} (st : St B W0 env S a W) {d : Option Tmp} {v : SV} {v' : Value} (hv : VR env v v') : St B W0 env (S.put d v) (a.put d v') W := by
  cases d with
  | none => exact st
  | some d => exact ⟨st.rel, by simpa [SS.put, Act.put] using st.tmps.set d hv, st.defs⟩

theorem get_yield {S : SS} {a : Act} (st : St B W0 env S a W) {t : Nat} {b : Bool} (h : S.get t = .bool b) : a.tmps[t]? = some (.bool b) := by
  unfold SS.get at h
  cases hs : S.tmps[t]? with
  | none => rw [hs] at h; cases h
  | some v =>
    rw [hs] at h
    dsimp only at h
    subst h
    obtain ⟨u, hu, hr⟩ := st.tmps.get hs
    simp only [VR] at hr
    subst hr
    simpa using hu
theorem get_und {S : SS} {a : Act} (st : St B W0 env S a W) {t : Nat} (h : S.get t = .und) : a.tmps[t]? = none ∨ a.tmps[t]? = some undef := by
  unfold SS.get at h
  cases hs : S.tmps[t]? with
  | none =>
    left
    have hl := st.tmps.length
    have := List.getElem?_eq_none_iff.1 hs
    simp at hl ⊢
    omega
  | some v =>
    rw [hs] at h
    dsimp only at h
    subst h
    obtain ⟨u, hu, hr⟩ := st.tmps.get hs
    simp only [VR] at hr
    subst hr
    exact .inr (by simpa using hu)

theorem stepOp_ok (pok : POk P) (hc : CallOK P call) (hr : RoundOK P round) {r : Option Nat} {i : Nat} {S : SS} {a : Act} {k : SS → Prop} {K : Act → World → Prop} {Q : Exit → Act → World → Prop}
    (st : St B W0 env S a W) (H : stepOp P call round ops i S k)
    (hK : ∀ S' env' a' W', Env.le env env' → St B W0 env' S' a' W' → S'.defs = S.defs → S'.rnd = S.rnd → k S' → K a' W') : wpOpIn (FW r) 0 P ops Q i K a W := by
  unfold wpOpIn
  rcases stepOp_eq H with ⟨ho, hk⟩ | ⟨o, ho, ⟨hg, hs⟩ | ⟨⟨j, want, hg, hd⟩, hk⟩⟩
  · rw [ho]; exact hK S env a W (Env.le_refl _) st rfl rfl hk
  · rw [ho]
    dsimp only
    have hw : Region.wanted o (yielded ops a.tmps) = true := by
      rcases hg with hg | ⟨j, want, t, hg, hd, hb⟩
      · simp [Region.wanted, hg]
      · have := get_yield st hb
        simp [Region.wanted, hg, yielded, hd, this]
    rw [if_pos hw]
    refine sop_ok pok hc hr st.rel (ev_ok st.tmps) hs fun env' v h' v' W' hle R' hv hk => ?_
    refine hK _ env' _ W' hle (St.put (S := S.hp h') (a := a) ⟨R', VRs.mono hle _ _ st.tmps, st.defs.mono hle⟩ hv) ?_ ?_ hk
    · cases o.dst <;> rfl
    · cases o.dst <;> rfl
  · rw [ho]
    dsimp only
    have hw : ¬ Region.wanted o (yielded ops a.tmps) = true := by
      rcases hd with hd | ⟨t, hd, hb | hb⟩
      · simp [Region.wanted, hg, yielded, hd]
      · have := get_yield st hb
        simp [Region.wanted, hg, yielded, hd, this]
      · rcases get_und st hb with h | h <;> simp [Region.wanted, hg, yielded, hd, h, undef]
    rw [if_neg hw]
    refine ⟨fun _ _ => trivial, hK _ env _ W (Env.le_refl _) (st.put (by simp [VR])) ?_ ?_ hk⟩
    · cases o.dst <;> rfl
    · cases o.dst <;> rfl

def runOps (P : Program) (call : FuncId → List SV → Heap → KV → Prop) (round : Nat → List SV → Heap → KV → Prop) (ops : Array Oper) : List Nat → SS → (SS → Prop) → Prop
  | [], S, k => k S
  | i :: r, S, k => stepOp P call round ops i S fun S' => runOps P call round ops r S' k

theorem runOps_ok (pok : POk P) (hc : CallOK P call) (hr : RoundOK P round) {r : Option Nat} {Q : Exit → Act → World → Prop} {k : SS → Prop} : ∀ (l : List Nat) {S : SS} {a : Act} {W : World} {env : Env},
    St B W0 env S a W → runOps P call round ops l S k →
    (∀ S' env' a' W', Env.le env env' → St B W0 env' S' a' W' → S'.defs = S.defs → S'.rnd = S.rnd → k S' → Q .normal a' W') → wpOpsIn (FW r) 0 P ops Q l a W
  | [], S, a, W, env, st, H, hQ => hQ S env a W (Env.le_refl _) st rfl rfl H
  | i :: l, S, a, W, env, st, H, hQ => by
    rw [wpOpsIn_cons]
    exact stepOp_ok pok hc hr st H fun S' env' a' W' hle st' hd hn hk =>
      runOps_ok pok hc hr l st' hk fun S'' env'' a'' W'' hle' st'' hd' hn' hk' => hQ S'' env'' a'' W'' (Env.le_trans hle hle') st'' (hd'.trans hd) (hn'.trans hn) hk'

/-! ### orders -/

def runFull (P : Program) (call : FuncId → List SV → Heap → KV → Prop) (round : Nat → List SV → Heap → KV → Prop) (ops : Array Oper) : Nat → Array Bool → SS → (SS → Prop) → Prop
  | 0, listed, S, k => Region.ready .any ops listed = [] ∧ k S
  | n + 1, listed, S, k => (Region.ready .any ops listed = [] → k S) ∧ ∀ i ∈ Region.ready .any ops listed, stepOp P call round ops i S fun S' => runFull P call round ops n (listed.setIfInBounds i true) S' k

theorem runFull_ok (pok : POk P) (hc : CallOK P call) (hr : RoundOK P round) {r : Option Nat} {Q : Exit → Act → World → Prop} {k : SS → Prop} : ∀ (n : Nat) (listed : Array Bool) {S : SS} {a : Act} {W : World} {env : Env},
    St B W0 env S a W → runFull P call round ops n listed S k →
    (∀ S' env' a' W', Env.le env env' → St B W0 env' S' a' W' → S'.defs = S.defs → S'.rnd = S.rnd → k S' → Q .normal a' W') → wpAnyIn (FW r) 0 P .any ops Q n listed a W
  | 0, listed, S, a, W, env, st, H, hQ => ⟨H.1, hQ S env a W (Env.le_refl _) st rfl rfl H.2⟩
  | n + 1, listed, S, a, W, env, st, H, hQ => by
    refine ⟨fun hr => hQ S env a W (Env.le_refl _) st rfl rfl (H.1 hr), fun i hi => ?_⟩
    exact stepOp_ok pok hc hr st (H.2 i hi) fun S' env' a' W' hle st' hd hn hk =>
      runFull_ok pok hc hr n _ st' hk fun S'' env'' a'' W'' hle' st'' hd' hn' hk' => hQ S'' env'' a'' W'' (Env.le_trans hle hle') st'' (hd'.trans hd) (hn'.trans hn) hk'

theorem stepOp_mono (hc : MonoCall call) (hr : MonoCall round) {i : Nat} {S : SS} {k k' : SS → Prop} (hk : ∀ S, k S → k' S) (H : stepOp P call round ops i S k) : stepOp P call round ops i S k' := by
  apply stepOp_mk
  rcases stepOp_eq H with ⟨ho, h⟩ | ⟨o, ho, ⟨hg, hs⟩ | ⟨hg, h⟩⟩
  · exact .inl ⟨ho, hk _ h⟩
  · exact .inr ⟨o, ho, .inl ⟨hg, sop_mono hc hr (fun v h => hk _) hs⟩⟩
  · exact .inr ⟨o, ho, .inr ⟨hg, hk _ h⟩⟩

theorem runOps_mono (hc : MonoCall call) (hr : MonoCall round) {k k' : SS → Prop} (hk : ∀ S, k S → k' S) : ∀ (l : List Nat) {S : SS}, runOps P call round ops l S k → runOps P call round ops l S k'
  | [], _, H => hk _ H
  | i :: l, S, H => stepOp_mono hc hr (fun _ h => runOps_mono hc hr hk l h) H

/-- Two states alike in the temporaries that an operation looks at. -/
def Alike (ops : Array Oper) (o : Oper) (S S' : SS) : Prop := ∀ t ∈ o.looksAt ops, S'.get t = S.get t

theorem Alike.ev {o : Oper} {S S' : SS} (h : Alike ops o S S') : ∀ x ∈ o.op.operands, S'.ev x = S.ev x := by
  intro x hx
  cases x with
  | tmp t =>
    refine h t ?_
    unfold Oper.looksAt
    refine List.mem_append_left _ ?_
    simp only [List.mem_filterMap, Array.mem_toList_iff]
    exact ⟨.tmp t, hx, rfl⟩
  | const v => rfl
  | global g => rfl
  | func f => rfl

theorem Alike.guard {o : Oper} {S S' : SS} (h : Alike ops o S S') {j : Nat} {want : Bool} {t : Nat} (hg : o.guard = some (j, want)) (hd : (ops[j]?).bind (·.dst) = some t) : S'.get t = S.get t := by
  refine h t ?_
  unfold Oper.looksAt
  refine List.mem_append_right _ ?_
  simp [hg, hd]

/-- An operation that does not look at memory at all. -/
def isPure : Op → Bool
  | .move _ | .assign _ | .pick .. | .nilCheck _ | .fieldAddr .. | .field .. | .index .. | .binOp .. | .unOp .. | .convert .. | .extract .. | .makeFunc .. | .build .. => true
  | _ => false

theorem sop_pure {op : Op} {ρ : Operand → SV} (hp : isPure op = true) : ∃ step : (SV → Prop) → Prop, Blind step ∧ ∀ (h : Heap) (k : KV), sop P call round op ρ h k = step fun v => k v h := by
  cases op <;> simp only [isPure, Bool.false_eq_true] at hp <;> simp only [sop]
  case move x => exact ⟨fun k => k (ρ x), const_blind, fun _ _ => rfl⟩
  case assign x => exact ⟨fun k => k (ρ x), const_blind, fun _ _ => rfl⟩
  case pick c a b =>
    split
    · rename_i b' hb
      cases b'
      · exact ⟨fun k => k (ρ b), const_blind, fun _ _ => rfl⟩
      · exact ⟨fun k => k (ρ a), const_blind, fun _ _ => rfl⟩
    · exact ⟨_, false_blind, fun _ _ => rfl⟩
  case nilCheck x =>
    split
    · exact ⟨fun k => k _, const_blind, fun _ _ => rfl⟩
    · exact ⟨fun k => k _, const_blind, fun _ _ => rfl⟩
    · exact ⟨_, false_blind, fun _ _ => rfl⟩
  case fieldAddr t x f =>
    split
    · exact ⟨fun k => k _, const_blind, fun _ _ => rfl⟩
    · exact ⟨_, false_blind, fun _ _ => rfl⟩
  case field t x f => exact ⟨_, doField_blind, fun _ _ => rfl⟩
  case index t x ix => exact ⟨_, doIndex_blind, fun _ _ => rfl⟩
  case binOp op t x y ty => exact ⟨_, doBin_blind, fun _ _ => rfl⟩
  case unOp op t x => exact ⟨_, doUn_blind, fun _ _ => rfl⟩
  case convert s d x => exact ⟨_, doConvert_blind, fun _ _ => rfl⟩
  case extract x i =>
    split
    · split
      · exact ⟨fun k => k _, const_blind, fun _ _ => rfl⟩
      · exact ⟨_, false_blind, fun _ _ => rfl⟩
    · exact ⟨_, false_blind, fun _ _ => rfl⟩
  case makeFunc f a c =>
    split
    · exact ⟨fun k => k _, const_blind, fun _ _ => rfl⟩
    · exact ⟨_, false_blind, fun _ _ => rfl⟩
  case build t ps =>
    split
    · exact ⟨fun k => k _, const_blind, fun _ _ => rfl⟩
    · exact ⟨_, false_blind, fun _ _ => rfl⟩

/-- What the other operations may do to the heap: anything, beside an operation that does not look at it; else they may add to it. -/
def HR (pu : Bool) (h h' : Heap) : Prop := pu = true ∨ HExt h h'
theorem HR.refl {pu : Bool} (h : Heap) : HR pu h h := .inr (HExt.refl h)
theorem HR.trans {pu : Bool} {a b c : Heap} (h : HR pu a b) (h' : HR pu b c) : HR pu a c := by
  rcases h with h | h
  · exact .inl h
  · rcases h' with h' | h'
    · exact .inl h'
    · exact .inr (h.trans h')

/-- What is known of an operation that has been found quiet: whenever it comes up, it yields this. -/
def Later (P : Program) (call : FuncId → List SV → Heap → KV → Prop) (round : Nat → List SV → Heap → KV → Prop) (ops : Array Oper) (pu : Bool) (i : Nat) (o : Oper) (S : SS) (v : SV) : Prop :=
  ∀ (S' : SS) (k : SS → Prop), Alike ops o S S' → HR pu S.heap S'.heap → k (S'.put o.dst v) → stepOp P call round ops i S' k

theorem quiet_step {pu : Bool} {i : Nat} {o : Oper} (ho : ops[i]? = some o) (hq : isQuiet o.op = true) (hpu : pu = true → isPure o.op = true) {S : SS} {k : SS → Prop} (H : stepOp P call round ops i S k) : ∃ v, k (S.put o.dst v) ∧ Later P call round ops pu i o S v := by
  rcases stepOp_eq H with ⟨ho', h⟩ | ⟨o', ho', ⟨hg, hs⟩ | ⟨⟨j, want, hg, hd⟩, h⟩⟩
  · rw [ho] at ho'; cases ho'
  · rw [ho] at ho'; cases ho'
    obtain ⟨v, hv, hy⟩ : ∃ v, k ((S.hp S.heap).put o.dst v) ∧ ∀ h' (k' : KV), HR pu S.heap h' → k' v h' → sop P call round o.op S.ev h' k' := by
      cases pu with
      | false =>
        obtain ⟨v, hv, hy⟩ := sop_quiet hq S.heap _ hs
        exact ⟨v, hv, fun h' k' hx hk => hy h' k' (hx.resolve_left (by simp)) hk⟩
      | true =>
        obtain ⟨step, hb, hst⟩ := sop_pure (P := P) (call := call) (round := round) (ρ := S.ev) (hpu rfl)
        rw [hst] at hs
        obtain ⟨v, hv, hy⟩ := hb _ hs
        exact ⟨v, hv, fun h' k' _ hk => by rw [hst]; exact hy _ hk⟩
    refine ⟨v, hv, fun S' k' hal hx hk => stepOp_mk (.inr ⟨o, ho, .inl ⟨?_, ?_⟩⟩)⟩
    · rcases hg with hg | ⟨j, want, t, hg, hd, hb⟩
      · exact .inl hg
      · exact .inr ⟨j, want, t, hg, hd, (hal.guard hg hd).trans hb⟩
    · rw [sop_congr hal.ev]
      exact hy S'.heap _ hx hk
  · rw [ho] at ho'; cases ho'
    refine ⟨.und, h, fun S' k' hal hx hk => stepOp_mk (.inr ⟨o, ho, .inr ⟨⟨j, want, hg, ?_⟩, hk⟩⟩)⟩
    rcases hd with hd | ⟨t, hd, hb⟩
    · exact .inl hd
    · exact .inr ⟨t, hd, by rw [hal.guard hg hd]; exact hb⟩

theorem SS.get_put {S : SS} {d : Nat} {v : SV} {t : Nat} (h : t ≠ d) : (S.put (some d) v).get t = S.get t := by
  unfold SS.get SS.put
  dsimp only
  rw [List.getElem?_set, if_neg (fun e => h e.symm)]

theorem SS.put_comm {S : SS} {d d' : Option Nat} {v v' : SV} (h : ∀ x, d = some x → d' ≠ some x) : (S.put d v).put d' v' = (S.put d' v').put d v := by
  cases d with
  | none => rfl
  | some x => cases d' with
    | none => rfl
    | some y =>
      have : x ≠ y := fun e => h x rfl (by rw [e])
      simp only [SS.put]
      rw [List.set_comm _ _ this]

theorem SS.hp_put {S : SS} {d : Option Nat} {v : SV} {h : Heap} : (S.put d v).hp h = (S.hp h).put d v := by cases d <;> rfl
theorem SS.heap_put {S : SS} {d : Option Nat} {v : SV} : (S.put d v).heap = S.heap := by cases d <;> rfl
theorem SS.get_hp {S : SS} {h : Heap} {t : Nat} : (S.hp h).get t = S.get t := rfl

/-- An operation apart from a quiet one: the other's value may be put before or behind. -/
theorem apart_step {pu : Bool} (hc : MonoCall call) (hr : MonoCall round) {con : FuncId → Bool} (he : ExtCall con call) {j : Nat} {oi oj : Oper} {v : SV} (hj : ops[j]? = some oj) (hap : oi.apart ops oj = true) (hx : pu = true ∨ isExt con oj.op = true) {S : SS} {k : SS → Prop}
    (H : stepOp P call round ops j (S.put oi.dst v) k) : stepOp P call round ops j S fun S' => (Alike ops oi S S' ∧ HR pu S.heap S'.heap) ∧ k (S'.put oi.dst v) := by
  obtain ⟨h1, h2, h3⟩ := Oper.apart_spec hap
  have al : Alike ops oj S (S.put oi.dst v) := by
    intro t ht
    cases hd : oi.dst with
    | none => rfl
    | some d => exact SS.get_put fun e => h1 d hd (e ▸ ht)
  have al2 : ∀ {h : Heap} {u : SV}, Alike ops oi S ((S.hp h).put oj.dst u) := by
    intro h u t ht
    cases hd : oj.dst with
    | none => rfl
    | some d => exact (SS.get_put (fun e : t = d => h3 d hd (by rw [← e]; exact ht))).trans SS.get_hp
  have al3 : ∀ {u : SV}, Alike ops oi S (S.put oj.dst u) := by
    intro u t ht
    cases hd : oj.dst with
    | none => rfl
    | some d => exact SS.get_put fun e => h3 d hd (e ▸ ht)
  apply stepOp_mk
  rcases stepOp_eq H with ⟨ho', h⟩ | ⟨o', ho', ⟨hg, hs⟩ | ⟨⟨g, want, hg, hd⟩, h⟩⟩
  · rw [hj] at ho'; cases ho'
  · rw [hj] at ho'; cases ho'
    refine .inr ⟨oj, hj, .inl ⟨?_, ?_⟩⟩
    · rcases hg with hg | ⟨g, want, t, hg, hd, hb⟩
      · exact .inl hg
      · exact .inr ⟨g, want, t, hg, hd, (al.guard hg hd).symm.trans hb⟩
    · rw [← sop_congr al.ev]
      have := sop_mono hc hr (k' := fun v h' => HR pu S.heap h' ∧ _) (fun v h' h => h) (show sop P call round oj.op (S.put oi.dst v).ev (S.put oi.dst v).heap fun v1 h' => HR pu S.heap h' ∧ k (((S.put oi.dst v).hp h').put oj.dst v1) from by
        rcases hx with hx | hx
        · exact sop_mono hc hr (fun v h' h => ⟨.inl hx, h⟩) hs
        · have := sop_ext hc hr he (fun f => rfl) hx hs
          rw [SS.heap_put] at this
          rw [SS.heap_put]
          exact sop_mono hc hr (fun v h' h => ⟨.inr h.1, h.2⟩) this)
      rw [SS.heap_put] at this
      refine sop_mono hc hr (fun u h' hh => ⟨⟨al2, ?_⟩, ?_⟩) this
      · have := hh.1
        cases oj.dst <;> exact this
      · have := hh.2
        rw [SS.hp_put, SS.put_comm fun x hx => h2 x hx] at this
        exact this
  · rw [hj] at ho'; cases ho'
    refine .inr ⟨oj, hj, .inr ⟨⟨g, want, hg, ?_⟩, ⟨al3, ?_⟩, ?_⟩⟩
    · rcases hd with hd | ⟨t, hd, hb⟩
      · exact .inl hd
      · exact .inr ⟨t, hd, by rw [← al.guard hg hd]; exact hb⟩
    · rw [SS.heap_put]; exact HR.refl _
    · rw [SS.put_comm fun x hx => h2 x hx] at h
      exact h

theorem Alike.trans {o : Oper} {a b c : SS} (h : Alike ops o a b) (h' : Alike ops o b c) : Alike ops o a c := fun t ht => (h' t ht).trans (h t ht)
theorem Later.later {pu : Bool} {i : Nat} {o : Oper} {S S' : SS} {v : SV} (h : Later P call round ops pu i o S v) (ha : Alike ops o S S') (hx : HR pu S.heap S'.heap) : Later P call round ops pu i o S' v :=
  fun S'' k ha' hx' hk => h S'' k (ha.trans ha') (hx.trans hx') hk

/-- The operations that wait for i: those that are bound to be behind it, or behind one that waits for it. -/
def waits (ops : Array Oper) (listed : Array Bool) (i : Nat) : List Nat → List Nat → List Nat
  | [], acc => acc
  | j :: r, acc => match !(Nat.beq j i) && !listed.getD j true && (match ops[j]? with | some oj => oj.after.any fun e => Region.binds .any e && (Nat.beq e.on i || acc.any (Nat.beq e.on)) | none => false) with
    | true => waits ops listed i r (j :: acc)
    | false => waits ops listed i r acc

def Waits (ops : Array Oper) (listed : Array Bool) (i : Nat) (D : List Nat) : Prop :=
  ∀ j ∈ D, j ≠ i ∧ listed.getD j true = false ∧ ∃ oj, ops[j]? = some oj ∧ ∃ e ∈ oj.after, Region.binds .any e = true ∧ (e.on = i ∨ e.on ∈ D)

theorem waits_ok {listed : Array Bool} {i : Nat} : ∀ (l acc : List Nat), Waits ops listed i acc → Waits ops listed i (waits ops listed i l acc)
  | [], acc, h => h
  | j :: r, acc, h => by
    unfold waits
    split
    · rename_i hb
      refine waits_ok r (j :: acc) fun x hx => ?_
      rcases List.mem_cons.1 hx with rfl | hx
      · simp only [Bool.and_eq_true, Bool.not_eq_true'] at hb
        obtain ⟨⟨h1, h2⟩, h3⟩ := hb
        refine ⟨(fun e => by rw [e, Nat.beq_refl] at h1; cases h1), h2, ?_⟩
        split at h3
        · rename_i oj hoj
          refine ⟨oj, hoj, ?_⟩
          rw [Array.any_eq_true] at h3
          obtain ⟨q, hq, hb⟩ := h3
          simp only [Bool.and_eq_true, Bool.or_eq_true, List.any_eq_true] at hb
          refine ⟨_, Array.getElem_mem hq, hb.1, ?_⟩
          rcases hb.2 with h | ⟨y, hy, h⟩
          · exact .inl (Nat.eq_of_beq_eq_true h)
          · rw [Nat.eq_of_beq_eq_true h]; exact .inr (List.mem_cons_of_mem _ hy)
        · cases h3
      · obtain ⟨h1, h2, oj, h3, e, h4, h5, h6⟩ := h x hx
        exact ⟨h1, h2, oj, h3, e, h4, h5, h6.imp id (List.mem_cons_of_mem _)⟩
    · exact waits_ok r acc h

/-- A quiet operation may be taken first. -/
theorem quiet_first (hc : MonoCall call) (hr : MonoCall round) {con : FuncId → Bool} (he : ExtCall con call) {pu : Bool} {i : Nat} {oi : Oper} {v : SV} (hi : ops[i]? = some oi) {k : SS → Prop} (D : List Nat) :
    ∀ (n : Nat) (listed : Array Bool) (S : SS), Waits ops listed i D →
      (∀ j oj, ops[j]? = some oj → j ≠ i → listed.getD j true = false → j ∉ D → oi.apart ops oj = true ∧ (pu = true ∨ isExt con oj.op = true)) →
      i ∈ Region.ready .any ops listed → Later P call round ops pu i oi S v →
      runFull P call round ops n (listed.setIfInBounds i true) (S.put oi.dst v) k → runFull P call round ops (n + 1) listed S k := by
  intro n
  induction n with
  | zero =>
    intro listed S hD hfree hrd hl H
    refine ⟨fun h => (by rw [h] at hrd; cases hrd), fun j hj => ?_⟩
    by_cases hji : j = i
    · subst hji; exact hl S _ (fun _ _ => rfl) (HR.refl _) H
    · have := ready_mono hj hji
      rw [H.1] at this
      cases this
  | succ n ih =>
    intro listed S hD hfree hrd hl H
    refine ⟨fun h => (by rw [h] at hrd; cases hrd), fun j hj => ?_⟩
    by_cases hji : j = i
    · subst hji; exact hl S _ (fun _ _ => rfl) (HR.refl _) H
    · have h1 := H.2 j (ready_mono hj hji)
      obtain ⟨hjun, oj, hoj, hall⟩ := mem_ready.1 hj
      have hnD : j ∉ D := fun hm => by
        obtain ⟨_, _, oj', hoj', e, hme, hbe, hon⟩ := hD j hm
        rw [hoj] at hoj'; cases hoj'
        have h1 := hall e hme hbe
        have hun : listed.getD e.on true = false := by
          rcases hon with h | h
          · rw [h]; exact (mem_ready.1 hrd).1
          · exact (hD _ h).2.1
        rcases Nat.lt_or_ge e.on listed.size with h' | h'
        · simp [h'] at hun h1; rw [hun] at h1; cases h1
        · simp [Array.getElem?_eq_none h'] at h1
      obtain ⟨hap, hex⟩ := hfree j oj hoj hji hjun hnD
      refine stepOp_mono hc hr (fun S' hS' => ?_) (apart_step hc hr he hoj hap hex h1)
      obtain ⟨⟨hal, hx⟩, hk⟩ := hS'
      refine ih (listed.setIfInBounds j true) S' (fun q hq => ?_) (fun q oq hq hqi hql hqn => ?_) ?_ (hl.later hal hx) ?_
      · obtain ⟨g1, g2, g3⟩ := hD q hq
        have hqj : j ≠ q := fun e => hnD (by rw [e]; exact hq)
        exact ⟨g1, (by rw [getD_set_ne true hqj]; exact g2), g3⟩
      · refine hfree q oq hq hqi ?_ hqn
        by_cases hqj : q = j
        · subst hqj; exact hjun
        · rwa [getD_set_ne true (fun e => hqj e.symm)] at hql
      · exact ready_mono hrd (fun e => hji e.symm)
      · rw [Array.setIfInBounds_comm true true hji]
        exact hk

/-! ### entries that come into a map in any order -/

def insAt (P : Program) (ops : Array Oper) (S : SS) (l i : Nat) : Option (TypeId × SV × SV) :=
  match ops[i]? with
  | some o => match o.guard, o.dst, o.op with
    | none, none, .insert t m key v => match S.ev m with
      | .map l' => match decide (l' = l), P.underlying t with
        | true, some (.map kt _) => match keyOk P kt (S.ev key) with
          | true => some (kt, S.ev key, S.ev v)
          | false => none
        | _, _ => none
      | _ => none
    | _, _, _ => none
  | none => none

theorem insAt_step {S : SS} {l i : Nat} {kt : TypeId} {key v : SV} (h : insAt P ops S l i = some (kt, key, v)) {hp : Heap} (hl : l < hp.length) {es : List (SV × SV)} (hes : ∀ e ∈ es, eqSV P 9999 kt key e.1 = some false) {k : SS → Prop}
    (hk : k (S.hp (hset hp l (.mp (es ++ [(key, v)]))))) : stepOp P call round ops i (S.hp (hset hp l (.mp es))) k := by
  unfold insAt at h
  split at h <;> try (cases h; done)
  rename_i o ho
  split at h <;> try (cases h; done)
  rename_i t m ky vv hg hd hop
  split at h <;> try (cases h; done)
  rename_i l' hm
  split at h <;> try (cases h; done)
  rename_i kt' e' hl' hu
  split at h <;> try (cases h; done)
  rename_i hko
  simp only [decide_eq_true_eq] at hl'
  subst hl'
  cases h
  refine stepOp_mk (.inr ⟨o, ho, .inl ⟨.inl hg, ?_⟩⟩)
  rw [hop]
  have hev : ∀ x, (S.hp (hset hp l' (.mp es))).ev x = S.ev x := fun x => by cases x <;> rfl
  have hgt : hget (hset hp l' (.mp es)) l' = some (.mp es) := by simp [hset, hget_set _ hl]
  have hset2 : hset (hset hp l' (.mp es)) l' (.mp (es ++ [(S.ev ky, S.ev vv)])) = hset hp l' (.mp (es ++ [(S.ev ky, S.ev vv)])) := by simp [hset]
  simp only [sop, hev]
  unfold doInsert
  rw [hu, hm]
  dsimp only
  rw [show (S.hp (hset hp l' (.mp es))).heap = hset hp l' (.mp es) from rfl, hgt]
  dsimp only
  rw [hko]
  dsimp only
  rw [hset2, hd]
  refine findEntry_of_all (fun e he => ⟨false, hes e he, fun h => by cases h⟩) fun _ => ?_
  exact hk

def setAll (listed : Array Bool) : List Nat → Array Bool
  | [] => listed
  | i :: r => setAll (listed.setIfInBounds i true) r

theorem setAll_comm {listed : Array Bool} {i : Nat} : ∀ (r : List Nat), setAll (listed.setIfInBounds i true) r = (setAll listed r).setIfInBounds i true
  | [] => rfl
  | j :: r => by
    unfold setAll
    by_cases h : i = j
    · subst h
      rw [setAll_comm r]
    · rw [Array.setIfInBounds_comm true true h, setAll_comm r]
theorem setAll_perm {a b : List Nat} (h : a.Perm b) : ∀ listed, setAll listed a = setAll listed b := by
  induction h with
  | nil => intro _; rfl
  | cons x _ ih => intro l; exact ih _
  | swap x y r =>
    intro l
    unfold setAll
    by_cases h : x = y
    · subst h; rfl
    · rw [show setAll (l.setIfInBounds y true) (x :: r) = setAll ((l.setIfInBounds y true).setIfInBounds x true) r from rfl, show setAll (l.setIfInBounds x true) (y :: r) = setAll ((l.setIfInBounds x true).setIfInBounds y true) r from rfl, Array.setIfInBounds_comm true true h]
  | trans _ _ ih1 ih2 => intro l; exact (ih1 l).trans (ih2 l)

theorem inserts_full {S : SS} {l : Nat} {kt : TypeId} {en : Nat → SV × SV} {hp : Heap} (hl : l < hp.length) {k : SS → Prop} : ∀ (m : Nat) (R : List Nat) (n : Nat) (listed : Array Bool) (es : List (SV × SV)), R.length = m → R.Nodup →
    (∀ i ∈ R, i ∈ Region.ready .any ops listed) → (∀ i ∈ R, ∃ D, Waits ops listed i D ∧ ∀ j, listed.getD j true = false → j ∉ R → j ∈ D) →
    (∀ i ∈ R, insAt P ops S l i = some (kt, (en i).1, (en i).2)) → (∀ i ∈ R, ∀ e ∈ es, eqSV P 9999 kt (en i).1 e.1 = some false) → (∀ i ∈ R, ∀ j ∈ R, i ≠ j → eqSV P 9999 kt (en i).1 (en j).1 = some false) →
    (∀ es', es'.Perm (es ++ R.map en) → runFull P call round ops n (setAll listed R) (S.hp (hset hp l (.mp es'))) k) → runFull P call round ops (n + m) listed (S.hp (hset hp l (.mp es))) k := by
  intro m
  induction m with
  | zero =>
    intro R n listed es hm _ _ _ _ _ _ H
    have : R = [] := List.length_eq_zero_iff.1 hm
    subst this
    exact H es (by simp)
  | succ m ih =>
    intro R n listed es hm hnd hrd hw hins hes hne H
    refine ⟨fun h => ?_, fun i hi => ?_⟩
    · cases R with
      | nil => simp at hm
      | cons i r => have := hrd i (by simp); rw [h] at this; cases this
    · have waitsNot : ∀ {j : Nat} {D : List Nat} {x : Nat}, Waits ops listed x D → x ∈ R → j ∈ Region.ready .any ops listed → j ∉ D := by
        intro j D x hD hx hj hm
        obtain ⟨_, _, oj', hoj', e, hme, hbe, hon⟩ := hD j hm
        obtain ⟨_, oj, hoj, hall⟩ := mem_ready.1 hj
        rw [hoj] at hoj'; cases hoj'
        have h1 := hall e hme hbe
        have hun : listed.getD e.on true = false := by
          rcases hon with h | h
          · rw [h]; exact (mem_ready.1 (hrd x hx)).1
          · exact (hD _ h).2.1
        rcases Nat.lt_or_ge e.on listed.size with h' | h'
        · simp [h'] at hun h1; rw [hun] at h1; cases h1
        · simp [Array.getElem?_eq_none h'] at h1
      have hiR : i ∈ R := by
        apply Classical.byContradiction
        intro hn
        cases R with
        | nil => simp at hm
        | cons x r =>
          obtain ⟨D, hD, hDall⟩ := hw x (by simp)
          exact waitsNot hD (by simp) hi (hDall i (mem_ready.1 hi).1 hn)
      have hperm : R.Perm (i :: R.erase i) := List.perm_cons_erase hiR
      have hnd' : (i :: R.erase i).Nodup := hperm.nodup_iff.1 hnd
      have hmem : ∀ {j}, j ∈ R.erase i → j ∈ R ∧ j ≠ i := fun {j} hj => ⟨List.mem_of_mem_erase hj, fun e => (List.nodup_cons.1 hnd').1 (e ▸ hj)⟩
      refine insAt_step (hins i hiR) hl (hes i hiR) ?_
      refine ih (R.erase i) n (listed.setIfInBounds i true) (es ++ [((en i).1, (en i).2)]) (by rw [List.length_erase_of_mem hiR]; omega) (List.nodup_cons.1 hnd').2 (fun j hj => ?_) (fun j hj => ?_) (fun j hj => hins j (hmem hj).1) (fun j hj e he => ?_) (fun j hj q hq hjq => hne j (hmem hj).1 q (hmem hq).1 hjq) fun es' hes' => ?_
      · exact ready_mono (hrd j (hmem hj).1) (hmem hj).2
      · obtain ⟨D, hD, hDall⟩ := hw j (hmem hj).1
        have hiD : i ∉ D := waitsNot hD (hmem hj).1 hi
        refine ⟨D, fun q hq => ?_, fun q hq hqR => ?_⟩
        · obtain ⟨g1, g2, g3⟩ := hD q hq
          have hiq : i ≠ q := fun e => hiD (by rw [e]; exact hq)
          exact ⟨g1, (by rw [getD_set_ne true hiq]; exact g2), g3⟩
        · by_cases hqi : q = i
          · subst hqi
            have hlt : q < listed.size := by
              have := (mem_ready.1 hi).1
              rcases Nat.lt_or_ge q listed.size with h' | h'
              · exact h'
              · simp [Array.getD, Nat.not_lt.2 h'] at this
            simp [Array.getD, hlt] at hq
          · rw [getD_set_ne true (fun e => hqi e.symm)] at hq
            exact hDall q hq fun hm => hqR ((List.mem_erase_of_ne hqi).2 hm)
      · rcases List.mem_append.1 he with he | he
        · exact hes j (hmem hj).1 e he
        · simp at he
          subst he
          exact hne j (hmem hj).1 i hiR (hmem hj).2
      · rw [show setAll (listed.setIfInBounds i true) (R.erase i) = setAll listed (i :: R.erase i) from rfl, ← setAll_perm hperm]
        refine H es' (hes'.trans ?_)
        rw [List.append_assoc]
        exact List.Perm.append_left es (hperm.map en).symm
end
end Go.Sh

/-
  SHAD: the executor, and that what it says holds of the machine.
-/
namespace Go.Sh
open Go.RowKit
set_option linter.unusedVariables false
set_option linter.unusedSimpArgs false

inductive SX where
  | normal | ret | exit (id : Nat)
def SX.toExit : SX → Exit
  | .normal => .normal
  | .ret => .ret
  | .exit id => .exit id

/-- The frame's round, and the label that stands for it. -/
def RR (env : Env) : Option Nat → Option Nat → Prop
  | none, none => True
  | some l, some b => ∃ e, env l = some e ∧ e.blk = b
  | _, _ => False
theorem RR.mono {e e' : Env} (h : Env.le e e') {l r : Option Nat} (H : RR e l r) : RR e' l r := by
  cases l <;> cases r <;> first | exact H | (obtain ⟨x, hx, hb⟩ := H; exact ⟨x, h _ _ hx, hb⟩)

abbrev KX := SX → SS → Prop

/-- What a piece of code comes to, said of symbolic states. -/
def SWp (P : Program) (c : Code) (S : SS) (K : KX) : Prop :=
  ∀ (r : Option Nat) (B : Nat) (W0 : World) (env : Env) (a : Act) (W : World) (Q : Exit → Act → World → Prop), St B W0 env S a W → RR env S.rnd r →
    (∀ x S' env' a' W', Env.le env env' → St B W0 env' S' a' W' → S'.rnd = S.rnd → K x S' → Q x.toExit a' W') → c.wpIn (FW r) 0 P Q a W

theorem SWp.mono {P : Program} {c : Code} {S : SS} {K K' : KX} (hk : ∀ x S, K x S → K' x S) (H : SWp P c S K) : SWp P c S K' :=
  fun r B W0 env a W Q st hr hQ => H r B W0 env a W Q st hr fun x S' env' a' W' h1 h2 h3 h4 => hQ x S' env' a' W' h1 h2 h3 (hk _ _ h4)

/-! ### regions that draw -/

def freeB (con : FuncId → Bool) (ops : Array Oper) (listed : Array Bool) (i : Nat) : Bool :=
  match ops[i]? with
  | none => false
  | some oi => isQuiet oi.op && (List.range ops.size).all fun j => Nat.beq j i || listed.getD j true || (match ops[j]? with
    | none => true
    | some oj => (oi.apart ops oj && (isPure oi.op || isExt con oj.op)) || (waits ops listed i (List.range ops.size) []).any (Nat.beq j))

def allP : List Nat → (Nat → Prop) → Prop
  | [], _ => True
  | [i], f => f i
  | i :: r, f => f i ∧ allP r f
theorem allP_mem : ∀ {l : List Nat} {f : Nat → Prop}, allP l f → ∀ i ∈ l, f i
  | [], _, _, _, h => by cases h
  | [i], f, H, j, h => by simp at h; subst h; exact H
  | i :: a :: r, f, H, j, h => by
    rcases List.mem_cons.1 h with rfl | h
    · exact H.1
    · exact allP_mem (l := a :: r) H.2 j h

/-- Is it the case that all that may be done now is to lay entries into one empty map, and that all else waits for all of that? -/
def insAll (P : Program) (ops : Array Oper) (S : SS) (l : Nat) (kt : TypeId) : List Nat → Option (List (SV × SV))
  | [] => some []
  | i :: r => match insAt P ops S l i, insAll P ops S l kt r with
    | some (kt', key, v), some q => match decide (kt' = kt) with | true => some ((key, v) :: q) | false => none
    | _, _ => none
def neB (P : Program) (kt : TypeId) (a b : SV) : Bool := match eqSV P 9999 kt a b with | some r => !r | none => false
def apartB (P : Program) (kt : TypeId) : List (SV × SV) → Bool
  | [] => true
  | e :: r => (r.all fun q => neB P kt e.1 q.1 && neB P kt q.1 e.1) && apartB P kt r
def nodupB : List Nat → Bool
  | [] => true
  | i :: r => !(r.any (Nat.beq i)) && nodupB r
def firstMap (P : Program) (ops : Array Oper) (S : SS) (i : Nat) : Option (Nat × TypeId) := match ops[i]? with
  | some o => match o.op with
    | .insert t m _ _ => match S.ev m, P.underlying t with
      | .map l, some (.map kt _) => some (l, kt)
      | _, _ => none
    | _ => none
  | none => none
def insRule (P : Program) (ops : Array Oper) (listed : Array Bool) (S : SS) (n : Nat) (R : List Nat) : Option (Nat × List (SV × SV)) :=
  match R with
  | [] => none
  | i :: _ => match firstMap P ops S i with
    | some (l, kt) => match hget S.heap l, insAll P ops S l kt R with
      | some (.mp []), some q => match apartB P kt q && nodupB R && decide (R.length ≤ n) && ((List.range ops.size).all fun j => listed.getD j true || R.any (Nat.beq j) || R.all fun i => (waits ops listed i (List.range ops.size) []).any (Nat.beq j)) with
        | true => some (l, q)
        | false => none
      | _, _ => none
    | none => none

def runAny (P : Program) (con : FuncId → Bool) (call : FuncId → List SV → Heap → KV → Prop) (round : Nat → List SV → Heap → KV → Prop) (ops : Array Oper) : Nat → Nat → Array Bool → SS → (SS → Prop) → Prop
  | 0, _, _, _, _ => False
  | fu + 1, n, listed, S, k => match Region.ready .any ops listed with
    | [] => k S
    | i :: r => match n with
      | 0 => False
      | n + 1 => match (i :: r).find? (freeB con ops listed) with
        | some i => stepOp P call round ops i S fun S' => runAny P con call round ops fu n (listed.setIfInBounds i true) S' k
        | none => match insRule P ops listed S (n + 1) (i :: r) with
          | some (l, q) => ∀ es', List.Perm es' q → runAny P con call round ops fu (n - r.length) (setAll listed (i :: r)) (S.hp (hset S.heap l (.mp es'))) k
          | none => allP (i :: r) fun i => stepOp P call round ops i S fun S' => runAny P con call round ops fu n (listed.setIfInBounds i true) S' k

theorem hget_some {h : Heap} {l : Nat} {o : SO} (hl : hget h l = some o) : h[l]? = some (some o) := by
  unfold hget at hl
  cases hx : h[l]? with
  | none => simp [hx] at hl
  | some x => simp [hx] at hl; rw [hl]

theorem insAll_get {P : Program} {ops : Array Oper} {S : SS} {l : Nat} {kt : TypeId} : ∀ {R : List Nat} {q : List (SV × SV)}, insAll P ops S l kt R = some q → R.length = q.length ∧ ∀ (j : Nat) (i : Nat), R[j]? = some i → ∃ e, q[j]? = some e ∧ insAt P ops S l i = some (kt, e.1, e.2)
  | [], q, h => by cases h; exact ⟨rfl, fun j i hj => by simp at hj⟩
  | i :: r, q, h => by
    unfold insAll at h
    split at h <;> try (cases h; done)
    rename_i kt' key v q' h1 h2
    split at h <;> try (cases h; done)
    rename_i hd
    simp only [decide_eq_true_eq] at hd
    subst hd
    cases h
    obtain ⟨hl, hg⟩ := insAll_get h2
    refine ⟨by simp [hl], fun j x hj => ?_⟩
    cases j with
    | zero => simp at hj; subst hj; exact ⟨_, rfl, h1⟩
    | succ j => simpa using hg j x (by simpa using hj)

theorem neB_spec {P : Program} {kt : TypeId} {a b : SV} (h : neB P kt a b = true) : eqSV P 9999 kt a b = some false := by
  unfold neB at h
  split at h
  · rename_i r hr; cases r; exact hr; cases h
  · cases h

theorem apartB_get {P : Program} {kt : TypeId} : ∀ {q : List (SV × SV)}, apartB P kt q = true → ∀ {i j : Nat} {a b : SV × SV}, i ≠ j → q[i]? = some a → q[j]? = some b → eqSV P 9999 kt a.1 b.1 = some false
  | [], _, i, j, a, b, _, hi, _ => by simp at hi
  | e :: r, h, i, j, a, b, hne, hi, hj => by
    simp only [apartB, Bool.and_eq_true, List.all_eq_true] at h
    cases i with
    | zero =>
      cases j with
      | zero => exact absurd rfl hne
      | succ j =>
        simp at hi hj
        subst hi
        exact neB_spec (h.1 b (List.mem_of_getElem? hj)).1
    | succ i =>
      cases j with
      | zero =>
        simp at hi hj
        subst hj
        exact neB_spec (h.1 a (List.mem_of_getElem? hi)).2
      | succ j => exact apartB_get h.2 (i := i) (j := j) (by omega) (by simpa using hi) (by simpa using hj)

theorem nodupB_spec : ∀ {l : List Nat}, nodupB l = true → l.Nodup
  | [], _ => List.nodup_nil
  | i :: r, h => by
    simp only [nodupB, Bool.and_eq_true, Bool.not_eq_true'] at h
    refine List.nodup_cons.2 ⟨fun hm => ?_, nodupB_spec h.2⟩
    have : r.any (Nat.beq i) = true := List.any_eq_true.2 ⟨i, hm, Nat.beq_refl i⟩
    rw [h.1] at this; cases this

section
variable {P : Program} {call : FuncId → List SV → Heap → KV → Prop} {round : Nat → List SV → Heap → KV → Prop} {ops : Array Oper} {con : FuncId → Bool}

theorem runAny_mono (hc : MonoCall call) (hr : MonoCall round) {k k' : SS → Prop} (hk : ∀ S, k S → k' S) : ∀ (fu n : Nat) (listed : Array Bool) {S : SS}, runAny P con call round ops fu n listed S k → runAny P con call round ops fu n listed S k' := by
  have all : ∀ (l : List Nat) (f g : Nat → Prop), (∀ i, f i → g i) → allP l f → allP l g := by
    intro l f g h
    induction l with
    | nil => exact id
    | cons i r ih =>
      cases r with
      | nil => exact h i
      | cons a r => exact fun H => ⟨h i H.1, ih H.2⟩
  intro fu
  induction fu with
  | zero => intro n listed S H; exact H
  | succ fu ih =>
    intro n listed S H
    unfold runAny at H ⊢
    split at H
    · exact hk _ H
    · split at H
      · exact H.elim
      · split at H
        · exact stepOp_mono hc hr (fun _ => ih _ _) H
        · split at H
          · exact fun es' hes => ih _ _ (H es' hes)
          · exact all _ _ _ (fun i => stepOp_mono hc hr fun _ => ih _ _) H

theorem runAny_full (hc : MonoCall call) (hr : MonoCall round) (he : ExtCall con call) {k : SS → Prop} : ∀ (fu n : Nat) (listed : Array Bool) (S : SS), (∀ j, ops.size ≤ j → listed.getD j true = true) → runAny P con call round ops fu n listed S k → runFull P call round ops n listed S k := by
  have hout' : ∀ {listed : Array Bool} {i : Nat}, (∀ j, ops.size ≤ j → listed.getD j true = true) → ∀ j, ops.size ≤ j → (listed.setIfInBounds i true).getD j true = true := by
    intro listed i h j hj
    by_cases hij : i = j
    · subst hij
      rcases Nat.lt_or_ge i listed.size with h' | h'
      · simp [Array.getD, h']
      · simp [Array.getD, Nat.not_lt.2 h']
    · rw [getD_set_ne true hij]; exact h j hj
  have houtA : ∀ (R : List Nat) {listed : Array Bool}, (∀ j, ops.size ≤ j → listed.getD j true = true) → ∀ j, ops.size ≤ j → (setAll listed R).getD j true = true := by
    intro R
    induction R with
    | nil => exact fun h => h
    | cons i r ih => exact fun h => ih (hout' h)
  intro fu
  induction fu with
  | zero => intro n listed S _ H; exact H.elim
  | succ fu ih =>
    intro n listed S hout H
    unfold runAny at H
    split at H
    · rename_i hr0
      cases n with
      | zero => exact ⟨hr0, H⟩
      | succ n => exact ⟨fun _ => H, fun i hi => by rw [hr0] at hi; cases hi⟩
    · rename_i i0 r hrd
      split at H
      · exact H.elim
      rename_i n
      split at H
      · rename_i i hf
        have hmem : i ∈ Region.ready .any ops listed := by rw [hrd]; exact List.mem_of_find?_eq_some hf
        have hfree := List.find?_some hf
        unfold freeB at hfree
        cases hoi : ops[i]? with
        | none => simp [hoi] at hfree
        | some oi =>
          simp only [hoi, Bool.and_eq_true, List.all_eq_true, List.mem_range] at hfree
          obtain ⟨hq, hall⟩ := hfree
          obtain ⟨v, hv, hl⟩ := quiet_step (pu := isPure oi.op) (k := fun S' => runAny P con call round ops fu n (listed.setIfInBounds i true) S' k) hoi hq id H
          refine quiet_first hc hr he hoi (waits ops listed i (List.range ops.size) []) n listed S (waits_ok _ _ fun _ h => by cases h) (fun j oj hoj hji hjl hnot => ?_) hmem hl (ih n _ _ (hout' hout) hv)
          have hjs : j < ops.size := (Array.getElem?_eq_some_iff.1 hoj).1
          have hlj := hall j hjs
          rw [hoj] at hlj
          simp only [Bool.or_eq_true, Bool.and_eq_true, List.any_eq_true] at hlj
          rcases hlj with (hlj | hlj) | hlj
          · exact absurd (Nat.eq_of_beq_eq_true hlj) hji
          · rw [hjl] at hlj; cases hlj
          · rcases hlj with hlj | ⟨q, hq, hb⟩
            · exact hlj
            · rw [Nat.eq_of_beq_eq_true hb] at hnot; exact absurd hq hnot
      · split at H
        · rename_i l q hrule
          unfold insRule at hrule
          dsimp only at hrule
          split at hrule <;> try (cases hrule; done)
          rename_i l' kt hfm
          split at hrule <;> try (cases hrule; done)
          rename_i q' hgl hall
          split at hrule <;> try (cases hrule; done)
          rename_i hb
          cases hrule
          simp only [Bool.and_eq_true, decide_eq_true_eq, List.all_eq_true, List.mem_range, Bool.or_eq_true, List.any_eq_true] at hb
          obtain ⟨⟨⟨hap, hnd⟩, hlen⟩, hoth⟩ := hb
          obtain ⟨hql, hqg⟩ := insAll_get hall
          have hlt := hget_lt hgl
          have hS : S = S.hp (hset S.heap l (.mp [])) := by
            have : hset S.heap l (.mp []) = S.heap := by
              have := hget_some hgl
              unfold hset
              obtain ⟨h1, h2⟩ := List.getElem?_eq_some_iff.1 this
              rw [← h2]
              exact List.set_getElem_self h1
            rw [this]; rfl
          -- the entry of an operation
          let R := i0 :: r
          let en : Nat → SV × SV := fun i => match insAt P ops S l i with | some x => (x.2.1, x.2.2) | none => (.und, .und)
          have hen : ∀ (j i : Nat), R[j]? = some i → q[j]? = some (en i) ∧ insAt P ops S l i = some (kt, (en i).1, (en i).2) := by
            intro j i hj
            obtain ⟨e, he, hi⟩ := hqg j i hj
            have : en i = e := by simp only [en, hi]
            rw [this]; exact ⟨he, hi⟩
          have hmap : R.map en = q := by
            apply List.ext_getElem?
            intro j
            rw [List.getElem?_map]
            cases hj : R[j]? with
            | none =>
              have h1 := List.getElem?_eq_none_iff.1 hj
              rw [List.getElem?_eq_none (by show q.length ≤ j; have : R.length = q.length := hql; omega)]; rfl
            | some i => exact ((hen j i hj).1).symm
          rw [hS]
          have hn : n + 1 = (n - r.length) + R.length := by
            have : R.length = r.length + 1 := rfl
            simp only [List.length_cons] at hlen
            omega
          show runFull P call round ops (n + 1) listed _ k
          rw [hn]
          refine inserts_full (kt := kt) (en := en) hlt R.length R (n - r.length) listed [] rfl (nodupB_spec hnd) (fun i hi => by rw [hrd]; exact hi) (fun i hi => ?_) (fun i hi => ?_) (fun _ _ e he => by cases he) (fun i hi j hj hij => ?_) fun es' hes' => ?_
          · refine ⟨_, waits_ok (List.range ops.size) [] fun _ h => (by cases h), fun j hj hjR => ?_⟩
            have hjs : j < ops.size ∨ ops.size ≤ j := Nat.lt_or_ge _ _
            rcases hjs with hjs | hjs
            · rcases hoth j hjs with (h | ⟨x, hx, hb⟩) | h
              · rw [hj] at h; cases h
              · rw [Nat.eq_of_beq_eq_true hb] at hjR; exact absurd hx hjR
              · obtain ⟨x, hx, hb⟩ := h i hi
                rw [Nat.eq_of_beq_eq_true hb]; exact hx
            · rw [hout j hjs] at hj; cases hj
          · obtain ⟨j, hj⟩ := List.mem_iff_getElem?.1 hi
            exact (hen j i hj).2
          · obtain ⟨a, ha⟩ := List.mem_iff_getElem?.1 hi
            obtain ⟨b, hb⟩ := List.mem_iff_getElem?.1 hj
            exact apartB_get hap (fun e => hij (by rw [e] at ha; rw [ha] at hb; cases hb; rfl)) (hen a i ha).1 (hen b j hb).1
          · rw [hmap] at hes'
            exact ih _ _ _ (houtA R hout) (H es' (by simpa using hes'))
        · refine ⟨(fun h0 => by rw [hrd] at h0; cases h0), fun i hi => ?_⟩
          rw [hrd] at hi
          exact stepOp_mono hc hr (fun S' => ih n _ S' (hout' hout)) (allP_mem H i hi)
end

/-! ### results -/

def resSVs (P : Program) (S : SS) : List ResultVar → (List SV → Prop) → Prop
  | [], k => k []
  | .tmp t :: r, k => resSVs P S r fun vs => k (S.get t :: vs)
  | .cell a t :: r, k => doLoad P t S.heap (S.get a) fun v _ => resSVs P S r fun vs => k (v :: vs)

def tupSV : List SV → SV
  | [v] => v
  | vs => .tup vs

/-- The marks of loops over functions are taken. -/
def finDefs : List Nat → Heap → (Heap → Prop) → Prop
  | [], h, k => k h
  | l :: ls, h, k => match hget h l with
    | some .defs => finDefs ls (h.set l none) k
    | _ => False

def finish (P : Program) (fn : Func) (S : SS) (k : KV) : Prop :=
  finDefs S.defs S.heap fun h => resSVs P (S.hp h) fn.results.toList fun vs => k (tupSV vs) h

/-! ### the executor -/

structure Ctx where
  P : Program
  con : FuncId → Option (List SV → Heap → KV → Prop)
  loopc : FuncId → Nat → Option (Code × (SS → KX → Prop))
  regc : FuncId → Nat → Option (Array Oper × List Nat × List Nat) := fun _ _ => none

abbrev Ex := FuncId → Code → SS → KX → Prop

def callBy (X : Ctx) (ex : Ex) (g : FuncId) (args : List SV) (h : Heap) (k : KV) : Prop :=
  match X.con g with
  | some F => F args h k
  | none => match X.P.funcs[g]? with
    | some fn => match fn.body with
      | some b => ex g b { tmps := args ++ List.replicate (fn.ntmps - args.length) .und, heap := h, defs := [], rnd := none } fun x S' =>
        match x with
        | .exit _ => False
        | _ => finish X.P fn S' k
      | none => False
    | none => False

def setParams : List SV → List (Nat × SV) → List SV
  | tm, [] => tm
  | tm, (i, v) :: r => setParams (tm.set i v) r

def endRd (l : Nat) (x : SX) (S : SS) (k : KV) : Prop :=
  match hget S.heap l with
  | some (.loop _ _ tm ps asg body) => match x with
    | .normal => k (.bool true) (hset S.heap l (.loop .ready none tm ps asg body))
    | .ret => k (.bool false) (hset S.heap l (.loop .done (some .ret) tm ps asg body))
    | .exit id => k (.bool false) (hset S.heap l (.loop .done (some (.exit id)) tm ps asg body))
  | _ => False

def roundBy (ex : FuncId → Code → SS → KX → Prop) (g : FuncId) (l : Nat) (args : List SV) (h : Heap) (k : KV) : Prop :=
  match hget h l with
  | some (.loop _ _ tm ps asg body) => match decide (args.length = ps.length) with
    | true => ex g asg { tmps := setParams tm (ps.zip args), heap := h, defs := [], rnd := some l } fun x S' =>
      match x with
      | .normal => match hget S'.heap l with
        | some (.loop .ready pd tm' ps' asg' body') => ex g body { S' with heap := hset S'.heap l (.loop .busy pd tm' ps' asg' body') } fun x S'' => endRd l x S'' k
        | _ => False
      | _ => False
    | false => False
  | _ => False

def firstRegion : Code → Nat
  | .region id _ _ => id
  | .seq a _ => firstRegion a
  | .block _ a => firstRegion a
  | _ => 0

def unroll (ex : SS → KX → Prop) : Nat → SS → KX → Prop
  | 0, _, _ => False
  | n + 1, S, K => ex S fun x S' => match x with | .normal => unroll ex n S' K | x => K x S'

def thenK (ex : SS → KX → Prop) (K : KX) : KX := fun x S => match x with | .normal => ex S K | x => K x S
def blockK (id : Nat) (K : KX) : KX := fun x S => match x with
  | .exit j => match decide (j = id) with | true => K .normal S | false => K (.exit j) S
  | x => K x S

/-- A loop over a function, at its end. -/
def endFor (ex : Code → SS → KX → Prop) (S : SS) (ll : Nat) (ds : List Nat) (K : KX) : KV := fun _ h =>
  match hget h ll with
  | some (.loop st pd tm ps asg body) => match st with
    | .busy => False
    | _ => match pd with
      | none => K .normal { S with heap := h.set ll none, defs := ds }
      | some c => ex c { S with heap := h.set ll none, defs := ds } K
  | _ => False

/-- The state, its condition's value written where the condition stands (a temporary's value may be one that is not yet computed). -/
def SS.known (S : SS) (c : Operand) (b : Bool) : SS := match c with | .tmp i => S.put (some i) (.bool b) | _ => S

def isCon (X : Ctx) (f : FuncId) : Bool := (X.con f).isSome

def exec (X : Ctx) : Nat → Ex
  | 0, _, _, _, _ => False
  | n + 1, f, c, S, K =>
    match c with
    | .skip => K .normal S
    | .region id ops draw => match draw with
      | false => runOps X.P (callBy X (exec X n)) (roundBy (exec X n) f) ops (List.range ops.size) S (K .normal)
      | true => match X.regc f id with
        | some (ops0, _, l) => ops = ops0 ∧ runOps X.P (callBy X (exec X n)) (roundBy (exec X n) f) ops0 l S (K .normal)
        | none => runAny X.P (isCon X) (callBy X (exec X n)) (roundBy (exec X n) f) ops (ops.size + 1) ops.size (Array.replicate ops.size false) S (K .normal)
    | .seq a b => exec X n f a S (thenK (exec X n f b) K)
    | .cond c t e => match S.ev c with
      | .bool b => ifB b
        (exec X n f t (S.known c true) K)
        (exec X n f e (S.known c false) K)
      | _ => False
    | .block id b => exec X n f b S (blockK id K)
    | .loop b => match X.loopc f (firstRegion b) with
      | some (b0, L) => b = b0 ∧ L S K
      | none => unroll (exec X n f b) n S K
    | .exit id => K (.exit id) S
    | .ret => K .ret S
    | .rangeFunc g ps asg body =>
      match S.ev g with
      | .fn (.func gf) first cap => match (X.P.funcs[gf]?).bind (·.body) with
        | some _ => match S.rnd with
          | none =>
            callBy X (exec X n) gf (first ++ [.fn (.yield (S.heap.length + 1)) [] []] ++ cap) (S.heap ++ [some .defs] ++ [some (.loop .ready none S.tmps ps.toList asg body)])
              (endFor (exec X n f) S (S.heap.length + 1) (S.heap.length :: S.defs) K)
          | some l => match hget S.heap l with
            | some (.loop ..) =>
              callBy X (exec X n) gf (first ++ [.fn (.yield S.heap.length) [] []] ++ cap) (S.heap ++ [some (.loop .ready none S.tmps ps.toList asg body)])
                (endFor (exec X n f) S S.heap.length S.defs K)
            | _ => False
        | none => False
      | _ => False
    | _ => False

/-- A schedule of a region that draws: every step is one that may be taken first. -/
def certB (con : FuncId → Bool) (ops : Array Oper) : List Nat → Array Bool → Bool
  | [], listed => (Region.ready .any ops listed).isEmpty
  | i :: r, listed => (Region.ready .any ops listed).contains i && (freeB con ops listed i || decide (Region.ready .any ops listed = [i])) && certB con ops r (listed.setIfInBounds i true)

theorem isExt_mono {con con' : FuncId → Bool} (h : ∀ f, con f = true → con' f = true) {op : Op} (hx : isExt con op = true) : isExt con' op = true := by
  unfold isExt at hx ⊢
  split at hx <;> first | exact hx | skip
  all_goals (split at hx <;> first | exact hx | exact h _ hx | simp_all)

theorem sched_full {P : Program} {con con' : FuncId → Bool} {call : FuncId → List SV → Heap → KV → Prop} {round : Nat → List SV → Heap → KV → Prop} {ops : Array Oper} (hc : MonoCall call) (hr : MonoCall round) (he : ExtCall con' call) (hm : ∀ f, con f = true → con' f = true) {k : SS → Prop} :
    ∀ (l : List Nat) (listed : Array Bool) (S : SS), certB con ops l listed = true → runOps P call round ops l S k → runFull P call round ops l.length listed S k
  | [], listed, S, hcert, H => ⟨by simpa [certB] using hcert, H⟩
  | i :: r, listed, S, hcert, H => by
    simp only [certB, Bool.and_eq_true, Bool.or_eq_true, decide_eq_true_eq, List.contains_iff_mem] at hcert
    obtain ⟨⟨hmem, hfree⟩, hrest⟩ := hcert
    have H : stepOp P call round ops i S fun S' => runOps P call round ops r S' k := H
    rcases hfree with hfree | hone
    · unfold freeB at hfree
      cases hoi : ops[i]? with
      | none => simp [hoi] at hfree
      | some oi =>
        simp only [hoi, Bool.and_eq_true, List.all_eq_true, List.mem_range] at hfree
        obtain ⟨hq, hall⟩ := hfree
        obtain ⟨v, hv, hl⟩ := quiet_step (pu := isPure oi.op) (k := fun S' => runOps P call round ops r S' k) hoi hq id H
        refine quiet_first hc hr he hoi (waits ops listed i (List.range ops.size) []) r.length listed S (waits_ok _ _ fun _ h => by cases h) (fun j oj hoj hji hjl hnot => ?_) hmem hl (sched_full hc hr he hm r _ _ hrest hv)
        have hjs : j < ops.size := (Array.getElem?_eq_some_iff.1 hoj).1
        have hlj := hall j hjs
        rw [hoj] at hlj
        simp only [Bool.or_eq_true, Bool.and_eq_true, List.any_eq_true] at hlj
        rcases hlj with (hlj | hlj) | hlj
        · exact absurd (Nat.eq_of_beq_eq_true hlj) hji
        · rw [hjl] at hlj; cases hlj
        · rcases hlj with hlj | ⟨q, hq, hb⟩
          · exact ⟨hlj.1, hlj.2.imp id (isExt_mono hm)⟩
          · rw [Nat.eq_of_beq_eq_true hb] at hnot; exact absurd hq hnot
    · refine ⟨fun h => (by rw [hone] at h; cases h), fun j hj => ?_⟩
      rw [hone] at hj
      simp only [List.mem_singleton] at hj
      subst hj
      exact stepOp_mono hc hr (fun S' hS' => sched_full hc hr he hm r _ _ hrest hS') H

structure Ctx.OK (X : Ctx) : Prop where
  pok : POk X.P
  regs : ∀ f i ops fs l, X.regc f i = some (ops, fs, l) → l.length = ops.size ∧ certB (fun g => fs.contains g) ops l (Array.replicate ops.size false) = true ∧ ∀ g, fs.contains g = true → isCon X g = true
  con : ∀ f F, X.con f = some F → ∀ args h k, F args h k → SCall X.P f args h k
  mono : ∀ f F, X.con f = some F → ∀ args h (k k' : KV), (∀ v h', k v h' → k' v h') → F args h k → F args h k'
  ext : ∀ f F, X.con f = some F → ∀ args h (k : KV), F args h k → F args h fun v h' => HExt h h' ∧ k v h'
  loops : ∀ f i b L, X.loopc f i = some (b, L) → ∀ S K, L S K → SWp X.P (.loop b) S K
  lmono : ∀ f i b L, X.loopc f i = some (b, L) → ∀ S (K K' : KX), (∀ x S, K x S → K' x S) → L S K → L S K'
end Go.Sh

/-
  SHAD: what the executor says holds of the machine.
-/
namespace Go.Sh
open Go.RowKit
set_option linter.unusedVariables false
set_option linter.unusedSimpArgs false

section rel
variable {B : Nat} {W0 W W' : World} {env : Env} {h : Heap}

/-- The block of a label that may be written is written and forgotten. -/
theorem Rel.drop (R : Rel B W0 env h W) {l : Nat} {o : SO} {e : Ent} (hl : hget h l = some o) (hm : o.mut = true) (he : env l = some e) (hn : e.nil = false)
    (hos : W'.os = W.os) (ht : W'.tape = W.tape) (hp : W'.output = W.output) (hsz : W'.heap.size = W.heap.size) (hblk : ∀ k, k ≠ e.blk → W'.heap[k]? = W.heap[k]?) : Rel B W0 env (h.set l none) W' := by
  obtain ⟨e0, he0, hor0⟩ := R.obj l o hl
  rw [he] at he0
  cases he0
  have hbb : B ≤ e.blk := hor0.base hm hn
  have hlt := hget_lt hl
  have get : ∀ {x : Nat} {y : SO}, hget (h.set l none) x = some y → x ≠ l ∧ hget h x = some y := by
    intro x y hx
    rw [hget_set _ hlt] at hx
    split at hx
    · cases hx
    · rename_i hxl; exact ⟨hxl, hx⟩
  refine ⟨R.base, R.below.trans ⟨hos, ht, hp, by omega, fun k hk => hblk k (by omega)⟩, fun l1 o1 h1 => ?_, fun l1 l2 o1 o2 e1 e2 hne h1 hm1 h2 he1 he2 hn1 hn2 => R.sep l1 l2 o1 o2 e1 e2 hne (get h1).2 hm1 (get h2).2 he1 he2 hn1 hn2, fun l1 hl1 => R.fresh l1 (by simpa using hl1)⟩
  obtain ⟨hll, h1'⟩ := get h1
  obtain ⟨e1, he1, hor⟩ := R.obj l1 o1 h1'
  exact ⟨e1, he1, hor.kept (Env.le_refl _) (by omega) fun hn1 => hblk _ (R.sep l l1 o o1 e e1 (fun x => hll x.symm) hl hm h1' he he1 hn hn1).symm⟩
end rel

/-! ### more asked, more known -/

theorem doLoad_mono {P : Program} {t : TypeId} {h : Heap} {p : SV} {k k' : KV} (hk : ∀ v h, k v h → k' v h) (H : doLoad P t h p k) : doLoad P t h p k' := by
  obtain ⟨v, hv, hy⟩ := doLoad_quiet h k H
  exact hy h k' (HExt.refl h) (hk _ _ hv)

theorem resSVs_mono {P : Program} {S : SS} : ∀ (l : List ResultVar) {k k' : List SV → Prop}, (∀ vs, k vs → k' vs) → resSVs P S l k → resSVs P S l k'
  | [], _, _, hk, H => hk _ H
  | .tmp t :: r, _, _, hk, H => resSVs_mono r (fun _ h => hk _ h) H
  | .cell a t :: r, _, _, hk, H => doLoad_mono (fun v h H => resSVs_mono r (fun _ h => hk _ h) H) H

theorem finDefs_mono : ∀ (l : List Nat) {h : Heap} {k k' : Heap → Prop}, (∀ h, k h → k' h) → finDefs l h k → finDefs l h k'
  | [], _, _, _, hk, H => hk _ H
  | l :: ls, h, k, k', hk, H => by
    unfold finDefs at H ⊢
    split at H <;> try exact H.elim
    exact finDefs_mono ls hk H

theorem finish_mono {P : Program} {fn : Func} {S : SS} {k k' : KV} (hk : ∀ v h, k v h → k' v h) (H : finish P fn S k) : finish P fn S k' :=
  finDefs_mono _ (fun h => resSVs_mono _ fun vs => hk _ _) H

def MonoEx (ex : Ex) : Prop := ∀ f c S (K K' : KX), (∀ x S, K x S → K' x S) → ex f c S K → ex f c S K'

theorem callBy_mono {X : Ctx} (ok : X.OK) {ex : Ex} (hex : MonoEx ex) : MonoCall (callBy X ex) := by
  intro g args h k k' hk H
  unfold callBy at H ⊢
  split at H
  · rename_i F hF
    exact ok.mono g F hF args h k k' hk H
  · split at H <;> try exact H.elim
    split at H <;> try exact H.elim
    refine hex _ _ _ _ _ (fun x S' hx => ?_) H
    cases x <;> first | exact hx | exact finish_mono hk hx

theorem endRd_mono {l : Nat} {x : SX} {S : SS} {k k' : KV} (hk : ∀ v h, k v h → k' v h) (H : endRd l x S k) : endRd l x S k' := by
  unfold endRd at H ⊢
  split at H <;> try exact H.elim
  cases x <;> exact hk _ _ H

theorem roundBy_mono {ex : Ex} (hex : MonoEx ex) (f : FuncId) : MonoCall (roundBy ex f) := by
  intro l args h k k' hk H
  unfold roundBy at H ⊢
  split at H <;> try exact H.elim
  split at H <;> try exact H.elim
  refine hex _ _ _ _ _ (fun x S' hx => ?_) H
  cases x <;> try exact hx.elim
  dsimp only at hx ⊢
  split at hx <;> try exact hx.elim
  exact hex _ _ _ _ _ (fun x S'' h => endRd_mono hk h) hx

theorem endFor_mono {ex : Code → SS → KX → Prop} (hex : ∀ c S (K K' : KX), (∀ x S, K x S → K' x S) → ex c S K → ex c S K') {S : SS} {ll : Nat} {ds : List Nat} {K K' : KX} (hk : ∀ x S, K x S → K' x S) {v : SV} {h : Heap}
    (H : endFor ex S ll ds K v h) : endFor ex S ll ds K' v h := by
  unfold endFor at H ⊢
  split at H <;> try exact H.elim
  split at H <;> try exact H.elim
  split at H
  · exact hk _ _ H
  · exact hex _ _ _ _ hk H

theorem unroll_mono {ex : SS → KX → Prop} (hex : ∀ S (K K' : KX), (∀ x S, K x S → K' x S) → ex S K → ex S K') : ∀ (n : Nat) {S : SS} {K K' : KX}, (∀ x S, K x S → K' x S) → unroll ex n S K → unroll ex n S K'
  | 0, _, _, _, _, H => H
  | n + 1, S, K, K', hk, H => by
    unfold unroll at H ⊢
    refine hex _ _ _ (fun x S' hx => ?_) H
    cases x with
    | normal => exact unroll_mono hex n hk hx
    | ret => exact hk _ _ hx
    | exit id => exact hk _ _ hx

theorem ifB_mono {b : Bool} {A B A' B' : Prop} (ha : A → A') (hb : B → B') (H : ifB b A B) : ifB b A' B' := by
  cases b
  · exact hb H
  · exact ha H

theorem exec_mono {X : Ctx} (ok : X.OK) : ∀ n, MonoEx (exec X n) := by
  intro n
  induction n with
  | zero => intro f c S K K' hk H; exact H
  | succ n ih =>
    have hc := callBy_mono ok ih
    intro f c S K K' hk H
    have hr := roundBy_mono ih f
    unfold exec at H ⊢
    cases c <;> try exact H.elim
    case skip => exact hk _ _ H
    case region id ops draw =>
      cases draw
      · exact runOps_mono hc hr (fun S => hk _ S) _ H
      · dsimp only at H ⊢
        split at H
        · exact ⟨H.1, runOps_mono hc hr (fun S => hk _ S) _ H.2⟩
        · exact runAny_mono hc hr (fun S => hk _ S) _ _ _ H
    case seq a b =>
      refine ih _ _ _ _ _ (fun x S' hx => ?_) H
      cases x with
      | normal => exact ih _ _ _ _ _ hk hx
      | ret => exact hk _ _ hx
      | exit id => exact hk _ _ hx
    case cond c t e =>
      dsimp only at H ⊢
      split at H <;> try exact H.elim
      exact ifB_mono (ih _ _ _ _ _ hk) (ih _ _ _ _ _ hk) H
    case block id b =>
      refine ih _ _ _ _ _ (fun x S' hx => ?_) H
      cases x with
      | normal => exact hk _ _ hx
      | ret => exact hk _ _ hx
      | exit j =>
        simp only [blockK] at hx ⊢
        split at hx
        · exact hk _ _ hx
        · exact hk _ _ hx
    case loop b =>
      dsimp only at H ⊢
      split at H
      · rename_i b0 L hL
        exact ⟨H.1, ok.lmono _ _ _ _ hL _ _ _ hk H.2⟩
      · exact unroll_mono (ih f b) n hk H
    case exit id => exact hk _ _ H
    case ret => exact hk _ _ H
    case rangeFunc g ps asg body =>
      dsimp only at H ⊢
      split at H <;> try exact H.elim
      split at H <;> try exact H.elim
      split at H
      · exact hc _ _ _ _ _ (fun v h => endFor_mono (ih f) hk) H
      · split at H <;> try exact H.elim
        exact hc _ _ _ _ _ (fun v h => endFor_mono (ih f) hk) H

theorem callBy_ext {X : Ctx} (ok : X.OK) (ex : Ex) : ExtCall (isCon X) (callBy X ex) := by
  intro f args h k hf H
  unfold isCon at hf
  unfold callBy at H ⊢
  cases hF : X.con f with
  | none => rw [hF] at hf; cases hf
  | some F =>
    rw [hF] at H
    exact ok.ext f F hF args h k H
end Go.Sh

/-
  SHAD: what the executor says holds of the machine: the proof.
-/
namespace Go.Sh
open Go.RowKit
set_option linter.unusedVariables false
set_option linter.unusedSimpArgs false

def SoundEx (P : Program) (ex : Ex) : Prop := ∀ f c S K, ex f c S K → SWp P c S K

section
variable {P : Program} {B : Nat} {W0 W : World} {env : Env}

def resOne (tmps : Array Value) : ResultVar → Sem Value
  | .tmp t => pure (tmps.getD t undef)
  | .cell x t => do loadVar t (← asAddr (tmps.getD x undef))

theorem resSVs_ok {S : SS} {a : Act} (st : St B W0 env S a W) : ∀ (l : List ResultVar) {k : List SV → Prop}, resSVs P S l k →
    ∃ (vs : List Value) (ss : List SV), (l.mapM (m := Sem) (resOne a.tmps)).run P W = .ok vs W ∧ VRs env ss vs ∧ k ss
  | [], k, H => ⟨[], [], rfl, trivial, H⟩
  | .tmp t :: r, k, H => by
    obtain ⟨vs, ss, hrun, hvs, hk⟩ := resSVs_ok st r H
    refine ⟨a.tmps.getD t undef :: vs, S.get t :: ss, ?_, ⟨ev_ok st.tmps (.tmp t), hvs⟩, hk⟩
    simp only [List.mapM_cons, Sem.run_bind, Sem.run_pure, hrun, resOne, Result.andThen_ok]
  | .cell x t :: r, k, H => by
    obtain ⟨ad, v, y, hp, hload, hv, hk⟩ := load_run st.rel (ev_ok st.tmps (.tmp x)) H
    obtain ⟨vs, ss, hrun, hvs, hk⟩ := resSVs_ok st r hk
    refine ⟨v :: vs, y :: ss, ?_, ⟨hv, hvs⟩, hk⟩
    have hp' : a.tmps.getD x undef = .pointer (some ad) := hp
    have h1 : (resOne a.tmps (.cell x t)).run P W = .ok v W := by
      simp only [resOne, Sem.run_bind, hp', asAddr, Sem.run_pure, Result.andThen_ok, hload]
    simp only [List.mapM_cons, Sem.run_bind, Sem.run_pure, h1, hrun, Result.andThen_ok]

theorem results_ok {fn : Func} {S : SS} {a : Act} (st : St B W0 env S a W) {k : SV → Prop} (H : resSVs P S fn.results.toList fun vs => k (tupSV vs)) :
    ∃ v' v, (results fn a.tmps).run P W = .ok v' W ∧ VR env v v' ∧ k v := by
  obtain ⟨vs, ss, hrun, hvs, hk⟩ := resSVs_ok st _ H
  have : (results fn a.tmps).run P W = .ok (if h : vs.toArray.size = 1 then vs.toArray[0] else .tuple vs.toArray) W := by
    have e : results fn a.tmps = (do let vs ← fn.results.mapM (resOne a.tmps); pure (if h : vs.size = 1 then vs[0] else .tuple vs)) := rfl
    rw [e, Array.mapM_eq_mapM_toList]
    simp only [Sem.run_bind, Sem.run_map, hrun, Result.andThen_ok, Sem.run_pure]
  refine ⟨_, tupSV ss, this, ?_, hk⟩
  match ss, vs, hvs with
  | [], [], _ => simp only [tupSV, VR]; exact ⟨#[], rfl, trivial⟩
  | [s], [v], hv => simpa [tupSV] using hv.1
  | s :: s' :: ss, v :: v' :: vs, hv => simp only [tupSV, VR]; exact ⟨(v :: v' :: vs).toArray, by simp, hv⟩
  | [], _ :: _, h => exact h.elim
  | _ :: _, [], h => exact h.elim
  | [_], _ :: _ :: _, h => exact h.2.elim
  | _ :: _ :: _, [_], h => exact h.2.elim

theorem finish_ok {env0 : Env} (hle : Env.le env0 env) {fn : Func} {tmps : Array Value} {k : KV} {S0 : SS} : ∀ (ls : List Nat) (ds : List Deferred) {h : Heap} {W : World}, Rel B W0 env h W → VRs env S0.tmps tmps.toList → DR env ls ds →
    finDefs ls h (fun h => resSVs P (S0.hp h) fn.results.toList fun vs => k (tupSV vs) h) → LeavesInM Fence.wide 0 P fn tmps (EOk B W0 env0 k) ds .returning W
  | [], [], h, W, R, hv, _, H => by
    obtain ⟨v', v, hrun, hvr, hk⟩ := results_ok (a := { tmps := tmps, defers := [] }) (S := { S0 with heap := h, defs := [] }) ⟨R, hv, trivial⟩ (k := fun v => k v h) (by
      have : ∀ (l : List ResultVar) (k : List SV → Prop), resSVs P (S0.hp h) l k → resSVs P { S0 with heap := h, defs := [] } l k := by
        intro l
        induction l with
        | nil => exact fun _ h => h
        | cons r l ih => cases r with
          | tmp t => exact fun k h => ih _ h
          | cell a t => exact fun k h => doLoad_mono (fun v h => ih _) h
      exact this _ _ H)
    exact ⟨v', hrun, v', rfl, env, v, h, hle, R, hvr, hk⟩
  | l :: ls, d :: ds, h, W, R, hv, ⟨⟨e, he, hd⟩, hds⟩, H => by
    subst hd
    unfold finDefs at H
    split at H <;> try exact H.elim
    rename_i hl
    obtain ⟨e', he', hor⟩ := R.obj l _ hl
    rw [he] at he'; cases he'
    obtain ⟨hn, hb, hw⟩ := hor
    refine ⟨by simp, .inl ⟨e.blk, W.putObj e.blk (.deferred none), rfl, run_takeDeferred hw, ?_⟩⟩
    exact finish_ok hle ls ds (R.drop hl rfl he hn rfl rfl rfl World.putObj_size fun k hk => World.putObj_heap_other hk) hv hds H
  | [], _ :: _, _, _, _, _, h, _ => h.elim
  | _ :: _, [], _, _, _, _, h, _ => h.elim

theorem call_body {fn : Func} {f : FuncId} {b : Code} {args : List SV} {h : Heap} {k : KV} (hf : P.funcs[f]? = some fn) (hb : fn.body = some b)
    (H : SWp P b { tmps := args ++ List.replicate (fn.ntmps - args.length) .und, heap := h, defs := [], rnd := none } fun x S' => match x with | .exit _ => False | _ => finish P fn S' k) : SCall P f args h k := by
  intro B W0 env vs W R hvs
  refine callsIn_wide.1 (callsIn_of_wp_marks (n := 0) hf hb trivial ?_)
  refine H none B W0 env { tmps := vs ++ Array.replicate (fn.ntmps - vs.size) undef, defers := [] } W _ ⟨R, ?_, trivial⟩ trivial fun x S' env' a' W' hle st' hrd hx => ?_
  · have hl := hvs.length
    simp only [Array.toList_append, Array.toList_replicate]
    have : fn.ntmps - args.length = fn.ntmps - vs.size := by rw [hl]; simp
    rw [this]
    exact hvs.append (VRs.replicate _ (by simp [VR]))
  · cases x with
    | normal => exact finish_ok hle S'.defs a'.defers st'.rel st'.tmps st'.defs hx
    | ret => exact finish_ok hle S'.defs a'.defers st'.rel st'.tmps st'.defs hx
    | exit id => exact hx.elim
end
end Go.Sh

