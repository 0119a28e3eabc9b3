import PyProof.Rows.All
import Wide.All
import OpenK.AllK
import Wide.FinOn
import HandS.ForMost
import HandS.Defaults
import HandS.HeadHook2
import HandS.List
import HandS.IsInst
import HandS.TupAny
import HandS.Style
import HandS.Zip
import HandS.SortInts
import HandS.SetFor
import PyProof.StrBlock2
import PyProof.EqAt
import PyProof.EqKinds
import PyProof.TupleCall
import HandS.Base
import HandS.Call
import HandS.Set
import HandS.Strs
import KE.GoesMore
import KE.GoesZip
import HandS.Dict
import HandS.Iter
import KE.KStateDown
import Lean
import HandS.Head0
import HandS.Head1
import HandS.Head2
import HandS.HeadEnd
import HandS.HeadHook1
import PySem.Challenge.RW_patterndeeds_k17_whole_derivations
set_option Elab.async false
set_option linter.all false
set_option maxRecDepth 100000
namespace Pd
open PySem L2
def top (i : Nat) : Stmt := PySem.Challenge.pw_patterndeeds_k17_whole_derivations.main.body.getD i (.Pass ⟨0, 0, 0, 0⟩)
abbrev s_is_integer : Stmt := top 1
abbrev s_is_between : Stmt := top 2
abbrev s_is_index_of : Stmt := top 3
abbrev s_parts_under : Stmt := top 5
abbrev s_leaf_end : Stmt := top 7
abbrev s_ascending : Stmt := top 8
abbrev s_Splitter : Stmt := top 9
abbrev s_init : Stmt := inClass s_Splitter 0
abbrev s_number_tree : Stmt := inClass s_Splitter 1
abbrev s_ends : Stmt := inClass s_Splitter 2
abbrev s_find_ends : Stmt := inClass s_Splitter 3
abbrev s_row_reach : Stmt := inClass s_Splitter 4
abbrev s_layers : Stmt := inClass s_Splitter 5
abbrev s_derive : Stmt := inClass s_Splitter 6
abbrev s_row_derivations : Stmt := inClass s_Splitter 7
abbrev s_copy_derivations : Stmt := inClass s_Splitter 8
abbrev s_several_end : Stmt := top 10
abbrev s_derived_end : Stmt := top 11
abbrev s_derivation : Stmt := top 13
abbrev s_is_derivation : Stmt := top 14
abbrev s_law_drops : Stmt := top 16
abbrev s_law_signs : Stmt := top 17
abbrev s_law_letter : Stmt := top 18
abbrev s_law_class : Stmt := top 19
abbrev s_law_leaf : Stmt := top 20
abbrev s_law_flat : Stmt := top 21
abbrev s_law_tree : Stmt := top 22
abbrev s_law_onward : Stmt := top 23
abbrev s_law_ends : Stmt := top 24
abbrev s_law_copied : Stmt := top 25
abbrev s_law_says : Stmt := top 26
abbrev s_law_text : Stmt := top 27
abbrev s_law_many_walked : Stmt := top 28
abbrev s_law_walked : Stmt := top 29
abbrev s_law_is_lean : Stmt := top 30
abbrev s_law_bent : Stmt := top 31
abbrev s_law_stretch_right : Stmt := top 32
abbrev s_law_long_right : Stmt := top 33
abbrev s_law_pattern_right : Stmt := top 34
abbrev s_law : Stmt := top 35
abbrev FnP (K : PySem.W.Frag) (x q : Str) (st : Stmt) (f : Addr) (fd : FuncData) : Prop := FunD K x q (defArgs st) (defBody st) (defScope st) [] [] f fd
def d_is_integer : He.DefD := ⟨("is_integer", none), "is_integer", "is_integer", defArgs s_is_integer, defBody s_is_integer, defScope s_is_integer, [], []⟩
def d_is_between : He.DefD := ⟨("is_between", none), "is_between", "is_between", defArgs s_is_between, defBody s_is_between, defScope s_is_between, [], []⟩
def d_is_index_of : He.DefD := ⟨("is_index_of", none), "is_index_of", "is_index_of", defArgs s_is_index_of, defBody s_is_index_of, defScope s_is_index_of, [], []⟩
def d_parts_under : He.DefD := ⟨("parts_under", none), "parts_under", "parts_under", defArgs s_parts_under, defBody s_parts_under, defScope s_parts_under, [], []⟩
def d_leaf_end : He.DefD := ⟨("leaf_end", none), "leaf_end", "leaf_end", defArgs s_leaf_end, defBody s_leaf_end, defScope s_leaf_end, [], []⟩
def d_ascending : He.DefD := ⟨("ascending", none), "ascending", "ascending", defArgs s_ascending, defBody s_ascending, defScope s_ascending, [], []⟩
def d_init : He.DefD := ⟨("Splitter", some "__init__"), "__init__", "Splitter.__init__", defArgs s_init, defBody s_init, defScope s_init, [], []⟩
def d_number_tree : He.DefD := ⟨("Splitter", some "number_tree"), "number_tree", "Splitter.number_tree", defArgs s_number_tree, defBody s_number_tree, defScope s_number_tree, [], []⟩
def d_ends : He.DefD := ⟨("Splitter", some "ends"), "ends", "Splitter.ends", defArgs s_ends, defBody s_ends, defScope s_ends, [], []⟩
def d_find_ends : He.DefD := ⟨("Splitter", some "find_ends"), "find_ends", "Splitter.find_ends", defArgs s_find_ends, defBody s_find_ends, defScope s_find_ends, [], []⟩
def d_row_reach : He.DefD := ⟨("Splitter", some "row_reach"), "row_reach", "Splitter.row_reach", defArgs s_row_reach, defBody s_row_reach, defScope s_row_reach, [], []⟩
def d_layers : He.DefD := ⟨("Splitter", some "layers"), "layers", "Splitter.layers", defArgs s_layers, defBody s_layers, defScope s_layers, [], []⟩
def d_derive : He.DefD := ⟨("Splitter", some "derive"), "derive", "Splitter.derive", defArgs s_derive, defBody s_derive, defScope s_derive, [], []⟩
def d_row_derivations : He.DefD := ⟨("Splitter", some "row_derivations"), "row_derivations", "Splitter.row_derivations", defArgs s_row_derivations, defBody s_row_derivations, defScope s_row_derivations, [], []⟩
def d_copy_derivations : He.DefD := ⟨("Splitter", some "copy_derivations"), "copy_derivations", "Splitter.copy_derivations", defArgs s_copy_derivations, defBody s_copy_derivations, defScope s_copy_derivations, [], []⟩
def d_several_end : He.DefD := ⟨("several_end", none), "several_end", "several_end", defArgs s_several_end, defBody s_several_end, defScope s_several_end, [], []⟩
def d_derived_end : He.DefD := ⟨("derived_end", none), "derived_end", "derived_end", defArgs s_derived_end, defBody s_derived_end, defScope s_derived_end, [], []⟩
def d_derivation : He.DefD := ⟨("derivation", none), "derivation", "derivation", defArgs s_derivation, defBody s_derivation, defScope s_derivation, [], []⟩
def d_is_derivation : He.DefD := ⟨("is_derivation", none), "is_derivation", "is_derivation", defArgs s_is_derivation, defBody s_is_derivation, defScope s_is_derivation, [], []⟩
def d_law_drops : He.DefD := ⟨("_law_drops", none), "_law_drops", "_law_drops", defArgs s_law_drops, defBody s_law_drops, defScope s_law_drops, [], []⟩
def d_law_signs : He.DefD := ⟨("_law_signs", none), "_law_signs", "_law_signs", defArgs s_law_signs, defBody s_law_signs, defScope s_law_signs, [], []⟩
def d_law_letter : He.DefD := ⟨("_law_letter", none), "_law_letter", "_law_letter", defArgs s_law_letter, defBody s_law_letter, defScope s_law_letter, [], []⟩
def d_law_class : He.DefD := ⟨("_law_class", none), "_law_class", "_law_class", defArgs s_law_class, defBody s_law_class, defScope s_law_class, [], []⟩
def d_law_leaf : He.DefD := ⟨("_law_leaf", none), "_law_leaf", "_law_leaf", defArgs s_law_leaf, defBody s_law_leaf, defScope s_law_leaf, [], []⟩
def d_law_flat : He.DefD := ⟨("_law_flat", none), "_law_flat", "_law_flat", defArgs s_law_flat, defBody s_law_flat, defScope s_law_flat, [], []⟩
def d_law_tree : He.DefD := ⟨("_law_tree", none), "_law_tree", "_law_tree", defArgs s_law_tree, defBody s_law_tree, defScope s_law_tree, [], []⟩
def d_law_onward : He.DefD := ⟨("_law_onward", none), "_law_onward", "_law_onward", defArgs s_law_onward, defBody s_law_onward, defScope s_law_onward, [], []⟩
def d_law_ends : He.DefD := ⟨("_law_ends", none), "_law_ends", "_law_ends", defArgs s_law_ends, defBody s_law_ends, defScope s_law_ends, [], []⟩
def d_law_copied : He.DefD := ⟨("_law_copied", none), "_law_copied", "_law_copied", defArgs s_law_copied, defBody s_law_copied, defScope s_law_copied, [], []⟩
def d_law_says : He.DefD := ⟨("_law_says", none), "_law_says", "_law_says", defArgs s_law_says, defBody s_law_says, defScope s_law_says, [], []⟩
def d_law_text : He.DefD := ⟨("_law_text", none), "_law_text", "_law_text", defArgs s_law_text, defBody s_law_text, defScope s_law_text, [], []⟩
def d_law_many_walked : He.DefD := ⟨("_law_many_walked", none), "_law_many_walked", "_law_many_walked", defArgs s_law_many_walked, defBody s_law_many_walked, defScope s_law_many_walked, [], []⟩
def d_law_walked : He.DefD := ⟨("_law_walked", none), "_law_walked", "_law_walked", defArgs s_law_walked, defBody s_law_walked, defScope s_law_walked, [], []⟩
def d_law_is_lean : He.DefD := ⟨("_law_is_lean", none), "_law_is_lean", "_law_is_lean", defArgs s_law_is_lean, defBody s_law_is_lean, defScope s_law_is_lean, [], []⟩
def d_law_bent : He.DefD := ⟨("_law_bent", none), "_law_bent", "_law_bent", defArgs s_law_bent, defBody s_law_bent, defScope s_law_bent, [], []⟩
def d_law_stretch_right : He.DefD := ⟨("_law_stretch_right", none), "_law_stretch_right", "_law_stretch_right", defArgs s_law_stretch_right, defBody s_law_stretch_right, defScope s_law_stretch_right, [], []⟩
def d_law_long_right : He.DefD := ⟨("_law_long_right", none), "_law_long_right", "_law_long_right", defArgs s_law_long_right, defBody s_law_long_right, defScope s_law_long_right, [], []⟩
def d_law_pattern_right : He.DefD := ⟨("_law_pattern_right", none), "_law_pattern_right", "_law_pattern_right", defArgs s_law_pattern_right, defBody s_law_pattern_right, defScope s_law_pattern_right, [], []⟩
def d_law : He.DefD := ⟨("law", none), "law", "law", defArgs s_law, defBody s_law, defScope s_law, [], []⟩
def fn : List He.DefD := [d_is_integer, d_is_between, d_is_index_of, d_parts_under, d_leaf_end, d_ascending, d_init, d_number_tree, d_ends, d_find_ends, d_row_reach, d_layers, d_derive, d_row_derivations, d_copy_derivations, d_several_end, d_derived_end, d_derivation, d_is_derivation, d_law_drops, d_law_signs, d_law_letter, d_law_class, d_law_leaf, d_law_flat, d_law_tree, d_law_onward, d_law_ends, d_law_copied, d_law_says, d_law_text, d_law_many_walked, d_law_walked, d_law_is_lean, d_law_bent, d_law_stretch_right, d_law_long_right, d_law_pattern_right, d_law]
def fa : List He.Fa := [.glo "is_integer", .glo "is_between", .glo "is_index_of", .glo "parts_under", .glo "leaf_end", .glo "ascending", .glo "Splitter", .glo "several_end", .glo "derived_end", .glo "derivation", .glo "is_derivation", .glo "_law_drops", .glo "_law_signs", .glo "_law_letter", .glo "_law_class", .glo "_law_leaf", .glo "_law_flat", .glo "_law_tree", .glo "_law_onward", .glo "_law_ends", .glo "_law_copied", .glo "_law_says", .glo "_law_text", .glo "_law_many_walked", .glo "_law_walked", .glo "_law_is_lean", .glo "_law_bent", .glo "_law_stretch_right", .glo "_law_long_right", .glo "_law_pattern_right", .glo "law", .free "len", .free "isinstance", .free "int", .free "bool", .free "str", .free "tuple", .free "list", .free "range", .free "sorted", .free "set", .free "enumerate", .free "zip", .free "abs", .free "min", .free "max", .cls "Splitter", .mkr "Splitter", .noat "Splitter" "text", .noat "Splitter" "trees", .noat "Splitter" "under", .noat "Splitter" "known_ends", .meth "Splitter" "number_tree", .meth "Splitter" "ends", .meth "Splitter" "find_ends", .meth "Splitter" "row_reach", .meth "Splitter" "layers", .meth "Splitter" "derive", .meth "Splitter" "row_derivations", .meth "Splitter" "copy_derivations"]
end Pd
set_option Elab.async false
set_option linter.all false
set_option maxRecDepth 100000
set_option maxHeartbeats 1000000
/-! PdM1: patterns, the mirror of ends and derivations, what a pattern takes. No program in sight. -/
namespace Pd
open PySem

inductive Leaf where
  | beg | fin | any
  | sgn (c : Bool) (z : Str)
inductive Pat where
  | leaf (l : Leaf)
  | row (ps : List Pat)
  | alt (ps : List Pat)
  | rep (p : Pat) (least : Nat) (most : Option Nat)

def Leaf.enc : Leaf → PyData
  | .beg => .tuple [.str "begin"]
  | .fin => .tuple [.str "end"]
  | .any => .tuple [.str "any"]
  | .sgn false z => .tuple [.str "sign", .str z]
  | .sgn true z => .tuple [.str "class", .str z]
def encMost : Option Nat → PyData
  | none => .none
  | some m => .int (m : Int)
mutual
def enc : Pat → PyData
  | .leaf l => l.enc
  | .row ps => .tuple [.str "row", .tuple (encs ps)]
  | .alt ps => .tuple [.str "or", .tuple (encs ps)]
  | .rep p l m => .tuple [.str "repeat", enc p, .int (l : Int), encMost m]
def encs : List Pat → List PyData
  | [] => []
  | p :: ps => enc p :: encs ps
end
theorem encs_map : ∀ ps : List Pat, encs ps = ps.map enc
  | [] => rfl
  | p :: ps => by rw [encs, encs_map ps]; rfl

/-- how deep a pattern is -/
def Pat.kids : Pat → List Pat
  | .leaf _ => []
  | .row ps => ps
  | .alt ps => ps
  | .rep p _ _ => [p]
mutual
def dep : Pat → Nat
  | .leaf _ => 1
  | .row ps => deps ps + 1
  | .alt ps => deps ps + 1
  | .rep p _ _ => dep p + 1
def deps : List Pat → Nat
  | [] => 0
  | p :: ps => max (dep p) (deps ps)
end
theorem deps_mem : ∀ {ps : List Pat} {p : Pat}, p ∈ ps → dep p ≤ deps ps
  | q :: ps, p, h => by
    rw [deps]
    rcases List.mem_cons.mp h with e | h
    · rw [e]; exact Nat.le_max_left _ _
    · exact Nat.le_trans (deps_mem h) (Nat.le_max_right _ _)
theorem dep_kid {p q : Pat} (h : q ∈ p.kids) : dep q < dep p := by
  cases p with
  | leaf l => cases h
  | row ps => rw [dep]; exact Nat.lt_succ_of_le (deps_mem h)
  | alt ps => rw [dep]; exact Nat.lt_succ_of_le (deps_mem h)
  | rep p l m =>
    rw [dep]
    rw [List.mem_singleton.mp h]
    exact Nat.lt_succ_self _
theorem dep_pos (p : Pat) : 0 < dep p := by
  cases p <;> (rw [dep]; exact Nat.succ_pos _)

/-! ### lists of places: the ascending list of those up to n -/
def asc (n : Nat) (xs : List Nat) : List Nat := (List.range (n + 1)).filter fun e => decide (e ∈ xs)
theorem mem_asc {n e : Nat} {xs : List Nat} : e ∈ asc n xs ↔ e ≤ n ∧ e ∈ xs := by
  unfold asc
  rw [List.mem_filter, List.mem_range, decide_eq_true_iff, Nat.lt_succ_iff]
theorem asc_le {n e : Nat} {xs : List Nat} (h : e ∈ asc n xs) : e ≤ n := (mem_asc.mp h).1
theorem asc_len {n : Nat} {xs : List Nat} : (asc n xs).length ≤ n + 1 := by
  have h := List.length_filter_le (fun e => decide (e ∈ xs)) (List.range (n + 1))
  rw [List.length_range] at h
  exact h
theorem asc_congr {n : Nat} {xs ys : List Nat} (h : ∀ e, e ≤ n → (e ∈ xs ↔ e ∈ ys)) : asc n xs = asc n ys := by
  unfold asc
  refine List.filter_congr fun e he => ?_
  have h1 := h e (by have := List.mem_range.mp he; omega)
  by_cases q : e ∈ xs
  · rw [decide_eq_true q, decide_eq_true (h1.mp q)]
  · rw [decide_eq_false q, decide_eq_false fun z => q (h1.mpr z)]
theorem asc_sorted (n : Nat) (xs : List Nat) : (asc n xs).Pairwise (· < ·) := List.Pairwise.filter _ List.pairwise_lt_range
theorem sorted_eq : ∀ {xs ys : List Nat}, xs.Pairwise (· < ·) → ys.Pairwise (· < ·) → (∀ e, e ∈ xs ↔ e ∈ ys) → xs = ys
  | [], [], _, _, _ => rfl
  | [], y :: ys, _, _, h => absurd ((h y).mpr List.mem_cons_self) (by simp)
  | x :: xs, [], _, _, h => absurd ((h x).mp List.mem_cons_self) (by simp)
  | x :: xs, y :: ys, hx, hy, h => by
    have hx' := List.pairwise_cons.mp hx
    have hy' := List.pairwise_cons.mp hy
    have e : x = y := by
      have h1 := (h x).mp List.mem_cons_self
      have h2 := (h y).mpr List.mem_cons_self
      rcases List.mem_cons.mp h1 with e | h1
      · exact e
      · rcases List.mem_cons.mp h2 with e | h2
        · exact e.symm
        · have a := hx'.1 y h2
          have b := hy'.1 x h1
          omega
    subst e
    refine congrArg (x :: ·) (sorted_eq hx'.2 hy'.2 fun z => ⟨fun hz => ?_, fun hz => ?_⟩)
    · have a := hx'.1 z hz
      rcases List.mem_cons.mp ((h z).mp (List.mem_cons_of_mem _ hz)) with q | q
      · omega
      · exact q
    · have a := hy'.1 z hz
      rcases List.mem_cons.mp ((h z).mpr (List.mem_cons_of_mem _ hz)) with q | q
      · omega
      · exact q
theorem asc_self {n : Nat} {xs : List Nat} (h : xs.Pairwise (· < ·)) (hn : ∀ e ∈ xs, e ≤ n) : asc n xs = xs :=
  sorted_eq (asc_sorted n xs) h fun e => ⟨fun z => (mem_asc.mp z).2, fun z => mem_asc.mpr ⟨hn e z, z⟩⟩

/-! ### what a leaf takes -/
def leafEnd (t : List Nat) : Leaf → Nat → Option Nat
  | .beg, s => if s = 0 then some s else none
  | .fin, s => if s = t.length then some s else none
  | .any, s => if s < t.length then some (s + 1) else none
  | .sgn _ z, s => match t[s]? with
    | some c => if c ∈ z.cps.toList then some (s + 1) else none
    | none => none
theorem leafEnd_le {t : List Nat} {l : Leaf} {s e : Nat} (hs : s ≤ t.length) (h : leafEnd t l s = some e) : s ≤ e ∧ e ≤ t.length := by
  cases l with
  | beg =>
    simp only [leafEnd] at h
    by_cases q : s = 0
    · rw [if_pos q] at h; have := Option.some.inj h; omega
    · rw [if_neg q] at h; cases h
  | fin =>
    simp only [leafEnd] at h
    by_cases q : s = t.length
    · rw [if_pos q] at h; have := Option.some.inj h; omega
    · rw [if_neg q] at h; cases h
  | any =>
    simp only [leafEnd] at h
    by_cases q : s < t.length
    · rw [if_pos q] at h; have := Option.some.inj h; omega
    · rw [if_neg q] at h; cases h
  | sgn b z =>
    simp only [leafEnd] at h
    cases hc : t[s]? with
    | none => rw [hc] at h; cases h
    | some c =>
      have hl := (List.getElem?_eq_some_iff.mp hc).1
      rw [hc] at h
      by_cases q : c ∈ z.cps.toList
      · have h2 : some (s + 1) = some e := by rw [← h]; exact (if_pos q).symm
        have := Option.some.inj h2
        omega
      · have h2 : none = some e := by rw [← h]; exact (if_neg q).symm
        cases h2

/-! ### layers of a repeat: f says the ends of one copy -/
def stepL (n : Nat) (f : Nat → List Nat) (emp : Bool) (xs : List Nat) : List Nat := asc n (xs.flatMap fun a => (f a).filter fun e => emp || decide (a < e))
def lay (n : Nat) (f : Nat → List Nat) (least s : Nat) : Nat → List Nat
  | 0 => [s]
  | j + 1 => stepL n f (decide (j + 1 ≤ least)) (lay n f least s j)
/-- beyond this number of copies there is no layer -/
def cap (n least : Nat) : Option Nat → Nat
  | some m => m
  | none => least + n + 1
def repEnds (n : Nat) (f : Nat → List Nat) (least : Nat) (most : Option Nat) (s : Nat) : List Nat :=
  asc n ((List.range' least (cap n least most + 1 - least)).flatMap fun j => lay n f least s j)
mutual
def ends (t : List Nat) : Pat → Nat → List Nat
  | .leaf l => fun s => (leafEnd t l s).toList
  | .row ps => fun s => rowEnds t ps [s]
  | .alt ps => fun s => asc t.length (altEnds t ps s)
  | .rep p l m => repEnds t.length (ends t p) l m
def rowEnds (t : List Nat) : List Pat → List Nat → List Nat
  | [] => fun xs => xs
  | p :: ps => fun xs => rowEnds t ps (asc t.length (xs.flatMap (ends t p)))
def altEnds (t : List Nat) : List Pat → Nat → List Nat
  | [] => fun _ => []
  | p :: ps => fun s => ends t p s ++ altEnds t ps s
end

/-! ### derivations -/
def one : PyData := .tuple [.str "one"]
def firstOf (xs : List Nat) (q : Nat → Bool) : Nat := (xs.find? q).getD 0
def copiesOf (n : Nat) (f : Nat → List Nat) (least : Nat) (most : Option Nat) (s e : Nat) : Nat :=
  firstOf (List.range' least (cap n least most + 1 - least)) fun j => decide (e ∈ lay n f least s j)
def begOf (n : Nat) (f : Nat → List Nat) (least s k e : Nat) : Nat := firstOf (lay n f least s k) fun b => decide (e ∈ f b) && (decide (k < least) || decide (b < e))
def copyDer (n : Nat) (f : Nat → List Nat) (d : Nat → Nat → PyData) (least s : Nat) : Nat → Nat → List PyData
  | 0, _ => []
  | k + 1, e => copyDer n f d least s k (begOf n f least s k e) ++ [d (begOf n f least s k e) e]
mutual
def der (t : List Nat) : Pat → Nat → Nat → PyData
  | .leaf _ => fun _ _ => one
  | .row ps => fun s e => .tuple [.str "row", .tuple (rowDer t ps [s] e).1]
  | .alt ps => fun s e => altDer t ps 0 s e
  | .rep p l m => fun s e => .tuple [.str "repeat", .tuple (copyDer t.length (ends t p) (der t p) l s (copiesOf t.length (ends t p) l m s e) e)]
def rowDer (t : List Nat) : List Pat → List Nat → Nat → List PyData × Nat
  | [] => fun _ e => ([], e)
  | p :: ps => fun xs e =>
    let r := rowDer t ps (asc t.length (xs.flatMap (ends t p))) e
    let b := firstOf xs fun b => decide (r.2 ∈ ends t p b)
    (der t p b r.2 :: r.1, b)
def altDer (t : List Nat) : List Pat → Nat → Nat → Nat → PyData
  | [] => fun _ _ _ => one
  | p :: ps => fun k s e => if e ∈ ends t p s then .tuple [.str "or", .int (k : Int), der t p s e] else altDer t ps (k + 1) s e
end

/-! ### a walk along a value -/
def repWalk (f : Nat → PyData → Option Nat) : Nat → List PyData → Option Nat
  | s, [] => some s
  | s, d :: ds => match f s d with
    | some m => repWalk f m ds
    | none => none
mutual
def walk (t : List Nat) : Pat → Nat → PyData → Option Nat
  | .leaf l => fun s d => match d with
    | .tuple [.str w] => if w = "one" then leafEnd t l s else none
    | _ => none
  | .row ps => fun s d => match d with
    | .tuple [.str w, .tuple ds] => if w = "row" then rowWalk t ps s ds else none
    | _ => none
  | .alt ps => fun s d => match d with
    | .tuple [.str w, .int k, x] => if w = "or" ∧ 0 ≤ k then altWalk t ps k.toNat s x else none
    | _ => none
  | .rep p l m => fun s d => match d with
    | .tuple [.str w, .tuple ds] => if w = "repeat" ∧ l ≤ ds.length ∧ (∀ x, m = some x → ds.length ≤ x) then repWalk (walk t p) s ds else none
    | _ => none
def rowWalk (t : List Nat) : List Pat → Nat → List PyData → Option Nat
  | [] => fun s ds => match ds with
    | [] => some s
    | _ :: _ => none
  | p :: ps => fun s ds => match ds with
    | [] => none
    | d :: ds => match walk t p s d with
      | some m => rowWalk t ps m ds
      | none => none
def altWalk (t : List Nat) : List Pat → Nat → Nat → PyData → Option Nat
  | [] => fun _ _ _ => none
  | p :: ps => fun k s x => match k with
    | 0 => walk t p s x
    | k + 1 => altWalk t ps k s x
end
/-! ### no copy of a repeat beyond the first least ones is empty -/
def repLean (f : Nat → PyData → Option Nat) (g : Nat → PyData → Bool) (least : Nat) : Nat → Nat → List PyData → Bool
  | _, _, [] => true
  | k, s, d :: ds => match f s d with
    | some m => (decide (k < least) || decide (s ≠ m)) && (g s d && repLean f g least (k + 1) m ds)
    | none => true
mutual
def lean (t : List Nat) : Pat → Nat → PyData → Bool
  | .leaf _ => fun _ _ => true
  | .row ps => fun s d => match d with
    | .tuple [_, .tuple ds] => rowLean t ps s ds
    | _ => true
  | .alt ps => fun s d => match d with
    | .tuple [_, .int k, x] => altLean t ps k.toNat s x
    | _ => true
  | .rep p l _ => fun s d => match d with
    | .tuple [_, .tuple ds] => repLean (walk t p) (lean t p) l 0 s ds
    | _ => true
def rowLean (t : List Nat) : List Pat → Nat → List PyData → Bool
  | [] => fun _ _ => true
  | p :: ps => fun s ds => match ds with
    | [] => true
    | d :: ds => match walk t p s d with
      | some m => lean t p s d && rowLean t ps m ds
      | none => true
def altLean (t : List Nat) : List Pat → Nat → Nat → PyData → Bool
  | [] => fun _ _ _ => true
  | p :: ps => fun k s x => match k with
    | 0 => lean t p s x
    | k + 1 => altLean t ps k s x
end
/-! ### one step of each -/
section
variable {t : List Nat}
theorem ends_leaf {l : Leaf} {s : Nat} : ends t (.leaf l) s = (leafEnd t l s).toList := by rw [ends]
theorem ends_row {ps : List Pat} {s : Nat} : ends t (.row ps) s = rowEnds t ps [s] := by rw [ends]
theorem ends_alt {ps : List Pat} {s : Nat} : ends t (.alt ps) s = asc t.length (altEnds t ps s) := by rw [ends]
theorem ends_rep {p : Pat} {l : Nat} {m : Option Nat} {s : Nat} : ends t (.rep p l m) s = repEnds t.length (ends t p) l m s := by rw [ends]
theorem rowEnds_nil {xs : List Nat} : rowEnds t [] xs = xs := by rw [rowEnds]
theorem rowEnds_cons {p : Pat} {ps : List Pat} {xs : List Nat} : rowEnds t (p :: ps) xs = rowEnds t ps (asc t.length (xs.flatMap (ends t p))) := by rw [rowEnds]
theorem altEnds_nil {s : Nat} : altEnds t [] s = [] := by rw [altEnds]
theorem altEnds_cons {p : Pat} {ps : List Pat} {s : Nat} : altEnds t (p :: ps) s = ends t p s ++ altEnds t ps s := by rw [altEnds]
theorem der_leaf {l : Leaf} {s e : Nat} : der t (.leaf l) s e = one := by rw [der]
theorem der_row {ps : List Pat} {s e : Nat} : der t (.row ps) s e = .tuple [.str "row", .tuple (rowDer t ps [s] e).1] := by rw [der]
theorem der_alt {ps : List Pat} {s e : Nat} : der t (.alt ps) s e = altDer t ps 0 s e := by rw [der]
theorem der_rep {p : Pat} {l : Nat} {m : Option Nat} {s e : Nat} : der t (.rep p l m) s e = .tuple [.str "repeat", .tuple (copyDer t.length (ends t p) (der t p) l s (copiesOf t.length (ends t p) l m s e) e)] := by rw [der]
theorem altDer_nil {k s e : Nat} : altDer t [] k s e = one := by rw [altDer]
theorem altDer_cons {p : Pat} {ps : List Pat} {k s e : Nat} : altDer t (p :: ps) k s e = if e ∈ ends t p s then .tuple [.str "or", .int (k : Int), der t p s e] else altDer t ps (k + 1) s e := by rw [altDer]
theorem walk_leaf {l : Leaf} {s : Nat} {d : PyData} : walk t (.leaf l) s d = match d with
    | .tuple [.str w] => if w = "one" then leafEnd t l s else none
    | _ => none := by rw [walk]
theorem walk_row {ps : List Pat} {s : Nat} {d : PyData} : walk t (.row ps) s d = match d with
    | .tuple [.str w, .tuple ds] => if w = "row" then rowWalk t ps s ds else none
    | _ => none := by rw [walk]
theorem walk_alt {ps : List Pat} {s : Nat} {d : PyData} : walk t (.alt ps) s d = match d with
    | .tuple [.str w, .int k, x] => if w = "or" ∧ 0 ≤ k then altWalk t ps k.toNat s x else none
    | _ => none := by rw [walk]
theorem walk_rep {p : Pat} {l : Nat} {m : Option Nat} {s : Nat} {d : PyData} : walk t (.rep p l m) s d = match d with
    | .tuple [.str w, .tuple ds] => if w = "repeat" ∧ l ≤ ds.length ∧ (∀ x, m = some x → ds.length ≤ x) then repWalk (walk t p) s ds else none
    | _ => none := by rw [walk]
theorem rowWalk_nil {s : Nat} {ds : List PyData} : rowWalk t [] s ds = match ds with
    | [] => some s
    | _ :: _ => none := by rw [rowWalk]
theorem rowWalk_cons {p : Pat} {ps : List Pat} {s : Nat} {d : PyData} {ds : List PyData} : rowWalk t (p :: ps) s (d :: ds) = match walk t p s d with
    | some m => rowWalk t ps m ds
    | none => none := by rw [rowWalk]
theorem rowWalk_short {p : Pat} {ps : List Pat} {s : Nat} : rowWalk t (p :: ps) s [] = none := by rw [rowWalk]
theorem altWalk_nil {k s : Nat} {x : PyData} : altWalk t [] k s x = none := by rw [altWalk]
theorem altWalk_zero {p : Pat} {ps : List Pat} {s : Nat} {x : PyData} : altWalk t (p :: ps) 0 s x = walk t p s x := by rw [altWalk]
theorem altWalk_succ {p : Pat} {ps : List Pat} {k s : Nat} {x : PyData} : altWalk t (p :: ps) (k + 1) s x = altWalk t ps k s x := by rw [altWalk]
theorem lean_leaf {l : Leaf} {s : Nat} {d : PyData} : lean t (.leaf l) s d = true := by rw [lean]
theorem lean_row {ps : List Pat} {s : Nat} {d : PyData} : lean t (.row ps) s d = match d with
    | .tuple [_, .tuple ds] => rowLean t ps s ds
    | _ => true := by rw [lean]
theorem lean_alt {ps : List Pat} {s : Nat} {d : PyData} : lean t (.alt ps) s d = match d with
    | .tuple [_, .int k, x] => altLean t ps k.toNat s x
    | _ => true := by rw [lean]
theorem lean_rep {p : Pat} {l : Nat} {m : Option Nat} {s : Nat} {d : PyData} : lean t (.rep p l m) s d = match d with
    | .tuple [_, .tuple ds] => repLean (walk t p) (lean t p) l 0 s ds
    | _ => true := by rw [lean]
theorem rowLean_nil {s : Nat} {ds : List PyData} : rowLean t [] s ds = true := by rw [rowLean]
theorem rowLean_cons {p : Pat} {ps : List Pat} {s : Nat} {d : PyData} {ds : List PyData} : rowLean t (p :: ps) s (d :: ds) = match walk t p s d with
    | some m => lean t p s d && rowLean t ps m ds
    | none => true := by rw [rowLean]
theorem altLean_nil {k s : Nat} {x : PyData} : altLean t [] k s x = true := by rw [altLean]
theorem altLean_zero {p : Pat} {ps : List Pat} {s : Nat} {x : PyData} : altLean t (p :: ps) 0 s x = lean t p s x := by rw [altLean]
theorem altLean_succ {p : Pat} {ps : List Pat} {k s : Nat} {x : PyData} : altLean t (p :: ps) (k + 1) s x = altLean t ps k s x := by rw [altLean]
end
end Pd
set_option Elab.async false
set_option linter.all false
set_option maxRecDepth 100000
set_option maxHeartbeats 1000000
/-! PdM2: the law's own functions, as they are written. -/
namespace Pd
open PySem
/-- the new ones behind those told -/
def addNew (told : List Nat) (xs : List Nat) : List Nat := xs.foldl (fun acc e => if e ∈ acc then acc else acc ++ [e]) told
def onward (f : Nat → List Nat) (starts : List Nat) : List Nat := starts.foldl (fun acc a => addNew acc (f a)) []
def fresh (told xs : List Nat) : List Nat := xs.filter fun e => decide (e ∉ told)
def iter (f : List Nat → List Nat) : Nat → List Nat → List Nat
  | 0, xs => xs
  | k + 1, xs => f (iter f k xs)
/-- the turns behind the first least copies -/
def spread (f : Nat → List Nat) : Nat → List Nat → List Nat → List Nat
  | 0, told, _ => told
  | k + 1, told, fr =>
    let fr' := fresh told (onward f fr)
    if fr' = [] then told else spread f k (told ++ fr') fr'
def turnsOf (n least : Nat) : Option Nat → Nat
  | some m => m - least
  | none => n + 1
def copied (n : Nat) (f : Nat → List Nat) (least : Nat) (most : Option Nat) (s : Nat) : List Nat :=
  spread f (turnsOf n least most) (iter (onward f) least [s]) (iter (onward f) least [s])
mutual
def lends (t : List Nat) : Pat → Nat → List Nat
  | .leaf l => fun s => (leafEnd t l s).toList
  | .row ps => fun s => lrow t ps [s]
  | .alt ps => fun s => lalt t ps s []
  | .rep p l m => copied t.length (lends t p) l m
def lrow (t : List Nat) : List Pat → List Nat → List Nat
  | [] => fun xs => xs
  | p :: ps => fun xs => lrow t ps (onward (lends t p) xs)
def lalt (t : List Nat) : List Pat → Nat → List Nat → List Nat
  | [] => fun _ told => told
  | p :: ps => fun s told => lalt t ps s (told ++ fresh told (lends t p s))
end
/-! ### bounds -/
mutual
def Wf : Pat → Prop
  | .leaf _ => True
  | .row ps => Wfs ps ∧ ps.length ≤ 1000
  | .alt ps => Wfs ps ∧ ps.length ≤ 1000
  | .rep p l m => Wf p ∧ l ≤ 1000 ∧ ∀ x, m = some x → l ≤ x ∧ x ≤ 1000
def Wfs : List Pat → Prop
  | [] => True
  | p :: ps => Wf p ∧ Wfs ps
end
theorem wfs_mem : ∀ {ps : List Pat} {p : Pat}, Wfs ps → p ∈ ps → Wf p
  | q :: ps, p, h, hm => by
    rw [Wfs] at h
    rcases List.mem_cons.mp hm with e | hm
    · rw [e]; exact h.1
    · exact wfs_mem h.2 hm
theorem wfs_of : ∀ {ps : List Pat}, (∀ p ∈ ps, Wf p) → Wfs ps
  | [], _ => by rw [Wfs]; exact True.intro
  | p :: ps, h => by
    rw [Wfs]
    exact ⟨h p List.mem_cons_self, wfs_of fun q hq => h q (List.mem_cons_of_mem _ hq)⟩
theorem wf_kids {p q : Pat} (h : Wf p) (hq : q ∈ p.kids) : Wf q := by
  cases p with
  | leaf l => cases hq
  | row ps => rw [Wf] at h; exact wfs_mem h.1 hq
  | alt ps => rw [Wf] at h; exact wfs_mem h.1 hq
  | rep p l m => rw [Wf] at h; rw [List.mem_singleton.mp hq]; exact h.1
/-! ### the numbers of the parts -/
mutual
def nodes : Pat → List Pat
  | .leaf l => [.leaf l]
  | .row ps => .row ps :: nodess ps
  | .alt ps => .alt ps :: nodess ps
  | .rep p l m => .rep p l m :: nodes p
def nodess : List Pat → List Pat
  | [] => []
  | p :: ps => nodes p ++ nodess ps
end
/-- the numbers of some patterns that are numbered one behind another, from b on -/
def heads (b : Nat) : List Pat → List Nat
  | [] => []
  | p :: ps => b :: heads (b + (nodes p).length) ps
mutual
def unders (b : Nat) : Pat → List (List Nat)
  | .leaf _ => [[]]
  | .row ps => heads (b + 1) ps :: underss (b + 1) ps
  | .alt ps => heads (b + 1) ps :: underss (b + 1) ps
  | .rep p _ _ => [b + 1] :: unders (b + 1) p
def underss (b : Nat) : List Pat → List (List Nat)
  | [] => []
  | p :: ps => unders b p ++ underss (b + (nodes p).length) ps
end
/-- what is reached by the first parts of a row, by their number -/
def reaches (t : List Nat) : List Pat → List Nat → List (List Nat)
  | [], xs => [xs]
  | p :: ps, xs => xs :: reaches t ps (asc t.length (xs.flatMap (ends t p)))
/-- the ends behind each part -/
def rowSteps (t : List Nat) : List Pat → Nat → List PyData → Option (List Nat)
  | [], _, [] => some []
  | p :: ps, s, d :: ds => match walk t p s d with
    | some m => (rowSteps t ps m ds).map (m :: ·)
    | none => none
  | _, _, _ => none
/-! ### derivations -/
inductive IsDer : PyData → Prop
  | one : IsDer one
  | row {ds : List PyData} (h : ∀ d ∈ ds, IsDer d) : IsDer (.tuple [.str "row", .tuple ds])
  | rep {ds : List PyData} (h : ∀ d ∈ ds, IsDer d) : IsDer (.tuple [.str "repeat", .tuple ds])
  | alt {k : Int} {d : PyData} (h : IsDer d) : IsDer (.tuple [.str "or", .int k, d])
mutual
/-- no tuple and no list of a datum is longer -/
def Wid (w : Nat) : PyData → Prop
  | .tuple ds => ds.length ≤ w ∧ Wids w ds
  | .list ds => ds.length ≤ w ∧ Wids w ds
  | _ => True
def Wids (w : Nat) : List PyData → Prop
  | [] => True
  | d :: ds => Wid w d ∧ Wids w ds
end
/-- data that may be handed to ==, of a depth -/
def Shp (n : Nat) (d : PyData) : Prop := d.canLay0 = true ∧ d.depth ≤ n ∧ Wid 2000 d
section
variable {t : List Nat}
theorem lends_leaf {l : Leaf} {s : Nat} : lends t (.leaf l) s = (leafEnd t l s).toList := by rw [lends]
theorem lends_row {ps : List Pat} {s : Nat} : lends t (.row ps) s = lrow t ps [s] := by rw [lends]
theorem lends_alt {ps : List Pat} {s : Nat} : lends t (.alt ps) s = lalt t ps s [] := by rw [lends]
theorem lends_rep {p : Pat} {l : Nat} {m : Option Nat} {s : Nat} : lends t (.rep p l m) s = copied t.length (lends t p) l m s := by rw [lends]
theorem lrow_nil {xs : List Nat} : lrow t [] xs = xs := by rw [lrow]
theorem lrow_cons {p : Pat} {ps : List Pat} {xs : List Nat} : lrow t (p :: ps) xs = lrow t ps (onward (lends t p) xs) := by rw [lrow]
theorem lalt_nil {s : Nat} {told : List Nat} : lalt t [] s told = told := by rw [lalt]
theorem lalt_cons {p : Pat} {ps : List Pat} {s : Nat} {told : List Nat} : lalt t (p :: ps) s told = lalt t ps s (told ++ fresh told (lends t p s)) := by rw [lalt]
end
end Pd
set_option Elab.async false
set_option linter.all false
set_option maxRecDepth 100000
set_option maxHeartbeats 1000000
/-! PdM3: bounds of ends; layers; what find_ends puts together. -/
namespace Pd
open PySem
theorem lay_le {n : Nat} {f : Nat → List Nat} {l s : Nat} (hs : s ≤ n) : ∀ (j e : Nat), e ∈ lay n f l s j → e ≤ n
  | 0, e, h => by rw [lay] at h; rw [List.mem_singleton.mp h]; exact hs
  | j + 1, e, h => by rw [lay, stepL] at h; exact asc_le h
mutual
theorem ends_le (t : List Nat) : ∀ (p : Pat) (s e : Nat), s ≤ t.length → e ∈ ends t p s → e ≤ t.length
  | .leaf l, s, e, hs, h => by
    rw [ends] at h
    exact (leafEnd_le hs (Option.mem_toList.mp h)).2
  | .row ps, s, e, hs, h => by
    rw [ends] at h
    exact rowEnds_le t ps [s] e (fun x hx => by rw [List.mem_singleton.mp hx]; exact hs) h
  | .alt ps, s, e, hs, h => by
    rw [ends] at h
    exact asc_le h
  | .rep p l m, s, e, hs, h => by
    rw [ends_rep, repEnds] at h
    exact asc_le h
theorem rowEnds_le (t : List Nat) : ∀ (ps : List Pat) (xs : List Nat) (e : Nat), (∀ x ∈ xs, x ≤ t.length) → e ∈ rowEnds t ps xs → e ≤ t.length
  | [], xs, e, hx, h => by
    rw [rowEnds] at h
    exact hx e h
  | p :: ps, xs, e, hx, h => by
    rw [rowEnds] at h
    exact rowEnds_le t ps _ e (fun x hx => asc_le hx) h
end
theorem ends_sorted (t : List Nat) : ∀ (p : Pat) (s : Nat), (ends t p s).Pairwise (· < ·)
  | .leaf l, s => by
    rw [ends_leaf]
    cases leafEnd t l s with
    | none => exact List.Pairwise.nil
    | some e => exact List.pairwise_singleton _ _
  | .row ps, s => by
    rw [ends]
    have : ∀ (ps : List Pat) (xs : List Nat), xs.Pairwise (· < ·) → (rowEnds t ps xs).Pairwise (· < ·) := by
      intro ps
      induction ps with
      | nil => intro xs h; rw [rowEnds]; exact h
      | cons p ps ih => intro xs h; rw [rowEnds]; exact ih _ (asc_sorted _ _)
    exact this ps [s] (List.pairwise_singleton _ _)
  | .alt ps, s => by
    rw [ends]
    exact asc_sorted _ _
  | .rep p l m, s => by
    rw [ends_rep, repEnds]
    exact asc_sorted _ _
theorem sorted_len {n : Nat} {xs : List Nat} (h : xs.Pairwise (· < ·)) (hn : ∀ e ∈ xs, e ≤ n) : xs.length ≤ n + 1 := by
  rw [← asc_self h hn]
  exact asc_len
theorem ends_len (t : List Nat) (p : Pat) (s : Nat) (hs : s ≤ t.length) : (ends t p s).length ≤ t.length + 1 := sorted_len (ends_sorted t p s) fun e h => ends_le t p s e hs h
theorem lay_sorted {n : Nat} {f : Nat → List Nat} {l s : Nat} : ∀ j, (lay n f l s j).Pairwise (· < ·)
  | 0 => by rw [lay]; exact List.pairwise_singleton _ _
  | j + 1 => by rw [lay, stepL]; exact asc_sorted _ _
theorem lay_len {n : Nat} {f : Nat → List Nat} {l s : Nat} (hs : s ≤ n) (j : Nat) : (lay n f l s j).length ≤ n + 1 := sorted_len (lay_sorted j) fun e h => lay_le hs j e h
theorem reaches_len (t : List Nat) : ∀ (ps : List Pat) (xs : List Nat), (reaches t ps xs).length = ps.length + 1
  | [], xs => rfl
  | p :: ps, xs => by rw [reaches, List.length_cons, reaches_len t ps]; rfl
theorem reaches_last (t : List Nat) : ∀ (ps : List Pat) (xs : List Nat), (reaches t ps xs)[ps.length]? = some (rowEnds t ps xs)
  | [], xs => by rw [rowEnds]; rfl
  | p :: ps, xs => by rw [reaches, rowEnds, List.length_cons, List.getElem?_cons_succ]; exact reaches_last t ps _
theorem reaches_head (t : List Nat) : ∀ (ps : List Pat) (xs : List Nat), (reaches t ps xs)[0]? = some xs
  | [], xs => rfl
  | p :: ps, xs => rfl
theorem reaches_next (t : List Nat) : ∀ (ps : List Pat) (xs : List Nat) (k : Nat) (p : Pat) (ys : List Nat), ps[k]? = some p → (reaches t ps xs)[k]? = some ys → (reaches t ps xs)[k + 1]? = some (asc t.length (ys.flatMap (ends t p)))
  | [], xs, k, p, ys, h, _ => by simp at h
  | q :: ps, xs, 0, p, ys, h, g => by
    have e1 : q = p := Option.some.inj h
    have e2 : xs = ys := Option.some.inj g
    subst e1 e2
    rw [reaches, List.getElem?_cons_succ]
    exact reaches_head t ps _
  | q :: ps, xs, k + 1, p, ys, h, g => by
    rw [reaches, List.getElem?_cons_succ] at g ⊢
    exact reaches_next t ps _ k p ys (by simpa using h) g
theorem reaches_le (t : List Nat) : ∀ (ps : List Pat) (xs : List Nat), (∀ x ∈ xs, x ≤ t.length) → xs.Pairwise (· < ·) → ∀ ys ∈ reaches t ps xs, (∀ y ∈ ys, y ≤ t.length) ∧ ys.Pairwise (· < ·)
  | [], xs, h, hs, ys, hy => by
    rw [reaches] at hy
    rw [List.mem_singleton.mp hy]
    exact ⟨h, hs⟩
  | p :: ps, xs, h, hs, ys, hy => by
    rw [reaches] at hy
    rcases List.mem_cons.mp hy with e | hy
    · rw [e]; exact ⟨h, hs⟩
    · exact reaches_le t ps _ (fun x hx => asc_le hx) (asc_sorted _ _) ys hy
theorem altEnds_flat (t : List Nat) (s : Nat) : ∀ ps : List Pat, altEnds t ps s = ps.flatMap fun p => ends t p s
  | [] => by rw [altEnds_nil]; rfl
  | p :: ps => by rw [altEnds_cons, List.flatMap_cons, altEnds_flat t s ps]
/-- behind the first least layers each one begins later -/
theorem lay_ge {n : Nat} {f : Nat → List Nat} {l s : Nat} : ∀ (j e : Nat), e ∈ lay n f l s (l + j) → j ≤ e
  | 0, e, _ => Nat.zero_le _
  | j + 1, e, h => by
    rw [show l + (j + 1) = (l + j) + 1 from rfl, lay, stepL] at h
    obtain ⟨a, ha, hm⟩ := List.mem_flatMap.mp (mem_asc.mp h).2
    obtain ⟨h1, h2⟩ := List.mem_filter.mp hm
    rw [decide_eq_false (show ¬ l + j + 1 ≤ l by omega), Bool.false_or] at h2
    have h3 := of_decide_eq_true h2
    have := lay_ge j a ha
    omega
theorem lay_nil {n : Nat} {f : Nat → List Nat} {l s : Nat} {j : Nat} (h : lay n f l s j = []) : ∀ k, lay n f l s (j + k) = []
  | 0 => h
  | k + 1 => by
    have ih := lay_nil h k
    show lay n f l s ((j + k) + 1) = []
    rw [lay, ih, stepL]
    refine List.eq_nil_iff_forall_not_mem.mpr fun e he => ?_
    have := (mem_asc.mp he).2
    simp at this
theorem repEnds_top {n : Nat} {f : Nat → List Nat} {l : Nat} {m : Option Nat} {s top : Nat} (hs : s ≤ n) (h1 : lay n f l s top = [] ∨ m = some top) (h2 : ∀ x, m = some x → top ≤ x) :
    asc n ((((List.range (top + 1)).map (lay n f l s)).drop l).flatten) = repEnds n f l m s := by
  rw [repEnds]
  refine asc_congr fun e he => ?_
  have dr : ∀ (i k : Nat), ((List.range (top + 1)).map (lay n f l s)).drop l = (List.range' l (top + 1 - l)).map (lay n f l s) := fun _ _ => by
    rw [← List.map_drop]
    congr 1
    rw [List.range_eq_range', List.drop_range']
    simp
  rw [dr 0 0, ← List.flatMap_def]
  rw [List.mem_flatMap, List.mem_flatMap]
  constructor
  · rintro ⟨j, hj, hm⟩
    refine ⟨j, ?_, hm⟩
    have hj2 := List.mem_range'_1.mp hj
    refine List.mem_range'_1.mpr ⟨hj2.1, ?_⟩
    have h3 : j ≤ cap n l m := by
      cases m with
      | some x =>
        have := h2 x rfl
        rw [cap]
        omega
      | none =>
        rw [cap]
        obtain ⟨k, rfl⟩ : ∃ k, j = l + k := ⟨j - l, by omega⟩
        have := lay_ge k e hm
        omega
    omega
  · rintro ⟨j, hj, hm⟩
    refine ⟨j, ?_, hm⟩
    have hj2 := List.mem_range'_1.mp hj
    refine List.mem_range'_1.mpr ⟨hj2.1, ?_⟩
    have h3 : j ≤ top := by
      rcases h1 with h1 | h1
      · refine Classical.byContradiction fun q => ?_
        have := lay_nil h1 (j - top)
        rw [show top + (j - top) = j by omega] at this
        rw [this] at hm
        cases hm
      · rw [h1, cap] at hj2
        omega
    omega
end Pd
set_option Elab.async false
set_option linter.all false
set_option maxRecDepth 100000
set_option maxHeartbeats 1000000
/-! PdM4: derivations: what they are made of, their steps. -/
namespace Pd
open PySem
mutual
def noL : PyData → Bool
  | .none => true
  | .bool _ => true
  | .int _ => true
  | .str _ => true
  | .list _ => false
  | .tuple xs => noLs xs
  | .dict _ => false
def noLs : List PyData → Bool
  | [] => true
  | d :: ds => noL d && noLs ds
end
theorem noLs_of : ∀ {ds : List PyData}, (∀ d ∈ ds, noL d = true) → noLs ds = true
  | [], _ => by rw [noLs]
  | d :: ds, h => by
    rw [noLs, h d List.mem_cons_self, noLs_of fun x hx => h x (List.mem_cons_of_mem _ hx)]
    rfl
theorem noLs_mem : ∀ {ds : List PyData}, noLs ds = true → ∀ d ∈ ds, noL d = true
  | [], _, d, hd => by cases hd
  | c :: ds, h, d, hd => by
    rw [noLs, Bool.and_eq_true] at h
    rcases List.mem_cons.mp hd with e | hd
    · rw [e]; exact h.1
    · exact noLs_mem h.2 d hd
theorem IsDer.noL {d : PyData} (h : IsDer d) : noL d = true := by
  induction h with
  | one => rfl
  | row h ih =>
    have := noLs_of ih
    simp only [Pd.noL, noLs, this, Bool.and_self]
  | rep h ih =>
    have := noLs_of ih
    simp only [Pd.noL, noLs, this, Bool.and_self]
  | alt h ih => simp only [Pd.noL, noLs, ih, Bool.and_self]
theorem copyDer_isDer {n : Nat} {f : Nat → List Nat} {g : Nat → Nat → PyData} {l s : Nat} (hg : ∀ a b, IsDer (g a b)) : ∀ (k e : Nat), ∀ d ∈ copyDer n f g l s k e, IsDer d
  | 0, e, d, h => by rw [copyDer] at h; cases h
  | k + 1, e, d, h => by
    rw [copyDer] at h
    rcases List.mem_append.mp h with h | h
    · exact copyDer_isDer hg k _ d h
    · rw [List.mem_singleton.mp h]
      exact hg _ _
mutual
theorem der_isDer (t : List Nat) : ∀ (p : Pat) (s e : Nat), IsDer (der t p s e)
  | .leaf l, s, e => by rw [der_leaf]; exact .one
  | .row ps, s, e => by rw [der_row]; exact .row (rowDer_isDer t ps [s] e)
  | .alt ps, s, e => by rw [der_alt]; exact altDer_isDer t ps 0 s e
  | .rep p l m, s, e => by rw [der_rep]; exact .rep (copyDer_isDer (der_isDer t p) _ _)
theorem rowDer_isDer (t : List Nat) : ∀ (ps : List Pat) (xs : List Nat) (e : Nat), ∀ d ∈ (rowDer t ps xs e).1, IsDer d
  | [], xs, e, d, h => by rw [rowDer] at h; cases h
  | p :: ps, xs, e, d, h => by
    rw [rowDer] at h
    rcases List.mem_cons.mp h with h | h
    · rw [h]
      exact der_isDer t p _ _
    · exact rowDer_isDer t ps _ e d h
theorem altDer_isDer (t : List Nat) : ∀ (ps : List Pat) (k s e : Nat), IsDer (altDer t ps k s e)
  | [], k, s, e => by rw [altDer_nil]; exact .one
  | p :: ps, k, s, e => by
    rw [altDer_cons]
    by_cases h : e ∈ ends t p s
    · rw [if_pos h]
      exact .alt (der_isDer t p s e)
    · rw [if_neg h]
      exact altDer_isDer t ps (k + 1) s e
end
theorem altDer_at (t : List Nat) (s e : Nat) : ∀ (ps : List Pat) (k i : Nat) (p : Pat), (∀ (j : Nat) (q : Pat), j < i → ps[j]? = some q → e ∉ ends t q s) → ps[i]? = some p → e ∈ ends t p s → altDer t ps k s e = .tuple [.str "or", .int ((k + i : Nat) : Int), der t p s e]
  | [], k, i, p, _, h, _ => by simp at h
  | q :: ps, k, 0, p, _, h, he => by
    have e1 : q = p := Option.some.inj h
    subst e1
    rw [altDer_cons, if_pos he]
    rfl
  | q :: ps, k, i + 1, p, hn, h, he => by
    rw [altDer_cons, if_neg (hn 0 q (Nat.succ_pos _) rfl), altDer_at t s e ps (k + 1) i p (fun j r hj hr => hn (j + 1) r (by omega) (by simpa using hr)) (by simpa using h) he, show k + 1 + i = k + (i + 1) by omega]
theorem mem_altEnds {t : List Nat} {ps : List Pat} {s e : Nat} (h : e ∈ altEnds t ps s) : ∃ (i : Nat) (p : Pat), ps[i]? = some p ∧ e ∈ ends t p s := by
  rw [altEnds_flat] at h
  obtain ⟨p, hp, he⟩ := List.mem_flatMap.mp h
  obtain ⟨i, hi⟩ := List.getElem?_of_mem hp
  exact ⟨i, p, hi, he⟩
theorem rowDer_cons {t : List Nat} {p : Pat} {ps : List Pat} {xs : List Nat} {e : Nat} : rowDer t (p :: ps) xs e = (der t p (firstOf xs fun b => decide ((rowDer t ps (asc t.length (xs.flatMap (ends t p))) e).2 ∈ ends t p b)) (rowDer t ps (asc t.length (xs.flatMap (ends t p))) e).2 :: (rowDer t ps (asc t.length (xs.flatMap (ends t p))) e).1,
    firstOf xs fun b => decide ((rowDer t ps (asc t.length (xs.flatMap (ends t p))) e).2 ∈ ends t p b)) := by rw [rowDer]
theorem firstOf_mem {xs : List Nat} {q : Nat → Bool} (h : ∃ x ∈ xs, q x = true) : firstOf xs q ∈ xs ∧ q (firstOf xs q) = true ∧ (xs.filter q)[0]? = some (firstOf xs q) := by
  unfold firstOf
  cases e : xs.find? q with
  | none =>
    obtain ⟨x, hx, hq⟩ := h
    have := List.find?_eq_none.mp e x hx
    exact absurd hq this
  | some y =>
    refine ⟨List.mem_of_find?_eq_some e, List.find?_some e, ?_⟩
    rw [← List.head?_eq_getElem?, List.head?_filter, e]
    rfl
theorem firstOf_yes {q : Nat → Bool} {a : Nat} {xs : List Nat} (e : q a = true) : firstOf (a :: xs) q = a := by
  unfold firstOf
  rw [List.find?_cons, e]
  rfl
theorem firstOf_no {q : Nat → Bool} {a : Nat} {xs : List Nat} (e : q a = false) : firstOf (a :: xs) q = firstOf xs q := by
  unfold firstOf
  rw [List.find?_cons, e]
theorem firstOf_range {q : Nat → Bool} : ∀ (len a : Nat), (∃ j, a ≤ j ∧ j < a + len ∧ q j = true) → a ≤ firstOf (List.range' a len) q ∧ firstOf (List.range' a len) q < a + len ∧ q (firstOf (List.range' a len) q) = true ∧ ∀ j, a ≤ j → j < firstOf (List.range' a len) q → q j = false
  | 0, a, h => by
    obtain ⟨j, h1, h2, _⟩ := h
    omega
  | len + 1, a, h => by
    rw [List.range'_succ]
    cases e : q a with
    | true =>
      rw [firstOf_yes e]
      exact ⟨Nat.le_refl _, by omega, e, fun j h1 h2 => by omega⟩
    | false =>
      rw [firstOf_no e]
      obtain ⟨j, h1, h2, h3⟩ := h
      have ne : j ≠ a := fun z => by rw [z, e] at h3; cases h3
      obtain ⟨i1, i2, i3, i4⟩ := firstOf_range (q := q) len (a + 1) ⟨j, by omega, by omega, h3⟩
      refine ⟨by omega, by omega, i3, fun k k1 k2 => ?_⟩
      by_cases ek : k = a
      · rw [ek]; exact e
      · exact i4 k (by omega) k2
theorem copies_spec {n : Nat} {f : Nat → List Nat} {l : Nat} {m : Option Nat} {s e : Nat} (h : e ∈ repEnds n f l m s) : l ≤ copiesOf n f l m s e ∧ copiesOf n f l m s e ≤ cap n l m ∧ e ∈ lay n f l s (copiesOf n f l m s e) ∧ ∀ j, l ≤ j → j < copiesOf n f l m s e → e ∉ lay n f l s j := by
  rw [repEnds] at h
  obtain ⟨j, hj, he⟩ := List.mem_flatMap.mp (mem_asc.mp h).2
  have hj2 := List.mem_range'_1.mp hj
  have q := firstOf_range (q := fun j => decide (e ∈ lay n f l s j)) (cap n l m + 1 - l) l ⟨j, hj2.1, hj2.2, decide_eq_true he⟩
  obtain ⟨q1, q2, q3, q4⟩ := q
  refine ⟨q1, ?_, of_decide_eq_true q3, fun k k1 k2 => of_decide_eq_false (q4 k k1 k2)⟩
  unfold copiesOf
  omega
theorem beg_spec {n : Nat} {f : Nat → List Nat} {l s k e : Nat} (h : e ∈ lay n f l s (k + 1)) : begOf n f l s k e ∈ lay n f l s k ∧ e ∈ f (begOf n f l s k e) ∧ (k < l ∨ begOf n f l s k e < e) ∧ ((lay n f l s k).filter fun b => decide (e ∈ f b) && (decide (k < l) || decide (b < e)))[0]? = some (begOf n f l s k e) := by
  rw [lay, stepL] at h
  obtain ⟨b, hb, hm⟩ := List.mem_flatMap.mp (mem_asc.mp h).2
  obtain ⟨h1, h2⟩ := List.mem_filter.mp hm
  have hex : ∃ x ∈ lay n f l s k, (decide (e ∈ f x) && (decide (k < l) || decide (x < e))) = true := by
    refine ⟨b, hb, ?_⟩
    rw [decide_eq_true h1, Bool.true_and]
    exact h2
  obtain ⟨f1, f2, f3⟩ := firstOf_mem hex
  rw [Bool.and_eq_true, Bool.or_eq_true] at f2
  refine ⟨f1, of_decide_eq_true f2.1, ?_, f3⟩
  rcases f2.2 with h | h
  · exact .inl (of_decide_eq_true h)
  · exact .inr (of_decide_eq_true h)
end Pd
set_option Elab.async false
set_option linter.all false
set_option maxRecDepth 100000
set_option maxHeartbeats 1000000
/-! PdM5: the numbers of a pattern's parts. -/
namespace Pd
open PySem
theorem nodess_nil : nodess [] = [] := by rw [nodess]
theorem nodess_cons {p : Pat} {ps : List Pat} : nodess (p :: ps) = nodes p ++ nodess ps := by rw [nodess]
theorem underss_nil {b : Nat} : underss b [] = [] := by rw [underss]
theorem underss_cons {b : Nat} {p : Pat} {ps : List Pat} : underss b (p :: ps) = unders b p ++ underss (b + (nodes p).length) ps := by rw [underss]
theorem nodes_eq (p : Pat) : nodes p = p :: nodess p.kids := by
  cases p with
  | leaf l => rw [nodes]; show _ = _ :: nodess []; rw [nodess_nil]
  | row ps => rw [nodes]; rfl
  | alt ps => rw [nodes]; rfl
  | rep p l m => rw [nodes]; show _ = _ :: nodess [p]; rw [nodess_cons, nodess_nil, List.append_nil]
theorem unders_eq (b : Nat) (p : Pat) : unders b p = heads (b + 1) p.kids :: underss (b + 1) p.kids := by
  cases p with
  | leaf l => rw [unders]; show _ = heads (b + 1) [] :: underss (b + 1) []; rw [underss_nil]; rfl
  | row ps => rw [unders]; rfl
  | alt ps => rw [unders]; rfl
  | rep p l m => rw [unders]; show _ = heads (b + 1) [p] :: underss (b + 1) [p]; rw [underss_cons, underss_nil, List.append_nil]; rfl
theorem nodess_app : ∀ ps qs : List Pat, nodess (ps ++ qs) = nodess ps ++ nodess qs
  | [], qs => by rw [nodess_nil]; rfl
  | p :: ps, qs => by rw [List.cons_append, nodess_cons, nodess_cons, nodess_app ps qs, List.append_assoc]
theorem nodess_one (q : Pat) : nodess [q] = nodes q := by rw [nodess_cons, nodess_nil, List.append_nil]
theorem heads_snoc : ∀ (ps : List Pat) (b : Nat) (q : Pat), heads b (ps ++ [q]) = heads b ps ++ [b + (nodess ps).length]
  | [], b, q => by rw [nodess_nil]; rfl
  | p :: ps, b, q => by
    rw [List.cons_append, heads, heads, heads_snoc ps _ q, nodess_cons, List.length_append, Nat.add_assoc]
    rfl
theorem underss_snoc : ∀ (ps : List Pat) (b : Nat) (q : Pat), underss b (ps ++ [q]) = underss b ps ++ unders (b + (nodess ps).length) q
  | [], b, q => by rw [nodess_nil, List.nil_append, underss_cons, underss_nil, List.append_nil, underss_nil]; rfl
  | p :: ps, b, q => by
    rw [List.cons_append, underss_cons, underss_cons, underss_snoc ps _ q, nodess_cons, List.length_append, Nat.add_assoc, List.append_assoc]
theorem heads_len : ∀ (ps : List Pat) (b : Nat), (heads b ps).length = ps.length
  | [], b => rfl
  | p :: ps, b => by rw [heads, List.length_cons, heads_len ps]; rfl
mutual
theorem unders_len : ∀ (p : Pat) (b : Nat), (unders b p).length = (nodes p).length
  | .leaf l, b => by rw [unders, nodes]; rfl
  | .row ps, b => by rw [unders, nodes, List.length_cons, List.length_cons, underss_len ps]
  | .alt ps, b => by rw [unders, nodes, List.length_cons, List.length_cons, underss_len ps]
  | .rep p l m, b => by rw [unders, nodes, List.length_cons, List.length_cons, unders_len p]
theorem underss_len : ∀ (ps : List Pat) (b : Nat), (underss b ps).length = (nodess ps).length
  | [], b => by rw [underss, nodess]; rfl
  | p :: ps, b => by rw [underss, nodess, List.length_append, List.length_append, unders_len p, underss_len ps]
end
theorem nodess_take {ps : List Pat} {i : Nat} {p : Pat} (h : ps[i]? = some p) : nodess (ps.take (i + 1)) = nodess (ps.take i) ++ nodes p := by
  rw [List.take_add_one, h]
  show nodess (ps.take i ++ [p]) = _
  rw [nodess_app, nodess_one]
theorem heads_take {ps : List Pat} {i b : Nat} {p : Pat} (h : ps[i]? = some p) : heads b (ps.take (i + 1)) = heads b (ps.take i) ++ [b + (nodess (ps.take i)).length] := by
  rw [List.take_add_one, h]
  exact heads_snoc _ _ p
theorem underss_take {ps : List Pat} {i b : Nat} {p : Pat} (h : ps[i]? = some p) : underss b (ps.take (i + 1)) = underss b (ps.take i) ++ unders (b + (nodess (ps.take i)).length) p := by
  rw [List.take_add_one, h]
  exact underss_snoc _ _ p
theorem nodess_take_le (ps : List Pat) (i : Nat) : (nodess (ps.take i)).length ≤ (nodess ps).length := by
  have h := nodess_app (ps.take i) (ps.drop i)
  rw [List.take_append_drop] at h
  rw [h, List.length_append]
  omega
theorem nodess_ge : ∀ ps : List Pat, ps.length ≤ (nodess ps).length
  | [] => by rw [nodess_nil]; exact Nat.le_refl _
  | p :: ps => by
    have := nodess_ge ps
    rw [nodess_cons, nodes_eq, List.length_append, List.length_cons, List.length_cons]
    omega
/-- the numbers fit -/
def Fits (b : Nat) (tp : List Pat) (up : List (List Nat)) : Prop := ∀ (n : Nat) (p : Pat), tp[n]? = some p → ∃ cs : List Nat, up[n]? = some cs ∧ cs.length = p.kids.length ∧ ∀ (i : Nat) (c : Nat) (q : Pat), cs[i]? = some c → p.kids[i]? = some q → ∃ m, c = b + m ∧ tp[m]? = some q
theorem heads_at : ∀ (ps : List Pat) (b i c : Nat) (q : Pat), (heads b ps)[i]? = some c → ps[i]? = some q → ∃ m, c = b + m ∧ (nodess ps)[m]? = some q
  | [], b, i, c, q, h, g => by simp at g
  | p :: ps, b, 0, c, q, h, g => by
    rw [heads] at h
    have e1 : b = c := Option.some.inj h
    have e2 : p = q := Option.some.inj g
    subst e1 e2
    refine ⟨0, rfl, ?_⟩
    rw [nodess_cons, nodes_eq]
    rfl
  | p :: ps, b, i + 1, c, q, h, g => by
    rw [heads] at h
    obtain ⟨m, e1, e2⟩ := heads_at ps (b + (nodes p).length) i c q (by simpa using h) (by simpa using g)
    refine ⟨(nodes p).length + m, by omega, ?_⟩
    rw [nodess_cons, List.getElem?_append_right (by omega), Nat.add_sub_cancel_left]
    exact e2
theorem fits_up {b : Nat} {p : Pat} {tp : List Pat} {up : List (List Nat)} (h : Fits (b + 1) (nodess p.kids) (underss (b + 1) p.kids)) : Fits b (nodes p) (unders b p) := fun n q hn => by
  rw [nodes_eq] at hn
  rw [unders_eq]
  cases n with
  | zero =>
    have e : p = q := Option.some.inj hn
    subst e
    refine ⟨_, rfl, heads_len _ _, fun i c r hi hr => ?_⟩
    obtain ⟨m, e1, e2⟩ := heads_at _ _ _ _ _ hi hr
    refine ⟨m + 1, by omega, ?_⟩
    rw [nodes_eq]
    exact e2
  | succ n =>
    obtain ⟨cs, h1, h2, h3⟩ := h n q (by simpa using hn)
    refine ⟨cs, by simpa using h1, h2, fun i c r hi hr => ?_⟩
    obtain ⟨m, e1, e2⟩ := h3 i c r hi hr
    refine ⟨m + 1, by omega, ?_⟩
    rw [nodes_eq]
    exact e2
mutual
theorem fits_nodes : ∀ (p : Pat) (b : Nat), Fits b (nodes p) (unders b p)
  | .leaf l, b => fits_up (p := .leaf l) (tp := []) (up := []) (fun n q hn => by
    have h2 : (nodess [])[n]? = some q := hn
    rw [nodess_nil] at h2
    simp at h2)
  | .row ps, b => fits_up (p := .row ps) (tp := []) (up := []) (fits_nodess ps (b + 1))
  | .alt ps, b => fits_up (p := .alt ps) (tp := []) (up := []) (fits_nodess ps (b + 1))
  | .rep p l m, b => fits_up (p := .rep p l m) (tp := []) (up := []) (by
    show Fits (b + 1) (nodess [p]) (underss (b + 1) [p])
    rw [nodess_cons, nodess_nil, List.append_nil, underss_cons, underss_nil, List.append_nil]
    exact fits_nodes p (b + 1))
theorem fits_nodess : ∀ (ps : List Pat) (b : Nat), Fits b (nodess ps) (underss b ps)
  | [], b => fun n q hn => by rw [nodess_nil] at hn; simp at hn
  | p :: ps, b => fun n q hn => by
    rw [nodess_cons] at hn ⊢
    rw [underss_cons]
    by_cases hl : n < (nodes p).length
    · rw [List.getElem?_append_left hl] at hn
      obtain ⟨cs, h1, h2, h3⟩ := fits_nodes p b n q hn
      refine ⟨cs, by rw [List.getElem?_append_left (by rw [unders_len]; exact hl)]; exact h1, h2, fun i c r hi hr => ?_⟩
      obtain ⟨m, e1, e2⟩ := h3 i c r hi hr
      have := (List.getElem?_eq_some_iff.mp e2).1
      exact ⟨m, e1, by rw [List.getElem?_append_left this]; exact e2⟩
    · rw [List.getElem?_append_right (by omega)] at hn
      obtain ⟨cs, h1, h2, h3⟩ := fits_nodess ps (b + (nodes p).length) _ q hn
      refine ⟨cs, by rw [List.getElem?_append_right (by rw [unders_len]; omega), unders_len]; exact h1, h2, fun i c r hi hr => ?_⟩
      obtain ⟨m, e1, e2⟩ := h3 i c r hi hr
      refine ⟨(nodes p).length + m, by omega, ?_⟩
      rw [List.getElem?_append_right (by omega), Nat.add_sub_cancel_left]
      exact e2
end
mutual
theorem enc_noL : ∀ p : Pat, noL (enc p) = true
  | .leaf l => by
    rw [enc]
    cases l with
    | sgn c z => cases c <;> rfl
    | _ => rfl
  | .row ps => by rw [enc]; simp only [noL, noLs, encs_noL ps, Bool.and_self]
  | .alt ps => by rw [enc]; simp only [noL, noLs, encs_noL ps, Bool.and_self]
  | .rep p l m => by
    rw [enc]
    cases m with
    | none => simp only [encMost, noL, noLs, enc_noL p, Bool.and_self]
    | some x => simp only [encMost, noL, noLs, enc_noL p, Bool.and_self]
theorem encs_noL : ∀ ps : List Pat, noLs (encs ps) = true
  | [] => by rw [encs, noLs]
  | p :: ps => by rw [encs, noLs, enc_noL p, encs_noL ps]; rfl
end
mutual
theorem wf_nodes : ∀ p : Pat, Wf p → ∀ q ∈ nodes p, Wf q
  | .leaf l, h, q, hq => by rw [nodes] at hq; rw [List.mem_singleton.mp hq]; exact h
  | .row ps, h, q, hq => by
    rw [nodes] at hq
    rcases List.mem_cons.mp hq with e | hq
    · rw [e]; exact h
    · rw [Wf] at h; exact wf_nodess ps h.1 q hq
  | .alt ps, h, q, hq => by
    rw [nodes] at hq
    rcases List.mem_cons.mp hq with e | hq
    · rw [e]; exact h
    · rw [Wf] at h; exact wf_nodess ps h.1 q hq
  | .rep p l m, h, q, hq => by
    rw [nodes] at hq
    rcases List.mem_cons.mp hq with e | hq
    · rw [e]; exact h
    · rw [Wf] at h; exact wf_nodes p h.1 q hq
theorem wf_nodess : ∀ ps : List Pat, Wfs ps → ∀ q ∈ nodess ps, Wf q
  | [], h, q, hq => by rw [nodess] at hq; cases hq
  | p :: ps, h, q, hq => by
    rw [nodess] at hq
    rw [Wfs] at h
    rcases List.mem_append.mp hq with hq | hq
    · exact wf_nodes p h.1 q hq
    · exact wf_nodess ps h.2 q hq
end
end Pd
set_option Elab.async false
set_option linter.all false
set_option maxRecDepth 100000
set_option maxHeartbeats 1000000
/-! PdM6: walks along values: shapes, bounds. -/
namespace Pd
open PySem
theorem walk_not {t : List Nat} {p : Pat} {s : Nat} {d : PyData} (h : ∀ ds, d ≠ .tuple ds) : walk t p s d = none := by
  cases p with
  | leaf l =>
    rw [walk_leaf]
    split
    · exact absurd rfl (h _)
    · rfl
  | row ps =>
    rw [walk_row]
    split
    · exact absurd rfl (h _)
    · rfl
  | alt ps =>
    rw [walk_alt]
    split
    · exact absurd rfl (h _)
    · rfl
  | rep p l m =>
    rw [walk_rep]
    split
    · exact absurd rfl (h _)
    · rfl
theorem walk_empty {t : List Nat} {p : Pat} {s : Nat} : walk t p s (.tuple []) = none := by
  cases p with
  | leaf l => rw [walk_leaf]
  | row ps => rw [walk_row]
  | alt ps => rw [walk_alt]
  | rep p l m => rw [walk_rep]
theorem walk_head {t : List Nat} {p : Pat} {s : Nat} {d : PyData} {ds : List PyData} (h : ∀ w, d ≠ .str w) : walk t p s (.tuple (d :: ds)) = none := by
  cases p with
  | leaf l =>
    rw [walk_leaf]
    split
    · rename_i w e
      cases e
      exact absurd rfl (h _)
    · rfl
  | row ps =>
    rw [walk_row]
    split
    · rename_i w e x
      cases x
      exact absurd rfl (h _)
    · rfl
  | alt ps =>
    rw [walk_alt]
    split
    · rename_i w e x y
      cases y
      exact absurd rfl (h _)
    · rfl
  | rep p l m =>
    rw [walk_rep]
    split
    · rename_i w e x
      cases x
      exact absurd rfl (h _)
    · rfl
theorem rowWalk_len {t : List Nat} : ∀ (ps : List Pat) (s : Nat) (ds : List PyData), ps.length ≠ ds.length → rowWalk t ps s ds = none
  | [], s, [], h => absurd rfl h
  | [], s, d :: ds, _ => by rw [rowWalk_nil]
  | p :: ps, s, [], _ => rowWalk_short
  | p :: ps, s, d :: ds, h => by
    rw [rowWalk_cons]
    cases walk t p s d with
    | none => rfl
    | some m => exact rowWalk_len ps m ds fun e => h (congrArg Nat.succ e)
theorem rowWalk_done {t : List Nat} {s : Nat} : rowWalk t [] s [] = some s := by rw [rowWalk_nil]
theorem altWalk_at {t : List Nat} {s : Nat} {x : PyData} : ∀ (ps : List Pat) (k : Nat) (p : Pat), ps[k]? = some p → altWalk t ps k s x = walk t p s x
  | [], k, p, h => by simp at h
  | q :: ps, 0, p, h => by
    have e : q = p := Option.some.inj h
    rw [altWalk_zero, e]
  | q :: ps, k + 1, p, h => by
    rw [altWalk_succ]
    exact altWalk_at ps k p (by simpa using h)
theorem altWalk_out {t : List Nat} {s : Nat} {x : PyData} : ∀ (ps : List Pat) (k : Nat), ps.length ≤ k → altWalk t ps k s x = none
  | [], k, _ => altWalk_nil
  | q :: ps, 0, h => absurd h (by simp)
  | q :: ps, k + 1, h => by
    rw [altWalk_succ]
    exact altWalk_out ps k (by simpa using h)
theorem rowWalk_same {t : List Nat} {p : Pat} : ∀ (ds : List PyData) (s : Nat), rowWalk t (List.replicate ds.length p) s ds = repWalk (walk t p) s ds
  | [], s => by rw [repWalk]; exact rowWalk_done
  | d :: ds, s => by
    rw [List.length_cons, List.replicate_succ, rowWalk_cons, repWalk]
    cases walk t p s d with
    | none => rfl
    | some m => exact rowWalk_same ds m
theorem repWalk_le {n : Nat} {f : Nat → PyData → Option Nat} (hf : ∀ s d e, s ≤ n → f s d = some e → e ≤ n) : ∀ (ds : List PyData) (s e : Nat), s ≤ n → repWalk f s ds = some e → e ≤ n
  | [], s, e, hs, h => by
    rw [repWalk] at h
    cases h
    exact hs
  | d :: ds, s, e, hs, h => by
    rw [repWalk] at h
    cases q : f s d with
    | none => rw [q] at h; cases h
    | some m =>
      rw [q] at h
      exact repWalk_le hf ds m e (hf s d m hs q) h
mutual
theorem walk_le (t : List Nat) : ∀ (p : Pat) (s : Nat) (d : PyData) (e : Nat), s ≤ t.length → walk t p s d = some e → e ≤ t.length
  | .leaf l, s, d, e, hs, h => by
    rw [walk_leaf] at h
    split at h
    · split at h
      · exact (leafEnd_le hs h).2
      · cases h
    · cases h
  | .row ps, s, d, e, hs, h => by
    rw [walk_row] at h
    split at h
    · split at h
      · exact rowWalk_le t ps s _ e hs h
      · cases h
    · cases h
  | .alt ps, s, d, e, hs, h => by
    rw [walk_alt] at h
    split at h
    · split at h
      · exact altWalk_le t ps _ s _ e hs h
      · cases h
    · cases h
  | .rep p l m, s, d, e, hs, h => by
    rw [walk_rep] at h
    split at h
    · split at h
      · exact repWalk_le (fun s d e hs h => walk_le t p s d e hs h) _ s e hs h
      · cases h
    · cases h
theorem rowWalk_le (t : List Nat) : ∀ (ps : List Pat) (s : Nat) (ds : List PyData) (e : Nat), s ≤ t.length → rowWalk t ps s ds = some e → e ≤ t.length
  | [], s, [], e, hs, h => by
    rw [rowWalk_done] at h
    cases h
    exact hs
  | [], s, d :: ds, e, hs, h => by
    rw [rowWalk_nil] at h
    cases h
  | p :: ps, s, [], e, hs, h => by
    rw [rowWalk_short] at h
    cases h
  | p :: ps, s, d :: ds, e, hs, h => by
    rw [rowWalk_cons] at h
    cases q : walk t p s d with
    | none => rw [q] at h; cases h
    | some m =>
      rw [q] at h
      exact rowWalk_le t ps m ds e (walk_le t p s d m hs q) h
theorem altWalk_le (t : List Nat) : ∀ (ps : List Pat) (k s : Nat) (x : PyData) (e : Nat), s ≤ t.length → altWalk t ps k s x = some e → e ≤ t.length
  | [], k, s, x, e, hs, h => by
    rw [altWalk_nil] at h
    cases h
  | p :: ps, 0, s, x, e, hs, h => by
    rw [altWalk_zero] at h
    exact walk_le t p s x e hs h
  | p :: ps, k + 1, s, x, e, hs, h => by
    rw [altWalk_succ] at h
    exact altWalk_le t ps k s x e hs h
end
theorem walk_leaf_none {t : List Nat} {l : Leaf} {s : Nat} {w : Str} {dr : List PyData} (h : w ≠ "one" ∨ dr ≠ []) : walk t (.leaf l) s (.tuple (.str w :: dr)) = none := by
  rw [walk_leaf]
  split
  · rename_i w' e
    cases e
    rcases h with h | h
    · rw [if_neg h]
    · exact absurd rfl h
  · rfl
theorem walk_leaf_one {t : List Nat} {l : Leaf} {s : Nat} : walk t (.leaf l) s (.tuple [.str "one"]) = leafEnd t l s := by
  rw [walk_leaf]
  exact if_pos rfl
theorem walk_row_none {t : List Nat} {ps : List Pat} {s : Nat} {w : Str} {dr : List PyData} (h : w ≠ "row" ∨ ∀ es, dr ≠ [.tuple es]) : walk t (.row ps) s (.tuple (.str w :: dr)) = none := by
  rw [walk_row]
  split
  · rename_i w' es e
    cases e
    rcases h with h | h
    · rw [if_neg h]
    · exact absurd rfl (h _)
  · rfl
theorem walk_row_is {t : List Nat} {ps : List Pat} {s : Nat} {es : List PyData} : walk t (.row ps) s (.tuple [.str "row", .tuple es]) = rowWalk t ps s es := by
  rw [walk_row]
  exact if_pos rfl
theorem walk_alt_none {t : List Nat} {ps : List Pat} {s : Nat} {w : Str} {dr : List PyData} (h : w ≠ "or" ∨ ∀ k x, dr ≠ [.int k, x]) : walk t (.alt ps) s (.tuple (.str w :: dr)) = none := by
  rw [walk_alt]
  split
  · rename_i w' k x e
    cases e
    rcases h with h | h
    · rw [if_neg fun z => h z.1]
    · exact absurd rfl (h _ _)
  · rfl
theorem walk_alt_is {t : List Nat} {ps : List Pat} {s : Nat} {k : Int} {x : PyData} : walk t (.alt ps) s (.tuple [.str "or", .int k, x]) = if 0 ≤ k then altWalk t ps k.toNat s x else none := by
  rw [walk_alt]
  show (if ("or" : Str) = "or" ∧ 0 ≤ k then _ else _) = _
  by_cases h : 0 ≤ k
  · rw [if_pos h, if_pos ⟨rfl, h⟩]
  · rw [if_neg h, if_neg fun z => h z.2]
theorem walk_rep_none {t : List Nat} {p : Pat} {l : Nat} {m : Option Nat} {s : Nat} {w : Str} {dr : List PyData} (h : w ≠ "repeat" ∨ ∀ es, dr ≠ [.tuple es]) : walk t (.rep p l m) s (.tuple (.str w :: dr)) = none := by
  rw [walk_rep]
  split
  · rename_i w' es e
    cases e
    rcases h with h | h
    · rw [if_neg fun z => h z.1]
    · exact absurd rfl (h _)
  · rfl
theorem walk_rep_is {t : List Nat} {p : Pat} {l : Nat} {m : Option Nat} {s : Nat} {es : List PyData} : walk t (.rep p l m) s (.tuple [.str "repeat", .tuple es]) = if l ≤ es.length ∧ (∀ x, m = some x → es.length ≤ x) then rowWalk t (List.replicate es.length p) s es else none := by
  rw [walk_rep, rowWalk_same]
  show (if ("repeat" : Str) = "repeat" ∧ l ≤ es.length ∧ _ then _ else _) = _
  by_cases h : l ≤ es.length ∧ (∀ x, m = some x → es.length ≤ x)
  · rw [if_pos h, if_pos ⟨rfl, h⟩]
  · rw [if_neg h, if_neg fun z => h z.2]
end Pd
set_option Elab.async false
set_option linter.all false
set_option maxRecDepth 100000
set_option maxHeartbeats 1000000
/-! PdM7: the law's own ends: members, bounds. -/
namespace Pd
open PySem
theorem addNew_snoc (told xs : List Nat) (x : Nat) : addNew told (xs ++ [x]) = if x ∈ addNew told xs then addNew told xs else addNew told xs ++ [x] := by
  unfold addNew
  rw [List.foldl_append]
  rfl
theorem addNew_nil (told : List Nat) : addNew told [] = told := rfl
theorem addNew_cons (told : List Nat) (x : Nat) (xs : List Nat) : addNew told (x :: xs) = addNew (if x ∈ told then told else told ++ [x]) xs := rfl
theorem mem_addNew {e : Nat} : ∀ (xs told : List Nat), e ∈ addNew told xs ↔ e ∈ told ∨ e ∈ xs
  | [], told => by simp [addNew_nil]
  | x :: xs, told => by
    rw [addNew_cons, mem_addNew xs]
    by_cases h : x ∈ told
    · rw [if_pos h, List.mem_cons]
      constructor
      · rintro (h1 | h1)
        · exact .inl h1
        · exact .inr (.inr h1)
      · rintro (h1 | h1 | h1)
        · exact .inl h1
        · exact .inl (h1 ▸ h)
        · exact .inr h1
    · rw [if_neg h, List.mem_append, List.mem_singleton, List.mem_cons]
      exact or_assoc
theorem nodup_snoc {xs : List Nat} {x : Nat} (h : xs.Nodup) (n : x ∉ xs) : (xs ++ [x]).Nodup := by
  rw [List.nodup_append]
  refine ⟨h, List.pairwise_singleton _ _, fun a ha b hb e => ?_⟩
  rw [List.mem_singleton.mp hb] at e
  exact n (e ▸ ha)
theorem addNew_nodup : ∀ (xs told : List Nat), told.Nodup → (addNew told xs).Nodup
  | [], told, h => h
  | x :: xs, told, h => by
    rw [addNew_cons]
    refine addNew_nodup xs _ ?_
    split
    · exact h
    · exact nodup_snoc h ‹_›
theorem onward_nil (f : Nat → List Nat) : onward f [] = [] := rfl
theorem onward_snoc (f : Nat → List Nat) (xs : List Nat) (x : Nat) : onward f (xs ++ [x]) = addNew (onward f xs) (f x) := by
  unfold onward
  rw [List.foldl_append]
  rfl
theorem mem_onward_from {f : Nat → List Nat} {e : Nat} : ∀ (xs acc : List Nat), e ∈ xs.foldl (fun acc a => addNew acc (f a)) acc ↔ e ∈ acc ∨ ∃ a ∈ xs, e ∈ f a
  | [], acc => by simp
  | x :: xs, acc => by
    rw [List.foldl_cons, mem_onward_from xs, mem_addNew]
    constructor
    · rintro ((h | h) | ⟨a, h1, h2⟩)
      · exact .inl h
      · exact .inr ⟨x, List.mem_cons_self, h⟩
      · exact .inr ⟨a, List.mem_cons_of_mem _ h1, h2⟩
    · rintro (h | ⟨a, h1, h2⟩)
      · exact .inl (.inl h)
      · rcases List.mem_cons.mp h1 with rfl | h1
        · exact .inl (.inr h2)
        · exact .inr ⟨a, h1, h2⟩
theorem mem_onward {f : Nat → List Nat} {xs : List Nat} {e : Nat} : e ∈ onward f xs ↔ ∃ a ∈ xs, e ∈ f a := by
  unfold onward
  rw [mem_onward_from]
  constructor
  · rintro (h | h)
    · cases h
    · exact h
  · exact .inr
theorem onward_nodup_from {f : Nat → List Nat} : ∀ (xs acc : List Nat), acc.Nodup → (xs.foldl (fun acc a => addNew acc (f a)) acc).Nodup
  | [], acc, h => h
  | x :: xs, acc, h => by
    rw [List.foldl_cons]
    exact onward_nodup_from xs _ (addNew_nodup _ _ h)
theorem onward_nodup (f : Nat → List Nat) (xs : List Nat) : (onward f xs).Nodup := onward_nodup_from xs [] List.nodup_nil
theorem mem_fresh {told xs : List Nat} {e : Nat} : e ∈ fresh told xs ↔ e ∈ xs ∧ e ∉ told := by
  unfold fresh
  rw [List.mem_filter, decide_eq_true_iff]
theorem fresh_nodup {told xs : List Nat} (h : xs.Nodup) : (fresh told xs).Nodup := h.filter _
theorem told_nodup {told xs : List Nat} (h : told.Nodup) (g : xs.Nodup) : (told ++ fresh told xs).Nodup := by
  rw [List.nodup_append]
  refine ⟨h, fresh_nodup g, fun a ha b hb e => ?_⟩
  subst e
  exact (mem_fresh.mp hb).2 ha
theorem spread_zero {f : Nat → List Nat} {told fr : List Nat} : spread f 0 told fr = told := rfl
theorem spread_succ {f : Nat → List Nat} {k : Nat} {told fr : List Nat} : spread f (k + 1) told fr = if fresh told (onward f fr) = [] then told else spread f k (told ++ fresh told (onward f fr)) (fresh told (onward f fr)) := rfl
theorem spread_nodup {f : Nat → List Nat} : ∀ (k : Nat) (told fr : List Nat), told.Nodup → (spread f k told fr).Nodup
  | 0, told, fr, h => h
  | k + 1, told, fr, h => by
    rw [spread_succ]
    split
    · exact h
    · exact spread_nodup k _ _ (told_nodup h (onward_nodup _ _))
theorem onward_le {n : Nat} {f : Nat → List Nat} (hf : ∀ a e, a ≤ n → e ∈ f a → e ≤ n) {xs : List Nat} (h : ∀ e ∈ xs, e ≤ n) : ∀ e ∈ onward f xs, e ≤ n := fun e he => by
  obtain ⟨a, h1, h2⟩ := mem_onward.mp he
  exact hf a e (h a h1) h2
theorem iter_le {n : Nat} {f : Nat → List Nat} (hf : ∀ a e, a ≤ n → e ∈ f a → e ≤ n) : ∀ (k : Nat) (xs : List Nat), (∀ e ∈ xs, e ≤ n) → ∀ e ∈ iter (onward f) k xs, e ≤ n
  | 0, xs, h => h
  | k + 1, xs, h => onward_le hf (iter_le hf k xs h)
theorem iter_nodup {f : Nat → List Nat} : ∀ (k : Nat) (xs : List Nat), xs.Nodup → (iter (onward f) k xs).Nodup
  | 0, xs, h => h
  | k + 1, xs, h => onward_nodup _ _
theorem spread_le {n : Nat} {f : Nat → List Nat} (hf : ∀ a e, a ≤ n → e ∈ f a → e ≤ n) : ∀ (k : Nat) (told fr : List Nat), (∀ e ∈ told, e ≤ n) → (∀ e ∈ fr, e ≤ n) → ∀ e ∈ spread f k told fr, e ≤ n
  | 0, told, fr, h, _ => h
  | k + 1, told, fr, h, g => by
    rw [spread_succ]
    split
    · exact h
    · have h1 : ∀ e ∈ fresh told (onward f fr), e ≤ n := fun e he => onward_le hf g e (mem_fresh.mp he).1
      exact spread_le hf k _ _ (fun e he => by
        rcases List.mem_append.mp he with q | q
        · exact h e q
        · exact h1 e q) h1
mutual
theorem lends_le (t : List Nat) : ∀ (p : Pat) (s e : Nat), s ≤ t.length → e ∈ lends t p s → e ≤ t.length
  | .leaf l, s, e, hs, h => by
    rw [lends_leaf, Option.mem_toList] at h
    exact (leafEnd_le hs h).2
  | .row ps, s, e, hs, h => by
    rw [lends_row] at h
    exact lrow_le t ps [s] (fun x hx => by rw [List.mem_singleton.mp hx]; exact hs) e h
  | .alt ps, s, e, hs, h => by
    rw [lends_alt] at h
    exact lalt_le t ps s [] hs (fun x hx => nomatch hx) e h
  | .rep p l m, s, e, hs, h => by
    rw [lends_rep] at h
    have h1 : ∀ e ∈ iter (onward (lends t p)) l [s], e ≤ t.length := iter_le (fun a e ha he => lends_le t p a e ha he) l [s] fun x hx => by rw [List.mem_singleton.mp hx]; exact hs
    exact spread_le (fun a e ha he => lends_le t p a e ha he) _ _ _ h1 h1 e h
theorem lrow_le (t : List Nat) : ∀ (ps : List Pat) (xs : List Nat), (∀ e ∈ xs, e ≤ t.length) → ∀ e ∈ lrow t ps xs, e ≤ t.length
  | [], xs, h => by
    rw [lrow_nil]
    exact h
  | p :: ps, xs, h => by
    rw [lrow_cons]
    exact lrow_le t ps _ (onward_le (fun a e ha he => lends_le t p a e ha he) h)
theorem lalt_le (t : List Nat) : ∀ (ps : List Pat) (s : Nat) (told : List Nat), s ≤ t.length → (∀ e ∈ told, e ≤ t.length) → ∀ e ∈ lalt t ps s told, e ≤ t.length
  | [], s, told, _, h => by
    rw [lalt_nil]
    exact h
  | p :: ps, s, told, hs, h => by
    rw [lalt_cons]
    refine lalt_le t ps s _ hs fun e he => ?_
    rcases List.mem_append.mp he with q | q
    · exact h e q
    · exact lends_le t p s e hs (mem_fresh.mp q).1
end
theorem toList_nodup (o : Option Nat) : o.toList.Nodup := by
  cases o with
  | none => exact List.nodup_nil
  | some e => exact List.pairwise_singleton _ _
mutual
theorem lends_nodup (t : List Nat) : ∀ (p : Pat) (s : Nat), (lends t p s).Nodup
  | .leaf l, s => by
    rw [lends_leaf]
    exact toList_nodup _
  | .row ps, s => by
    rw [lends_row]
    exact lrow_nodup t ps [s] (List.pairwise_singleton _ _)
  | .alt ps, s => by
    rw [lends_alt]
    exact lalt_nodup t ps s [] List.nodup_nil
  | .rep p l m, s => by
    rw [lends_rep]
    exact spread_nodup _ _ _ (iter_nodup _ _ (List.pairwise_singleton _ _))
theorem lrow_nodup (t : List Nat) : ∀ (ps : List Pat) (xs : List Nat), xs.Nodup → (lrow t ps xs).Nodup
  | [], xs, h => by
    rw [lrow_nil]
    exact h
  | p :: ps, xs, _ => by
    rw [lrow_cons]
    exact lrow_nodup t ps _ (onward_nodup _ _)
theorem lalt_nodup (t : List Nat) : ∀ (ps : List Pat) (s : Nat) (told : List Nat), told.Nodup → (lalt t ps s told).Nodup
  | [], s, told, h => by
    rw [lalt_nil]
    exact h
  | p :: ps, s, told, h => by
    rw [lalt_cons]
    exact lalt_nodup t ps s _ (told_nodup h (lends_nodup t p s))
end
end Pd
set_option Elab.async false
set_option linter.all false
set_option maxRecDepth 100000
set_option maxHeartbeats 1000000
/-! PdM8: shapes of data; steps of a row. -/
namespace Pd
open PySem
theorem layAll_iff : ∀ {ds : List PyData}, PyData.canLayAll0 ds = true ↔ ∀ d ∈ ds, d.canLay0 = true
  | [] => ⟨fun _ d h => (nomatch h), fun _ => rfl⟩
  | d :: ds => by
    rw [PyData.canLayAll0, Bool.and_eq_true, layAll_iff]
    constructor
    · rintro ⟨h1, h2⟩ e he
      rcases List.mem_cons.mp he with rfl | he
      · exact h1
      · exact h2 e he
    · exact fun h => ⟨h d List.mem_cons_self, fun e he => h e (List.mem_cons_of_mem _ he)⟩
theorem depthAll_iff {n : Nat} : ∀ {ds : List PyData}, PyData.depthAll ds ≤ n ↔ ∀ d ∈ ds, d.depth ≤ n
  | [] => ⟨fun _ d h => (nomatch h), fun _ => by rw [PyData.depthAll]; exact Nat.zero_le _⟩
  | d :: ds => by
    rw [PyData.depthAll, Nat.max_le, depthAll_iff]
    constructor
    · rintro ⟨h1, h2⟩ e he
      rcases List.mem_cons.mp he with rfl | he
      · exact h1
      · exact h2 e he
    · exact fun h => ⟨h d List.mem_cons_self, fun e he => h e (List.mem_cons_of_mem _ he)⟩
theorem wids_iff {w : Nat} : ∀ {ds : List PyData}, Wids w ds ↔ ∀ d ∈ ds, Wid w d
  | [] => ⟨fun _ d h => (nomatch h), fun _ => by rw [Wids]; exact True.intro⟩
  | d :: ds => by
    rw [Wids, wids_iff]
    constructor
    · rintro ⟨h1, h2⟩ e he
      rcases List.mem_cons.mp he with rfl | he
      · exact h1
      · exact h2 e he
    · exact fun h => ⟨h d List.mem_cons_self, fun e he => h e (List.mem_cons_of_mem _ he)⟩
theorem wid_tup {w : Nat} {ds : List PyData} : Wid w (.tuple ds) ↔ ds.length ≤ w ∧ ∀ d ∈ ds, Wid w d := by rw [Wid, wids_iff]
theorem wid_lst {w : Nat} {ds : List PyData} : Wid w (.list ds) ↔ ds.length ≤ w ∧ ∀ d ∈ ds, Wid w d := by rw [Wid, wids_iff]
theorem depth_tup {n : Nat} {ds : List PyData} : (PyData.tuple ds).depth ≤ n + 1 ↔ ∀ d ∈ ds, d.depth ≤ n := by rw [PyData.depth, Nat.succ_le_succ_iff, depthAll_iff]
theorem lay_tup {ds : List PyData} : (PyData.tuple ds).canLay0 = true ↔ ∀ d ∈ ds, d.canLay0 = true := by rw [PyData.canLay0, layAll_iff]
theorem Shp.mono {n m : Nat} {d : PyData} (h : Shp n d) (g : n ≤ m) : Shp m d := ⟨h.1, Nat.le_trans h.2.1 g, h.2.2⟩
theorem Shp.mem {n : Nat} {ds : List PyData} {d : PyData} (h : Shp n (.tuple ds)) (hd : d ∈ ds) : Shp n d := by
  obtain ⟨h1, h2, h3⟩ := h
  refine ⟨lay_tup.mp h1 d hd, ?_, (wid_tup.mp h3).2 d hd⟩
  cases n with
  | zero =>
    rw [PyData.depth] at h2
    exact absurd h2 (Nat.not_succ_le_zero _)
  | succ n => exact Nat.le_succ_of_le (depth_tup.mp h2 d hd)
theorem Shp.len {n : Nat} {ds : List PyData} (h : Shp n (.tuple ds)) : ds.length ≤ 2000 := (wid_tup.mp h.2.2).1
theorem Shp.tup {n : Nat} {ds : List PyData} (h : ∀ d ∈ ds, Shp n d) (l : ds.length ≤ 2000) : Shp (n + 1) (.tuple ds) :=
  ⟨lay_tup.mpr fun d hd => (h d hd).1, depth_tup.mpr fun d hd => (h d hd).2.1, wid_tup.mpr ⟨l, fun d hd => (h d hd).2.2⟩⟩
theorem Shp.lst {n : Nat} {ds : List PyData} (h : ∀ d ∈ ds, Shp n d) (l : ds.length ≤ 2000) : Shp (n + 1) (.list ds) := by
  refine ⟨?_, ?_, wid_lst.mpr ⟨l, fun d hd => (h d hd).2.2⟩⟩
  · rw [PyData.canLay0, layAll_iff]
    exact fun d hd => (h d hd).1
  · rw [PyData.depth, Nat.succ_le_succ_iff, depthAll_iff]
    exact fun d hd => (h d hd).2.1
theorem Shp.non {n : Nat} : Shp n .none := ⟨rfl, Nat.zero_le _, by rw [Wid] <;> intros <;> first | exact True.intro | (rename_i h; cases h)⟩
theorem Shp.int {n : Nat} {i : Int} : Shp n (.int i) := ⟨rfl, Nat.zero_le _, by rw [Wid] <;> intros <;> first | exact True.intro | (rename_i h; cases h)⟩
theorem Shp.bool {n : Nat} {b : Bool} : Shp n (.bool b) := ⟨rfl, Nat.zero_le _, by rw [Wid] <;> intros <;> first | exact True.intro | (rename_i h; cases h)⟩
theorem Shp.str {n : Nat} {x : Str} (h : PyData.strOk x = true) : Shp n (.str x) := ⟨h, Nat.zero_le _, by rw [Wid] <;> intros <;> first | exact True.intro | (rename_i h; cases h)⟩
theorem Shp.shaped {d : PyData} (h : Shp 64 d) : SeqAt.shaped d = true := by
  unfold SeqAt.shaped
  rw [h.1, decide_eq_true h.2.1]
  rfl
theorem eqv_tup_nil : ∀ ds : List PyData, PyData.eqv (.tuple ds) (.tuple []) = decide (ds = [])
  | [] => by
    rw [PyData.eqv]
    rw [PyData.eqvAll]
    rfl
  | d :: ds => by
    rw [PyData.eqv]
    rw [PyData.eqvAll]
    rfl
/-- the last step is the end -/
theorem rowSteps_last {t : List Nat} : ∀ (ps : List Pat) (s : Nat) (ds : List PyData) (es : List Nat), rowSteps t ps s ds = some es → ∃ e, (s :: es)[es.length]? = some e ∧ rowWalk t ps s ds = some e
  | [], s, [], es, h => by
    rw [rowSteps] at h
    cases h
    exact ⟨s, rfl, rowWalk_done⟩
  | [], s, d :: ds, es, h => by
    rw [rowSteps] at h
    · cases h
    all_goals (intros; contradiction)
  | p :: ps, s, [], es, h => by
    rw [rowSteps] at h
    · cases h
    all_goals (intros; contradiction)
  | p :: ps, s, d :: ds, es, h => by
    rw [rowSteps] at h
    rw [rowWalk_cons]
    cases q : walk t p s d with
    | none => rw [q] at h; cases h
    | some m =>
      rw [q] at h
      cases q2 : rowSteps t ps m ds with
      | none =>
        have h2 : Option.map (m :: ·) (rowSteps t ps m ds) = some es := h
        rw [q2] at h2
        cases h2
      | some us =>
        have h2 : Option.map (m :: ·) (rowSteps t ps m ds) = some es := h
        rw [q2] at h2
        obtain rfl := (Option.some.inj h2).symm
        obtain ⟨e, e1, e2⟩ := rowSteps_last ps m ds us q2
        exact ⟨e, by rw [List.length_cons, List.getElem?_cons_succ]; exact e1, e2⟩
end Pd
set_option Elab.async false
set_option linter.all false
set_option maxRecDepth 100000
set_option maxHeartbeats 1000000
/-! PdM9: values that walk: their shapes; leanness. -/
namespace Pd
open PySem
section
variable {t : List Nat}
theorem walk_row_inv {ps : List Pat} {s e : Nat} {d : PyData} (h : walk t (.row ps) s d = some e) : ∃ es, d = .tuple [.str "row", .tuple es] ∧ rowWalk t ps s es = some e := by
  rw [walk_row] at h
  split at h
  · rename_i w ds
    by_cases q : w = "row"
    · rw [if_pos q] at h
      exact ⟨ds, by rw [q], h⟩
    · rw [if_neg q] at h
      cases h
  · cases h
theorem walk_alt_inv {ps : List Pat} {s e : Nat} {d : PyData} (h : walk t (.alt ps) s d = some e) : ∃ (i : Nat) (x : PyData) (p : Pat), d = .tuple [.str "or", .int (i : Int), x] ∧ ps[i]? = some p ∧ walk t p s x = some e := by
  rw [walk_alt] at h
  split at h
  · rename_i w k x
    by_cases q : w = "or" ∧ 0 ≤ k
    · rw [if_pos q] at h
      obtain ⟨rfl, q2⟩ := q
      obtain ⟨i, rfl⟩ := Int.eq_ofNat_of_zero_le q2
      rw [Int.toNat_natCast] at h
      by_cases l : i < ps.length
      · have e1 : ps[i]? = some ps[i] := List.getElem?_eq_getElem l
        rw [altWalk_at ps i _ e1] at h
        exact ⟨i, x, _, rfl, e1, h⟩
      · rw [altWalk_out ps i (by omega)] at h
        cases h
    · rw [if_neg q] at h
      cases h
  · cases h
theorem walk_rep_inv {p : Pat} {l : Nat} {m : Option Nat} {s e : Nat} {d : PyData} (h : walk t (.rep p l m) s d = some e) : ∃ es, d = .tuple [.str "repeat", .tuple es] ∧ l ≤ es.length ∧ (∀ x, m = some x → es.length ≤ x) ∧ repWalk (walk t p) s es = some e := by
  rw [walk_rep] at h
  split at h
  · rename_i w ds
    by_cases q : w = "repeat" ∧ l ≤ ds.length ∧ (∀ x, m = some x → ds.length ≤ x)
    · rw [if_pos q] at h
      exact ⟨ds, by rw [q.1], q.2.1, q.2.2, h⟩
    · rw [if_neg q] at h
      cases h
  · cases h
theorem altLean_at {s : Nat} {x : PyData} : ∀ (ps : List Pat) (k : Nat) (p : Pat), ps[k]? = some p → altLean t ps k s x = lean t p s x
  | [], k, p, h => by simp at h
  | q :: ps, 0, p, h => by
    have e : q = p := Option.some.inj h
    rw [altLean_zero, e]
  | q :: ps, k + 1, p, h => by
    rw [altLean_succ]
    exact altLean_at ps k p (by simpa using h)
theorem rowSteps_c {p : Pat} {ps : List Pat} {s : Nat} {d : PyData} {ds : List PyData} : rowSteps t (p :: ps) s (d :: ds) = match walk t p s d with
    | some m => (rowSteps t ps m ds).map (m :: ·)
    | none => none := by
  rw [rowSteps] <;> (cases walk t p s d <;> rfl)
/-- a row that walks has steps -/
theorem rowSteps_of : ∀ (ps : List Pat) (s : Nat) (ds : List PyData) (e : Nat), rowWalk t ps s ds = some e → ∃ us, rowSteps t ps s ds = some us
  | [], s, [], e, _ => ⟨[], by rw [rowSteps]⟩
  | [], s, d :: ds, e, h => by
    rw [rowWalk_nil] at h
    cases h
  | p :: ps, s, [], e, h => by
    rw [rowWalk_short] at h
    cases h
  | p :: ps, s, d :: ds, e, h => by
    rw [rowWalk_cons] at h
    rw [rowSteps_c]
    cases q : walk t p s d with
    | none => rw [q] at h; cases h
    | some m =>
      rw [q] at h
      obtain ⟨us, hu⟩ := rowSteps_of ps m ds e h
      exact ⟨m :: us, by show Option.map (m :: ·) (rowSteps t ps m ds) = _; rw [hu]; rfl⟩
theorem rowSteps_at : ∀ (ps : List Pat) (s : Nat) (ds : List PyData) (us : List Nat), rowSteps t ps s ds = some us → us.length = ps.length ∧ ds.length = ps.length ∧ ∀ (i : Nat) (p : Pat) (d : PyData), ps[i]? = some p → ds[i]? = some d → ∃ a b, (s :: us)[i]? = some a ∧ us[i]? = some b ∧ walk t p a d = some b
  | [], s, [], us, h => by
    rw [rowSteps] at h
    cases h
    exact ⟨rfl, rfl, fun i p d h => by simp at h⟩
  | [], s, d :: ds, us, h => by
    rw [rowSteps] at h
    · cases h
    all_goals (intros; contradiction)
  | p :: ps, s, [], us, h => by
    rw [rowSteps] at h
    · cases h
    all_goals (intros; contradiction)
  | p :: ps, s, d :: ds, us, h => by
    rw [rowSteps_c] at h
    cases q : walk t p s d with
    | none => rw [q] at h; cases h
    | some m =>
      rw [q] at h
      have h2 : Option.map (m :: ·) (rowSteps t ps m ds) = some us := h
      cases q2 : rowSteps t ps m ds with
      | none => rw [q2] at h2; cases h2
      | some vs =>
        rw [q2] at h2
        obtain rfl := (Option.some.inj h2).symm
        obtain ⟨g1, g2, g3⟩ := rowSteps_at ps m ds vs q2
        refine ⟨congrArg Nat.succ g1, congrArg Nat.succ g2, fun i p' d' hp hd => ?_⟩
        cases i with
        | zero =>
          obtain rfl := Option.some.inj hp
          obtain rfl := Option.some.inj hd
          exact ⟨s, m, rfl, rfl, q⟩
        | succ i => exact g3 i p' d' (by simpa using hp) (by simpa using hd)
theorem rowSteps_le : ∀ (ps : List Pat) (s : Nat) (ds : List PyData) (us : List Nat), s ≤ t.length → rowSteps t ps s ds = some us → ∀ e ∈ us, e ≤ t.length
  | [], s, [], us, hs, h => by
    rw [rowSteps] at h
    cases h
    exact fun e he => nomatch he
  | [], s, d :: ds, us, hs, h => by
    rw [rowSteps] at h
    · cases h
    all_goals (intros; contradiction)
  | p :: ps, s, [], us, hs, h => by
    rw [rowSteps] at h
    · cases h
    all_goals (intros; contradiction)
  | p :: ps, s, d :: ds, us, hs, h => by
    rw [rowSteps_c] at h
    cases q : walk t p s d with
    | none => rw [q] at h; cases h
    | some m =>
      rw [q] at h
      have h2 : Option.map (m :: ·) (rowSteps t ps m ds) = some us := h
      cases q2 : rowSteps t ps m ds with
      | none => rw [q2] at h2; cases h2
      | some vs =>
        rw [q2] at h2
        obtain rfl := (Option.some.inj h2).symm
        have hm := walk_le t p s d m hs q
        intro e he
        rcases List.mem_cons.mp he with rfl | he
        · exact hm
        · exact rowSteps_le ps m ds vs hm q2 e he
theorem lean_row_is {ps : List Pat} {s : Nat} {es : List PyData} : lean t (.row ps) s (.tuple [.str "row", .tuple es]) = rowLean t ps s es := by rw [lean_row]
theorem lean_rep_is {p : Pat} {l : Nat} {m : Option Nat} {s : Nat} {es : List PyData} : lean t (.rep p l m) s (.tuple [.str "repeat", .tuple es]) = repLean (walk t p) (lean t p) l 0 s es := by rw [lean_rep]
theorem lean_alt_is {ps : List Pat} {i : Nat} {p : Pat} {s : Nat} {x : PyData} (h : ps[i]? = some p) : lean t (.alt ps) s (.tuple [.str "or", .int (i : Int), x]) = lean t p s x := by
  rw [lean_alt]
  show altLean t ps (i : Int).toNat s x = _
  rw [Int.toNat_natCast, altLean_at ps i p h]
theorem repLean_nil {f : Nat → PyData → Option Nat} {g : Nat → PyData → Bool} {l k s : Nat} : repLean f g l k s [] = true := by rw [repLean]
theorem repLean_cons {f : Nat → PyData → Option Nat} {g : Nat → PyData → Bool} {l k s : Nat} {d : PyData} {ds : List PyData} {m : Nat} (h : f s d = some m) : repLean f g l k s (d :: ds) = ((decide (k < l) || decide (s ≠ m)) && (g s d && repLean f g l (k + 1) m ds)) := by
  rw [repLean, h]
end
end Pd
set_option Elab.async false
set_option linter.all false
set_option maxRecDepth 100000
set_option maxHeartbeats 1000000
/-! PdMa: the law's ends are the ends. -/
namespace Pd
open PySem
theorem mem_stepL {n : Nat} {f : Nat → List Nat} {emp : Bool} {xs : List Nat} {e : Nat} : e ∈ stepL n f emp xs ↔ e ≤ n ∧ ∃ a ∈ xs, e ∈ f a ∧ (emp = true ∨ a < e) := by
  unfold stepL
  rw [mem_asc, List.mem_flatMap]
  constructor
  · rintro ⟨h, a, ha, hf⟩
    rw [List.mem_filter, Bool.or_eq_true, decide_eq_true_iff] at hf
    exact ⟨h, a, ha, hf⟩
  · rintro ⟨h, a, ha, hf⟩
    exact ⟨h, a, ha, by rw [List.mem_filter, Bool.or_eq_true, decide_eq_true_iff]; exact hf⟩
section
variable {n l s : Nat} {f g : Nat → List Nat}
theorem lay_succ (j : Nat) : lay n f l s (j + 1) = stepL n f (decide (j + 1 ≤ l)) (lay n f l s j) := by rw [lay]
/-- the first copies -/
theorem iter_mem (hs : s ≤ n) (hfg : ∀ a e, a ≤ n → (e ∈ g a ↔ e ∈ f a)) (hf : ∀ a e, a ≤ n → e ∈ f a → e ≤ n) : ∀ (j : Nat), j ≤ l → ∀ e, e ∈ iter (onward g) j [s] ↔ e ∈ lay n f l s j
  | 0, _, e => by rw [lay]; rfl
  | j + 1, h, e => by
    have ih := iter_mem hs hfg hf j (by omega)
    rw [lay_succ, decide_eq_true h, mem_stepL]
    show e ∈ onward g (iter (onward g) j [s]) ↔ _
    rw [mem_onward]
    constructor
    · rintro ⟨a, ha, he⟩
      have ha2 := (ih a).mp ha
      have al := lay_le hs j a ha2
      have he2 := (hfg a e al).mp he
      exact ⟨hf a e al he2, a, ha2, he2, .inl rfl⟩
    · rintro ⟨_, a, ha, he, _⟩
      exact ⟨a, (ih a).mpr ha, (hfg a e (lay_le hs j a ha)).mpr he⟩
/-- what is reached by up to j further copies -/
def Rch (n : Nat) (f : Nat → List Nat) (l s j e : Nat) : Prop := ∃ i, i ≤ j ∧ e ∈ lay n f l s (l + i)
theorem Rch.mono {j k e : Nat} (h : Rch n f l s j e) (g : j ≤ k) : Rch n f l s k e := by
  obtain ⟨i, h1, h2⟩ := h
  exact ⟨i, by omega, h2⟩
theorem lay_far (j e : Nat) : e ∈ lay n f l s (l + (j + 1)) ↔ e ≤ n ∧ ∃ a ∈ lay n f l s (l + j), e ∈ f a ∧ a < e := by
  rw [← Nat.add_assoc, lay_succ, decide_eq_false (by omega), mem_stepL]
  constructor
  · rintro ⟨h, a, ha, he, h2⟩
    rcases h2 with h2 | h2
    · cases h2
    · exact ⟨h, a, ha, he, h2⟩
  · rintro ⟨h, a, ha, he, h2⟩
    exact ⟨h, a, ha, he, .inr h2⟩
theorem Rch.step (hs : s ≤ n) (hf : ∀ a e, a ≤ n → e ∈ f a → a ≤ e ∧ e ≤ n) {j a e : Nat} (h : Rch n f l s j a) (he : e ∈ f a) : Rch n f l s (j + 1) e := by
  obtain ⟨i, h1, h2⟩ := h
  have hb := hf a e (lay_le hs _ a h2) he
  by_cases q : a < e
  · exact ⟨i + 1, by omega, (lay_far i e).mpr ⟨hb.2, a, h2, he, q⟩⟩
  · obtain rfl : a = e := by omega
    exact ⟨i, by omega, h2⟩
theorem Rch.split {j e : Nat} (h : Rch n f l s (j + 1) e) : Rch n f l s j e ∨ ∃ a, a ∈ lay n f l s (l + j) ∧ e ∈ f a ∧ a < e := by
  obtain ⟨i, h1, h2⟩ := h
  by_cases q : i ≤ j
  · exact .inl ⟨i, q, h2⟩
  · obtain rfl : i = j + 1 := by omega
    obtain ⟨_, a, ha, he, hl⟩ := (lay_far j e).mp h2
    exact .inr ⟨a, ha, he, hl⟩
/-- nothing new once, nothing new for ever -/
theorem Rch.stop (hs : s ≤ n) (hf : ∀ a e, a ≤ n → e ∈ f a → a ≤ e ∧ e ≤ n) {i : Nat} (h : ∀ e, Rch n f l s (i + 1) e → Rch n f l s i e) : ∀ (k e : Nat), Rch n f l s (i + k) e → Rch n f l s i e
  | 0, e, q => q
  | k + 1, e, q => by
    rcases Rch.split (j := i + k) q with q | ⟨a, ha, he, _⟩
    · exact Rch.stop hs hf h k e q
    · have h1 := Rch.stop hs hf h k a ⟨i + k, Nat.le_refl _, ha⟩
      exact h e (h1.step hs hf he)
theorem spread_mem (hs : s ≤ n) (hfg : ∀ a e, a ≤ n → (e ∈ g a ↔ e ∈ f a)) (hf : ∀ a e, a ≤ n → e ∈ f a → a ≤ e ∧ e ≤ n) : ∀ (k i : Nat) (told fr : List Nat), (∀ e, e ∈ told ↔ Rch n f l s i e) → (∀ e, e ∈ fr ↔ (Rch n f l s i e ∧ ∀ j, i = j + 1 → ¬ Rch n f l s j e)) →
    ∀ e, e ∈ spread g k told fr ↔ Rch n f l s (i + k) e
  | 0, i, told, fr, ht, _, e => by
    rw [spread_zero]
    exact ht e
  | k + 1, i, told, fr, ht, hr, e => by
    have le : ∀ {j a}, Rch n f l s j a → a ≤ n := fun h => by
      obtain ⟨i, _, h2⟩ := h
      exact lay_le hs _ _ h2
    have hnew : ∀ e, e ∈ fresh told (onward g fr) ↔ (Rch n f l s (i + 1) e ∧ ¬ Rch n f l s i e) := fun e => by
      rw [mem_fresh, mem_onward, ht]
      constructor
      · rintro ⟨⟨a, ha, he⟩, h2⟩
        have h1 := ((hr a).mp ha).1
        exact ⟨h1.step hs hf ((hfg a e (le h1)).mp he), h2⟩
      · rintro ⟨h1, h2⟩
        refine ⟨?_, h2⟩
        rcases Rch.split h1 with h1 | ⟨a, ha, he, _⟩
        · exact absurd h1 h2
        · have ra : Rch n f l s i a := ⟨i, Nat.le_refl _, ha⟩
          refine ⟨a, (hr a).mpr ⟨ra, fun j ej h3 => h2 ?_⟩, (hfg a e (le ra)).mpr he⟩
          rw [ej]
          exact h3.step hs hf he
    rw [spread_succ]
    by_cases q : fresh told (onward g fr) = []
    · rw [if_pos q, ht]
      constructor
      · exact fun h => h.mono (by omega)
      · refine Rch.stop hs hf (fun e h => Classical.byContradiction fun h2 => ?_) (k + 1) e
        have := (hnew e).mpr ⟨h, h2⟩
        rw [q] at this
        cases this
    · rw [if_neg q, spread_mem hs hfg hf k (i + 1) _ _ (fun e => ?_) (fun e => ?_) e, show i + 1 + k = i + (k + 1) by omega]
      · rw [List.mem_append, ht, hnew]
        constructor
        · rintro (h | h)
          · exact h.mono (by omega)
          · exact h.1
        · intro h
          by_cases h2 : Rch n f l s i e
          · exact .inl h2
          · exact .inr ⟨h, h2⟩
      · rw [hnew]
        constructor
        · rintro ⟨h1, h2⟩
          refine ⟨h1, fun j ej => ?_⟩
          obtain rfl : i = j := by omega
          exact h2
        · rintro ⟨h1, h2⟩
          exact ⟨h1, h2 i rfl⟩
theorem copied_mem {m : Option Nat} (hs : s ≤ n) (hfg : ∀ a e, a ≤ n → (e ∈ g a ↔ e ∈ f a)) (hf : ∀ a e, a ≤ n → e ∈ f a → a ≤ e ∧ e ≤ n) (hm : ∀ x, m = some x → l ≤ x) (e : Nat) : e ∈ copied n g l m s ↔ e ∈ repEnds n f l m s := by
  unfold copied repEnds
  have h0 : ∀ e, e ∈ iter (onward g) l [s] ↔ Rch n f l s 0 e := fun e => by
    rw [iter_mem hs hfg (fun a e ha he => (hf a e ha he).2) l (Nat.le_refl _)]
    constructor
    · exact fun h => ⟨0, Nat.le_refl _, h⟩
    · rintro ⟨i, h1, h2⟩
      obtain rfl : i = 0 := by omega
      exact h2
  rw [spread_mem hs hfg hf (turnsOf n l m) 0 _ _ h0 (fun e => by rw [h0]; exact ⟨fun h => ⟨h, fun j ej => by omega⟩, fun h => h.1⟩) e, mem_asc, List.mem_flatMap]
  have cp : cap n l m = l + turnsOf n l m := by
    cases m with
    | none => rfl
    | some x =>
      have := hm x rfl
      show x = l + (x - l)
      omega
  constructor
  · rintro ⟨i, h1, h2⟩
    refine ⟨lay_le hs _ e h2, l + i, ?_, h2⟩
    rw [List.mem_range'_1, cp]
    omega
  · rintro ⟨_, j, h1, h2⟩
    rw [List.mem_range'_1, cp] at h1
    refine ⟨j - l, by omega, ?_⟩
    rw [show l + (j - l) = j by omega]
    exact h2
end
theorem lay_from {n l s : Nat} {f : Nat → List Nat} (hs : s ≤ n) (hf : ∀ a e, a ≤ n → e ∈ f a → a ≤ e) : ∀ (j e : Nat), e ∈ lay n f l s j → s ≤ e
  | 0, e, h => by
    rw [lay, List.mem_singleton] at h
    omega
  | j + 1, e, h => by
    rw [lay_succ, mem_stepL] at h
    obtain ⟨_, a, ha, he, _⟩ := h
    have h1 := lay_from hs hf j a ha
    have h2 := hf a e (lay_le hs j a ha) he
    omega
mutual
theorem ends_ge (t : List Nat) : ∀ (p : Pat) (s e : Nat), s ≤ t.length → e ∈ ends t p s → s ≤ e
  | .leaf l, s, e, hs, h => by
    rw [ends_leaf, Option.mem_toList] at h
    exact (leafEnd_le hs h).1
  | .row ps, s, e, hs, h => by
    rw [ends_row] at h
    obtain ⟨x, hx, hl⟩ := rowEnds_ge t ps [s] e (fun x hx => by rw [List.mem_singleton.mp hx]; exact hs) h
    rw [List.mem_singleton.mp hx] at hl
    exact hl
  | .alt ps, s, e, hs, h => by
    rw [ends_alt, mem_asc] at h
    exact altEnds_ge t ps s e hs h.2
  | .rep p l m, s, e, hs, h => by
    rw [ends_rep] at h
    unfold repEnds at h
    rw [mem_asc, List.mem_flatMap] at h
    obtain ⟨_, j, _, hj⟩ := h
    exact lay_from hs (fun a e ha he => ends_ge t p a e ha he) j e hj
theorem rowEnds_ge (t : List Nat) : ∀ (ps : List Pat) (xs : List Nat) (e : Nat), (∀ x ∈ xs, x ≤ t.length) → e ∈ rowEnds t ps xs → ∃ x ∈ xs, x ≤ e
  | [], xs, e, _, h => by
    rw [rowEnds_nil] at h
    exact ⟨e, h, Nat.le_refl _⟩
  | p :: ps, xs, e, hx, h => by
    rw [rowEnds_cons] at h
    obtain ⟨y, hy, hl⟩ := rowEnds_ge t ps _ e (fun y hy => asc_le hy) h
    obtain ⟨a, ha, hya⟩ := List.mem_flatMap.mp (mem_asc.mp hy).2
    have := ends_ge t p a y (hx a ha) hya
    exact ⟨a, ha, by omega⟩
theorem altEnds_ge (t : List Nat) : ∀ (ps : List Pat) (s e : Nat), s ≤ t.length → e ∈ altEnds t ps s → s ≤ e
  | [], s, e, _, h => by
    rw [altEnds_nil] at h
    cases h
  | p :: ps, s, e, hs, h => by
    rw [altEnds_cons] at h
    rcases List.mem_append.mp h with h | h
    · exact ends_ge t p s e hs h
    · exact altEnds_ge t ps s e hs h
end
mutual
/-- the law's ends are the ends -/
theorem mem_lends (t : List Nat) : ∀ (p : Pat), Wf p → ∀ (s e : Nat), s ≤ t.length → (e ∈ lends t p s ↔ e ∈ ends t p s)
  | .leaf l, _, s, e, hs => by rw [lends_leaf, ends_leaf]
  | .row ps, w, s, e, hs => by
    rw [Wf] at w
    rw [lends_row, ends_row]
    exact mem_lrow t ps w.1 [s] [s] (fun x hx => by rw [List.mem_singleton.mp hx]; exact hs) (fun _ => Iff.rfl) e
  | .alt ps, w, s, e, hs => by
    rw [Wf] at w
    rw [lends_alt, ends_alt, mem_asc, mem_lalt t ps w.1 s [] hs e]
    constructor
    · rintro (h | h)
      · cases h
      · refine ⟨?_, h⟩
        have h2 : e ∈ asc t.length (altEnds t ps s) ∨ True := .inr True.intro
        obtain ⟨i, p, _, he⟩ := mem_altEnds h
        exact ends_le t p s e hs he
    · exact fun h => .inr h.2
  | .rep p l m, w, s, e, hs => by
    rw [Wf] at w
    rw [lends_rep, ends_rep]
    exact copied_mem hs (fun a e ha => mem_lends t p w.1 a e ha) (fun a e ha he => ⟨ends_ge t p a e ha he, ends_le t p a e ha he⟩) (fun x hx => (w.2.2 x hx).1) e
theorem mem_lrow (t : List Nat) : ∀ (ps : List Pat), Wfs ps → ∀ (xs ys : List Nat), (∀ x ∈ xs, x ≤ t.length) → (∀ e, e ∈ xs ↔ e ∈ ys) → ∀ e, e ∈ lrow t ps xs ↔ e ∈ rowEnds t ps ys
  | [], _, xs, ys, _, h, e => by
    rw [lrow_nil, rowEnds_nil]
    exact h e
  | p :: ps, w, xs, ys, hx, h, e => by
    rw [Wfs] at w
    rw [lrow_cons, rowEnds_cons]
    refine mem_lrow t ps w.2 _ _ (onward_le (fun a e ha he => lends_le t p a e ha he) hx) (fun e => ?_) e
    rw [mem_onward, mem_asc, List.mem_flatMap]
    constructor
    · rintro ⟨a, ha, he⟩
      have he2 := (mem_lends t p w.1 a e (hx a ha)).mp he
      exact ⟨ends_le t p a e (hx a ha) he2, a, (h a).mp ha, he2⟩
    · rintro ⟨_, a, ha, he⟩
      have ha2 := (h a).mpr ha
      exact ⟨a, ha2, (mem_lends t p w.1 a e (hx a ha2)).mpr he⟩
theorem mem_lalt (t : List Nat) : ∀ (ps : List Pat), Wfs ps → ∀ (s : Nat) (told : List Nat), s ≤ t.length → ∀ e, e ∈ lalt t ps s told ↔ (e ∈ told ∨ e ∈ altEnds t ps s)
  | [], _, s, told, _, e => by
    rw [lalt_nil, altEnds_nil]
    exact ⟨.inl, fun h => h.elim id fun h => nomatch h⟩
  | p :: ps, w, s, told, hs, e => by
    rw [Wfs] at w
    rw [lalt_cons, altEnds_cons, mem_lalt t ps w.2 s _ hs e, List.mem_append, mem_fresh, List.mem_append, mem_lends t p w.1 s e hs]
    constructor
    · rintro ((h | h) | h)
      · exact .inl h
      · exact .inr (.inl h.1)
      · exact .inr (.inr h)
    · rintro (h | h | h)
      · exact .inl (.inl h)
      · by_cases q : e ∈ told
        · exact .inl (.inl q)
        · exact .inl (.inr ⟨h, q⟩)
      · exact .inr h
end
end Pd
set_option Elab.async false
set_option linter.all false
set_option maxRecDepth 100000
set_option maxHeartbeats 1000000
/-! PdMb: a derivation walks to its end, and leanly; its size. -/
namespace Pd
open PySem
theorem repWalk_snoc {f : Nat → PyData → Option Nat} {d : PyData} : ∀ (ds : List PyData) (s m : Nat), repWalk f s ds = some m → repWalk f s (ds ++ [d]) = f m d
  | [], s, m, h => by
    rw [repWalk] at h
    cases h
    show repWalk f s [d] = _
    rw [repWalk]
    cases f s d with
    | none => rfl
    | some e =>
      show repWalk f e [] = _
      rw [repWalk]
  | c :: ds, s, m, h => by
    rw [repWalk] at h
    rw [List.cons_append, repWalk]
    cases q : f s c with
    | none => rw [q] at h; cases h
    | some e =>
      rw [q] at h
      exact repWalk_snoc ds e m h
theorem repLean_snoc {f : Nat → PyData → Option Nat} {g : Nat → PyData → Bool} {l : Nat} {d : PyData} {e : Nat} : ∀ (ds : List PyData) (k s m : Nat), repWalk f s ds = some m → f m d = some e → repLean f g l k s (ds ++ [d]) = (repLean f g l k s ds && ((decide (k + ds.length < l) || decide (m ≠ e)) && g m d))
  | [], k, s, m, h, he => by
    rw [repWalk] at h
    cases h
    show repLean f g l k s [d] = _
    rw [repLean_cons he, repLean_nil, repLean_nil, Bool.and_true, Bool.true_and]
    rfl
  | c :: ds, k, s, m, h, he => by
    rw [repWalk] at h
    cases q : f s c with
    | none => rw [q] at h; cases h
    | some y =>
      rw [q] at h
      rw [List.cons_append, repLean_cons q, repLean_cons q, repLean_snoc ds (k + 1) y m h he, List.length_cons, show k + 1 + ds.length = k + (ds.length + 1) by omega, Bool.and_assoc, Bool.and_assoc]
theorem copyDer_succ {n : Nat} {f : Nat → List Nat} {d : Nat → Nat → PyData} {l s k e : Nat} : copyDer n f d l s (k + 1) e = copyDer n f d l s k (begOf n f l s k e) ++ [d (begOf n f l s k e) e] := by rw [copyDer]
theorem copyDer_len {n : Nat} {f : Nat → List Nat} {d : Nat → Nat → PyData} {l s : Nat} : ∀ (k e : Nat), (copyDer n f d l s k e).length = k
  | 0, e => by rw [copyDer]; rfl
  | k + 1, e => by rw [copyDer_succ, List.length_append, copyDer_len k]; rfl
theorem copyDer_walk {n l s : Nat} {f : Nat → List Nat} {d : Nat → Nat → PyData} {wf : Nat → PyData → Option Nat} {lf : Nat → PyData → Bool} (hs : s ≤ n) (hd : ∀ a e, a ≤ n → e ∈ f a → wf a (d a e) = some e ∧ lf a (d a e) = true) :
    ∀ (k e : Nat), e ∈ lay n f l s k → repWalk wf s (copyDer n f d l s k e) = some e ∧ repLean wf lf l 0 s (copyDer n f d l s k e) = true
  | 0, e, h => by
    rw [lay, List.mem_singleton] at h
    rw [copyDer, repWalk, repLean_nil, h]
    exact ⟨rfl, rfl⟩
  | k + 1, e, h => by
    obtain ⟨b1, b2, b3, _⟩ := beg_spec h
    obtain ⟨i1, i2⟩ := copyDer_walk hs hd k _ b1
    obtain ⟨d1, d2⟩ := hd _ e (lay_le hs k _ b1) b2
    rw [copyDer_succ]
    refine ⟨by rw [repWalk_snoc _ _ _ i1, d1], ?_⟩
    rw [repLean_snoc _ 0 s _ i1 d1, i2, d2, copyDer_len, Nat.zero_add, Bool.true_and, Bool.and_true]
    rcases b3 with b3 | b3
    · rw [decide_eq_true b3]; rfl
    · rw [decide_eq_true (show begOf n f l s k e ≠ e by omega), Bool.or_true]
theorem altDer_of {t : List Nat} {s e : Nat} : ∀ (ps : List Pat) (k : Nat), e ∈ altEnds t ps s → ∃ (i : Nat) (p : Pat), ps[i]? = some p ∧ e ∈ ends t p s ∧ altDer t ps k s e = .tuple [.str "or", .int ((k + i : Nat) : Int), der t p s e]
  | [], k, h => by
    rw [altEnds_nil] at h
    cases h
  | p :: ps, k, h => by
    rw [altEnds_cons] at h
    rw [altDer_cons]
    by_cases q : e ∈ ends t p s
    · rw [if_pos q]
      exact ⟨0, p, rfl, q, rfl⟩
    · rw [if_neg q]
      obtain ⟨i, p', h1, h2, h3⟩ := altDer_of ps (k + 1) ((List.mem_append.mp h).resolve_left q)
      exact ⟨i + 1, p', by simpa using h1, h2, by rw [h3, show k + 1 + i = k + (i + 1) by omega]⟩
theorem rowDer_nil {t : List Nat} {xs : List Nat} {e : Nat} : rowDer t [] xs e = ([], e) := by rw [rowDer]
theorem rowDer_two {t : List Nat} {p : Pat} {ps : List Pat} {xs : List Nat} {e : Nat} : (rowDer t (p :: ps) xs e).2 = firstOf xs (fun b => decide ((rowDer t ps (asc t.length (xs.flatMap (ends t p))) e).2 ∈ ends t p b)) ∧
    (rowDer t (p :: ps) xs e).1 = der t p (firstOf xs (fun b => decide ((rowDer t ps (asc t.length (xs.flatMap (ends t p))) e).2 ∈ ends t p b))) (rowDer t ps (asc t.length (xs.flatMap (ends t p))) e).2 :: (rowDer t ps (asc t.length (xs.flatMap (ends t p))) e).1 := by
  rw [rowDer_cons]
  exact ⟨rfl, rfl⟩
mutual
/-- a derivation walks to its end, no copy beyond the least ones is empty -/
theorem der_walk (t : List Nat) : ∀ (p : Pat) (s e : Nat), Wf p → s ≤ t.length → e ∈ ends t p s → walk t p s (der t p s e) = some e ∧ lean t p s (der t p s e) = true
  | .leaf l, s, e, _, hs, h => by
    rw [ends_leaf, Option.mem_toList] at h
    rw [der_leaf, lean_leaf]
    refine ⟨?_, rfl⟩
    unfold one
    rw [walk_leaf_one]
    exact h
  | .row ps, s, e, w, hs, h => by
    rw [Wf] at w
    rw [ends_row] at h
    obtain ⟨h1, h2, h3⟩ := rowDer_walk t ps [s] e w.1 (fun x hx => by rw [List.mem_singleton.mp hx]; exact hs) h
    rw [List.mem_singleton] at h1
    rw [h1] at h2 h3
    rw [der_row, walk_row_is, lean_row_is]
    exact ⟨h2, h3⟩
  | .alt ps, s, e, w, hs, h => by
    rw [Wf] at w
    rw [ends_alt, mem_asc] at h
    obtain ⟨i, p, hp, he, hd⟩ := altDer_of ps 0 h.2
    rw [Nat.zero_add] at hd
    rw [der_alt, hd]
    obtain ⟨h1, h2⟩ := ders_walk t ps w.1 p (List.mem_of_getElem? hp) s e hs he
    rw [walk_alt_is, if_pos (Int.natCast_nonneg i), Int.toNat_natCast, altWalk_at ps i p hp, lean_alt_is hp]
    exact ⟨h1, h2⟩
  | .rep p l m, s, e, w, hs, h => by
    rw [Wf] at w
    rw [ends_rep] at h
    obtain ⟨c1, c2, c3, _⟩ := copies_spec h
    obtain ⟨h1, h2⟩ := copyDer_walk (d := der t p) (wf := walk t p) (lf := lean t p) hs (fun a e ha he => der_walk t p a e w.1 ha he) _ e c3
    rw [der_rep, walk_rep_is, lean_rep_is, rowWalk_same, copyDer_len]
    rw [if_pos ⟨c1, fun x hx => by rw [hx] at c2 ⊢; exact c2⟩]
    exact ⟨h1, h2⟩
theorem ders_walk (t : List Nat) : ∀ (ps : List Pat), Wfs ps → ∀ p ∈ ps, ∀ (s e : Nat), s ≤ t.length → e ∈ ends t p s → walk t p s (der t p s e) = some e ∧ lean t p s (der t p s e) = true
  | [], _, p, hp, _, _, _, _ => nomatch hp
  | q :: ps, w, p, hp, s, e, hs, h => by
    rw [Wfs] at w
    by_cases g : p ∈ ps
    · exact ders_walk t ps w.2 p g s e hs h
    · have e0 : p = q := (List.mem_cons.mp hp).resolve_right g
      rw [e0] at h ⊢
      exact der_walk t q s e w.1 hs h
theorem rowDer_walk (t : List Nat) : ∀ (ps : List Pat) (xs : List Nat) (e : Nat), Wfs ps → (∀ x ∈ xs, x ≤ t.length) → e ∈ rowEnds t ps xs → (rowDer t ps xs e).2 ∈ xs ∧ rowWalk t ps (rowDer t ps xs e).2 (rowDer t ps xs e).1 = some e ∧ rowLean t ps (rowDer t ps xs e).2 (rowDer t ps xs e).1 = true
  | [], xs, e, _, _, h => by
    rw [rowEnds_nil] at h
    rw [rowDer_nil]
    exact ⟨h, rowWalk_done, rowLean_nil⟩
  | p :: ps, xs, e, w, hx, h => by
    rw [Wfs] at w
    rw [rowEnds_cons] at h
    obtain ⟨h1, h2, h3⟩ := rowDer_walk t ps _ e w.2 (fun y hy => asc_le hy) h
    obtain ⟨e1, e2⟩ := rowDer_two (t := t) (p := p) (ps := ps) (xs := xs) (e := e)
    rw [e2, e1]
    obtain ⟨r, hr⟩ : ∃ r, r = rowDer t ps (asc t.length (xs.flatMap (ends t p))) e := ⟨_, rfl⟩
    rw [← hr] at h1 h2 h3 ⊢
    obtain ⟨a, ha, har⟩ := List.mem_flatMap.mp (mem_asc.mp h1).2
    obtain ⟨f1, f2, _⟩ := firstOf_mem (q := fun b => decide (r.2 ∈ ends t p b)) ⟨a, ha, decide_eq_true har⟩
    obtain ⟨g1, g2⟩ := der_walk t p _ r.2 w.1 (hx _ f1) (of_decide_eq_true f2)
    refine ⟨f1, ?_, ?_⟩
    · rw [rowWalk_cons, g1]
      exact h2
    · rw [rowLean_cons, g1]
      show (lean t p _ _ && rowLean t ps r.2 r.1) = true
      rw [g2, h3]
      rfl
end
/-! ### sizes -/
theorem firstOf_le {B : Nat} {xs : List Nat} {q : Nat → Bool} (h : ∀ x ∈ xs, x ≤ B) : firstOf xs q ≤ B := by
  unfold firstOf
  cases e : xs.find? q with
  | none => exact Nat.zero_le _
  | some x => exact h x (List.mem_of_find?_eq_some e)
theorem copyDer_all {P : PyData → Prop} {n : Nat} {f : Nat → List Nat} {d : Nat → Nat → PyData} {l s : Nat} (h : ∀ a b, P (d a b)) : ∀ (k e : Nat), ∀ x ∈ copyDer n f d l s k e, P x
  | 0, e, x, hx => by
    rw [copyDer] at hx
    cases hx
  | k + 1, e, x, hx => by
    rw [copyDer_succ] at hx
    rcases List.mem_append.mp hx with hx | hx
    · exact copyDer_all h k _ x hx
    · rw [List.mem_singleton.mp hx]
      exact h _ _
theorem depth_two {n : Nat} {w : Str} {ds : List PyData} (h : ∀ d ∈ ds, d.depth ≤ n) : (PyData.tuple [.str w, .tuple ds]).depth ≤ n + 2 := by
  rw [depth_tup]
  intro d hd
  rcases List.mem_cons.mp hd with rfl | hd
  · exact Nat.zero_le _
  · rw [List.mem_singleton.mp hd, depth_tup]
    exact h
theorem one_depth : one.depth ≤ 2 := by decide +kernel
mutual
theorem der_depth (t : List Nat) : ∀ (p : Pat) (s e : Nat), (der t p s e).depth ≤ 2 * dep p
  | .leaf l, s, e => by
    rw [der_leaf, dep]
    exact one_depth
  | .row ps, s, e => by
    rw [der_row, dep, Nat.mul_succ]
    exact depth_two (rowDer_depth t ps [s] e)
  | .alt ps, s, e => by
    rw [der_alt, dep, Nat.mul_succ]
    exact altDer_depth t ps 0 s e
  | .rep p l m, s, e => by
    rw [der_rep, dep, Nat.mul_succ]
    exact depth_two (copyDer_all (fun a b => der_depth t p a b) _ _)
theorem rowDer_depth (t : List Nat) : ∀ (ps : List Pat) (xs : List Nat) (e : Nat), ∀ d ∈ (rowDer t ps xs e).1, d.depth ≤ 2 * deps ps
  | [], xs, e, d, hd => by
    rw [rowDer_nil] at hd
    cases hd
  | p :: ps, xs, e, d, hd => by
    rw [(rowDer_two (t := t) (p := p) (ps := ps) (xs := xs) (e := e)).2] at hd
    rw [deps]
    have m1 := Nat.le_max_left (dep p) (deps ps)
    have m2 := Nat.le_max_right (dep p) (deps ps)
    rcases List.mem_cons.mp hd with rfl | hd
    · have := der_depth t p (firstOf xs (fun b => decide ((rowDer t ps (asc t.length (xs.flatMap (ends t p))) e).2 ∈ ends t p b))) (rowDer t ps (asc t.length (xs.flatMap (ends t p))) e).2
      omega
    · have := rowDer_depth t ps _ e d hd
      omega
theorem altDer_depth (t : List Nat) : ∀ (ps : List Pat) (k s e : Nat), (altDer t ps k s e).depth ≤ 2 * deps ps + 2
  | [], k, s, e => by
    rw [altDer_nil]
    exact Nat.le_trans one_depth (by omega)
  | p :: ps, k, s, e => by
    rw [altDer_cons, deps]
    have m1 := Nat.le_max_left (dep p) (deps ps)
    have m2 := Nat.le_max_right (dep p) (deps ps)
    split
    · have h := der_depth t p s e
      refine Nat.le_trans (m := 2 * dep p + 1) ?_ (by omega)
      rw [depth_tup]
      intro d hd
      rcases List.mem_cons.mp hd with rfl | hd
      · exact Nat.zero_le _
      rcases List.mem_cons.mp hd with rfl | hd
      · exact Nat.zero_le _
      · rw [List.mem_singleton.mp hd]
        exact h
    · have := altDer_depth t ps (k + 1) s e
      omega
end
theorem wid_two {w : Nat} {x : Str} {ds : List PyData} (hw : 2 ≤ w) (l : ds.length ≤ w) (h : ∀ d ∈ ds, Wid w d) : Wid w (.tuple [.str x, .tuple ds]) := by
  rw [wid_tup]
  refine ⟨hw, fun d hd => ?_⟩
  rcases List.mem_cons.mp hd with rfl | hd
  · exact (Wid_str)
  · rw [List.mem_singleton.mp hd, wid_tup]
    exact ⟨l, h⟩
where
  Wid_str {w : Nat} {x : Str} : Wid w (.str x) := by rw [Wid] <;> intros <;> first | exact True.intro | contradiction
theorem wid_or {w : Nat} {x : Str} {k : Int} {d : PyData} (hw : 3 ≤ w) (h : Wid w d) : Wid w (.tuple [.str x, .int k, d]) := by
  rw [wid_tup]
  refine ⟨hw, fun e he => ?_⟩
  rcases List.mem_cons.mp he with rfl | he
  · rw [Wid] <;> intros <;> first | exact True.intro | contradiction
  rcases List.mem_cons.mp he with rfl | he
  · rw [Wid] <;> intros <;> first | exact True.intro | contradiction
  · rw [List.mem_singleton.mp he]
    exact h
theorem one_wid {w : Nat} (hw : 1 ≤ w) : Wid w one := by
  unfold one
  rw [wid_tup]
  refine ⟨hw, fun e he => ?_⟩
  rw [List.mem_singleton.mp he]
  rw [Wid] <;> intros <;> first | exact True.intro | contradiction
theorem rowDer_len {t : List Nat} : ∀ (ps : List Pat) (xs : List Nat) (e : Nat), (rowDer t ps xs e).1.length = ps.length
  | [], xs, e => by rw [rowDer_nil]; rfl
  | p :: ps, xs, e => by rw [(rowDer_two (t := t) (p := p) (ps := ps) (xs := xs) (e := e)).2, List.length_cons, rowDer_len ps]; rfl
mutual
theorem der_wid (t : List Nat) (ht : t.length ≤ 800) : ∀ (p : Pat) (s e : Nat), Wf p → Wid 1900 (der t p s e)
  | .leaf l, s, e, _ => by
    rw [der_leaf]
    exact one_wid (by decide)
  | .row ps, s, e, w => by
    rw [Wf] at w
    rw [der_row]
    exact wid_two (by decide) (by rw [rowDer_len]; omega) (rowDer_wid t ht ps [s] e w.1)
  | .alt ps, s, e, w => by
    rw [Wf] at w
    rw [der_alt]
    exact altDer_wid t ht ps 0 s e w.1
  | .rep p l m, s, e, w => by
    rw [Wf] at w
    rw [der_rep]
    refine wid_two (by decide) ?_ (copyDer_all (fun a b => der_wid t ht p a b w.1) _ _)
    rw [copyDer_len]
    refine firstOf_le fun x hx => ?_
    rw [List.mem_range'_1] at hx
    have : cap t.length l m ≤ 1900 := by
      cases m with
      | none => show l + t.length + 1 ≤ 1900; omega
      | some y =>
        have := w.2.2 y rfl
        show y ≤ 1900
        omega
    omega
theorem rowDer_wid (t : List Nat) (ht : t.length ≤ 800) : ∀ (ps : List Pat) (xs : List Nat) (e : Nat), Wfs ps → ∀ d ∈ (rowDer t ps xs e).1, Wid 1900 d
  | [], xs, e, _, d, hd => by
    rw [rowDer_nil] at hd
    cases hd
  | p :: ps, xs, e, w, d, hd => by
    rw [Wfs] at w
    rw [(rowDer_two (t := t) (p := p) (ps := ps) (xs := xs) (e := e)).2] at hd
    rcases List.mem_cons.mp hd with rfl | hd
    · exact der_wid t ht p _ _ w.1
    · exact rowDer_wid t ht ps _ e w.2 d hd
theorem altDer_wid (t : List Nat) (ht : t.length ≤ 800) : ∀ (ps : List Pat) (k s e : Nat), Wfs ps → Wid 1900 (altDer t ps k s e)
  | [], k, s, e, _ => by
    rw [altDer_nil]
    exact one_wid (by decide)
  | p :: ps, k, s, e, w => by
    rw [Wfs] at w
    rw [altDer_cons]
    split
    · exact wid_or (by decide) (der_wid t ht p s e w.1)
    · exact altDer_wid t ht ps (k + 1) s e w.2
end
mutual
theorem eqv_refl : ∀ d : PyData, noL d = true → PyData.eqv d d = true
  | .none, _ => by rw [PyData.eqv]
  | .bool b, _ => by rw [PyData.eqv]; exact beq_self_eq_true b
  | .int i, _ => by rw [PyData.eqv]; exact beq_self_eq_true i
  | .str x, _ => by rw [PyData.eqv]; exact beq_self_eq_true x
  | .list ds, h => by rw [noL] at h; cases h
  | .tuple ds, h => by
    rw [noL] at h
    rw [PyData.eqv]
    exact eqvAll_refl ds h
  | .dict _, h => by rw [noL] at h; cases h
theorem eqvAll_refl : ∀ ds : List PyData, noLs ds = true → PyData.eqvAll ds ds = true
  | [], _ => by rw [PyData.eqvAll]
  | d :: ds, h => by
    rw [noLs, Bool.and_eq_true] at h
    rw [PyData.eqvAll, eqv_refl d h.1, eqvAll_refl ds h.2]
    rfl
end
end Pd
set_option Elab.async false
set_option linter.all false
set_option maxRecDepth 100000
set_option maxHeartbeats 1000000
/-! PdMc: a long text: one derivation only. -/
namespace Pd
open PySem
structure LongT (t : List Nat) (c : Nat) (l : Leaf) : Prop where
  len : c < t.length
  at_b : t[c]? = some 98
  only : ∀ a, t[a]? = some 98 → a = c
  step : ∀ a, a < c → leafEnd t l a = some (a + 1)
  one_ : ∀ a e, leafEnd t l a = some e → e = a + 1
def due (c : Nat) : PyData := .tuple [.str "row", .tuple [.tuple [.str "repeat", .tuple (List.replicate c one)], one]]
def longP (l : Leaf) (least : Nat) (most : Option Nat) : Pat := .row [.rep (.leaf l) least most, .leaf (.sgn false "b")]
theorem b_list : ("b" : Str).cps.toList = [98] := by decide +kernel
theorem end_b {t : List Nat} {m e : Nat} (h : leafEnd t (.sgn false "b") m = some e) : t[m]? = some 98 ∧ e = m + 1 := by
  have h2 : (match t[m]? with | some c => if c ∈ ("b" : Str).cps.toList then some (m + 1) else none | none => none) = some e := h
  rw [b_list] at h2
  cases q : t[m]? with
  | none => rw [q] at h2; cases h2
  | some x =>
    rw [q] at h2
    by_cases g : x ∈ [98]
    · have h3 : (if x ∈ [98] then some (m + 1) else none) = some e := h2
      rw [if_pos g] at h3
      rw [List.mem_singleton.mp g]
      exact ⟨rfl, (Option.some.inj h3).symm⟩
    · have h3 : (if x ∈ [98] then some (m + 1) else none) = some e := h2
      rw [if_neg g] at h3
      cases h3
theorem walk_leaf_inv {t : List Nat} {l : Leaf} {s e : Nat} {d : PyData} (h : walk t (.leaf l) s d = some e) : d = one ∧ leafEnd t l s = some e := by
  rw [walk_leaf] at h
  split at h
  · rename_i w
    by_cases q : w = "one"
    · rw [if_pos q] at h
      exact ⟨by rw [q]; rfl, h⟩
    · rw [if_neg q] at h
      cases h
  · cases h
section
variable {t : List Nat} {c least : Nat} {l : Leaf} {most : Option Nat}
theorem rep_one (L : LongT t c l) : ∀ (ds : List PyData) (s e : Nat), repWalk (walk t (.leaf l)) s ds = some e → e = s + ds.length ∧ ds = List.replicate ds.length one
  | [], s, e, h => by
    rw [repWalk] at h
    cases h
    exact ⟨rfl, rfl⟩
  | d :: ds, s, e, h => by
    rw [repWalk] at h
    cases q : walk t (.leaf l) s d with
    | none => rw [q] at h; cases h
    | some m =>
      rw [q] at h
      obtain ⟨h1, h2⟩ := walk_leaf_inv q
      have h3 := L.one_ s m h2
      obtain ⟨h4, h5⟩ := rep_one L ds m e h
      refine ⟨by rw [List.length_cons]; omega, ?_⟩
      rw [List.length_cons, List.replicate_succ, ← h5, h1]
/-- any value that walks is the one -/
theorem long_walk (L : LongT t c l) {d : PyData} {e : Nat} (h : walk t (longP l least most) 0 d = some e) : e = c + 1 ∧ d = due c := by
  obtain ⟨es, rfl, h1⟩ := walk_row_inv h
  match es, h1 with
  | [], h1 => rw [rowWalk_short] at h1; cases h1
  | [d1], h1 =>
    rw [rowWalk_cons] at h1
    cases q : walk t (.rep (.leaf l) least most) 0 d1 with
    | none => rw [q] at h1; cases h1
    | some m =>
      rw [q] at h1
      have h2 : rowWalk t [.leaf (.sgn false "b")] m [] = some e := h1
      rw [rowWalk_short] at h2
      cases h2
  | d1 :: d2 :: d3, h1 =>
    rw [rowWalk_cons] at h1
    cases q : walk t (.rep (.leaf l) least most) 0 d1 with
    | none => rw [q] at h1; cases h1
    | some m =>
      rw [q] at h1
      have h2 : rowWalk t [.leaf (.sgn false "b")] m (d2 :: d3) = some e := h1
      rw [rowWalk_cons] at h2
      cases q2 : walk t (.leaf (.sgn false "b")) m d2 with
      | none => rw [q2] at h2; cases h2
      | some m2 =>
        rw [q2] at h2
        have h3 : rowWalk t [] m2 d3 = some e := h2
        cases d3 with
        | cons x y => rw [rowWalk_nil] at h3; cases h3
        | nil =>
          rw [rowWalk_done] at h3
          obtain rfl := Option.some.inj h3
          obtain ⟨e1, e2⟩ := walk_leaf_inv q2
          obtain ⟨e3, e4⟩ := end_b e2
          have e5 := L.only m e3
          obtain ⟨cs, rfl, _, _, hr⟩ := walk_rep_inv q
          obtain ⟨r1, r2⟩ := rep_one L cs 0 m hr
          have r3 : cs.length = c := by omega
          rw [r3] at r2
          exact ⟨by omega, by rw [r2, e1]; rfl⟩
theorem lay_one (L : LongT t c l) : ∀ j, j ≤ c → j ∈ lay t.length (ends t (.leaf l)) least 0 j
  | 0, _ => by rw [lay]; exact List.mem_singleton.mpr rfl
  | j + 1, h => by
    have hl := L.len
    rw [lay_succ, mem_stepL]
    refine ⟨by omega, j, lay_one L j (by omega), ?_, .inr (Nat.lt_succ_self j)⟩
    rw [ends_leaf, Option.mem_toList]
    exact L.step j (by omega)
theorem long_in (L : LongT t c l) (h1 : least ≤ c) (h2 : ∀ x, most = some x → c ≤ x) : c + 1 ∈ ends t (longP l least most) 0 := by
  have hl := L.len
  unfold longP
  rw [ends_row, rowEnds_cons, rowEnds_cons, rowEnds_nil, mem_asc, List.mem_flatMap]
  refine ⟨by omega, c, ?_, ?_⟩
  · rw [mem_asc, List.mem_flatMap]
    refine ⟨by omega, 0, List.mem_singleton.mpr rfl, ?_⟩
    rw [ends_rep]
    unfold repEnds
    rw [mem_asc, List.mem_flatMap]
    refine ⟨by omega, c, ?_, lay_one L c (Nat.le_refl _)⟩
    rw [List.mem_range'_1]
    have : c ≤ cap t.length least most := by
      cases most with
      | none => show c ≤ least + t.length + 1; omega
      | some x => exact h2 x rfl
    omega
  · rw [ends_leaf, Option.mem_toList]
    show (match t[c]? with | some y => if y ∈ ("b" : Str).cps.toList then some (c + 1) else none | none => none) = _
    rw [L.at_b, b_list]
    exact if_pos (List.mem_singleton.mpr rfl)
theorem longP_wf (h1 : least ≤ 1000) (h2 : ∀ x, most = some x → least ≤ x ∧ x ≤ 1000) : Wf (longP l least most) := by
  unfold longP
  rw [Wf]
  refine ⟨wfs_of fun p hp => ?_, Nat.le_of_ble_eq_true rfl⟩
  rcases List.mem_cons.mp hp with rfl | hp
  · rw [Wf, Wf]
    exact ⟨True.intro, h1, h2⟩
  · rw [List.mem_singleton.mp hp, Wf]
    exact True.intro
theorem longP_dep : dep (longP l least most) = 3 := by
  unfold longP
  rw [dep, deps, deps, deps, dep, dep, dep]
  rfl
theorem longP_nodes : (nodes (longP l least most)).length = 4 := by
  unfold longP
  rw [nodes, nodess, nodess, nodess, nodes, nodes, nodes]
  rfl
theorem long_der (L : LongT t c l) (w : Wf (longP l least most)) (h1 : least ≤ c) (h2 : ∀ x, most = some x → c ≤ x) : der t (longP l least most) 0 (c + 1) = due c :=
  (long_walk L (der_walk t _ 0 (c + 1) w (Nat.zero_le _) (long_in L h1 h2)).1).2
theorem long_more (L : LongT t c l) {e : Nat} : walk t (longP l least most) 0 (due (c + 1)) ≠ some e := fun h => by
  have h1 := (long_walk L h).2
  unfold due at h1
  have h2 : List.replicate (c + 1) one = List.replicate c one := by
    injection h1 with h1
    injection h1 with _ h1
    injection h1 with h1 _
    injection h1 with h1
    injection h1 with h1 _
    injection h1 with h1
    injection h1 with _ h1
    injection h1 with h1 _
    injection h1 with h1
  have h3 := congrArg List.length h2
  rw [List.length_replicate, List.length_replicate] at h3
  omega
theorem long_out (L : LongT t c l) (w : Wf (longP l least most)) : c ∉ ends t (longP l least most) 0 := fun h => by
  have := (long_walk L (der_walk t _ 0 c w (Nat.zero_le _) h).1).1
  omega
end
/-- the text: c signs a, a b, some signs c -/
theorem longT_of {c x : Nat} {l : Leaf} (hl : l = .any ∨ l = .sgn true "ac" ∨ l = .sgn false "a") : LongT (List.replicate c 97 ++ [98] ++ List.replicate x 99) c l := by
  have la : ∀ a, a < c → (List.replicate c 97 ++ [98] ++ List.replicate x 99)[a]? = some 97 := fun a ha => by
    rw [List.append_assoc, List.getElem?_append_left (by rw [List.length_replicate]; exact ha), List.getElem?_replicate, if_pos ha]
  have lb : (List.replicate c 97 ++ [98] ++ List.replicate x 99)[c]? = some 98 := by
    rw [List.append_assoc, List.getElem?_append_right (by rw [List.length_replicate]; exact Nat.le_refl _), List.length_replicate, Nat.sub_self]
    rfl
  have lc : ∀ a, c < a → (List.replicate c 97 ++ [98] ++ List.replicate x 99)[a]? ≠ some 98 := fun a ha h => by
    rw [List.getElem?_append_right (by rw [List.length_append, List.length_replicate]; exact ha), List.getElem?_replicate] at h
    split at h
    · cases h
    · cases h
  refine ⟨?_, lb, fun a h => ?_, fun a h => ?_, fun a e h => ?_⟩
  · rw [List.length_append, List.length_append, List.length_replicate]
    show c < c + 1 + _
    omega
  · refine Classical.byContradiction fun ne => ?_
    by_cases g : a < c
    · rw [la a g] at h
      cases h
    · exact lc a (by omega) h
  · rcases hl with rfl | rfl | rfl
    · refine if_pos ?_
      rw [List.length_append, List.length_append, List.length_replicate]
      omega
    · show (match (List.replicate c 97 ++ [98] ++ List.replicate x 99)[a]? with | some y => if y ∈ ("ac" : Str).cps.toList then some (a + 1) else none | none => none) = _
      rw [la a h]
      exact if_pos (by decide +kernel)
    · show (match (List.replicate c 97 ++ [98] ++ List.replicate x 99)[a]? with | some y => if y ∈ ("a" : Str).cps.toList then some (a + 1) else none | none => none) = _
      rw [la a h]
      exact if_pos (by decide +kernel)
  · rcases hl with rfl | rfl | rfl
    · have h2 : (if a < (List.replicate c 97 ++ [98] ++ List.replicate x 99).length then some (a + 1) else none) = some e := h
      split at h2
      · exact (Option.some.inj h2).symm
      · cases h2
    all_goals
      simp only [leafEnd] at h
      split at h
      · split at h
        · exact (Option.some.inj h).symm
        · cases h
      · cases h
theorem due_noL (c : Nat) : noL (due c) = true := by
  have h : ∀ c, noLs (List.replicate c one) = true := fun c => noLs_of fun d hd => by rw [List.eq_of_mem_replicate hd]; decide +kernel
  unfold due
  rw [noL, noLs, noL, noLs, noL, noLs, noLs, noL, noLs, noL, noLs, noL, noLs, h]
  decide +kernel
theorem due_shp {c : Nat} (h : c ≤ 1900) : Shp 8 (due c) := by
  have h1 : Shp 1 one := by
    unfold one
    exact .tup (fun d hd => by rw [List.mem_singleton.mp hd]; exact .str (by decide +kernel)) (Nat.le_of_ble_eq_true rfl)
  have h2 : Shp 2 (.tuple (List.replicate c one)) := .tup (fun d hd => by rw [List.eq_of_mem_replicate hd]; exact h1) (by rw [List.length_replicate]; omega)
  have h3 : Shp 3 (.tuple [.str "repeat", .tuple (List.replicate c one)]) := .tup (fun d hd => by
    rcases List.mem_cons.mp hd with rfl | hd
    · exact .str (by decide +kernel)
    · rw [List.mem_singleton.mp hd]
      exact h2) (Nat.le_of_ble_eq_true rfl)
  have h4 : Shp 4 (.tuple [.tuple [.str "repeat", .tuple (List.replicate c one)], one]) := .tup (fun d hd => by
    rcases List.mem_cons.mp hd with rfl | hd
    · exact h3
    · rw [List.mem_singleton.mp hd]
      exact h1.mono (by decide)) (Nat.le_of_ble_eq_true rfl)
  have h5 : Shp 5 (due c) := .tup (fun d hd => by
    rcases List.mem_cons.mp hd with rfl | hd
    · exact .str (by decide +kernel)
    · rw [List.mem_singleton.mp hd]
      exact h4) (Nat.le_of_ble_eq_true rfl)
  exact h5.mono (by decide)
end Pd
set_option Elab.async false
set_option linter.all false
set_option maxRecDepth 100000
set_option maxHeartbeats 4000000
namespace Pd
open PySem PySem.Spec PyProof.Rows L2

/-! ### what stands stays, but for dicts -/
def ndt : HO → Bool
  | .dT _ => false
  | _ => true
structure Kp (H H' : Hp) : Prop where
  st : ∀ b o, H b = some o → ndt o = true → H' b = some o
  dt : ∀ b kvs, H b = some (.dT kvs) → ∃ kvs', H' b = some (.dT kvs')
instance {H H' : Hp} : CoeFun (Kp H H') (fun _ => ∀ b o, H b = some o → ndt o = true → H' b = some o) := ⟨Kp.st⟩
theorem Kp.refl (H : Hp) : Kp H H := ⟨fun _ _ h _ => h, fun _ k h => ⟨k, h⟩⟩
theorem Kp.trans {H H1 H2 : Hp} (a : Kp H H1) (b : Kp H1 H2) : Kp H H2 := ⟨fun c o h n => b c o (a c o h n) n, fun c k h => by
  obtain ⟨k1, h1⟩ := a.dt c k h
  exact b.dt c k1 h1⟩
theorem Kp.of {H H' : Hp} (s : Same H H') : Kp H H' := ⟨fun b o h _ => s b o h, fun b k h => ⟨k, s b _ h⟩⟩
theorem same_add {H H1 : Hp} {p : Addr} (s : Same H H1) (h : H1 p = none) (o : HO) : Same H (upd H1 p o) := fun b u q => by rw [upd_ne (ne_of_none (s b u q) h)]; exact s b u q
theorem same_new {H : Hp} {p : Addr} (h : H p = none) (o : HO) : Same H (upd H p o) := same_add (Same.refl H) h o
/-- a list that was made behind H is written -/
theorem same_over {H0 H1 : Hp} {p : Addr} (a : Same H0 H1) (h : H0 p = none) (o : HO) : Same H0 (upd H1 p o) := fun b u q => by rw [upd_ne (ne_of_none q h)]; exact a b u q
theorem Kp.new {H : Hp} {p : Addr} (h : H p = none) (o : HO) : Kp H (upd H p o) := Kp.of (same_new h o)
theorem Kp.add {H H1 : Hp} {p : Addr} (a : Kp H H1) (h : H1 p = none) (o : HO) : Kp H (upd H1 p o) := a.trans (Kp.new h o)
theorem Kp.put {H : Hp} {d : Addr} {k : List (List Key × V)} (h : H d = some (.dT k)) (k' : List (List Key × V)) : Kp H (upd H d (.dT k')) := by
  refine ⟨fun b u q n => ?_, fun b j q => ?_⟩
  · rw [upd_ne (fun e => ?_)]
    · exact q
    · subst e
      rw [h] at q
      cases q
      cases n
  · by_cases e : b = d
    · subst e
      exact ⟨k', upd_same⟩
    · exact ⟨j, by rw [upd_ne e]; exact q⟩
/-- a list that was made behind H is written: H stays -/
theorem Kp.over {H0 H1 : Hp} {p : Addr} (a : Kp H0 H1) (h : H0 p = none) (o : HO) : Kp H0 (upd H1 p o) := ⟨fun b u q n => by
  rw [upd_ne (ne_of_none q h)]
  exact a b u q n, fun b k q => by
  rw [upd_ne (ne_of_none q h)]
  exact a.dt b k q⟩
theorem Kp.free {H H' : Hp} (e : Kp H H') {p : Addr} (h : H' p = none) : H p = none := by
  cases q : H p with
  | none => rfl
  | some o =>
    cases n : ndt o with
    | true =>
      rw [e p o q n] at h
      cases h
    | false =>
      cases o with
      | dT k =>
        obtain ⟨k', h'⟩ := e.dt p k q
        rw [h'] at h
        cases h
      | _ => cases n
theorem Kp.seq {K : PySem.W.Frag} {H H' : Hp} {a : Addr} {xs : List V} (e : Kp H H') (h : SqL K H a xs) : SqL K H' a xs := by
  rcases h with (h | ⟨o, h⟩) | h
  · exact .inl (.inl (e _ _ h rfl))
  · exact .inl (.inr ⟨o, e _ _ h rfl⟩)
  · exact .inr h
theorem Kp.tup {K : PySem.W.Frag} {H H' : Hp} {a : Addr} {xs : List V} (e : Kp H H') (h : SqT K H a xs) : SqT K H' a xs := by
  rcases h with (h | ⟨o, h⟩) | h
  · exact .inl (.inl (e _ _ h rfl))
  · exact .inl (.inr ⟨o, e _ _ h rfl⟩)
  · exact .inr h
mutual
theorem Kp.dp {K : PySem.W.Frag} {H H' : Hp} (e : Kp H H') : ∀ {d : PyData} {v : V}, Dp K H v d → Dp K H' v d
  | .none, _, h => by cases h; exact .non
  | .bool b, _, h => by cases h; exact .bl b
  | .int i, _, h => by cases h; exact .int i
  | .str x, _, h => by cases h; exact .str x
  | .list ds, _, h => by
    cases h with
    | lst hs ha => exact .lst (e.seq hs) (Kp.dpAll e ha)
  | .tuple ds, _, h => by
    cases h with
    | tup hs ha => exact .tup (e.tup hs) (Kp.dpAll e ha)
  | .dict _, _, h => by cases h
theorem Kp.dpAll {K : PySem.W.Frag} {H H' : Hp} (e : Kp H H') : ∀ {ds : List PyData} {vs : List V}, DpAll K H vs ds → DpAll K H' vs ds
  | [], _, h => by cases h; exact .nil
  | d :: ds, _, h => by
    cases h with
    | cons h1 h2 => exact .cons (Kp.dp e h1) (Kp.dpAll e h2)
end

end Pd
namespace L2
open PySem PySem.Spec PyProof.Rows
/-! ### data -/
section
variable {K : PySem.W.Frag} {H : Hp}
theorem DpAll.len : ∀ {ds : List PyData} {vs : List V}, DpAll K H vs ds → vs.length = ds.length
  | [], _, h => by cases h; rfl
  | d :: ds, _, h => by
    cases h with
    | cons h1 h2 => exact congrArg Nat.succ (DpAll.len h2)
theorem DpAll.at : ∀ {ds : List PyData} {vs : List V} {i : Nat} {d : PyData}, DpAll K H vs ds → ds[i]? = some d → ∃ v, vs[i]? = some v ∧ Dp K H v d
  | [], _, i, d, _, e => by simp at e
  | c :: ds, _, 0, d, h, e => by
    cases h with
    | cons h1 h2 =>
      have q : c = d := Option.some.inj e
      exact ⟨_, rfl, q ▸ h1⟩
  | c :: ds, _, i + 1, d, h, e => by
    cases h with
    | cons h1 h2 =>
      obtain ⟨v, e1, e2⟩ := DpAll.at (i := i) h2 (by simpa using e)
      exact ⟨v, by simpa using e1, e2⟩
theorem DpAll.atV : ∀ {ds : List PyData} {vs : List V} {i : Nat} {v : V}, DpAll K H vs ds → vs[i]? = some v → ∃ d, ds[i]? = some d ∧ Dp K H v d
  | [], _, i, v, h, e => by cases h; simp at e
  | c :: ds, _, 0, v, h, e => by
    cases h with
    | cons h1 h2 =>
      have q := Option.some.inj e
      exact ⟨_, rfl, q ▸ h1⟩
  | c :: ds, _, i + 1, v, h, e => by
    cases h with
    | cons h1 h2 =>
      obtain ⟨d, e1, e2⟩ := DpAll.atV (i := i) h2 (by simpa using e)
      exact ⟨d, by simpa using e1, e2⟩
theorem DpAll.append : ∀ {ds es : List PyData} {vs us : List V}, DpAll K H vs ds → DpAll K H us es → DpAll K H (vs ++ us) (ds ++ es)
  | [], _, _, _, h, g => by cases h; exact g
  | d :: ds, _, _, _, h, g => by
    cases h with
    | cons h1 h2 => exact .cons h1 (DpAll.append h2 g)
theorem DpAll.take : ∀ {ds : List PyData} {vs : List V} (n : Nat), DpAll K H vs ds → DpAll K H (vs.take n) (ds.take n)
  | _, _, 0, _ => .nil
  | [], _, n + 1, h => by cases h; exact .nil
  | d :: ds, _, n + 1, h => by
    cases h with
    | cons h1 h2 => exact .cons h1 (DpAll.take n h2)
theorem DpAll.drop : ∀ {ds : List PyData} {vs : List V} (n : Nat), DpAll K H vs ds → DpAll K H (vs.drop n) (ds.drop n)
  | _, _, 0, h => h
  | [], _, n + 1, h => by cases h; exact .nil
  | d :: ds, _, n + 1, h => by
    cases h with
    | cons h1 h2 => exact DpAll.drop n h2
theorem DpAll.reverse : ∀ {ds : List PyData} {vs : List V}, DpAll K H vs ds → DpAll K H vs.reverse ds.reverse
  | [], _, h => by cases h; exact .nil
  | d :: ds, _, h => by
    cases h with
    | cons h1 h2 =>
      rw [List.reverse_cons, List.reverse_cons]
      exact DpAll.append (DpAll.reverse h2) (.cons h1 .nil)
theorem DpAll.one {v : V} {d : PyData} (h : Dp K H v d) : DpAll K H [v] [d] := .cons h .nil
theorem DpAll.two {v u : V} {d e : PyData} (h : Dp K H v d) (g : Dp K H u e) : DpAll K H [v, u] [d, e] := .cons h (.cons g .nil)
theorem DpAll.three {v u x : V} {d e f : PyData} (h : Dp K H v d) (g : Dp K H u e) (j : Dp K H x f) : DpAll K H [v, u, x] [d, e, f] := .cons h (.cons g (.cons j .nil))
theorem Dp.tupI {a : Addr} {xs : List V} {ds : List PyData} (h : H a = some (.tup xs)) (g : DpAll K H xs ds) : Dp K H (.ref a) (.tuple ds) := .tup (SqT.of h) g
theorem Dp.lstI {a : Addr} {xs : List V} {ds : List PyData} (h : H a = some (.lst xs)) (g : DpAll K H xs ds) : Dp K H (.ref a) (.list ds) := .lst (SqL.of h) g
/-- the tuple behind a datum -/
theorem Dp.tupE {v : V} {ds : List PyData} (h : Dp K H v (.tuple ds)) : ∃ a xs, v = .ref a ∧ SqT K H a xs ∧ DpAll K H xs ds := by
  cases h with
  | tup hs ha => exact ⟨_, _, rfl, hs, ha⟩
theorem Dp.strE {v : V} {x : Str} (h : Dp K H v (.str x)) : v = .str x := by cases h; rfl
theorem Dp.intE {v : V} {i : Int} (h : Dp K H v (.int i)) : v = .int i := by cases h; rfl
end

end L2
namespace Pd
open PySem PySem.Spec PyProof.Rows L2
/-! ### places as values -/
abbrev nts (xs : List Nat) : List Int := xs.map fun e : Nat => (e : Int)
abbrev nv (xs : List Nat) : List V := (nts xs).map V.int
theorem nv_len (xs : List Nat) : (nv xs).length = xs.length := by rw [List.length_map, List.length_map]
theorem nv_at {xs : List Nat} {i : Nat} {e : Nat} (h : xs[i]? = some e) : (nv xs)[i]? = some (.int (e : Int)) := by
  rw [List.getElem?_map, List.getElem?_map, h]; rfl
theorem nv_atV {xs : List Nat} {i : Nat} {v : V} (h : (nv xs)[i]? = some v) : ∃ e, xs[i]? = some e ∧ v = .int (e : Int) := by
  rw [List.getElem?_map, List.getElem?_map] at h
  cases q : xs[i]? with
  | none => rw [q] at h; cases h
  | some e => rw [q] at h; exact ⟨e, rfl, (Option.some.inj h).symm⟩
theorem nv_app (xs ys : List Nat) : nv xs ++ nv ys = nv (xs ++ ys) := by rw [← List.map_append, ← List.map_append]
theorem nv_snoc (xs : List Nat) (e : Nat) : nv xs ++ [.int (e : Int)] = nv (xs ++ [e]) := nv_app xs [e]
theorem nv_flat (xs : List Nat) : (nv xs).all flatV = true := by
  rw [List.all_map, List.all_map]
  exact List.all_eq_true.mpr fun _ _ => rfl
theorem nv_in (e : Nat) : ∀ xs : List Nat, inV (.int (e : Int)) (nv xs) = decide (e ∈ xs)
  | [] => by simp [inV]
  | x :: xs => by
    have ih := nv_in e xs
    unfold inV at ih ⊢
    rw [show nv (x :: xs) = V.int (x : Int) :: nv xs from rfl, List.any_cons, ih]
    by_cases q : e = x
    · subst q; simp [eqV]
    · have q2 : ¬ ((x : Int) = (e : Int)) := fun z => q (by omega)
      simp [eqV, q, q2, List.mem_cons, Ne.symm]
theorem small_line {n : Nat} (h : n ≤ 16000000) : n < sizeLine := Nat.lt_of_le_of_lt h (by decide)
theorem small_le {n : Nat} (h : n ≤ 16000000) : n ≤ sizeLine := Nat.le_of_lt (small_line h)

/-! ### defs by their names -/
structure Has (P : Program) (w : World) (K : PySem.W.Frag) (mg : Str → Option Value) (base : Heap) (x : Str) (f : Addr) (ps : List Str) (k : Nat) (sp : Sp) : Prop where
  ok : ∃ fd, FnOk P w K mg base CX0 k f fd ps sp ∧ Binds K fd ps []
  kp : PySem.W.keepIn K (.ref f) = true
  g : mg x = some (.ref f)
structure HasM (P : Program) (w : World) (K : PySem.W.Frag) (mg : Str → Option Value) (base : Heap) (C : Addr) (m : Str) (f : Addr) (ps : List Str) (k : Nat) (sp : Sp) : Prop where
  ok : ∃ fd, FnOk P w K mg base CX0 k f fd ps sp ∧ Binds K fd ps []
  me : Meth K C m f
  cl : Cls K C
section
variable {X : Cx} {k j : Nat} {f C : Addr} {ps : List Str} {sp : Sp} {x m : Str} {p pos apos : Pos} {e o : Expr} {es : List Expr} {ta : TE} {t : TA}
theorem pe_callH (h : Has X.prog X.w X.K X.mg X.base x f ps j sp) (hr : Room k X.A) (hk : j ≤ k) (hg : Gl X x) (ha : PA X (e :: es) t) (hdb : (x == ("__debug__" : Str)) = false := by decide)
    (he : starEach (e :: es) X.env = (false, eval e X.env) :: starEach es X.env := by rfl) (hpl : (backTo pos (starEach es X.env)).any (·.1) = false := by rfl) : PE X (.Call (.Name x p) (e :: es) [] pos) (tCall sp [] E0 t) := by
  obtain ⟨fd, F, b⟩ := h.ok
  exact pe_call F (hr.mono hk) hg h.g h.kp b .nil pass0 ha hdb he hpl
theorem pe_callH0 (h : Has X.prog X.w X.K X.mg X.base x f ps j sp) (hr : Room k X.A) (hk : j ≤ k) (hg : Gl X x) (hdb : (x == ("__debug__" : Str)) = false := by decide) : PE X (.Call (.Name x p) [] [] pos) (tCall sp [] E0 tNil) := by
  obtain ⟨fd, F, b⟩ := h.ok
  exact pe_call0 F (hr.mono hk) hg h.g h.kp b .nil pass0 hdb
theorem pe_methH {pl : Sem Bool} (he : PE X o ta) (h : HasM X.prog X.w X.K X.mg X.base C m f ps j sp) (hr : Room k X.A) (hk : j ≤ k) (ha : PA X (e :: es) t)
    (hst : starEach (e :: es) X.env = (false, eval e X.env) :: starEach es X.env := by rfl) (hpl : (backTo pos (starEach es X.env)).any (·.1) = false := by rfl)
    (ht : eval (.Call (.Attribute o m apos) (e :: es) [] pos) X.env = (do
      let ov ← eval o X.env
      standAt apos.atName
      let (f, first) ← holding [ov] (getMethod ov m pl)
      callWith pos f first (backTo pos (starEach (e :: es) X.env)) (backToKw pos (keywordEach [] X.env))) := by rfl) :
    PE X (.Call (.Attribute o m apos) (e :: es) [] pos) (tMeth C m sp [] E0 ta t) := by
  obtain ⟨fd, F, b⟩ := h.ok
  exact pe_meth he h.cl h.me F (hr.mono hk) b .nil pass0 ha hst hpl ht
end

/-! ### rules whose reading names the written part itself (within comprehensions) -/
section
variable {X : Cx} {K : PySem.W.Frag} {l : Expr} {tl : TE} {tg : Expr}
theorem ix_tupK (h : X.K = K) : IxR X (rIxT K) := h ▸ ix_tup
theorem op_in_seqK (h : X.K = K) : OpR X (compareOp .In) (rIn K false) := h ▸ op_in_seq
theorem op_notIn_seqK (h : X.K = K) : OpR X (compareOp .NotIn) (rIn K true) := h ▸ op_notIn_seq
theorem pi_listK (h : X.K = K) (hl : PE X l tl) : PI X tg l (iList K tl) := h ▸ pi_list hl
end
/-! ### a call by keywords alone -/
/-- the keywords' values, where nothing is written by place -/
def kgo {α : Type} : List α → List α → List α
  | [], ws => ws
  | _ :: _, _ => []
structure HasK (P : Program) (w : World) (K : PySem.W.Frag) (mg : Str → Option Value) (base : Heap) (x : Str) (f : Addr) (ps : List Str) (k : Nat) (sp : Sp) : Prop where
  ok : ∃ fd, FnOk P w K mg base CX0 k f fd ps sp ∧ KBinds K fd ps ps kgo kgo
  kp : PySem.W.keepIn K (.ref f) = true
  g : mg x = some (.ref f)
section
variable {X : Cx} {k j : Nat} {f : Addr} {ps : List Str} {sp : Sp} {x : Str} {p pos : Pos} {kws : List Keyword} {tk : TA}
def tCallKO (sp : Sp) (tk : TA) : TE := fun σ H Q => tk σ H fun zs H2 => sp zs H2 Q E0
theorem kbinds_of {K : PySem.W.Frag} {qual : Str} {params : Arguments} {body : List Stmt} {scope : Scope} {fd : FuncData} (F : FunD K x qual params body scope [] [] f fd) (hps : ps ≠ [])
    (h : ∀ (kV doc pm : Value) (an : Option Addr) (cdv ct : Value) (ws : List Value), ws.length = ps.length → bindArgs (PySem.W.fnOf x qual params body scope .none kV doc pm an cdv ct) ⟨[], ps.zip ws⟩ = pure (ps.zip ws)) : KBinds K fd ps ps kgo kgo := by
  refine ⟨fun s us ws _ hl => ?_, fun {vs us zs ws} r rz => ?_⟩
  · cases us with
    | nil =>
      obtain ⟨oc, od, dV, kV, doc, pm, an, cdv, ct, osl, rfl, lk, hcd, hD, hK⟩ := F.ex
      rcases hD with ⟨_, rfl⟩ | ⟨e, _⟩
      · exact .of_eq (h kV doc pm an cdv ct ws hl)
      · exact absurd rfl e
    | cons u us =>
      exact absurd (List.length_eq_zero_iff.mp hl.symm) hps
  · cases r with
    | nil => exact rz
    | cons _ _ => exact .nil
theorem pe_callKO (h : HasK X.prog X.w X.K X.mg X.base x f ps j sp) (hr : Room k X.A) (hk : j ≤ k) (hg : Gl X x) (hkw : PK X kws tk)
    (hall : (backToKw pos (keywordEach kws X.env)).all (·.1.isSome) = true := by rfl) (hks : (backToKw pos (keywordEach kws X.env)).filterMap (·.1) = ps := by rfl)
    (hdb : (x == ("__debug__" : Str)) = false := by decide) (hpl : ((backTo pos (starEach [] X.env)).any (·.1) || (backToKw pos (keywordEach kws X.env)).any (·.1.isNone)) = false := by rfl) :
    PE X (.Call (.Name x p) [] kws pos) (tCallKO sp tk) := by
  obtain ⟨fd, F, b⟩ := h.ok
  refine ⟨fun pins s σ H Q I h0 => ?_⟩
  refine wpAny_Call_Name_kw (ld_glob I hg h.g ?_ hdb)
  refine PySem.W.callWith_KW0 (h₀ := X.base) I.ok.mod.kin h.kp hall ?_ hpl
  refine thn (hkw.run pos pins s σ H _ I h0) fun ws s2 ⟨zs, H2, I2, rz, q2⟩ => ⟨I2.kIn, ?_⟩
  rw [hks]
  exact run_fnk (us := []) (vs := []) F (hr.mono hk) b pass0 I2 .nil rz q2
end
/-! ### text * int -/
def rMulS : R2 := fun x y H Q => ∃ (z : Str) (i : Int), x = .str z ∧ y = .int i ∧ z.length = 1 ∧ 0 ≤ i ∧ i ≤ 100000 ∧ Q (.str (Txt.mul z i)) H
theorem op_mulS {X : Cx} : OpR X (binaryOp .Mult) rMulS := by
  intro pins s σ H x y v u Q I rx ry h
  obtain ⟨z, i, rfl, rfl, hz, h0, h1, q⟩ := h
  obtain ⟨t, rfl⟩ := rx
  obtain ⟨t', rfl⟩ := ry
  refine PySem.SB.mul ⟨?_, fun a b => ?_, fun a b => ?_⟩ fun t2 k => ⟨.str (Txt.mul z i), H, I.tok k, ⟨t2, rfl⟩, q⟩
  · rw [decide_eq_false (by omega), decide_eq_false (by omega)]; rfl
  · rw [hz]
    have : (1 : Int) ≤ (2 ^ 63 - 1) / i := Int.le_ediv_of_mul_le (by omega) (by omega)
    omega
  · rw [hz]
    show decide (1 * i.toNat > sizeLine) = false
    refine decide_eq_false ?_
    have := sizeLine_eq
    omega

/-! ### what the top has written -/
theorem bb_isinstance : bootBuiltins "isinstance" = some (.builtin "isinstance") := PyProof.Rows.boot_isinstance
theorem bb_abs : bootBuiltins "abs" = some (.builtin "abs") := PyProof.Rows.boot_abs
theorem bb_min : bootBuiltins "min" = some (.builtin "min") := PyProof.Rows.boot_min
theorem bb_max : bootBuiltins "max" = some (.builtin "max") := PyProof.Rows.boot_max
theorem bb_sorted : bootBuiltins "sorted" = some (.builtin "sorted") := PyProof.Rows.boot_sorted
theorem bb_int : bootBuiltins "int" = some (.type "int") := PyProof.Rows.boot_int
theorem bb_list : bootBuiltins "list" = some (.type "list") := PyProof.Rows.boot_list
theorem bb_tuple : bootBuiltins "tuple" = some (.type "tuple") := PyProof.Rows.boot_tuple
theorem bb_set : bootBuiltins "set" = some (.type "set") := PyProof.Rows.boot_set
theorem bb_bool : bootBuiltins "bool" = some (.type "bool") := PyProof.Rows.boot_bool
theorem bb_str : bootBuiltins "str" = some (.type "str") := PyProof.Rows.boot_str
abbrev Cs (K : PySem.W.Frag) : Addr := He.ga K "Splitter"
abbrev mI (K : PySem.W.Frag) : Addr := He.ma K (Cs K) "__init__"
structure Txt (K : PySem.W.Frag) (mg : Str → Option Value) : Prop where
  z_len : mg "len" = none
  z_isinstance : mg "isinstance" = none
  z_int : mg "int" = none
  z_bool : mg "bool" = none
  z_str : mg "str" = none
  z_tuple : mg "tuple" = none
  z_list : mg "list" = none
  z_range : mg "range" = none
  z_sorted : mg "sorted" = none
  z_set : mg "set" = none
  z_enumerate : mg "enumerate" = none
  z_zip : mg "zip" = none
  z_abs : mg "abs" = none
  z_min : mg "min" = none
  z_max : mg "max" = none
  gC : mg "Splitter" = some (.ref (Cs K))
  cl : Cls K (Cs K)
  mkr : Mk K (Cs K) (mI K)
  n_text : NoAttr K (Cs K) "text"
  n_trees : NoAttr K (Cs K) "trees"
  n_under : NoAttr K (Cs K) "under"
  n_known : NoAttr K (Cs K) "known_ends"
structure HasI (P : Program) (w : World) (K : PySem.W.Frag) (mg : Str → Option Value) (base : Heap) (f : Addr) (ps : List Str) (k : Nat) (sp : Sp) : Prop where
  ok : ∃ fd, FnOk P w K mg base CX0 k f fd ps sp ∧ Binds K fd ps []
theorem pe_makeH {X : Cx} {k j : Nat} {f C : Addr} {ps : List Str} {sp : Sp} {x : Str} {p pos : Pos} {e : Expr} {es : List Expr} {t : TA} (h : HasI X.prog X.w X.K X.mg X.base f ps j sp) (hr : Room k X.A) (hk : j + 1 ≤ k) (hg : Gl X x) (hm : X.mg x = some (.ref C)) (M : Mk X.K C f)
    (ha : PA X (e :: es) t) (hdb : (x == ("__debug__" : Str)) = false := by decide) (he : starEach (e :: es) X.env = (false, eval e X.env) :: starEach es X.env := by rfl) (hpl : (backTo pos (starEach es X.env)).any (·.1) = false := by rfl) :
    PE X (.Call (.Name x p) (e :: es) [] pos) (tMake C sp [] E0 t) := by
  obtain ⟨fd, F, b⟩ := h.ok
  exact pe_make M F (hr.mono hk) hg hm b .nil pass0 ha hdb he hpl

/-! ### isinstance -/
theorem _root_.L2.Dp.ty {K : PySem.W.Frag} {H : Hp} {v : V} {d : PyData} (h : Dp K H v d) : TyX K H v (.type (match d with
  | .none => "NoneType" | .bool _ => "bool" | .int _ => "int" | .str _ => "str" | .list _ => "list" | .tuple _ => "tuple" | .dict _ => "dict")) := by
  cases h with
  | non => exact .base .non
  | bl b => exact .base (.bl b)
  | int i => exact .base (.int i)
  | str x => exact .base (.str x)
  | lst hs _ =>
    rcases hs with (h | ⟨o, h⟩) | ⟨o, its, n, h, c, _⟩
    · exact .base (.lst h)
    · exact .base (.frz h)
    · exact .kList h c
  | tup hs _ =>
    rcases hs with (h | ⟨o, h⟩) | ⟨o, its, n, h, c, _⟩
    · exact .base (.tup h)
    · exact .fTuple h
    · exact .kTuple h c
def tyn : PyData → String
  | .none => "NoneType" | .bool _ => "bool" | .int _ => "int" | .str _ => "str" | .list _ => "list" | .tuple _ => "tuple" | .dict _ => "dict"
def isTup : PyData → Bool
  | .tuple _ => true
  | _ => false
def isStr : PyData → Bool
  | .str _ => true
  | _ => false
def isInt : PyData → Bool
  | .int _ => true
  | .bool _ => true
  | _ => false
def isBool : PyData → Bool
  | .bool _ => true
  | _ => false
theorem kit_tup : ∀ d : PyData, kitB (tyn d) "tuple" = some (isTup d)
  | .none => (by decide +kernel : kitB "NoneType" "tuple" = some false)
  | .bool _ => (by decide +kernel : kitB "bool" "tuple" = some false)
  | .int _ => (by decide +kernel : kitB "int" "tuple" = some false)
  | .str _ => (by decide +kernel : kitB "str" "tuple" = some false)
  | .list _ => (by decide +kernel : kitB "list" "tuple" = some false)
  | .tuple _ => (by decide +kernel : kitB "tuple" "tuple" = some true)
  | .dict _ => (by decide +kernel : kitB "dict" "tuple" = some false)
theorem kit_str : ∀ d : PyData, kitB (tyn d) "str" = some (isStr d)
  | .none => (by decide +kernel : kitB "NoneType" "str" = some false)
  | .bool _ => (by decide +kernel : kitB "bool" "str" = some false)
  | .int _ => (by decide +kernel : kitB "int" "str" = some false)
  | .str _ => (by decide +kernel : kitB "str" "str" = some true)
  | .list _ => (by decide +kernel : kitB "list" "str" = some false)
  | .tuple _ => (by decide +kernel : kitB "tuple" "str" = some false)
  | .dict _ => (by decide +kernel : kitB "dict" "str" = some false)
theorem kit_int : ∀ d : PyData, kitB (tyn d) "int" = some (isInt d)
  | .none => (by decide +kernel : kitB "NoneType" "int" = some false)
  | .bool _ => (by decide +kernel : kitB "bool" "int" = some true)
  | .int _ => (by decide +kernel : kitB "int" "int" = some true)
  | .str _ => (by decide +kernel : kitB "str" "int" = some false)
  | .list _ => (by decide +kernel : kitB "list" "int" = some false)
  | .tuple _ => (by decide +kernel : kitB "tuple" "int" = some false)
  | .dict _ => (by decide +kernel : kitB "dict" "int" = some false)
theorem kit_bool : ∀ d : PyData, kitB (tyn d) "bool" = some (isBool d)
  | .none => (by decide +kernel : kitB "NoneType" "bool" = some false)
  | .bool _ => (by decide +kernel : kitB "bool" "bool" = some true)
  | .int _ => (by decide +kernel : kitB "int" "bool" = some false)
  | .str _ => (by decide +kernel : kitB "str" "bool" = some false)
  | .list _ => (by decide +kernel : kitB "list" "bool" = some false)
  | .tuple _ => (by decide +kernel : kitB "tuple" "bool" = some false)
  | .dict _ => (by decide +kernel : kitB "dict" "bool" = some false)
theorem _root_.L2.Dp.tyx {K : PySem.W.Frag} {H : Hp} {v : V} {d : PyData} (h : Dp K H v d) : TyX K H v (.type (tyn d)) := by
  have q := h.ty
  cases d <;> exact q
theorem isi {K : PySem.W.Frag} {H : Hp} {v : V} {d : PyData} {T : String} {b : Bool} {Q : VK} (h : Dp K H v d) (k : kitB (tyn d) T = some b) (q : Q (.bl b) H) : rIsi K [v, .ty T] H Q := ⟨v, .ty T, _, _, b, rfl, .ty T, h.tyx, kit_ty k, q⟩
end Pd
set_option Elab.async false
set_option linter.all false
set_option maxRecDepth 100000
set_option maxHeartbeats 4000000
/-! PdSet: set(xs) of a list of small ints (any length, few of them different), sorted(s) of such a set. -/
namespace Pd
open PySem PySem.Spec PyProof.Rows L2
theorem nodup_below : ∀ (B : Nat) {l : List Nat}, l.Nodup → (∀ x ∈ l, x < B) → l.length ≤ B
  | 0, l, _, h => by
    cases l with
    | nil => exact Nat.le_refl 0
    | cons x r => exact absurd (h x List.mem_cons_self) (Nat.not_lt_zero _)
  | B + 1, l, hn, h => by
    have n1 : (l.erase B).Nodup := hn.erase B
    have n2 : (l.erase B).length ≤ B := nodup_below B n1 fun x hx => by
      have q1 := h x (List.mem_of_mem_erase hx)
      have q2 : x ≠ B := ((List.Nodup.mem_erase_iff hn).mp hx).1
      omega
    by_cases hb : B ∈ l
    · rw [List.length_erase_of_mem hb] at n2
      omega
    · rw [List.erase_of_not_mem hb] at n2
      omega
theorem nodup_nat : ∀ {l : List Int}, l.Nodup → (∀ x ∈ l, 0 ≤ x) → (l.map Int.toNat).Nodup
  | [], _, _ => List.Pairwise.nil
  | x :: r, hn, h => by
    have q := List.nodup_cons.mp hn
    have ih := nodup_nat q.2 fun y hy => h y (List.mem_cons_of_mem _ hy)
    refine List.nodup_cons.mpr ⟨fun hm => ?_, ih⟩
    obtain ⟨y, hy, e⟩ := List.mem_map.mp hm
    have a1 := h x List.mem_cons_self
    have b1 := h y (List.mem_cons_of_mem _ hy)
    have e2 : y = x := by omega
    exact q.1 (e2 ▸ hy)
theorem nodup_belowI {B : Nat} {l : List Int} (hn : l.Nodup) (h : ∀ x ∈ l, 0 ≤ x ∧ x < (B : Int)) : l.length ≤ B := by
  have h2 := nodup_below B (nodup_nat hn fun x hx => (h x hx).1) fun x hx => by
    obtain ⟨y, hy, rfl⟩ := List.mem_map.mp hx
    have := h y hy
    omega
  rw [List.length_map] at h2
  exact h2
/-- a set below a bound has few members -/
theorem setR_few {w : World} {h : Heap} {a : Addr} {S : Int → Bool} {c B : Nat} (R : SetR w h a S c) (hS : ∀ k, S k = true → 0 ≤ k ∧ k < (B : Int)) : c ≤ B := by
  obtain ⟨o, es, ep, t, _, _, _, _, nd, hm, _, _, hn, _⟩ := R
  have q := nodup_belowI nd fun x hx => hS x ((hm x).mpr hx)
  rw [List.length_map, Array.length_toList, hn] at q
  exact q
abbrev memI (ns : List Int) : Int → Bool := fun j => decide (j ∈ ns)
abbrev blankSet (w : World) : Obj := { cls := .type "set", dict := none, data := .set #[] 0 (.fresh 0 0 (!w.params.followText "set-order")) }
section
variable {P : Program} {w : World} {A : Around} {E : Value → Shared → Prop} {s : Shared}
theorem fill_ints {I : Addr} {fp wr : List Addr} {G : Array GenState → Array GenState → Prop} {n B : Nat} {Pv : Nat → Value → Prop} {St : Nat → Shared → Prop} {R : Result → Shared → Prop}
    (W : WalksS P w A.in1 I fp wr G n Pv St) (T : Addr) (hT : T ∉ fp) (ns : List Int) (hn : n = ns.length) (hB : B + 1 < scanBound) (hns : ∀ x ∈ ns, 0 ≤ x ∧ x < (B : Int)) (hv : ∀ i v, Pv i v → ∃ k t, ns[i]? = some k ∧ v = .int k t) :
    ∀ (k i : Nat) (s : Shared), n - i = k → i ≤ n → St i s → (∃ c, SetR w s.heap T (memI (ns.take i)) c) →
      (∀ s' c, Moved (T :: wr) G s s' → SetR w s'.heap T (memI ns) c → R (.ok (.ret .none)) s') →
      codeAny (model P w) A (.builtin "set.update.loop" ⟨[.ref T, .ref I], []⟩) R s := by
  have hTw : T ∉ wr := fun h => hT (W.sub _ h)
  have up : ∀ b ∈ wr, b ∈ T :: wr := fun b hb => List.mem_cons_of_mem _ hb
  intro k
  induction k with
  | zero =>
    intro i s hk hi hst ⟨c, R0⟩ done
    obtain rfl : i = n := by omega
    refine codeAny_builtin F.entry_set_update_loop ?_
    rw [Around.under_plainId F.plain_set_update_loop _]
    show wpAny _ A.in1 (pyNext (.ref I) >>= _) _ _ s
    refine wpAny_bind (W.done s _ _ hst fun s1 mv => ?_)
    show wpAny _ A.in1 (ret Value.none) _ _ s1
    rw [show ns.take i = ns from List.take_of_length_le (by omega)] at R0
    exact wpAny_pure (done s1 c (mv.mono up) (R0.at fun o e => mv.heap T o hTw e))
  | succ k ih =>
    intro i s hk hi hst ⟨c, R0⟩ done
    have hlt : i < n := by omega
    refine codeAny_builtin F.entry_set_update_loop ?_
    rw [Around.under_plainId F.plain_set_update_loop _]
    show wpAny _ A.in1 (pyNext (.ref I) >>= _) _ _ s
    refine wpAny_bind (W.item i s _ _ hlt hst fun v s1 hP st1 mv => ?_)
    obtain ⟨z, t, hz, rfl⟩ := hv i v hP
    have R1 : SetR w s1.heap T (memI (ns.take i)) c := R0.at fun o e => mv.heap T o hTw e
    have few : c ≤ B := setR_few R1 fun k hk => hns k (List.mem_of_mem_take (of_decide_eq_true hk))
    show wpAny _ A.in1 (holding [Value.int z t] (setAdd T (.int z t)) >>= _) _ _ s1
    refine wpAny_bind (wpAny_holding ?_)
    unfold setAdd
    refine wpAny_holding ?_
    refine wpAny_bind ((intKind P w).pyHash (k := z) (intKind_is _ _ _ _) ?_)
    refine setR_add_hashed (s := { s1 with toks := s1.toks + 1 }) R1 (by omega) fun h2 sb R2 => ?_
    have R3 := R2.congr (S' := memI (ns.take (i + 1))) fun j => by
      show decide (j ∈ ns.take (i + 1)) = (decide (j ∈ ns.take i) || decide (j = z))
      rw [List.take_add_one, hz]
      simp [List.mem_append]
    refine wpAny_pure ⟨plainId_quiet F.plain_set_update_loop _, ih (i + 1) _ (by omega) hlt (W.frame _ s1 _ _ st1 (Nat.le_succ _) fun b hb o e => ?_) ⟨_, R3⟩ fun s2 c2 mv2 R4 => ?_⟩
    · rw [sb.2 b (fun z => hT (z ▸ hb))]; exact e
    · refine done s2 c2 (Moved.trans W.gtrans ((mv.mono up).then_heap (Nat.le_succ _) fun b o hb e => ?_) mv2) R4
      rw [sb.2 b (fun z => hb (by rw [z]; exact List.mem_cons_self))]; exact e
set_option maxHeartbeats 3200000 in
theorem call_set_ints {l : Addr} {items : Array Value} {B : Nat} (ns : List Int) {Q : Value → Shared → Prop} (hh : A.handled = none) (hl : s.heap.IsList l items) (hi : IntsAre items.toList ns) (hB : B + 1 < scanBound) (hns : ∀ x ∈ ns, 0 ≤ x ∧ x < (B : Int))
    (h : ∀ (h' : Heap) (tk c : Nat), SetR w h' s.heap.objs.size (memI ns) c → (∀ b o, s.heap.get? b = some o → h'.get? b = some o) → Q (.ref s.heap.objs.size) { s with heap := h', toks := tk }) :
    wpAny (model P w) A (call (.type "set") [.ref l]) Q E s := by
  have size_eq : items.size = ns.length := by
    have q := IntsAre.length hi
    rw [Array.length_toList] at q
    exact q
  obtain ⟨c, tl, hmro⟩ := F.called_set.mro
  have hmade := F.called_set.made
  have hsub := F.called_set.sub
  refine wpAny_call (codeAny_of_tree ?_)
  show wpAny _ _ (callAny (.type "set") _) _ _ _
  refine wpAny_pure ⟨Code.quiet_builtin _ (by decide +kernel), codeAny_builtin F.entry_type_call ?_⟩
  rw [Around.under_plain (weight_type_call_type "set" [.ref l] []) rfl]
  have h1 := F.called_set.notType
  have h2 := F.called_set.canCreate
  have hct := F.typeCall_set_1 (.ref l)
  repeat (any_goals (first | assumption | wp_step))
  refine codeAny_mono (code_set_led1 (.ref l) (E := E) (Q₁ := fun obj s₁ => obj = .ref s.heap.objs.size ∧ s₁ = { s with heap := s.heap.push (blankSet w) }) ⟨rfl, rfl⟩) fun r s₁ hr => ?_
  cases r with
  | error e => exact hr
  | ok fl =>
    cases fl with
    | ret obj =>
      obtain ⟨rfl, rfl⟩ := hr
      have gS : (s.heap.push (blankSet w)).get? s.heap.objs.size = some (blankSet w) := Heap.get?_push_size _ rfl
      have tS : Shared.TypeIs { s with heap := s.heap.push (blankSet w) } (.ref s.heap.objs.size) "set" := ⟨_, gS, rfl⟩
      have hli := F.called_set.init.lookup
      have hbi := F.called_set.init.bind (.ref s.heap.objs.size)
      repeat (any_goals (first | assumption | wp_step))
      refine codeAny_mono (codeAny_call_builtin (R := wants (fun r s₂ => r = .none ∧ ∃ h' tk c, s₂ = { s with heap := h', toks := tk } ∧ SetR w h' s.heap.objs.size (memI ns) c ∧ (∀ b o, s.heap.get? b = some o → h'.get? b = some o)) E)
        F.called_set.init.plain F.entry_set_init (check_set_init_1 tS ?_)) fun r₂ s₂ hr₂ => ?_
      · obtain ⟨ol, hol, hcl, nl, hdl⟩ := hl
        obtain ⟨ocls, odict, odata, oslots⟩ := ol
        simp only at hcl hdl
        subst hcl; subst hdl
        have hol1 : (s.heap.push (blankSet w)).get? l = some { cls := .type "list", dict := odict, data := .seq items nl, slots := oslots } := Heap.get?_push_of_some _ hol
        have sub1 := PySem.F.sub_list_set
        have sub2 := PySem.F.sub_list_frozenset
        have ne1 : (Value.type "list" == Value.type "dict") = false := by decide
        have il : (s.heap.push (blankSet w)).IsList l items := ⟨_, hol1, rfl, nl, rfl⟩
        unfold Builtin.«set.__init__» noKeywords Builtin.Frozenset.updateFrom
        generalize hPI : pyIter = PI
        wp_walk
        subst hPI
        refine wpAny_pyIter_list il ?_
        refine wpAny_bind (wpAny_runValue ?_)
        have lS : l < s.heap.objs.size := Heap.lt_size hol
        have hh3 : A.in1.in1.in1.handled = none := by simp [hh]
        have sz : (s.heap.push (blankSet w)).objs.size = s.heap.objs.size + 1 := Heap.size_push ..
        have neI : l ≠ (s.heap.push (blankSet w)).objs.size := by rw [sz]; exact Nat.ne_of_lt (Nat.lt_succ_of_lt lS)
        have nT : s.heap.objs.size ∉ [(s.heap.push (blankSet w)).objs.size, l] := by
          rw [sz]; simp only [List.mem_cons, List.not_mem_nil, or_false, not_or]; exact ⟨Nat.ne_of_lt (Nat.lt_succ_self _), Nat.ne_of_gt lS⟩
        have hv : ∀ (i : Nat) (v : Value), items[i]? = some v → ∃ k t, ns[i]? = some k ∧ v = .int k t := fun i v hv => by
          have hi' : i < ns.length := by rw [← size_eq]; exact (Array.getElem?_eq_some_iff.mp hv).1
          obtain ⟨t, e⟩ := PyProof.Rows.IntsAre.int_at hi i v (by rw [Array.getElem?_toList]; exact hv)
          refine ⟨ns[i], t, List.getElem?_eq_getElem hi', ?_⟩
          rw [e, List.getD_eq_getElem?_getD, List.getElem?_eq_getElem hi'] <;> rfl
        refine fill_ints ((Walks.list hh3 _ l neI items).toS) s.heap.objs.size nT ns size_eq hB hns hv (items.size - 0) 0 _ (by omega) (Nat.zero_le _) ⟨⟨_, Heap.get?_push_size _ rfl, rfl, rfl⟩, (il.push _)⟩ ?first ?last
        case first => exact ⟨0, setR_new_at (Heap.get?_push_of_some _ gS)⟩
        case last =>
          intro s' c' mv R'
          obtain ⟨h', g2, d', tk', os'⟩ := s'
          obtain rfl : g2 = s.gens := mv.gens
          obtain rfl : d' = s.drawn := mv.drawn
          obtain rfl : os' = s.os := mv.os
          show wpAny _ _ _ _ _ _
          refine wpAny_pure ?_
          show wpAny _ _ (ret Value.none) _ _ _
          refine wpAny_pure ⟨rfl, h', tk', c', rfl, R', fun b o e => ?_⟩
          have lb : b < s.heap.objs.size := Heap.lt_size e
          exact mv.heap b o (by simp only [List.mem_cons, List.not_mem_nil, or_false, not_or]; rw [sz]; exact ⟨Nat.ne_of_lt lb, Nat.ne_of_lt (Nat.lt_succ_of_lt lb)⟩) (Heap.get?_push_of_some _ (Heap.get?_push_of_some _ e))
      · cases r₂ with
        | error e => exact hr₂
        | ok fl₂ =>
          cases fl₂ with
          | ret r =>
            obtain ⟨rfl, h', tk, c', rfl, R', kp⟩ := hr₂
            repeat (any_goals (first | assumption | wp_step))
            exact h _ _ _ R' kp
          | _ => exact hr₂.elim
    | _ => exact hr.elim

theorem sorted_set_any {a : Addr} {S : Int → Bool} {n : Nat} {Q : Value → Shared → Prop} (R : SetR w s.heap a S n) (hh : A.handled = none)
    (hQ : ∀ s' p (out : Array Value) (c : Nat) (ns : List Int), (∀ b o, s.heap.get? b = some o → s'.heap.get? b = some o) → s'.gens = s.gens → s'.os = s.os → s.heap.objs.size ≤ p →
      s'.heap.get? p = some (seqObj "list" out c) → IntsAre out.toList ns → ns.Pairwise (· < ·) → (∀ k, k ∈ ns ↔ S k = true) → ns.length = n → Q (.ref p) s') :
    wpAny (model P w) A (call (.builtin "sorted") [.ref a]) Q E s := by
  obtain ⟨o, es, ep, t, ho, hex, hd, g, nd, hm, hb, hf, hn, hr, hl⟩ := R
  refine Calls.call_function_entry kind_sorted plain_sorted entry_sorted (args_sorted1 _) ?_
  unfold Builtin.«sorted»
  refine wpAny_bind (m := checkCount "sorted" 1 1 _) (wpAny_pure ?_)
  refine wpAny_bind (collect_set (A := A.in1) hh ⟨o, ho, hex.1, hd⟩ hf hb hr hl fun s1 vs k1 hz g1 o1 pm => ?_)
  have hvl : vs.length = n := by rw [pm.length_eq, List.length_map, Array.length_toList]; exact hn
  have hnb : n < scanBound := by rw [← hn]; exact hb
  have few : vs.length ≤ sizeLine := by rw [hvl]; exact Nat.le_of_lt (Nat.lt_trans hnb (by decide))
  have hI : IntsAre vs (vs.map Builtin.Re.reRawOf) := ints_of vs fun v hv => by
    obtain ⟨e, he, q⟩ := List.mem_map.mp (pm.mem_iff.mp hv)
    obtain ⟨k, tk, q2, _⟩ := g e he
    exact ⟨k, tk, q ▸ q2⟩
  have pk : (vs.map Builtin.Re.reRawOf).Perm (es.toList.map keyOf) := by
    have q := pm.map Builtin.Re.reRawOf
    rw [List.map_map] at q
    exact q
  refine wpAny_bind (wpAny_newList ?_ few)
  have hoL : (s1.heap.push (seqObj "list" vs.toArray 0)).get? s1.heap.objs.size = some (seqObj "list" vs.toArray 0) := Heap.get?_push_size _ rfl
  refine wpAny_bind (wpAny_holding (wpAny_call_entry slot_list_sort ⟨_, hoL, rfl⟩ entry_list_sort (SrtO.list_sort_ord SrtO.swo_int hoL few (fun h2 => SrtO.ints_sortable hI h2) fun out a1 a2 => ⟨_, rfl, ?_⟩) (args_list_sort _)))
  obtain ⟨j1, j2, j3⟩ := SrtO.ints_out hI a1 a2
  obtain ⟨c, hc⟩ := sortedHeap_at (vs := vs) (out := out.toArray) hoL
  have pn := j2.trans pk
  refine wpAny_pure ⟨_, rfl, hQ _ s1.heap.objs.size out.toArray c (out.map SrtO.iv) (fun b u e => ?_) g1 o1 hz hc j1 (lt_of_le_nodup _ j3 (pn.nodup_iff.mpr nd)) (fun k => by rw [pn.mem_iff, ← hm k]) ?_⟩
  · have q := k1 b u e
    have hlt := Heap.lt_size q
    show (sortedHeap (s1.heap.push (seqObj "list" vs.toArray 0)) s1.heap.objs.size vs out.toArray).get? b = some u
    rw [sortedHeap_old (Nat.ne_of_lt hlt) (by rw [size_push']; exact Nat.lt_succ_of_lt hlt)]
    exact Heap.get?_push_of_some _ q
  · rw [pn.length_eq, List.length_map, Array.length_toList]; exact hn
end
/-- set(xs) -/
def rSetL (K : PySem.W.Frag) (w : World) : List V → Hp → VK → Prop := fun vs H Q => ∃ (a : Addr) (ns : List Int) (B : Nat), vs = [V.ref a] ∧ SqL K H a (ns.map V.int) ∧ B + 1 < scanBound ∧ (∀ x ∈ ns, 0 ≤ x ∧ x < (B : Int)) ∧
  ∀ (p : Addr) (c : Nat), H p = none → Q (.ref p) (upd H p (SetO w p (memI ns) c))
/-- sorted(s) -/
def rSortA (w : World) : List V → Hp → VK → Prop := fun vs H Q => ∃ (a : Addr) (S : Int → Bool) (n : Nat), vs = [V.ref a] ∧ H a = some (SetO w a S n) ∧
  ∀ (ns : List Int) (p : Addr), ns.Pairwise (· < ·) → (∀ k : Int, k ∈ ns ↔ S k = true) → H p = none → Q (.ref p) (upd H p (.lst (ns.map V.int)))
section
variable {X : Cx}
theorem cr_setL (hc : X.calm = true) : CallR X (.type "set") (rSetL X.K X.w) := by
  intro pins s σ H vs us Q I r h
  obtain ⟨a, ns, B, rfl, hs, hB, hns, q⟩ := h
  obtain ⟨its, rv, hl, hz⟩ := I.list hs
  rw [Vals.ref1 r]
  refine call_set_ints (B := B) ns (I.ok.hd hc) hl.isList rv.ints hB hns fun h' tk c R kp => ?_
  exact ⟨.ref _, upd H s.heap.objs.size (SetO X.w s.heap.objs.size (memI ns) c), I.laid (t' := tk) kp (Nat.le_refl _) (setO_new R), rfl, q _ c (I.hok.fresh (Nat.le_refl _))⟩
theorem cr_sortA (hc : X.calm = true) : CallR X (.builtin "sorted") (rSortA X.w) := by
  intro pins s σ H vs us Q I r h
  obtain ⟨a, S, n, rfl, ha, q⟩ := h
  have R := setO_get I ha
  have hnb : n < scanBound := by
    obtain ⟨o, es, ep, t, _, _, _, _, _, _, hb, _, hn, _⟩ := id R
    rw [← hn]; exact hb
  rw [Vals.ref1 r]
  refine sorted_set_any R (I.ok.hd hc) fun s' p out c ns k g o hp hg hi hs hm hl => ?_
  have few : (ns.map V.int).length ≤ sizeLine := by rw [List.length_map, hl]; exact Nat.le_of_lt (Nat.lt_trans hnb (by decide))
  have fresh : H p = none := I.hok.fresh hp
  have J : Inv X pins σ (upd H p (.lst (ns.map V.int))) { s with heap := s'.heap, gens := s'.gens, drawn := s'.drawn, toks := s'.toks } :=
    I.call (ch := []) (Un.laid k hp fresh) (I.hok.laid k hp ⟨few, out.toList, c, vals_of_ints hi, hg⟩) (g ▸ I.bare) (fun _ z => nomatch z)
  have e : s' = { s with heap := s'.heap, gens := s'.gens, drawn := s'.drawn, toks := s'.toks } := by
    cases s'
    cases s
    cases o
    rfl
  rw [e]
  exact ⟨.ref p, _, J, rfl, q ns p hs hm fresh⟩
end
end Pd
set_option Elab.async false
set_option linter.all false
set_option maxRecDepth 100000
set_option maxHeartbeats 4000000
/-! PdZip: for x, y in zip(xs, t) where xs is a list or a tuple and t a tuple. -/
namespace Pd
open PySem PySem.Spec PyProof.Rows L2
/-- a list at a, a tuple at b, walked side by side -/
def ItzM (K : PySem.W.Frag) (a b : Addr) : It :=
  ⟨fun i H => ∃ (xs ys : List V) (x y : V), SqL K H a xs ∧ SqT K H b ys ∧ xs[i]? = some x ∧ ys[i]? = some y,
    fun i H v H' => ∃ T x y, v = .ref T ∧ H T = none ∧ H' = upd H T (.tup [x, y]) ∧ (∀ xs, SqL K H a xs → xs[i]? = some x) ∧ ∀ ys, SqT K H b ys → ys[i]? = some y,
    fun i H => ∃ xs ys : List V, SqL K H a xs ∧ SqT K H b ys ∧ xs.length = i ∧ ys.length = i⟩
theorem five {c z TI TO i1 i2 : Addr} (h : c ∈ [z, TI, TO, i1, i2]) : c = z ∨ c = TI ∨ c = TO ∨ c = i1 ∨ c = i2 := by simpa using h
theorem not_five {c z TI TO i1 i2 : Addr} (h : c ∉ [z, TI, TO, i1, i2]) : c ≠ z ∧ c ≠ TI ∧ c ≠ TO ∧ c ≠ i1 ∧ c ≠ i2 := by simpa using h
theorem turn_zipM {P : Program} {w : World} {K : PySem.W.Frag} {elts : List Expr} {kk : Nat} {tpos : Pos} {a b z TI TO i1 i2 : Addr} (D : ZipSep2 z TI TO i1 i2 [i1, a] [i2, b]) :
    Turn P w K (.Tuple elts kk tpos) (ItzM K a b) [z, TI, TO, i1, i2] z (fun i h => IsZip h z TI TO .none ∧ IsPair h TI (.ref i1) (.ref i2) ∧ (∃ x y, IsPair h TO x y) ∧ h.IsListIter i1 a i ∧ h.IsTupleIter i2 b i) where
  mem := by simp
  obj := fun i h st c hc => by
    obtain ⟨hz, hTI, ⟨x, y, hTO⟩, ⟨o1, e1, _, d1⟩, ⟨o2, e2, _, d2⟩⟩ := st
    rcases five hc with q | q | q | q | q
    · rw [q]; exact ⟨_, hz, fun v q => nomatch q⟩
    · rw [q]; exact ⟨_, hTI, fun v q => nomatch q⟩
    · rw [q]; exact ⟨_, hTO, fun v q => nomatch q⟩
    · rw [q]; exact ⟨o1, e1, fun v q => by rw [d1] at q; cases q⟩
    · rw [q]; exact ⟨o2, e2, fun v q => by rw [d2] at q; cases q⟩
  keep := fun i h h' st k => by
    obtain ⟨hz, hTI, ⟨x, y, hTO⟩, h1, h2⟩ := st
    exact ⟨k z (by simp) _ hz, k TI (by simp) _ hTI, ⟨x, y, k TO (by simp) _ hTO⟩, h1.at fun o q => k i1 (by simp) o q, h2.at fun o q => k i2 (by simp) o q⟩
  item := by
    intro X hP hw hK hc i pins s σ H E I hf st hg
    subst hP hw hK
    obtain ⟨hz, hTI, ⟨x0, y0, hTO⟩, h1, h2⟩ := st
    obtain ⟨xs, ys, x, y, qx, qy, hx, hy⟩ := hg
    obtain ⟨its, rv, p1, _⟩ := I.list qx
    obtain ⟨its2, rv2, p2, _⟩ := I.tuple qy
    obtain ⟨u, hu, ru⟩ := rv.get hx
    obtain ⟨u2, hu2, ru2⟩ := rv2.get hy
    have hd : X.A.in1.handled = none := I.ok.hd hc
    have zl : z < s.heap.objs.size := Heap.lt_size hz
    have n1 : i < its.toArray.size := by rw [List.size_toArray]; exact (List.getElem?_eq_some_iff.mp hu).1
    have n2 : i < its2.toArray.size := by rw [List.size_toArray]; exact (List.getElem?_eq_some_iff.mp hu2).1
    have ne1 : a ≠ i1 := fun e => by
      obtain ⟨o1, e1, c1, _⟩ := h1
      obtain ⟨o2, e2, c2, _⟩ := p1.isList
      rw [e] at e2
      rw [e1] at e2
      cases e2
      rw [c1] at c2
      exact absurd (Value.type.inj c2) (by decide)
    have ne2 : b ≠ i2 := fun e => by
      obtain ⟨o1, e1, c1, _⟩ := h2
      obtain ⟨o2, e2, c2, _⟩ := p2
      rw [e] at e2
      rw [e1] at e2
      cases e2
      rw [c1] at c2
      exact absurd (Value.type.inj c2) (by decide)
    refine wpAny_pyNext_zipD2_item D (Draws.list hd i1 a ne1 its.toArray) (Draws.tuple hd i2 b ne2 its2.toArray) hz hTI hTO ⟨h1, p1.isList⟩ ⟨h2, p2⟩ n1 n2 fun v1 v2 h' tk e1 e2 z' TO' st1 st2 hT hsz hk => ?_
    obtain rfl : v1 = u := Option.some.inj ((show its.toArray[i]? = some v1 from e1).symm.trans (by simpa using hu))
    obtain rfl : v2 = u2 := Option.some.inj ((show its2.toArray[i]? = some v2 from e2).symm.trans (by simpa using hu2))
    refine ⟨_, rfl, wpAny_letOwnedTupleGo_zip (s := { s with heap := h', toks := tk }) z' fun h'' z'' sb => ?_⟩
    have hT2 : h''.get? s.heap.objs.size = some { cls := .type "tuple", data := .seq #[v1, v2] } := (sb.2 _ (Nat.ne_of_gt zl)).trans hT
    have new : ObjOk X.prog X.w (upd H s.heap.objs.size (.tup [x, y])) h'' s.heap.objs.size (.tup [x, y]) :=
      ⟨small_two, [v1, v2], .cons ru (.cons ru2 .nil), ⟨_, hT2, rfl, _, rfl⟩⟩
    have I1 : Inv X pins σ (upd H s.heap.objs.size (.tup [x, y])) { s with heap := h'', toks := tk } :=
      I.turnedNew (t' := tk) (ch := [z, TI, TO, i1, i2]) (fun c o hb q => by
        obtain ⟨c1, c2, c3, c4, c5⟩ := not_five hb
        exact (sb.2 c c1).trans (hk c o c1 c3 c4 c5 q)) hf (Nat.le_refl _) new
    refine ⟨.ref s.heap.objs.size, _, I1, rfl, ⟨_, x, y, rfl, I.hok.fresh (Nat.le_refl _), rfl, fun l hl => by rw [I.list_inj hl qx]; exact hx, fun l hl => by rw [I.tuple_inj hl qy]; exact hy⟩, ⟨z'', ?_, ⟨v1, v2, ?_⟩, ?_, ?_⟩, fun c hcm => ?_⟩
    · exact (sb.2 _ D.TIz).trans (hk _ _ D.TIz D.TITO D.TIi1 D.TIi2 hTI)
    · exact (sb.2 _ D.TOz).trans TO'
    · exact st1.1.at fun o q => (sb.2 _ (Ne.symm D.zi1)).trans q
    · exact st2.1.at fun o q => (sb.2 _ (Ne.symm D.zi2)).trans q
    · have hlt : c < s.heap.objs.size := by
        rcases five hcm with q | q | q | q | q
        · rw [q]; exact zl
        · rw [q]; exact Heap.lt_size hTI
        · rw [q]; exact Heap.lt_size hTO
        · rw [q]; obtain ⟨_, e1, _⟩ := h1; exact Heap.lt_size e1
        · rw [q]; obtain ⟨_, e2, _⟩ := h2; exact Heap.lt_size e2
      rw [upd_ne (Nat.ne_of_lt hlt)]
      exact (hf c hcm).1
  done := by
    intro X hP hw hK hc i pins s σ H E I hf st hg
    subst hP hw hK
    obtain ⟨hz, hTI, ⟨x0, y0, hTO⟩, h1, h2⟩ := st
    obtain ⟨xs, ys, qx, qy, lx, ly⟩ := hg
    obtain ⟨its, rv, p1, _⟩ := I.list qx
    obtain ⟨its2, rv2, p2, _⟩ := I.tuple qy
    have l1 := rv.length
    have l2 := rv2.length
    have hd : X.A.in1.handled = none := I.ok.hd hc
    have ne1 : a ≠ i1 := fun e => by
      obtain ⟨o1, e1, c1, _⟩ := h1
      obtain ⟨o2, e2, c2, _⟩ := p1.isList
      rw [e] at e2
      rw [e1] at e2
      cases e2
      rw [c1] at c2
      exact absurd (Value.type.inj c2) (by decide)
    have ne2 : b ≠ i2 := fun e => by
      obtain ⟨o1, e1, c1, _⟩ := h2
      obtain ⟨o2, e2, c2, _⟩ := p2
      rw [e] at e2
      rw [e1] at e2
      cases e2
      rw [c1] at c2
      exact absurd (Value.type.inj c2) (by decide)
    have m1 : its.toArray.size = i := by rw [List.size_toArray, ← l1, lx]
    have m2 : its2.toArray.size = i := by rw [List.size_toArray, ← l2, ly]
    exact wpAny_pyNext_zipD2_end D (Draws.list hd i1 a ne1 its.toArray) (Draws.tuple hd i2 b ne2 its2.toArray) hz hTI hTO ⟨h1, p1.isList⟩ ⟨h2, p2⟩ (by rw [m1]; exact Nat.le_refl _) (by rw [m2]; exact Nat.le_refl _) (.inl m1.symm) fun h' tk hk => ⟨rfl, I.turnedL (t' := tk) (ch := [z, TI, TO, i1, i2]) (fun c o hb q => by
      obtain ⟨c1, c2, c3, c4, c5⟩ := not_five hb
      exact hk c o c1 c3 c4 c5 q) hf⟩
  self := fun A i s Q E st h => wpAny_pyIter_zip st.1 h
where
  small_two : 2 ≤ sizeLine := by decide

theorem sep_nat {n a b : Nat} (la : a < n) (lb : b < n) : ZipSep2 (n + 4) (n + 2) (n + 3) n (n + 1) [n, a] [n + 1, b] := by
  constructor <;> simp <;> (try constructor) <;> first | exact Nat.ne_of_gt (by omega) | exact Nat.ne_of_lt (by omega)
def iZipM (K : PySem.W.Frag) (ta : TA) : TI := fun σ H R => ta σ H fun vs H1 => ∃ a b xs ys, vs = [.ref a, .ref b] ∧ ((SqT K H1 a xs ∧ SqT K H1 b ys ∧ R (RZ.ItzT K a b) H1) ∨ (SqL K H1 a xs ∧ SqT K H1 b ys ∧ R (ItzM K a b) H1))
theorem pi_zipM {X : Cx} {e e2 : Expr} {ta : TA} {p pos tpos : Pos} {elts : List Expr} {kk : Nat} (hg : Gl X "zip") (hm : X.mg "zip" = none) (ha : PA X [e, e2] ta)
    (hs : starEach [e, e2] X.env = (false, eval e X.env) :: starEach [e2] X.env := by rfl) (hpl : (backTo pos (starEach [e2] X.env)).any (·.1) = false := by rfl) :
    PI X (.Tuple elts kk tpos) (.Call (.Name "zip" p) [e, e2] [] pos) (iZipM X.K ta) := by
  refine ⟨fun pins s σ H R I h => ?_⟩
  refine Call_ (ld_blt I hg hm PyProof.Rows.boot_zip (PyProof.Rows.callWith_type1 (thn (ha.run pos pins s σ H _ I h) fun us s1 ⟨vs, H1, I1, r1, q1⟩ => ?_) hs hpl))
  obtain ⟨a, b, xs, ys, rfl, q1⟩ := q1
  obtain ⟨u1, u2, rfl, r, r'⟩ := vals2 r1
  cases r
  cases r'
  have fresh5 : ∀ c, c ∈ [s1.heap.objs.size + 4, s1.heap.objs.size + 2, s1.heap.objs.size + 3, s1.heap.objs.size, s1.heap.objs.size + 1] → FpOk X pins H1 c := fun c hcm => by
    have hle : s1.heap.objs.size ≤ c := by
      rcases five hcm with z | z | z | z | z
      · rw [z]; exact Nat.le_add_right _ _
      · rw [z]; exact Nat.le_add_right _ _
      · rw [z]; exact Nat.le_add_right _ _
      · rw [z]; exact Nat.le_refl _
      · rw [z]; exact Nat.le_add_right _ _
    exact I1.fpOk hle (I1.hok.fresh hle)
  rcases q1 with ⟨qx, qy, q⟩ | ⟨qx, qy, q⟩
  · obtain ⟨its, rv, p1, _⟩ := I1.tuple qx
    obtain ⟨its2, rv2, p2, _⟩ := I1.tuple qy
    obtain ⟨o1, ho1, _⟩ := id p1
    obtain ⟨o2, ho2, _⟩ := id p2
    refine RZ.call_zipT (show s1.heap.IsTuple a its.toArray from p1) (show s1.heap.IsTuple b its2.toArray from p2) fun h' hz hTI hTO h1 h2 hsz hk => wpAny_pyIter_zip hz ?_
    have I2 : Inv X pins σ H1 { s1 with heap := h' } := I1.kept (t' := s1.toks) hk
    exact ⟨s1.heap.objs.size + 4, _, _, _, H1, rfl, I2, RZ.turn_zipT (PySem.W.ktu_apart s1.heap.objs.size a b (Heap.lt_size ho1) (Heap.lt_size ho2)), ⟨hz, hTI, ⟨_, _, hTO⟩, h1, h2⟩, fresh5, q⟩
  · obtain ⟨its, rv, p1, _⟩ := I1.list qx
    obtain ⟨its2, rv2, p2, _⟩ := I1.tuple qy
    obtain ⟨o2, ho2, _⟩ := id p2
    have la : a < s1.heap.objs.size := p1.lt
    have lb : b < s1.heap.objs.size := Heap.lt_size ho2
    refine zip_begins2 (begins_list a its.toArray) (begins_tuple b its2.toArray) p1.isList p2 fun h' hz hTI hTO g1 g2 hsz hk => wpAny_pyIter_zip hz ?_
    have I2 : Inv X pins σ H1 { s1 with heap := h' } := I1.kept (t' := s1.toks) hk
    have sep := sep_nat (n := s1.heap.objs.size) la lb
    exact ⟨s1.heap.objs.size + 4, _, _, _, H1, rfl, I2, turn_zipM sep, ⟨hz, hTI, ⟨_, _, hTO⟩, ⟨_, g1, rfl, rfl⟩, ⟨_, g2, rfl, rfl⟩⟩, fresh5, q⟩
theorem for_zipM {K : PySem.W.Frag} {a b : Addr} {xs ys : List V} {g : TG} {tb : TS} {D : Ends} {σ : L2.St} {H : Hp} (hl : xs.length = ys.length) (Pv : Nat → L2.St → Hp → Prop) (h0 : Pv 0 σ H) (hq : ∀ i σ H, Pv i σ H → SqL K H a xs ∧ SqT K H b ys)
    (hs : ∀ (i : Nat) (x y : V) (T : Addr) (σ : L2.St) (H : Hp), xs[i]? = some x → ys[i]? = some y → Pv i σ H → H T = none → g (.ref T) σ (upd H T (.tup [x, y])) fun σ2 H2 => tb { D with nx := Pv (i + 1), ct := Pv (i + 1), bk := D.nx } σ2 H2) (hd : ∀ σ H, Pv xs.length σ H → D.nx σ H) :
    ∃ W : Nat → Nat → L2.St → Hp → Prop, (∃ m, W 0 m σ H) ∧ ∀ i m σ H, W i m σ H →
      ((ItzM K a b).stop i H ∧ D.nx σ H) ∨ ((ItzM K a b).go i H ∧ ∃ N : L2.St → Hp → Prop, (∀ σ' H', N σ' H' → ∃ m', m' < m ∧ W (i + 1) m' σ' H') ∧ ∀ v H', (ItzM K a b).yld i H v H' → g v σ H' fun σ2 H2 => tb { D with nx := N, ct := N, bk := D.nx } σ2 H2) := by
  refine ⟨fun i m σ H => m = xs.length - i ∧ i ≤ xs.length ∧ Pv i σ H, ⟨xs.length, rfl, Nat.zero_le _, h0⟩, ?_⟩
  rintro i m σ H ⟨rfl, hi, p⟩
  obtain ⟨qx, qy⟩ := hq i σ H p
  by_cases hlt : i < xs.length
  · have hx : xs[i]? = some xs[i] := List.getElem?_eq_getElem hlt
    have hlt2 : i < ys.length := by omega
    have hy : ys[i]? = some ys[i] := List.getElem?_eq_getElem hlt2
    refine .inr ⟨⟨xs, ys, _, _, qx, qy, hx, hy⟩, Pv (i + 1), fun σ' H' p' => ⟨xs.length - (i + 1), by omega, rfl, hlt, p'⟩, ?_⟩
    rintro v H' ⟨T, x', y', rfl, hT, rfl, f1, f2⟩
    exact hs i x' y' T σ H (f1 xs qx) (f2 ys qy) p hT
  · obtain rfl : i = xs.length := by omega
    exact .inl ⟨⟨xs, ys, qx, qy, rfl, hl.symm⟩, hd σ H p⟩
end Pd
set_option Elab.async false
set_option linter.all false
set_option maxRecDepth 100000
set_option maxHeartbeats 1000000
/-! PdSp: what each def promises. -/
namespace Pd
open PySem PySem.Spec PyProof.Rows L2
abbrev tx (z : Str) : List Nat := z.cps.toList
theorem tx_len (z : Str) : (tx z).length = z.length := by
  show z.cps.toList.length = z.cps.size
  rw [Array.length_toList]
abbrev oi : Option Nat → V
  | none => .non
  | some e => .int (e : Int)
/-- a pattern as it stands in the heap -/
abbrev PtV (K : PySem.W.Frag) (H : Hp) (v : V) (p : Pat) : Prop := Dp K H v (enc p)
/-- a list of lists of places -/
def Lol (H : Hp) (a : Addr) (xss : List (List Nat)) : Prop := ∃ as : List Addr, H a = some (.lst (as.map V.ref)) ∧ as.length = xss.length ∧ ∀ (i : Nat) (b : Addr) (xs : List Nat), as[i]? = some b → xss[i]? = some xs → H b = some (.lst (nv xs))
/-- the same, all lists are new since H -/
def LolN (H H' : Hp) (a : Addr) (xss : List (List Nat)) : Prop := ∃ as : List Addr, H' a = some (.lst (as.map V.ref)) ∧ as.length = xss.length ∧ (∀ (i : Nat) (b : Addr) (xs : List Nat), as[i]? = some b → xss[i]? = some xs → H' b = some (.lst (nv xs))) ∧ ∀ b ∈ as, H b = none
theorem LolN.lol {H H' : Hp} {a : Addr} {xss : List (List Nat)} (h : LolN H H' a xss) : Lol H' a xss := let ⟨as, h1, h2, h3, _⟩ := h; ⟨as, h1, h2, h3⟩
/-! ### a Splitter -/
structure SA where
  x : Addr
  dx : Addr
  tl : Addr
  ul : Addr
  d : Addr
  z : Str
  tp : List Pat
  up : List (List Nat)
abbrev SA.fs (S : SA) : List (Str × V) := [("text", .str S.z), ("trees", .ref S.tl), ("under", .ref S.ul), ("known_ends", .ref S.d)]
/-- the numbers of the parts fit -/
def Nums (tp : List Pat) (up : List (List Nat)) : Prop := ∀ (n : Nat) (p : Pat), tp[n]? = some p → ∃ cs : List Nat, up[n]? = some cs ∧ cs.length = p.kids.length ∧ ∀ (i : Nat) (c : Nat) (q : Pat), cs[i]? = some c → p.kids[i]? = some q → tp[c]? = some q
abbrev kNS (n s : Nat) : List Key := [Sum.inl (n : Int), Sum.inl (s : Int)]
/-- the ends that are known already -/
structure Known (S : SA) (H : Hp) (kvs : List (List Key × V)) : Prop where
  nd : (kvs.map (·.1)).Nodup
  at_ : ∀ k v, (k, v) ∈ kvs → ∃ (n s : Nat) (p : Pat) (a : Addr), k = kNS n s ∧ S.tp[n]? = some p ∧ s ≤ S.z.length ∧ v = .ref a ∧ H a = some (.lst (nv (ends (tx S.z) p s)))
structure Spl (K : PySem.W.Frag) (S : SA) (H : Hp) : Prop where
  ins : H S.x = some (.ins (Cs K) S.dx S.fs)
  tr : ∃ tv, H S.tl = some (.lst tv) ∧ DpAll K H tv (S.tp.map enc)
  un : Lol H S.ul S.up
  nums : Nums S.tp S.up
  wf : ∀ p ∈ S.tp, Wf p
  few : S.tp.length ≤ 1000
  short : S.z.length ≤ 1000
  dict : ∃ kvs, H S.d = some (.dT kvs) ∧ Known S H kvs
theorem Lol.kp {H H' : Hp} {a : Addr} {xss : List (List Nat)} (e : Kp H H') (h : Lol H a xss) : Lol H' a xss := by
  obtain ⟨as, h1, h2, h3⟩ := h
  exact ⟨as, e _ _ h1 rfl, h2, fun i b xs q1 q2 => e _ _ (h3 i b xs q1 q2) rfl⟩
theorem Known.kp {S : SA} {H H' : Hp} {kvs : List (List Key × V)} (e : Kp H H') (h : Known S H kvs) : Known S H' kvs := ⟨h.nd, fun k v hm => by
  obtain ⟨n, s, p, a, e1, e2, e3, e4, e5⟩ := h.at_ k v hm
  exact ⟨n, s, p, a, e1, e2, e3, e4, e _ _ e5 rfl⟩⟩
theorem Spl.kp {K : PySem.W.Frag} {S : SA} {H H' : Hp} (e : Kp H H') (hd : H' S.d = H S.d) (h : Spl K S H) : Spl K S H' := by
  obtain ⟨tv, t1, t2⟩ := h.tr
  obtain ⟨kvs, k1, k2⟩ := h.dict
  exact ⟨e _ _ h.ins rfl, ⟨tv, e _ _ t1 rfl, e.dpAll t2⟩, h.un.kp e, h.nums, h.wf, h.few, h.short, kvs, hd.trans k1, k2.kp e⟩
theorem Spl.new {K : PySem.W.Frag} {S : SA} {H : Hp} {p : Addr} {o : HO} (h : Spl K S H) (hp : H p = none) : Spl K S (upd H p o) := by
  obtain ⟨kvs, k1, _⟩ := h.dict
  exact h.kp (Kp.new hp o) (upd_ne (ne_of_none k1 hp))
/-- what a method of it leaves: all stands, the dict may have grown by new lists -/
structure Go (K : PySem.W.Frag) (S : SA) (H H' : Hp) : Prop where
  kp : Kp H H'
  spl : Spl K S H'
  new : ∀ kvs kvs', H S.d = some (.dT kvs) → H' S.d = some (.dT kvs') → ∀ e ∈ kvs', e ∈ kvs ∨ ∃ a, e.2 = .ref a ∧ H a = none
theorem Go.refl {K : PySem.W.Frag} {S : SA} {H : Hp} (h : Spl K S H) : Go K S H H := ⟨Kp.refl H, h, fun k k' e e' x hx => .inl (by rw [e] at e'; cases e'; exact hx)⟩
theorem Go.trans {K : PySem.W.Frag} {S : SA} {H H1 H2 : Hp} (a : Go K S H H1) (b : Go K S H1 H2) : Go K S H H2 := ⟨a.kp.trans b.kp, b.spl, fun k k2 e e2 x hx => by
  obtain ⟨k1, e1⟩ := a.kp.dt _ _ e
  rcases b.new k1 k2 e1 e2 x hx with h | ⟨p, h1, h2⟩
  · exact a.new k k1 e e1 x h
  · exact .inr ⟨p, h1, a.kp.free h2⟩⟩
theorem Go.fresh {K : PySem.W.Frag} {S : SA} {H : Hp} {p : Addr} (h : Spl K S H) (hp : H p = none) (o : HO) : Go K S H (upd H p o) := ⟨Kp.new hp o, h.new hp, fun k k' e e' x hx => .inl (by
  rw [upd_ne (ne_of_none e hp), e] at e'
  cases e'
  exact hx)⟩
theorem Go.add {K : PySem.W.Frag} {S : SA} {H H1 : Hp} {p : Addr} (g : Go K S H H1) (hp : H1 p = none) (o : HO) : Go K S H (upd H1 p o) := g.trans (Go.fresh g.spl hp o)
/-- a def that leaves all as it was -/
theorem Spl.same {K : PySem.W.Frag} {S : SA} {H H' : Hp} (h : Spl K S H) (s : Same H H') : Spl K S H' := by
  obtain ⟨k, e, _⟩ := h.dict
  exact h.kp (Kp.of s) ((s _ _ e).trans e.symm)
theorem Go.same {K : PySem.W.Frag} {S : SA} {H H1 H' : Hp} (g : Go K S H H1) (s : Same H1 H') : Go K S H H' := g.trans ⟨Kp.of s, g.spl.same s, fun k k' e e' x hx => .inl (by
  rw [s _ _ e] at e'
  cases e'
  exact hx)⟩
/-- G is none of the dict's lists -/
def Off (S : SA) (H : Hp) (G : Addr) : Prop := ∀ kvs, H S.d = some (.dT kvs) → ∀ k, (k, V.ref G) ∉ kvs
theorem Off.go {K : PySem.W.Frag} {S : SA} {H H' : Hp} {G : Addr} {o : HO} (f : Off S H G) (g : Go K S H H') (hG : H G = some o) (h : Spl K S H) : Off S H' G := fun kvs' e' k hm => by
  obtain ⟨kvs, e, _⟩ := h.dict
  rcases g.new kvs kvs' e e' _ hm with q | ⟨a, q1, q2⟩
  · exact f kvs e k q
  · cases (V.ref.inj q1)
    rw [hG] at q2
    cases q2
def InD (S : SA) (H : Hp) (a : Addr) : Prop := ∃ kvs k, H S.d = some (.dT kvs) ∧ (k, V.ref a) ∈ kvs
theorem Off.ne {S : SA} {H : Hp} {a G : Addr} (f : Off S H G) (i : InD S H a) : a ≠ G := fun z => by
  subst z
  obtain ⟨kvs, k, e, m⟩ := i
  exact f kvs e k m
/-- G holds what is made, since H0 -/
structure Acc (K : PySem.W.Frag) (S : SA) (H0 H : Hp) (G : Addr) (xs : List V) : Prop where
  go : Go K S H0 H
  off : Off S H G
  at_ : H G = some (.lst xs)
  free : H0 G = none
theorem Acc.start {K : PySem.W.Frag} {S : SA} {H : Hp} {G : Addr} {xs : List V} (h : Spl K S H) (hG : H G = none) : Acc K S H (upd H G (.lst xs)) G xs := ⟨Go.fresh h hG _, fun kvs e k hm => by
  obtain ⟨kv, e1, e2⟩ := h.dict
  rw [upd_ne (ne_of_none e1 hG), e1] at e
  cases e
  obtain ⟨n, s, p, a, _, _, _, q, hl⟩ := e2.at_ _ _ hm
  cases (V.ref.inj q)
  rw [hG] at hl
  exact (nomatch hl), upd_same, hG⟩
theorem Acc.then {K : PySem.W.Frag} {S : SA} {H0 H H' : Hp} {G : Addr} {xs : List V} (a : Acc K S H0 H G xs) (g : Go K S H H') : Acc K S H0 H' G xs := ⟨a.go.trans g, a.off.go g a.at_ a.go.spl, g.kp _ _ a.at_ rfl, a.free⟩
theorem Acc.push {K : PySem.W.Frag} {S : SA} {H0 H : Hp} {G : Addr} {xs ys : List V} (h0 : Spl K S H0) (a : Acc K S H0 H G xs) : Acc K S H0 (upd H G (.lst ys)) G ys := by
  obtain ⟨kv0, j1, _⟩ := h0.dict
  obtain ⟨tv, t1, t2⟩ := h0.tr
  obtain ⟨kv, d1, d2⟩ := a.go.spl.dict
  have ne : S.d ≠ G := ne_of_none j1 a.free
  have e : Kp H0 (upd H G (.lst ys)) := a.go.kp.over a.free _
  have dd : upd H G (.lst ys) S.d = some (.dT kv) := (upd_ne ne).trans d1
  refine ⟨⟨e, ⟨e _ _ h0.ins rfl, ⟨tv, e _ _ t1 rfl, e.dpAll t2⟩, h0.un.kp e, h0.nums, h0.wf, h0.few, h0.short, kv, dd, d2.nd, fun k v hm => ?_⟩, fun k k' q q' x hx => ?_⟩, fun kvs q k hm => ?_, upd_same, a.free⟩
  · obtain ⟨n, s, p, b, e1, e2, e3, rfl, e5⟩ := d2.at_ k v hm
    have nb : b ≠ G := fun z => by
      subst z
      exact a.off kv d1 k hm
    exact ⟨n, s, p, b, e1, e2, e3, rfl, (upd_ne nb).trans e5⟩
  · rw [dd] at q'
    cases q'
    exact a.go.new k kv q d1 x hx
  · rw [dd] at q
    cases q
    exact a.off kv d1 k hm

/-! ### the promises -/
section
variable (K : PySem.W.Frag)
def spIsInteger : Sp := fun vs H Q _ => ∃ (v : V) (d : PyData), vs = [v] ∧ Dp K H v d ∧ Q (.bl (match d with | .int _ => true | _ => false)) H
def spIsBetween : Sp := fun vs H Q _ => ∃ (v : V) (d : PyData) (lo hi : Int), vs = [.int lo, v, .int hi] ∧ Dp K H v d ∧ Q (.bl (match d with | .int i => decide (lo ≤ i) && decide (i ≤ hi) | _ => false)) H
def spIsIndexOf : Sp := fun vs H Q _ => ∃ (v : V) (d : PyData) (n : Int), vs = [.int n, v] ∧ Dp K H v d ∧ Q (.bl (match d with | .int i => decide (0 ≤ i) && decide (i ≤ n - 1) | _ => false)) H
def spPartsUnder : Sp := fun vs H Q _ => ∃ (v : V) (p : Pat), vs = [v] ∧ PtV K H v p ∧ ∀ (a : Addr) (xs : List V) (H' : Hp), SqT K H' a xs → DpAll K H' xs (p.kids.map enc) → Same H H' → Q (.ref a) H'
def spLeafEnd : Sp := fun vs H Q _ => ∃ (v : V) (l : Leaf) (z : Str) (s : Nat), vs = [v, .str z, .int (s : Int)] ∧ Dp K H v l.enc ∧ z.length ≤ 1000 ∧ s ≤ z.length ∧ ∀ H', Same H H' → Q (oi (leafEnd (tx z) l s)) H'
def spAscending : Sp := fun vs H Q _ => ∃ (a : Addr) (xs : List Nat) (n : Nat), vs = [.ref a] ∧ SqL K H a (nv xs) ∧ n ≤ 1000 ∧ (∀ e ∈ xs, e ≤ n) ∧ ∀ (p : Addr) (H' : Hp), Same H H' → H p = none → H' p = some (.lst (nv (asc n xs))) → Q (.ref p) H'
def spNumberTree (D : Nat) : Sp := fun vs H Q _ => ∃ (x dx tl ul d : Addr) (z : Str) (v : V) (p : Pat) (tv : List V) (ua : List Addr), vs = [.ref x, v] ∧ H x = some (.ins (Cs K) dx [("text", .str z), ("trees", .ref tl), ("under", .ref ul), ("known_ends", .ref d)]) ∧ PtV K H v p ∧ Wf p ∧ dep p ≤ D ∧ tl ≠ ul ∧
  H tl = some (.lst tv) ∧ H ul = some (.lst (ua.map V.ref)) ∧ tv.length = ua.length ∧ tv.length + (nodes p).length ≤ 1000 ∧
  ∀ (H' : Hp) (tw : List V) (uw : List Addr), (∀ b o, H b = some o → b ≠ tl → b ≠ ul → H' b = some o) → H' tl = some (.lst (tv ++ tw)) → DpAll K H' tw ((nodes p).map enc) → H' ul = some (.lst ((ua ++ uw).map V.ref)) →
    uw.length = (unders tv.length p).length → (∀ (i : Nat) (b : Addr) (cs : List Nat), uw[i]? = some b → (unders tv.length p)[i]? = some cs → H b = none ∧ H' b = some (.lst (nv cs))) → Q (.int (tv.length : Int)) H'
def spInit : Sp := fun vs H Q _ => ∃ (x dx : Addr) (v : V) (p : Pat) (z : Str), vs = [.ref x, v, .str z] ∧ H x = some (.ins (Cs K) dx []) ∧ H dx = some (.own x) ∧ PtV K H v p ∧ Wf p ∧ dep p ≤ 8 ∧ (nodes p).length ≤ 900 ∧ z.length ≤ 1000 ∧
  ∀ (H' : Hp) (S : SA), (∀ b o, H b = some o → b ≠ x → H' b = some o) → S.x = x → S.z = z → S.tp[0]? = some p → Spl K S H' → Q .non H'
def spEnds (D : Nat) : Sp := fun vs H Q _ => ∃ (S : SA) (n s : Nat) (p : Pat), vs = [.ref S.x, .int (n : Int), .int (s : Int)] ∧ Spl K S H ∧ S.tp[n]? = some p ∧ dep p ≤ D ∧ s ≤ S.z.length ∧
  ∀ (a : Addr) (H' : Hp), Go K S H H' → InD S H' a → H' a = some (.lst (nv (ends (tx S.z) p s))) → Q (.ref a) H'
def spFind (D : Nat) : Sp := fun vs H Q _ => ∃ (S : SA) (n s : Nat) (p : Pat), vs = [.ref S.x, .int (n : Int), .int (s : Int)] ∧ Spl K S H ∧ S.tp[n]? = some p ∧ dep p ≤ D ∧ s ≤ S.z.length ∧
  ∀ (a : Addr) (H' : Hp), H a = none → Go K S H H' → H' a = some (.lst (nv (ends (tx S.z) p s))) → Q (.ref a) H'
def spReach (D : Nat) : Sp := fun vs H Q _ => ∃ (S : SA) (n s : Nat) (ps : List Pat), vs = [.ref S.x, .int (n : Int), .int (s : Int)] ∧ Spl K S H ∧ S.tp[n]? = some (.row ps) ∧ deps ps ≤ D ∧ s ≤ S.z.length ∧
  ∀ (a : Addr) (H' : Hp), Go K S H H' → LolN H H' a (reaches (tx S.z) ps [s]) → Q (.ref a) H'
def spLayers (D : Nat) : Sp := fun vs H Q _ => ∃ (S : SA) (n s : Nat) (p : Pat) (l : Nat) (m : Option Nat), vs = [.ref S.x, .int (n : Int), .int (s : Int)] ∧ Spl K S H ∧ S.tp[n]? = some (.rep p l m) ∧ dep p ≤ D ∧ s ≤ S.z.length ∧
  ∀ (a : Addr) (H' : Hp) (top : Nat), Go K S H H' → Lol H' a ((List.range (top + 1)).map (lay (tx S.z).length (ends (tx S.z) p) l s)) → (lay (tx S.z).length (ends (tx S.z) p) l s top = [] ∨ m = some top) → (∀ x, m = some x → top ≤ x) → top ≤ l + S.z.length + 2 → Q (.ref a) H'
def spDerive (D : Nat) : Sp := fun vs H Q _ => ∃ (S : SA) (n s e : Nat) (p : Pat), vs = [.ref S.x, .int (n : Int), .int (s : Int), .int (e : Int)] ∧ Spl K S H ∧ S.tp[n]? = some p ∧ dep p ≤ D ∧ s ≤ S.z.length ∧
  ∀ (v : V) (H' : Hp), Go K S H H' → Dp K H' v (if e ∈ ends (tx S.z) p s then der (tx S.z) p s e else .none) → Q v H'
def spRowDer (D : Nat) : Sp := fun vs H Q _ => ∃ (S : SA) (n s e : Nat) (ps : List Pat), vs = [.ref S.x, .int (n : Int), .int (s : Int), .int (e : Int)] ∧ Spl K S H ∧ S.tp[n]? = some (.row ps) ∧ deps ps ≤ D ∧ s ≤ S.z.length ∧ e ∈ rowEnds (tx S.z) ps [s] ∧
  ∀ (v : V) (H' : Hp), Go K S H H' → Dp K H' v (.tuple (rowDer (tx S.z) ps [s] e).1) → Q v H'
def spCopyDer (D : Nat) : Sp := fun vs H Q _ => ∃ (S : SA) (n s e : Nat) (p : Pat) (l : Nat) (m : Option Nat), vs = [.ref S.x, .int (n : Int), .int (s : Int), .int (e : Int)] ∧ Spl K S H ∧ S.tp[n]? = some (.rep p l m) ∧ dep p ≤ D ∧ s ≤ S.z.length ∧ e ∈ repEnds (tx S.z).length (ends (tx S.z) p) l m s ∧
  ∀ (v : V) (H' : Hp), Go K S H H' → Dp K H' v (.tuple (copyDer (tx S.z).length (ends (tx S.z) p) (der (tx S.z) p) l s (copiesOf (tx S.z).length (ends (tx S.z) p) l m s e) e)) → Q v H'
def spSeveralEnd (D : Nat) : Sp := fun vs H Q _ => ∃ (a b : Addr) (xs ys : List V) (ps : List Pat) (ds : List PyData) (z : Str) (s : Nat), vs = [.ref a, .str z, .int (s : Int), .ref b] ∧ (SqT K H a xs ∨ SqL K H a xs) ∧ DpAll K H xs (ps.map enc) ∧ SqT K H b ys ∧ DpAll K H ys ds ∧ ps.length = ds.length ∧
  (∀ p ∈ ps, Wf p ∧ dep p ≤ D) ∧ z.length ≤ 1000 ∧ s ≤ z.length ∧ ∀ H', Kp H H' → Q (oi (rowWalk (tx z) ps s ds)) H'
def spDerivedEnd (D : Nat) : Sp := fun vs H Q _ => ∃ (v u : V) (p : Pat) (d : PyData) (z : Str) (s : Nat), vs = [v, .str z, .int (s : Int), u] ∧ PtV K H v p ∧ Wf p ∧ dep p ≤ D ∧ Dp K H u d ∧ z.length ≤ 1000 ∧ s ≤ z.length ∧ ∀ H', Kp H H' → Q (oi (walk (tx z) p s d)) H'
def spDerivation : Sp := fun vs H Q _ => ∃ (v : V) (p : Pat) (z : Str) (s e : Nat), vs = [v, .str z, .int (s : Int), .int (e : Int)] ∧ PtV K H v p ∧ Wf p ∧ dep p ≤ 8 ∧ (nodes p).length ≤ 900 ∧ z.length ≤ 1000 ∧ s ≤ z.length ∧
  ∀ (u : V) (H' : Hp), Kp H H' → Dp K H' u (if e ∈ ends (tx z) p s then der (tx z) p s e else .none) → Q u H'
def spIsDerivation : Sp := fun vs H Q _ => ∃ (v u : V) (p : Pat) (d : PyData) (z : Str) (s e : Nat), vs = [v, .str z, .int (s : Int), .int (e : Int), u] ∧ PtV K H v p ∧ Wf p ∧ dep p ≤ 8 ∧ Dp K H u d ∧ z.length ≤ 1000 ∧ s ≤ z.length ∧
  ∀ H', Kp H H' → Q (.bl (decide (walk (tx z) p s d = some e))) H'
/-! the law's own -/
/-- drawn numbers -/
def Drawn (ns : List Int) : Prop := ∀ x ∈ ns, 0 ≤ x ∧ x < 1441440
def spLawDrops : Sp := fun vs H Q _ => ∃ i : Int, vs = [.int i, .int 80] ∧ ∀ (a : Addr) (ns : List Int) (H' : Hp), Same H H' → H' a = some (.lst (ns.map V.int)) → ns.length = 80 → Drawn ns → Q (.ref a) H'
def signs : Str := match defBody s_law_signs with
  | [.Return (some (.Constant (.str z) _ _)) _] => z
  | _ => Str.empty
def spLawSigns : Sp := fun vs H Q _ => vs = [] ∧ Q (.str signs) H
def spLawLetter : Sp := fun vs H Q _ => ∃ i : Int, vs = [.int i] ∧ 0 ≤ i ∧ ∀ c : Nat, c < 0x110000 → Q (.str ⟨#[c]⟩) H
def spLawClass : Sp := fun vs H Q _ => ∃ i : Int, vs = [.int i] ∧ 0 ≤ i ∧ i < 1441440 ∧ ∀ (v : V) (z : Str) (H' : Hp), Same H H' → Dp K H' v (Leaf.sgn true z).enc → Q v H'
def spLawLeaf : Sp := fun vs H Q _ => ∃ i : Int, vs = [.int i] ∧ 0 ≤ i ∧ i < 1441440 ∧ ∀ (v : V) (p : Pat) (H' : Hp), Same H H' → PtV K H' v p → Wf p → dep p ≤ 1 → (nodes p).length ≤ 1 → Q v H'
def flatWord : Bool → Str
  | true => "or"
  | false => "row"
def spLawFlat : Sp := fun vs H Q _ => ∃ (w : Bool) (a : Addr) (xs : List V) (ps : List Pat) (D N : Nat), vs = [.str (flatWord w), .ref a] ∧ SqL K H a xs ∧ DpAll K H xs (ps.map enc) ∧ ps.length ≤ 3 ∧ (∀ p ∈ ps, Wf p ∧ dep p ≤ D ∧ (nodes p).length ≤ N) ∧ N ≤ 100 ∧ 0 < N ∧
  ∀ (v : V) (p : Pat) (H' : Hp), Same H H' → PtV K H' v p → Wf p → dep p ≤ D + 1 → (nodes p).length ≤ 1 + 3 * N → Q v H'
def spLawTree (d : Nat) : Sp := fun vs H Q _ => ∃ (a b : Addr) (ns : List Int) (room : Int) (spot : Int), vs = [.ref a, .ref b, .int room, .int (d : Int)] ∧ SqL K H a (ns.map V.int) ∧ a ≠ b ∧ Drawn ns ∧ ns.length = 80 ∧ H b = some (.lst [.int spot]) ∧ 1 ≤ room ∧ room ≤ 8 ∧ d ≤ 3 ∧
  ∀ (v : V) (p : Pat) (spot' : Int) (H' : Hp), (∀ c o, H c = some o → c ≠ b → H' c = some o) → H' b = some (.lst [.int spot']) → PtV K H' v p → Wf p → dep p ≤ d + 1 → (nodes p).length ≤ 4 ^ (d + 1) → Q v H'
def spLawOnward (D : Nat) : Sp := fun vs H Q _ => ∃ (v : V) (p : Pat) (z : Str) (a : Addr) (xs : List Nat), vs = [v, .str z, .ref a] ∧ PtV K H v p ∧ Wf p ∧ dep p ≤ D ∧ z.length ≤ 6 ∧ SqL K H a (nv xs) ∧ (∀ e ∈ xs, e ≤ z.length) ∧
  ∀ (b : Addr) (H' : Hp), Same H H' → H b = none → H' b = some (.lst (nv (onward (lends (tx z) p) xs))) → Q (.ref b) H'
def spLawEnds (D : Nat) : Sp := fun vs H Q _ => ∃ (v : V) (p : Pat) (z : Str) (s : Nat), vs = [v, .str z, .int (s : Int)] ∧ PtV K H v p ∧ Wf p ∧ dep p ≤ D ∧ z.length ≤ 6 ∧ s ≤ z.length ∧
  ∀ (b : Addr) (H' : Hp), Same H H' → H b = none → H' b = some (.lst (nv (lends (tx z) p s))) → Q (.ref b) H'
def spLawCopied (D : Nat) : Sp := fun vs H Q _ => ∃ (v : V) (p : Pat) (l : Nat) (m : Option Nat) (z : Str) (s : Nat), vs = [v, .str z, .int (s : Int)] ∧ PtV K H v (.rep p l m) ∧ Wf (.rep p l m) ∧ dep p ≤ D ∧ z.length ≤ 6 ∧ s ≤ z.length ∧
  ∀ (b : Addr) (H' : Hp), Same H H' → H b = none → H' b = some (.lst (nv (copied (tx z).length (lends (tx z) p) l m s))) → Q (.ref b) H'
def spLawSays : Sp := fun vs H Q _ => ∃ a b : Bool, vs = [.bl a, .bl b] ∧ Q (.bl (decide (a = b))) H
def spLawText : Sp := fun vs H Q _ => ∃ (a : Addr) (ns : List Int) (n : Nat), vs = [.ref a, .int (n : Int)] ∧ SqL K H a (ns.map V.int) ∧ Drawn ns ∧ 10 ≤ ns.length ∧ ns.length ≤ 80 ∧ n ≤ 6 ∧ ∀ (z : Str) (H' : Hp), Same H H' → z.length ≤ 6 → Q (.str z) H'
def spLawMany (D : Nat) : Sp := fun vs H Q _ => ∃ (a b : Addr) (xs ys : List V) (ps : List Pat) (ds : List PyData) (z : Str) (s : Nat), vs = [.ref a, .str z, .int (s : Int), .ref b] ∧ SqL K H a xs ∧ DpAll K H xs (ps.map enc) ∧ SqT K H b ys ∧ DpAll K H ys ds ∧ ps.length = ds.length ∧ ps.length ≤ 2000 ∧
  (∀ p ∈ ps, Wf p ∧ dep p ≤ D) ∧ (∀ d ∈ ds, Shp 64 d) ∧ z.length ≤ 6 ∧ s ≤ z.length ∧
  (rowWalk (tx z) ps s ds = none → ∀ H', Same H H' → Q .non H') ∧ (∀ (es : List Nat) (c : Addr) (H' : Hp), rowSteps (tx z) ps s ds = some es → Same H H' → H' c = some (.lst (nv (s :: es))) → Q (.ref c) H')
def spLawWalked (D : Nat) : Sp := fun vs H Q _ => ∃ (v u : V) (p : Pat) (d : PyData) (z : Str) (s : Nat), vs = [v, .str z, .int (s : Int), u] ∧ PtV K H v p ∧ Wf p ∧ dep p ≤ D ∧ Dp K H u d ∧ Shp 64 d ∧ z.length ≤ 6 ∧ s ≤ z.length ∧ ∀ H', Same H H' → Q (oi (walk (tx z) p s d)) H'
def spLawLean (D : Nat) : Sp := fun vs H Q _ => ∃ (v u : V) (p : Pat) (d : PyData) (z : Str) (s e : Nat), vs = [v, .str z, .int (s : Int), u] ∧ PtV K H v p ∧ Wf p ∧ dep p ≤ D ∧ Dp K H u d ∧ Shp 64 d ∧ z.length ≤ 6 ∧ s ≤ z.length ∧ walk (tx z) p s d = some e ∧ ∀ H', Same H H' → Q (.bl (lean (tx z) p s d)) H'
def spLawBent (D : Nat) : Sp := fun vs H Q _ => ∃ (v : V) (d : PyData) (a : Addr) (ns : List Int), vs = [v, .ref a] ∧ Dp K H v d ∧ IsDer d ∧ d.depth ≤ D ∧ D ≤ 40 ∧ Wid 1900 d ∧ SqL K H a (ns.map V.int) ∧ Drawn ns ∧ 0 < ns.length ∧ ns.length ≤ 80 ∧
  ∀ (u : V) (e : PyData) (H' : Hp), Same H H' → Dp K H' u e → Shp (d.depth + 8) e → Q u H'
def spLawStretch : Sp := fun vs H Q _ => ∃ (v : V) (p : Pat) (z : Str) (a b : Addr) (s e : Nat) (ns : List Int), vs = [v, .str z, .ref b, .ref a] ∧ PtV K H v p ∧ Wf p ∧ dep p ≤ 8 ∧ (nodes p).length ≤ 900 ∧ z.length ≤ 6 ∧ s ≤ e ∧ e ≤ z.length ∧ SqT K H b [.int (s : Int), .int (e : Int), .bl (decide (e ∈ lends (tx z) p s))] ∧
  SqL K H a (ns.map V.int) ∧ Drawn ns ∧ ns.length = 6 ∧ ∀ H', Kp H H' → Q (.bl true) H'
def spLawLong : Sp := fun vs H Q _ => ∃ (a : Addr) (ns : List Int), vs = [.ref a] ∧ SqL K H a (ns.map V.int) ∧ Drawn ns ∧ ns.length = 10 ∧ ∀ H', Kp H H' → Q (.bl true) H'
def spLawPattern : Sp := fun vs H Q _ => ∃ i : Int, vs = [.int i] ∧ ∀ H', Kp H H' → Q (.bl true) H'
def spLaw : Sp := fun vs H Q _ => ∃ (a : Addr) (ns : List Int), vs = [.ref a] ∧ SqL K H a (ns.map V.int) ∧ ns.length ≤ 63 ∧ ∀ H', Q (.bl true) H'
end
end Pd
set_option Elab.async false
set_option linter.all false
set_option maxRecDepth 100000
set_option maxHeartbeats 1000000
/-! PdPat: patterns as they stand in the heap, read. -/
namespace Pd
open PySem PySem.Spec PyProof.Rows L2
def leafWord : Leaf → Str
  | .beg => "begin"
  | .fin => "end"
  | .any => "any"
  | .sgn false _ => "sign"
  | .sgn true _ => "class"
def om : Option Nat → V
  | none => .non
  | some m => .int (m : Int)
section
variable {K : PySem.W.Frag} {H : Hp} {v : V}
theorem PtV.row {ps : List Pat} (h : PtV K H v (.row ps)) : ∃ a c xs, v = .ref a ∧ SqT K H a [.str "row", .ref c] ∧ SqT K H c xs ∧ DpAll K H xs (ps.map enc) := by
  have h1 : Dp K H v (.tuple [.str "row", .tuple (encs ps)]) := by have := h; rwa [PtV, enc] at this
  cases h1 with
  | tup hs ha =>
    cases ha with
    | cons h1 h2 =>
      cases h1
      cases h2 with
      | cons h3 h4 =>
        cases h4
        cases h3 with
        | tup ht hb =>
          rw [encs_map] at hb
          exact ⟨_, _, _, rfl, hs, ht, hb⟩
theorem PtV.alt {ps : List Pat} (h : PtV K H v (.alt ps)) : ∃ a c xs, v = .ref a ∧ SqT K H a [.str "or", .ref c] ∧ SqT K H c xs ∧ DpAll K H xs (ps.map enc) := by
  have h1 : Dp K H v (.tuple [.str "or", .tuple (encs ps)]) := by have := h; rwa [PtV, enc] at this
  cases h1 with
  | tup hs ha =>
    cases ha with
    | cons h1 h2 =>
      cases h1
      cases h2 with
      | cons h3 h4 =>
        cases h4
        cases h3 with
        | tup ht hb =>
          rw [encs_map] at hb
          exact ⟨_, _, _, rfl, hs, ht, hb⟩
theorem PtV.rep {p : Pat} {l : Nat} {m : Option Nat} (h : PtV K H v (.rep p l m)) : ∃ a u, v = .ref a ∧ SqT K H a [.str "repeat", u, .int (l : Int), om m] ∧ PtV K H u p := by
  have h1 : Dp K H v (.tuple [.str "repeat", enc p, .int (l : Int), encMost m]) := by have := h; rwa [PtV, enc] at this
  cases h1 with
  | tup hs ha =>
    cases ha with
    | cons h1 h2 =>
      cases h1
      cases h2 with
      | cons h3 h4 =>
        cases h4 with
        | cons h5 h6 =>
          cases h5
          cases h6 with
          | cons h7 h8 =>
            cases h8
            cases m with
            | none =>
              cases h7
              exact ⟨_, _, rfl, hs, h3⟩
            | some m =>
              cases h7
              exact ⟨_, _, rfl, hs, h3⟩
theorem PtV.leafD {l : Leaf} (h : PtV K H v (.leaf l)) : Dp K H v l.enc := by have := h; rwa [PtV, enc] at this
theorem leafV {l : Leaf} (h : Dp K H v l.enc) : ∃ a us, v = .ref a ∧ SqT K H a (.str (leafWord l) :: us) ∧ ∀ c z, l = .sgn c z → us = [.str z] := by
  cases l with
  | beg =>
    cases h with
    | tup hs ha =>
      cases ha with
      | cons h1 h2 =>
        cases h1
        exact ⟨_, _, rfl, hs, fun c z e => nomatch e⟩
  | fin =>
    cases h with
    | tup hs ha =>
      cases ha with
      | cons h1 h2 =>
        cases h1
        exact ⟨_, _, rfl, hs, fun c z e => nomatch e⟩
  | any =>
    cases h with
    | tup hs ha =>
      cases ha with
      | cons h1 h2 =>
        cases h1
        exact ⟨_, _, rfl, hs, fun c z e => nomatch e⟩
  | sgn c z =>
    cases c with
    | false =>
      cases h with
      | tup hs ha =>
        cases ha with
        | cons h1 h2 =>
          cases h1
          cases h2 with
          | cons h3 h4 =>
            cases h3
            cases h4
            exact ⟨_, _, rfl, hs, fun c z e => by cases e; rfl⟩
    | true =>
      cases h with
      | tup hs ha =>
        cases ha with
        | cons h1 h2 =>
          cases h1
          cases h2 with
          | cons h3 h4 =>
            cases h3
            cases h4
            exact ⟨_, _, rfl, hs, fun c z e => by cases e; rfl⟩
/-- the word of a pattern -/
def wd : Pat → Str
  | .leaf l => leafWord l
  | .row _ => "row"
  | .alt _ => "or"
  | .rep _ _ _ => "repeat"
theorem PtV.word {p : Pat} (h : PtV K H v p) : ∃ a us, v = .ref a ∧ SqT K H a (.str (wd p) :: us) := by
  cases p with
  | leaf l =>
    obtain ⟨a, us, e, hs, _⟩ := leafV h.leafD
    exact ⟨a, us, e, hs⟩
  | row ps =>
    obtain ⟨a, c, xs, e, hs, _⟩ := h.row
    exact ⟨a, _, e, hs⟩
  | alt ps =>
    obtain ⟨a, c, xs, e, hs, _⟩ := h.alt
    exact ⟨a, _, e, hs⟩
  | rep p l m =>
    obtain ⟨a, u, e, hs, _⟩ := h.rep
    exact ⟨a, _, e, hs⟩
theorem leafWord_ne : ∀ l : Leaf, leafWord l ≠ ("row" : Str) ∧ leafWord l ≠ ("or" : Str) ∧ leafWord l ≠ ("repeat" : Str)
  | .beg => (by decide +kernel : ("begin" : Str) ≠ "row" ∧ ("begin" : Str) ≠ "or" ∧ ("begin" : Str) ≠ "repeat")
  | .fin => (by decide +kernel : ("end" : Str) ≠ "row" ∧ ("end" : Str) ≠ "or" ∧ ("end" : Str) ≠ "repeat")
  | .any => (by decide +kernel : ("any" : Str) ≠ "row" ∧ ("any" : Str) ≠ "or" ∧ ("any" : Str) ≠ "repeat")
  | .sgn false _ => (by decide +kernel : ("sign" : Str) ≠ "row" ∧ ("sign" : Str) ≠ "or" ∧ ("sign" : Str) ≠ "repeat")
  | .sgn true _ => (by decide +kernel : ("class" : Str) ≠ "row" ∧ ("class" : Str) ≠ "or" ∧ ("class" : Str) ≠ "repeat")
/-- ways to make a pattern's value -/
theorem PtV.mkRow {a c : Addr} {xs : List V} {ps : List Pat} (h : SqT K H a [.str "row", .ref c]) (g : SqT K H c xs) (k : DpAll K H xs (ps.map enc)) : PtV K H (.ref a) (.row ps) := by
  rw [PtV, enc, encs_map]
  exact .tup h (.cons (.str _) (.cons (.tup g k) .nil))
theorem PtV.mkAlt {a c : Addr} {xs : List V} {ps : List Pat} (h : SqT K H a [.str "or", .ref c]) (g : SqT K H c xs) (k : DpAll K H xs (ps.map enc)) : PtV K H (.ref a) (.alt ps) := by
  rw [PtV, enc, encs_map]
  exact .tup h (.cons (.str _) (.cons (.tup g k) .nil))
theorem PtV.mkRep {a : Addr} {u : V} {p : Pat} {l : Nat} {m : Option Nat} (h : SqT K H a [.str "repeat", u, .int (l : Int), om m]) (g : PtV K H u p) : PtV K H (.ref a) (.rep p l m) := by
  rw [PtV, enc]
  refine .tup h (.cons (.str _) (.cons g (.cons (.int _) (.cons ?_ .nil))))
  cases m with
  | none => exact .non
  | some m => exact .int _
theorem PtV.mkLeaf {l : Leaf} (h : Dp K H v l.enc) : PtV K H v (.leaf l) := by rw [PtV, enc]; exact h
theorem Kp.pt {H' : Hp} {p : Pat} (e : Kp H H') (h : PtV K H v p) : PtV K H' v p := e.dp h
end
theorem iteTb {c : Bool} {A B : Prop} (h : c = true) (a : A) : if c = true then A else B := by rw [if_pos h]; exact a
theorem iteFb {c : Bool} {A B : Prop} (h : c = false) (b : B) : if c = true then A else B := by rw [if_neg (by rw [h]; exact Bool.false_ne_true)]; exact b
theorem ite2b {c : Bool} {A B : Prop} (h1 : c = true → A) (h2 : c = false → B) : if c = true then A else B := by
  cases c with
  | true => exact iteT (h1 rfl)
  | false => exact iteF (h2 rfl)
theorem veq {x y : Str} (h : x = y) : decide (V.str x = V.str y) = true := by rw [h]; exact decide_eq_true rfl
theorem vne {x y : Str} (h : x ≠ y) : decide (V.str x = V.str y) = false := decide_eq_false fun e => h (V.str.inj e)
theorem inW (l : Leaf) : inV (.str (leafWord l)) [.str "row", .str "or"] = false := by
  match l with
  | .beg => decide +kernel
  | .fin => decide +kernel
  | .any => decide +kernel
  | .sgn false _ => exact (by decide +kernel : inV (.str "sign") [.str "row", .str "or"] = false)
  | .sgn true _ => exact (by decide +kernel : inV (.str "class") [.str "row", .str "or"] = false)
theorem inW3 (l : Leaf) : inV (.str (leafWord l)) [.str "row", .str "or", .str "repeat"] = false := by
  match l with
  | .beg => decide +kernel
  | .fin => decide +kernel
  | .any => decide +kernel
  | .sgn false _ => exact (by decide +kernel : inV (.str "sign") [.str "row", .str "or", .str "repeat"] = false)
  | .sgn true _ => exact (by decide +kernel : inV (.str "class") [.str "row", .str "or", .str "repeat"] = false)
theorem at0 {x : V} {xs : List V} : atI (x :: xs) (0 : Int) = some x := atI_nat (j := 0) rfl
theorem at1 {x y : V} {xs : List V} : atI (x :: y :: xs) (1 : Int) = some y := atI_nat (j := 1) rfl
theorem at2 {x y z : V} {xs : List V} : atI (x :: y :: z :: xs) (2 : Int) = some z := atI_nat (j := 2) rfl
theorem at3 {x y z u : V} {xs : List V} : atI (x :: y :: z :: u :: xs) (3 : Int) = some u := atI_nat (j := 3) rfl
theorem ne_row_or : ("row" : Str) ≠ "or" := by decide +kernel
theorem ne_row_repeat : ("row" : Str) ≠ "repeat" := by decide +kernel
theorem ne_or_row : ("or" : Str) ≠ "row" := by decide +kernel
theorem ne_or_repeat : ("or" : Str) ≠ "repeat" := by decide +kernel
theorem ne_repeat_row : ("repeat" : Str) ≠ "row" := by decide +kernel
theorem ne_repeat_or : ("repeat" : Str) ≠ "or" := by decide +kernel
theorem iteEither {c : Bool} {A B : Prop} (a : A) (hb : c = false → A → B) : if c = true then A else B := by
  cases c with
  | true => exact iteT a
  | false => exact iteF (hb rfl a)
theorem vi_t {i j : Int} (h : i = j) : decide (V.int i = V.int j) = true := by rw [h]; exact decide_eq_true rfl
theorem vi_f {i j : Int} (h : i ≠ j) : decide (V.int i = V.int j) = false := decide_eq_false fun e => h (V.int.inj e)
theorem nvi_t {i j : Int} (h : i ≠ j) : (!decide (V.int i = V.int j)) = true := by rw [vi_f h]; rfl
theorem nvi_f {i j : Int} (h : i = j) : (!decide (V.int i = V.int j)) = false := by rw [vi_t h]; rfl
theorem nvs_t {i j : Str} (h : i ≠ j) : (!decide (V.str i = V.str j)) = true := by rw [vne h]; rfl
theorem nvs_f {i j : Str} (h : i = j) : (!decide (V.str i = V.str j)) = false := by rw [veq h]; rfl
theorem in3_row : (!inV (.str "row") [.str "row", .str "or", .str "repeat"]) = false := by decide +kernel
theorem in3_or : (!inV (.str "or") [.str "row", .str "or", .str "repeat"]) = false := by decide +kernel
theorem in3_rep : (!inV (.str "repeat") [.str "row", .str "or", .str "repeat"]) = false := by decide +kernel
theorem in3_leaf (l : Leaf) : (!inV (.str (leafWord l)) [.str "row", .str "or", .str "repeat"]) = true := by rw [inW3]; rfl
theorem ne_tup_of {d : PyData} (h : isTup d = false) : ∀ ds, d ≠ .tuple ds := fun ds e => by rw [e] at h; cases h
end Pd
set_option Elab.async false
set_option linter.all false
set_option maxRecDepth 100000
set_option maxHeartbeats 1000000
/-! PdDict: the dict of the ends that are known. -/
namespace Pd
open PySem PySem.Spec PyProof.Rows L2
theorem kNS_inj {n s n' s' : Nat} (h : kNS n s = kNS n' s') : n = n' ∧ s = s' := by
  have h1 : (n : Int) = (n' : Int) := Sum.inl.inj (List.cons.inj h).1
  have h2 : (s : Int) = (s' : Int) := Sum.inl.inj (List.cons.inj (List.cons.inj h).2).1
  omega
theorem valV_mem {κ : Type} [DecidableEq κ] {k : κ} {v : V} : ∀ {kvs : List (κ × V)}, valV kvs k = some v → (k, v) ∈ kvs
  | [], h => by cases h
  | p :: r, h => by
    by_cases e : p.1 = k
    · rw [valV_pos e] at h
      have e2 := Option.some.inj h
      have e3 : (k, v) = p := by rw [← e, ← e2]
      rw [e3]
      exact List.mem_cons_self
    · rw [valV_neg e] at h
      exact List.mem_cons_of_mem _ (valV_mem h)
theorem valV_noneKey {κ : Type} [DecidableEq κ] {k : κ} : ∀ {kvs : List (κ × V)}, valV kvs k = none → k ∉ kvs.map (·.1)
  | [], _, h => by cases h
  | p :: r, h, hm => by
    by_cases e : p.1 = k
    · rw [valV_pos e] at h; cases h
    · rw [valV_neg e] at h
      rcases List.mem_cons.mp hm with q | q
      · exact e q.symm
      · exact valV_noneKey h q
/-- a put behind a look that found nothing, or over what is there -/
theorem put_mem {κ : Type} [DecidableEq κ] {k j : κ} {v u : V} {kvs : List (κ × V)} (h : (j, u) ∈ putK kvs k v) : (j = k ∧ u = v) ∨ (j, u) ∈ kvs := by
  unfold putK at h
  split at h
  · obtain ⟨p, hp, e⟩ := List.mem_map.mp h
    by_cases q : p.1 = k
    · rw [if_pos q] at e
      have e1 : p.1 = j := congrArg Prod.fst e
      have e2 : v = u := congrArg Prod.snd e
      exact .inl ⟨e1.symm.trans q, e2.symm⟩
    · rw [if_neg q] at e
      exact .inr (e ▸ hp)
  · rcases List.mem_append.mp h with q | q
    · exact .inr q
    · have e := List.mem_singleton.mp q
      have e1 : j = k := congrArg Prod.fst e
      have e2 : u = v := congrArg Prod.snd e
      exact .inl ⟨e1, e2⟩
theorem put_keys {κ : Type} [DecidableEq κ] {k : κ} {v : V} {kvs : List (κ × V)} (h : (kvs.map (·.1)).Nodup) : ((putK kvs k v).map (·.1)).Nodup := by
  cases e : valV kvs k with
  | none =>
    rw [putK_new v e, List.map_append]
    refine List.nodup_append.mpr ⟨h, List.nodup_cons.mpr ⟨List.not_mem_nil, List.Pairwise.nil⟩, fun a ha b hb => ?_⟩
    have e2 : b = k := List.mem_singleton.mp hb
    intro q
    rw [q, e2] at ha
    exact valV_noneKey e ha
  | some u =>
    have h2 : (putK kvs k v).map (·.1) = kvs.map (·.1) := by
      unfold putK
      rw [if_pos (by rw [valV_any, e]; rfl), List.map_map]
      refine List.map_congr_left fun p _ => ?_
      show (if p.1 = k then (p.1, v) else p).1 = p.1
      split <;> rfl
    rw [h2]
    exact h
theorem nodup_map {α β : Type} {g : α → β} : ∀ {l : List α}, l.Nodup → (∀ a ∈ l, ∀ b ∈ l, g a = g b → a = b) → (l.map g).Nodup
  | [], _, _ => List.Pairwise.nil
  | x :: r, hn, h => by
    have q := List.nodup_cons.mp hn
    have ih := nodup_map q.2 fun a ha b hb => h a (List.mem_cons_of_mem _ ha) b (List.mem_cons_of_mem _ hb)
    refine List.nodup_cons.mpr ⟨fun hm => ?_, ih⟩
    obtain ⟨y, hy, e⟩ := List.mem_map.mp hm
    have e2 := h y (List.mem_cons_of_mem _ hy) x List.mem_cons_self e
    exact q.1 (e2 ▸ hy)
def codeNS : List Key → Nat
  | [Sum.inl a, Sum.inl b] => a.toNat * 1001 + b.toNat
  | _ => 0
theorem Known.few {S : SA} {H : Hp} {kvs : List (List Key × V)} (h : Known S H kvs) (ht : S.tp.length ≤ 1000) (hz : S.z.length ≤ 1000) : kvs.length ≤ 1002001 := by
  have key : ∀ k ∈ kvs.map (·.1), ∃ n s : Nat, k = kNS n s ∧ n < 1000 ∧ s ≤ 1000 := fun k hk => by
    obtain ⟨p, hp, rfl⟩ := List.mem_map.mp hk
    obtain ⟨n, s, q, a, e1, e2, e3, _⟩ := h.at_ p.1 p.2 hp
    have := (List.getElem?_eq_some_iff.mp e2).1
    exact ⟨n, s, e1, by omega, by omega⟩
  have cd : ∀ n s : Nat, codeNS (kNS n s) = n * 1001 + s := fun n s => by
    show (n : Int).toNat * 1001 + (s : Int).toNat = _
    rw [Int.toNat_natCast, Int.toNat_natCast]
  have h1 : ((kvs.map (·.1)).map codeNS).Nodup := nodup_map h.nd fun a ha b hb e => by
    obtain ⟨n, s, rfl, h1, h2⟩ := key a ha
    obtain ⟨n', s', rfl, h3, h4⟩ := key b hb
    rw [cd, cd] at e
    have e1 : n = n' := by omega
    have e2 : s = s' := by omega
    rw [e1, e2]
  have h2 := nodup_below 1002001 h1 fun x hx => by
    obtain ⟨k, hk, rfl⟩ := List.mem_map.mp hx
    obtain ⟨n, s, rfl, h1, h2⟩ := key k hk
    rw [cd]
    omega
  rw [List.length_map, List.length_map] at h2
  exact h2
theorem Known.put {S : SA} {H : Hp} {kvs : List (List Key × V)} {n s : Nat} {p : Pat} {a : Addr} (h : Known S H kvs) (hp : S.tp[n]? = some p) (hs : s ≤ S.z.length) (ha : H a = some (.lst (nv (ends (tx S.z) p s)))) : Known S H (putK kvs (kNS n s) (.ref a)) :=
  ⟨put_keys h.nd, fun k v hm => by
    rcases put_mem hm with ⟨rfl, rfl⟩ | hm
    · exact ⟨n, s, p, a, rfl, hp, hs, rfl, ha⟩
    · exact h.at_ k v hm⟩
theorem Go.put {K : PySem.W.Frag} {S : SA} {H H1 : Hp} {n s : Nat} {p : Pat} {a : Addr} {kvs : List (List Key × V)} (g : Go K S H H1) (hp : S.tp[n]? = some p) (hs : s ≤ S.z.length) (ha : H1 a = some (.lst (nv (ends (tx S.z) p s)))) (na : H a = none) (hd : H1 S.d = some (.dT kvs)) :
    Go K S H (upd H1 S.d (.dT (putK kvs (kNS n s) (.ref a)))) := by
  have k3 : Kp H1 (upd H1 S.d (.dT (putK kvs (kNS n s) (.ref a)))) := Kp.put hd _
  obtain ⟨tv, t1, t2⟩ := g.spl.tr
  obtain ⟨kv, j1, j2⟩ := g.spl.dict
  rw [hd] at j1
  cases j1
  refine ⟨g.kp.trans k3, ⟨k3 _ _ g.spl.ins rfl, ⟨tv, k3 _ _ t1 rfl, k3.dpAll t2⟩, g.spl.un.kp k3, g.spl.nums, g.spl.wf, g.spl.few, g.spl.short, _, upd_same, (j2.put hp hs ha).kp k3⟩, fun k k' e e' x hx => ?_⟩
  rw [upd_same] at e'
  cases e'
  rcases put_mem (j := x.1) (u := x.2) hx with ⟨_, q⟩ | q
  · exact .inr ⟨a, q, na⟩
  · exact g.new k _ e hd x q
end Pd
set_option Elab.async false
set_option linter.all false
set_option maxRecDepth 100000
set_option maxHeartbeats 1000000
/-! PdLoop: turns over a list, a tuple, a range, for any body; what a Splitter's lists hold. -/
namespace Pd
open PySem PySem.Spec PyProof.Rows L2
section
variable {K : PySem.W.Frag} {a : Addr} {xs : List V} {Body : V → Hp → (Hp → Prop) → Prop} {H1 : Hp} {Qd : Hp → Prop}
/-- inside a comprehension: only the heap is carried -/
theorem walk_list (Pv : Nat → Hp → Prop) (h0 : Pv 0 H1) (hl : ∀ i H, i ≤ xs.length → Pv i H → SqL K H a xs) (hs : ∀ i x H, xs[i]? = some x → Pv i H → Body x H (Pv (i + 1))) (hd : ∀ H, Pv xs.length H → Qd H) :
    ∃ W : Nat → Nat → Hp → Prop, (∃ m, W 0 m H1) ∧ ∀ i m H, W i m H → ((Itl K a).stop i H ∧ Qd H) ∨ ((Itl K a).go i H ∧ ∃ Nx : Hp → Prop, (∀ H', Nx H' → ∃ m', m' < m ∧ W (i + 1) m' H') ∧ ∀ x H', (Itl K a).yld i H x H' → Body x H' Nx) := by
  refine ⟨fun i m H => m = xs.length - i ∧ i ≤ xs.length ∧ Pv i H, ⟨_, rfl, Nat.zero_le _, h0⟩, ?_⟩
  rintro i m H ⟨rfl, hi, p⟩
  have q := hl i H hi p
  by_cases hlt : i < xs.length
  · have hx : xs[i]? = some xs[i] := List.getElem?_eq_getElem hlt
    refine .inr ⟨⟨xs, _, q, hx⟩, Pv (i + 1), fun H' p' => ⟨xs.length - (i + 1), by omega, rfl, hlt, p'⟩, ?_⟩
    rintro x H' ⟨rfl, f⟩
    exact hs i x H' (f xs q) p
  · obtain rfl : i = xs.length := by omega
    exact .inl ⟨⟨xs, q, Nat.le_refl _⟩, hd H p⟩
theorem walk_tup (Pv : Nat → Hp → Prop) (h0 : Pv 0 H1) (hl : ∀ i H, i ≤ xs.length → Pv i H → SqT K H a xs) (hs : ∀ i x H, xs[i]? = some x → Pv i H → Body x H (Pv (i + 1))) (hd : ∀ H, Pv xs.length H → Qd H) :
    ∃ W : Nat → Nat → Hp → Prop, (∃ m, W 0 m H1) ∧ ∀ i m H, W i m H → ((Itt K a).stop i H ∧ Qd H) ∨ ((Itt K a).go i H ∧ ∃ Nx : Hp → Prop, (∀ H', Nx H' → ∃ m', m' < m ∧ W (i + 1) m' H') ∧ ∀ x H', (Itt K a).yld i H x H' → Body x H' Nx) := by
  refine ⟨fun i m H => m = xs.length - i ∧ i ≤ xs.length ∧ Pv i H, ⟨_, rfl, Nat.zero_le _, h0⟩, ?_⟩
  rintro i m H ⟨rfl, hi, p⟩
  have q := hl i H hi p
  by_cases hlt : i < xs.length
  · have hx : xs[i]? = some xs[i] := List.getElem?_eq_getElem hlt
    refine .inr ⟨⟨xs, _, q, hx⟩, Pv (i + 1), fun H' p' => ⟨xs.length - (i + 1), by omega, rfl, hlt, p'⟩, ?_⟩
    rintro x H' ⟨rfl, f⟩
    exact hs i x H' (f xs q) p
  · obtain rfl : i = xs.length := by omega
    exact .inl ⟨⟨xs, q, Nat.le_refl _⟩, hd H p⟩
theorem walk_range {lo : Int} {n : Nat} (Pv : Nat → Hp → Prop) (h0 : Pv 0 H1) (hs : ∀ i H, i < n → Pv i H → Body (.int (lo + i)) H (Pv (i + 1))) (hd : ∀ H, Pv n H → Qd H) :
    ∃ W : Nat → Nat → Hp → Prop, (∃ m, W 0 m H1) ∧ ∀ i m H, W i m H → ((Itr lo n).stop i H ∧ Qd H) ∨ ((Itr lo n).go i H ∧ ∃ Nx : Hp → Prop, (∀ H', Nx H' → ∃ m', m' < m ∧ W (i + 1) m' H') ∧ ∀ x H', (Itr lo n).yld i H x H' → Body x H' Nx) := by
  refine ⟨fun i m H => m = n - i ∧ i ≤ n ∧ Pv i H, ⟨_, rfl, Nat.zero_le _, h0⟩, ?_⟩
  rintro i m H ⟨rfl, hi, p⟩
  by_cases hlt : i < n
  · refine .inr ⟨hlt, Pv (i + 1), fun H' p' => ⟨n - (i + 1), by omega, rfl, hlt, p'⟩, ?_⟩
    rintro x H' ⟨rfl, rfl⟩
    exact hs i H' hlt p
  · obtain rfl : i = n := by omega
    exact .inl ⟨Nat.le_refl _, hd H p⟩
end
section
variable {K : PySem.W.Frag} {S : SA} {H : Hp}
theorem Spl.tree (h : Spl K S H) {n : Nat} {p : Pat} (hp : S.tp[n]? = some p) : ∃ tv v, H S.tl = some (.lst tv) ∧ atI tv (n : Int) = some v ∧ PtV K H v p := by
  obtain ⟨tv, t1, t2⟩ := h.tr
  obtain ⟨v, e1, e2⟩ := t2.at (i := n) (d := enc p) (by rw [List.getElem?_map, hp]; rfl)
  exact ⟨tv, v, t1, atI_nat e1, e2⟩
theorem Spl.unders (h : Spl K S H) {n : Nat} {p : Pat} (hp : S.tp[n]? = some p) : ∃ (ua : List Addr) (b : Addr) (cs : List Nat), H S.ul = some (.lst (ua.map V.ref)) ∧ atI (ua.map V.ref) (n : Int) = some (.ref b) ∧ H b = some (.lst (nv cs)) ∧ cs.length = p.kids.length ∧
    ∀ (i : Nat) (q : Pat), p.kids[i]? = some q → ∃ c, cs[i]? = some c ∧ S.tp[c]? = some q := by
  obtain ⟨ua, u1, u2, u3⟩ := h.un
  obtain ⟨cs, c1, c2, c3⟩ := h.nums n p hp
  have l1 : n < ua.length := by
    have := (List.getElem?_eq_some_iff.mp c1).1
    omega
  have g : ua[n]? = some ua[n] := List.getElem?_eq_getElem l1
  refine ⟨ua, ua[n], cs, u1, atI_nat (by rw [List.getElem?_map, g]; rfl), u3 n _ cs g c1, c2, fun i q hq => ?_⟩
  have l2 : i < cs.length := by
    have := (List.getElem?_eq_some_iff.mp hq).1
    omega
  have e : cs[i]? = some cs[i] := List.getElem?_eq_getElem l2
  exact ⟨_, e, c3 i _ q e hq⟩
theorem Spl.wfp (h : Spl K S H) {n : Nat} {p : Pat} (hp : S.tp[n]? = some p) : Wf p := h.wf p (List.mem_of_getElem? hp)
theorem Lol.at {a : Addr} {xss : List (List Nat)} (h : Lol H a xss) {i : Nat} {xs : List Nat} (hi : xss[i]? = some xs) : ∃ (as : List Addr) (b : Addr), H a = some (.lst (as.map V.ref)) ∧ as.length = xss.length ∧ as[i]? = some b ∧ atI (as.map V.ref) (i : Int) = some (.ref b) ∧ H b = some (.lst (nv xs)) := by
  obtain ⟨as, h1, h2, h3⟩ := h
  have l : i < as.length := by
    have := (List.getElem?_eq_some_iff.mp hi).1
    omega
  have g : as[i]? = some as[i] := List.getElem?_eq_getElem l
  exact ⟨as, as[i], h1, h2, g, atI_nat (by rw [List.getElem?_map, g]; rfl), h3 i _ xs g hi⟩
theorem atI_end {xs : List V} {k : Nat} {v : V} (h : xs[k]? = some v) (hl : xs.length = k + 1) : atI xs (-1) = some v := by
  have e : xs = xs.take k ++ [v] := by
    have h1 := List.take_append_drop k xs
    have lt : k < xs.length := by omega
    rw [List.drop_eq_getElem_cons lt, List.drop_eq_nil_of_le (by omega)] at h1
    have h2 : xs[k] = v := by
      rw [List.getElem?_eq_getElem lt] at h
      exact Option.some.inj h
    rw [h2] at h1
    exact h1.symm
  rw [e]
  exact atI_last _ _
theorem LolN.last {H0 : Hp} {a : Addr} {xss : List (List Nat)} (h : LolN H0 H a xss) {k : Nat} {xs : List Nat} (hi : xss[k]? = some xs) (hl : xss.length = k + 1) : ∃ (as : List Addr) (b : Addr), H a = some (.lst (as.map V.ref)) ∧ atI (as.map V.ref) (-1) = some (.ref b) ∧ H b = some (.lst (nv xs)) ∧ H0 b = none := by
  obtain ⟨as, h1, h2, h3, h4⟩ := h
  have l : k < as.length := by omega
  have g : as[k]? = some as[k] := List.getElem?_eq_getElem l
  exact ⟨as, as[k], h1, atI_end (k := k) (by rw [List.getElem?_map, g]; rfl) (by rw [List.length_map]; omega), h3 k _ xs g hi, h4 _ (List.getElem_mem l)⟩
theorem flat_len {α β : Type} (f : α → List β) (B : Nat) (h : ∀ a, (f a).length ≤ B) : ∀ l : List α, (l.flatMap f).length ≤ l.length * B
  | [] => by simp
  | a :: l => by
    rw [List.flatMap_cons, List.length_append, List.length_cons, Nat.succ_mul]
    have h1 := h a
    have h2 := flat_len f B h l
    omega
theorem flat_lenM {α β : Type} (f : α → List β) (B : Nat) : ∀ l : List α, (∀ a ∈ l, (f a).length ≤ B) → (l.flatMap f).length ≤ l.length * B
  | [], _ => by simp
  | a :: l, h => by
    rw [List.flatMap_cons, List.length_append, List.length_cons, Nat.succ_mul]
    have h1 := h a List.mem_cons_self
    have h2 := flat_lenM f B l fun b hb => h b (List.mem_cons_of_mem _ hb)
    omega
theorem flat_len2 {β : Type} (B : Nat) : ∀ l : List (List β), (∀ a ∈ l, a.length ≤ B) → l.flatten.length ≤ l.length * B
  | [], _ => by simp
  | a :: l, h => by
    rw [List.flatten_cons, List.length_append, List.length_cons, Nat.succ_mul]
    have h1 := h a List.mem_cons_self
    have h2 := flat_len2 B l fun b hb => h b (List.mem_cons_of_mem _ hb)
    omega
theorem _root_.L2.SqL.ne {K : PySem.W.Frag} {H : Hp} {a G : Addr} {xs : List V} {o : HO} (h : SqL K H a xs) (n : a ≠ G) : SqL K (upd H G o) a xs := by
  rcases h with (h | ⟨u, h⟩) | h
  · exact .inl (.inl (by rw [upd_ne n]; exact h))
  · exact .inl (.inr ⟨u, by rw [upd_ne n]; exact h⟩)
  · exact .inr h
/-- the last of a list of lists -/
theorem Lol.last {a : Addr} {xss : List (List Nat)} (h : Lol H a xss) {k : Nat} {xs : List Nat} (hi : xss[k]? = some xs) (hl : xss.length = k + 1) : ∃ (as : List Addr) (b : Addr), H a = some (.lst (as.map V.ref)) ∧ atI (as.map V.ref) (-1) = some (.ref b) ∧ H b = some (.lst (nv xs)) := by
  obtain ⟨as, b, h1, h2, h3, _, h4⟩ := h.at hi
  exact ⟨as, b, h1, atI_end (k := k) (by rw [List.getElem?_map, h3]; rfl) (by rw [List.length_map]; omega), h4⟩
theorem flat_snoc {α β : Type} (f : α → List β) (xs : List α) (i : Nat) {x : α} (h : xs[i]? = some x) : (xs.take (i + 1)).flatMap f = (xs.take i).flatMap f ++ f x := by
  rw [List.take_add_one, h, List.flatMap_append]
  simp
theorem take_snoc {α : Type} (xs : List α) (i : Nat) {x : α} (h : xs[i]? = some x) : xs.take (i + 1) = xs.take i ++ [x] := by
  rw [List.take_add_one, h]
  rfl
end
theorem cut_from {xs : List V} {k : Nat} : cutV xs (some (k : Int)) none = xs.drop k := by
  unfold cutV
  rw [HT.sIx_none, HT.sIx_nat]
  by_cases h : k ≤ xs.length
  · rw [show min k xs.length = k by omega, List.take_of_length_le (by rw [List.length_drop]; omega)]
  · rw [List.drop_eq_nil_of_le (show xs.length ≤ k by omega), List.drop_eq_nil_of_le (by omega), List.take_nil]
theorem cut_to {xs : List V} {k : Nat} : cutV xs none (some (k : Int)) = xs.take k := by
  unfold cutV
  rw [HT.sIx_none, HT.sIx_nat, List.drop_zero, Nat.sub_zero]
  by_cases h : k ≤ xs.length
  · rw [show min k xs.length = k by omega]
  · rw [List.take_of_length_le (show xs.length ≤ k by omega), List.take_of_length_le (by omega)]
theorem cut_two {xs : List V} {j k : Nat} : cutV xs (some (j : Int)) (some (k : Int)) = (xs.drop j).take (k - j) := by
  unfold cutV
  rw [HT.sIx_nat, HT.sIx_nat]
  by_cases h : j ≤ xs.length
  · rw [show min j xs.length = j by omega]
    by_cases g : k ≤ xs.length
    · rw [show min k xs.length = k by omega]
    · rw [List.take_of_length_le (by rw [List.length_drop]; omega), List.take_of_length_le (by rw [List.length_drop]; omega)]
  · rw [List.drop_eq_nil_of_le (show xs.length ≤ j by omega), List.drop_eq_nil_of_le (by omega), List.take_nil, List.take_nil]
theorem for_enum {K : PySem.W.Frag} {a : Addr} {xs : List V} {g : TG} {tb : TS} {D : Ends} {σ : L2.St} {H : Hp} (Pv : Nat → L2.St → Hp → Prop) (h0 : Pv 0 σ H) (hl : ∀ i σ H, i ≤ xs.length → Pv i σ H → SqL K H a xs)
    (hs : ∀ (i : Nat) (x : V) (T : Addr) (σ : L2.St) (H : Hp), xs[i]? = some x → Pv i σ H → H T = none → g (.ref T) σ (upd H T (.tup [.int (i : Nat), x])) fun σ2 H2 => tb { D with nx := Pv (i + 1), ct := Pv (i + 1), bk := D.nx } σ2 H2) (hd : ∀ σ H, Pv xs.length σ H → D.nx σ H) :
    ∃ W : Nat → Nat → L2.St → Hp → Prop, (∃ m, W 0 m σ H) ∧ ∀ i m σ H, W i m σ H →
      ((Ite K a).stop i H ∧ D.nx σ H) ∨ ((Ite K a).go i H ∧ ∃ N : L2.St → Hp → Prop, (∀ σ' H', N σ' H' → ∃ m', m' < m ∧ W (i + 1) m' σ' H') ∧ ∀ v H', (Ite K a).yld i H v H' → g v σ H' fun σ2 H2 => tb { D with nx := N, ct := N, bk := D.nx } σ2 H2) := by
  refine ⟨fun i m σ H => m = xs.length - i ∧ i ≤ xs.length ∧ Pv i σ H, ⟨xs.length, rfl, Nat.zero_le _, h0⟩, ?_⟩
  rintro i m σ H ⟨rfl, hi, p⟩
  have q := hl i σ H hi p
  by_cases hlt : i < xs.length
  · have hx : xs[i]? = some xs[i] := List.getElem?_eq_getElem hlt
    refine .inr ⟨⟨xs, _, q, hx⟩, Pv (i + 1), fun σ' H' p' => ⟨xs.length - (i + 1), by omega, rfl, hlt, p'⟩, ?_⟩
    rintro v H' ⟨T, x, rfl, hT, rfl, f⟩
    exact hs i x T σ H (f xs q) p hT
  · obtain rfl : i = xs.length := by omega
    exact .inl ⟨⟨xs, q, Nat.le_refl _⟩, hd σ H p⟩
/-- tuples stay -/
def isTO : HO → Bool
  | .tup _ => true
  | .frz _ _ => true
  | _ => false
def Kt (H H' : Hp) : Prop := ∀ b o, H b = some o → isTO o = true → H' b = some o
theorem Kp.kt {H H' : Hp} (k : Kp H H') : Kt H H' := fun b o h n => k b o h (by cases o <;> first | rfl | cases n)
theorem Kt.trans {H H1 H2 : Hp} (a : Kt H H1) (b : Kt H1 H2) : Kt H H2 := fun c o h n => b c o (a c o h n) n
theorem Kt.lst {H : Hp} {G : Addr} {xs ys : List V} (h : H G = some (.lst xs)) : Kt H (upd H G (.lst ys)) := fun b o q n => by
  rw [upd_ne (fun e => ?_)]
  · exact q
  · subst e
    rw [h] at q
    cases q
    cases n
theorem Kt.tup {K : PySem.W.Frag} {H H' : Hp} {a : Addr} {xs : List V} (e : Kt H H') (h : SqT K H a xs) : SqT K H' a xs := by
  rcases h with (h | ⟨o, h⟩) | h
  · exact .inl (.inl (e _ _ h rfl))
  · exact .inl (.inr ⟨o, e _ _ h rfl⟩)
  · exact .inr h
mutual
theorem Kt.dp {K : PySem.W.Frag} {H H' : Hp} (e : Kt H H') : ∀ {d : PyData} {v : V}, noL d = true → Dp K H v d → Dp K H' v d
  | .none, _, _, h => by cases h; exact .non
  | .bool b, _, _, h => by cases h; exact .bl b
  | .int i, _, _, h => by cases h; exact .int i
  | .str x, _, _, h => by cases h; exact .str x
  | .list ds, _, n, h => by rw [noL] at n; cases n
  | .tuple ds, _, n, h => by
    rw [noL] at n
    cases h with
    | tup hs ha => exact .tup (e.tup hs) (Kt.dpAll e n ha)
  | .dict _, _, _, h => by cases h
theorem Kt.dpAll {K : PySem.W.Frag} {H H' : Hp} (e : Kt H H') : ∀ {ds : List PyData} {vs : List V}, noLs ds = true → DpAll K H vs ds → DpAll K H' vs ds
  | [], _, _, h => by cases h; exact .nil
  | d :: ds, _, n, h => by
    rw [noLs, Bool.and_eq_true] at n
    cases h with
    | cons h1 h2 => exact .cons (Kt.dp e n.1 h1) (Kt.dpAll e n.2 h2)
end
theorem filt_snoc {p : Nat → Bool} (xs : List Nat) (i : Nat) {x : Nat} (h : xs[i]? = some x) : (xs.take (i + 1)).filter p = (xs.take i).filter p ++ if p x = true then [x] else [] := by
  rw [take_snoc xs i h, List.filter_append]
  congr 1
  rw [List.filter_cons]
  rfl
end Pd
set_option Elab.async false
set_option linter.all false
set_option maxRecDepth 100000
set_option maxHeartbeats 4000000
namespace Pd
open PySem PySem.Spec PyProof.Rows L2
section
variable {P : Program} {w : World} {K : PySem.W.Frag} {mg : Str → Option Value} {base : Heap} {f : Addr} {fd : FuncData}
abbrev N_is_integer : List Str := ["thing"]
theorem sc_is_integer : FnScope N_is_integer ["thing"] (defScope s_is_integer) := ⟨rfl, rfl, rfl, by decide +kernel, rfl, by decide +kernel, by decide +kernel⟩
theorem ok_is_integer (T : Txt K mg) (F : FnP K "is_integer" "is_integer" s_is_integer f fd) : FnOk P w K mg base CX0 1 f fd ["thing"] (spIsInteger K) := by
  refine F.ok sc_is_integer (fun vs H Q E h => ?_) (fun cdv A outer s H vs Q E hr h => ?_)
  · obtain ⟨v, d, rfl, _⟩ := h
    rfl
  obtain ⟨v, d, rfl, hd, q⟩ := h
  refine ⟨_, PSs.nox ((pss_one (ps_ret (pe_and (pe_callB call_isi rfl T.z_isinstance bb_isinstance (pa_cons (pv 0) (pa_cons (pe_bltn (v := .ty "int") rfl T.z_int bb_int rfl) pa_nil))) (pe_one (pe_not (pe_callB call_isi rfl T.z_isinstance bb_isinstance (pa_cons (pv 0) (pa_cons (pe_bltn (v := .ty "bool") rfl T.z_bool bb_bool rfl) pa_nil))))))))), ?_⟩
  refine ⟨_, rfl, _, _, _, _, _, rfl, .ty _, hd.tyx, kit_ty (kit_int d), _, rfl, ?_⟩
  cases d with
  | int i => exact iteT ⟨_, rfl, _, _, _, _, _, rfl, .ty _, hd.tyx, kit_ty (kit_bool _), _, rfl, q⟩
  | bool b => exact iteT ⟨_, rfl, _, _, _, _, _, rfl, .ty _, hd.tyx, kit_ty (kit_bool _), _, rfl, q⟩
  | none => exact iteF q
  | str x => exact iteF q
  | list x => exact iteF q
  | tuple x => exact iteF q
  | dict x => exact iteF q
abbrev N_is_between : List Str := ["low", "thing", "high"]
theorem sc_is_between : FnScope N_is_between ["low", "thing", "high"] (defScope s_is_between) := ⟨rfl, rfl, rfl, by decide +kernel, rfl, by decide +kernel, by decide +kernel⟩
theorem ok_is_between {g : Addr} (T : Txt K mg) (F : FnP K "is_between" "is_between" s_is_between f fd) (h_is_integer : Has P w K mg base "is_integer" g ["thing"] 1 (spIsInteger K)) : FnOk P w K mg base CX0 2 f fd ["low", "thing", "high"] (spIsBetween K) := by
  refine F.ok sc_is_between (fun vs H Q E h => ?_) (fun cdv A outer s H vs Q E hr h => ?_)
  · obtain ⟨v, d, lo, hi, rfl, _⟩ := h
    rfl
  obtain ⟨v, d, lo, hi, rfl, hd, q⟩ := h
  refine ⟨_, PSs.nox ((pss_one (ps_ret (pe_and (pe_callH h_is_integer hr (by omega) rfl (pa_cons (pv 1) pa_nil)) (pe_one (pe_chain op_le op_le (pv 0) (pv 1) (pv 2))))))), ?_⟩
  refine ⟨_, rfl, v, d, rfl, hd, _, rfl, ?_⟩
  cases d with
  | int i =>
    have e := hd.intE
    subst e
    refine iteT ⟨_, rfl, _, rfl, _, _, rfl, rfl, _, rfl, ?_⟩
    refine ite2b (fun c => ⟨_, rfl, _, _, rfl, rfl, ?_⟩) (fun c => ?_)
    · have r : Q (.bl (decide (i ≤ hi))) H := by
        have e : (decide (lo ≤ i) && decide (i ≤ hi)) = decide (i ≤ hi) := by rw [c, Bool.true_and]
        rw [← e]
        exact q
      exact r
    · have r : Q (.bl false) H := by
        have e : (decide (lo ≤ i) && decide (i ≤ hi)) = false := by rw [c, Bool.false_and]
        rw [← e]
        exact q
      exact r
  | bool b => exact iteF q
  | none => exact iteF q
  | str x => exact iteF q
  | list x => exact iteF q
  | tuple x => exact iteF q
  | dict x => exact iteF q
abbrev N_is_index_of : List Str := ["many", "thing"]
theorem sc_is_index_of : FnScope N_is_index_of ["many", "thing"] (defScope s_is_index_of) := ⟨rfl, rfl, rfl, by decide +kernel, rfl, by decide +kernel, by decide +kernel⟩
theorem ok_is_index_of {g : Addr} (T : Txt K mg) (F : FnP K "is_index_of" "is_index_of" s_is_index_of f fd) (h_is_between : Has P w K mg base "is_between" g ["low", "thing", "high"] 2 (spIsBetween K)) : FnOk P w K mg base CX0 3 f fd ["many", "thing"] (spIsIndexOf K) := by
  refine F.ok sc_is_index_of (fun vs H Q E h => ?_) (fun cdv A outer s H vs Q E hr h => ?_)
  · obtain ⟨v, d, n, rfl, _⟩ := h
    rfl
  obtain ⟨v, d, n, rfl, hd, q⟩ := h
  refine ⟨_, PSs.nox ((pss_one (ps_ret (pe_callH h_is_between hr (by omega) rfl (pa_cons pe_int (pa_cons (pv 1) (pa_cons (pe_op op_sub (pv 0) pe_int) pa_nil))))))), ?_⟩
  exact ⟨_, rfl, _, rfl, _, _, rfl, rfl, v, d, _, _, rfl, hd, q⟩
abbrev N_parts_under : List Str := ["pattern"]
theorem sc_parts_under : FnScope N_parts_under ["pattern"] (defScope s_parts_under) := ⟨rfl, rfl, rfl, by decide +kernel, rfl, by decide +kernel, by decide +kernel⟩
theorem ok_parts_under (T : Txt K mg) (F : FnP K "parts_under" "parts_under" s_parts_under f fd) : FnOk P w K mg base CX0 1 f fd ["pattern"] (spPartsUnder K) := by
  refine F.ok sc_parts_under (fun vs H Q E h => ?_) (fun cdv A outer s H vs Q E hr h => ?_)
  · obtain ⟨v, p, rfl, _⟩ := h
    rfl
  obtain ⟨v, p, rfl, hp, q⟩ := h
  refine ⟨_, PSs.nox ((pss_cons (ps_if (pt_cmpR op_in_seq (pe_ix ix_tup (pv 0) pe_int (fun _ _ => rfl)) (pe_tup (pa_cons pe_str (pa_cons pe_str pa_nil))) rfl) (pss_one (ps_ret (pe_ix ix_tup (pv 0) pe_int (fun _ _ => rfl)))) pss_nil)
    (pss_cons (ps_if (pt_cmpR op_eq (pe_ix ix_tup (pv 0) pe_int (fun _ _ => rfl)) pe_str (nomark _)) (pss_one (ps_ret (pe_tup (pa_cons (pe_ix ix_tup (pv 0) pe_int (fun _ _ => rfl)) pa_nil)))) pss_nil)
    (pss_one (ps_ret (pe_tup pa_nil)))))), ?_⟩
  cases p with
  | leaf l =>
    obtain ⟨a, us, rfl, hs, _⟩ := leafV hp.leafD
    refine ⟨_, rfl, a, _, _, _, rfl, rfl, hs, at0, (by show 2 ≤ sizeLine; decide), fun t nt => ⟨t, _, rfl, .inr (SqT.of upd_same), rfl, rfl, _, rfl, iteFb (inW l) ?_⟩⟩
    refine ⟨_, rfl, a, _, _, _, rfl, rfl, (Kp.new nt _).tup hs, at0, rfl, _, rfl, iteFb (vne (leafWord_ne l).2.2) ?_⟩
    refine ⟨(by show 0 ≤ sizeLine; decide), fun r nr => ?_⟩
    exact q r [] _ (SqT.of upd_same) .nil (same_add (same_new nt _) nr _)
  | row ps =>
    obtain ⟨a, c, xs, rfl, hs, hc, hx⟩ := hp.row
    refine ⟨_, rfl, a, _, _, _, rfl, rfl, hs, at0, (by show 2 ≤ sizeLine; decide), fun t nt => ⟨t, _, rfl, .inr (SqT.of upd_same), rfl, rfl, _, rfl, iteTb (by decide +kernel) ?_⟩⟩
    have k := Kp.new nt (.tup [V.str "row", V.str "or"])
    exact ⟨_, rfl, a, _, _, _, rfl, rfl, k.tup hs, at1, q c xs _ (k.tup hc) (k.dpAll hx) (same_new nt _)⟩
  | alt ps =>
    obtain ⟨a, c, xs, rfl, hs, hc, hx⟩ := hp.alt
    refine ⟨_, rfl, a, _, _, _, rfl, rfl, hs, at0, (by show 2 ≤ sizeLine; decide), fun t nt => ⟨t, _, rfl, .inr (SqT.of upd_same), rfl, rfl, _, rfl, iteTb (by decide +kernel) ?_⟩⟩
    have k := Kp.new nt (.tup [V.str "row", V.str "or"])
    exact ⟨_, rfl, a, _, _, _, rfl, rfl, k.tup hs, at1, q c xs _ (k.tup hc) (k.dpAll hx) (same_new nt _)⟩
  | rep p l m =>
    obtain ⟨a, u, rfl, hs, hu⟩ := hp.rep
    refine ⟨_, rfl, a, _, _, _, rfl, rfl, hs, at0, (by show 2 ≤ sizeLine; decide), fun t nt => ⟨t, _, rfl, .inr (SqT.of upd_same), rfl, rfl, _, rfl, iteFb (by decide +kernel) ?_⟩⟩
    have k := Kp.new nt (.tup [V.str "row", V.str "or"])
    refine ⟨_, rfl, a, _, _, _, rfl, rfl, k.tup hs, at0, rfl, _, rfl, iteTb (by decide +kernel) ?_⟩
    refine ⟨_, rfl, a, _, _, _, rfl, rfl, k.tup hs, at1, (by show 1 ≤ sizeLine; decide), fun r nr => ?_⟩
    have k2 := k.add nr (.tup [u])
    exact q r [u] _ (SqT.of upd_same) (.one (k2.dp hu)) (same_add (same_new nt _) nr _)
abbrev N_leaf_end : List Str := ["pattern", "text", "at", "word"]
theorem sc_leaf_end : FnScope N_leaf_end ["pattern", "text", "at"] (defScope s_leaf_end) := ⟨rfl, rfl, rfl, by decide +kernel, rfl, by decide +kernel, by decide +kernel⟩
theorem ok_leaf_end (T : Txt K mg) (F : FnP K "leaf_end" "leaf_end" s_leaf_end f fd) : FnOk P w K mg base CX0 1 f fd ["pattern", "text", "at"] (spLeafEnd K) := by
  refine F.ok sc_leaf_end (fun vs H Q E h => ?_) (fun cdv A outer s H vs Q E hr h => ?_)
  · obtain ⟨v, l, z, n, rfl, _⟩ := h
    rfl
  obtain ⟨v, l, z, n, rfl, hp, hz, hn, q⟩ := h
  obtain ⟨a, us, rfl, hs, hu⟩ := leafV hp
  have q0 : Q (oi (leafEnd (tx z) l n)) H := q H (Same.refl H)
  have hl := tx_len z
  refine ⟨_, PSs.nox ((pss_cons (ps_set (i := 3) sc_leaf_end.nd rfl (Or.inl rfl) (pe_ix ix_tup (pv 0) pe_int (fun _ _ => rfl)))
    (pss_cons (ps_if (pt_cmpR op_eq (pv 3) pe_str (nomark _)) (pss_one (ps_ret (pe_ifExp (pt_cmpR op_eq (pv 2) pe_int (nomark _)) (pv 2) pe_non))) pss_nil)
    (pss_cons (ps_if (pt_cmpR op_eq (pv 3) pe_str (nomark _)) (pss_one (ps_ret (pe_ifExp (pt_cmpR op_eq (pv 2) (pe_callB call_len_str rfl T.z_len PySem.boot_len (pa_cons (pv 1) pa_nil)) (nomark _)) (pv 2) pe_non))) pss_nil)
    (pss_cons (ps_if (pt_cmpR op_eq (pv 2) (pe_callB call_len_str rfl T.z_len PySem.boot_len (pa_cons (pv 1) pa_nil)) (nomark _)) (pss_one (ps_ret pe_non)) pss_nil)
    (pss_cons (ps_if (PW.pt (pw_or (pt_cmpR op_eq (pv 3) pe_str (nomark _)) (pw_or1 (pt_cmpR op_in_sign (pe_ix ix_str (pv 1) (pv 2) (fun _ _ => rfl)) (pe_ix ix_tup (pv 0) pe_int (fun _ _ => rfl)) rfl)))) (pss_one (ps_ret (pe_op op_add (pv 2) pe_int))) pss_nil)
    (pss_one (ps_ret pe_non)))))))), ?_⟩
  refine ⟨_, rfl, a, _, _, _, rfl, rfl, hs, at0, ?_⟩
  refine ⟨_, rfl, rfl, _, rfl, ?_⟩
  cases l with
  | beg =>
    refine iteTb (by decide +kernel) ⟨_, rfl, rfl, _, rfl, ite2b (fun c => ?_) (fun c => ?_)⟩
    · refine ⟨_, rfl, ?_⟩
      have e : (n : Int) = 0 := V.int.inj (of_decide_eq_true c)
      rw [leafEnd, if_pos (show n = 0 by omega)] at q0
      exact q0
    · have e : ¬ n = 0 := fun e => of_decide_eq_false c (by rw [e]; rfl)
      rw [leafEnd, if_neg e] at q0
      exact q0
  | fin =>
    refine iteFb (by decide +kernel) ⟨_, rfl, rfl, _, rfl, iteTb (by decide +kernel) ⟨_, rfl, _, rfl, z, rfl, small_le (by omega), rfl, _, rfl, ite2b (fun c => ?_) (fun c => ?_)⟩⟩
    · refine ⟨_, rfl, ?_⟩
      have e : (n : Int) = (z.length : Int) := V.int.inj (of_decide_eq_true c)
      rw [leafEnd, if_pos (show n = (tx z).length by omega)] at q0
      exact q0
    · have e : ¬ n = (tx z).length := fun e => of_decide_eq_false c (by rw [e, hl])
      rw [leafEnd, if_neg e] at q0
      exact q0
  | any =>
    refine iteFb (by decide +kernel) ⟨_, rfl, rfl, _, rfl, iteFb (by decide +kernel) ⟨_, rfl, _, rfl, z, rfl, small_le (by omega), rfl, _, rfl, ite2b (fun c => ?_) (fun c => ?_)⟩⟩
    · have e : (n : Int) = (z.length : Int) := V.int.inj (of_decide_eq_true c)
      rw [leafEnd, if_neg (show ¬ n < (tx z).length by omega)] at q0
      exact q0
    · have e : ¬ n = z.length := fun e => of_decide_eq_false c (by rw [e])
      rw [leafEnd, if_pos (show n < (tx z).length by omega)] at q0
      exact ⟨_, rfl, rfl, _, rfl, iteTb (by decide +kernel) ⟨_, rfl, _, _, rfl, rfl, q0⟩⟩
  | sgn c y =>
    obtain rfl := hu c y rfl
    have w1 : leafWord (.sgn c y) ≠ ("begin" : Str) := by cases c <;> (show (Str.ofString _) ≠ _; decide +kernel)
    have w2 : leafWord (.sgn c y) ≠ ("end" : Str) := by cases c <;> (show (Str.ofString _) ≠ _; decide +kernel)
    have w3 : leafWord (.sgn c y) ≠ ("any" : Str) := by cases c <;> (show (Str.ofString _) ≠ _; decide +kernel)
    refine iteFb (vne w1) ⟨_, rfl, rfl, _, rfl, iteFb (vne w2) ⟨_, rfl, _, rfl, z, rfl, small_le (by omega), rfl, _, rfl, ite2b (fun c => ?_) (fun c => ?_)⟩⟩
    · have e : (n : Int) = (z.length : Int) := V.int.inj (of_decide_eq_true c)
      have g : (tx z)[n]? = none := List.getElem?_eq_none (by omega)
      rw [leafEnd, g] at q0
      exact q0
    · have e : ¬ n = z.length := fun e => of_decide_eq_false c (by rw [e])
      have lt : n < (tx z).length := by omega
      have g : (tx z)[n]? = some (tx z)[n] := List.getElem?_eq_getElem lt
      refine ⟨_, rfl, rfl, _, rfl, iteFb (vne w3) ⟨_, rfl, _, rfl, z, _, _, rfl, rfl, small_le (by omega), atI_nat g, _, rfl, a, _, _, _, rfl, rfl, hs, at1, _, y, rfl, rfl, _, rfl, ite2b (fun c => ?_) (fun c => ?_)⟩⟩
      · have m : (tx z)[n] ∈ y.cps.toList := of_decide_eq_true c
        rw [leafEnd, g] at q0
        have q1 : Q (oi (if (tx z)[n] ∈ y.cps.toList then some (n + 1) else none)) H := q0
        rw [if_pos m] at q1
        exact ⟨_, rfl, _, _, rfl, rfl, q1⟩
      · have m : ¬ (tx z)[n] ∈ y.cps.toList := of_decide_eq_false c
        rw [leafEnd, g] at q0
        have q1 : Q (oi (if (tx z)[n] ∈ y.cps.toList then some (n + 1) else none)) H := q0
        rw [if_neg m] at q1
        exact q1
abbrev N_ascending : List Str := ["numbers"]
theorem sc_ascending : FnScope N_ascending ["numbers"] (defScope s_ascending) := ⟨rfl, rfl, rfl, by decide +kernel, rfl, by decide +kernel, by decide +kernel⟩
theorem ok_ascending (T : Txt K mg) (F : FnP K "ascending" "ascending" s_ascending f fd) : FnOk P w K mg base CX0 1 f fd ["numbers"] (spAscending K) := by
  refine F.ok sc_ascending (fun vs H Q E h => ?_) (fun cdv A outer s H vs Q E hr h => ?_)
  · obtain ⟨a, xs, n, rfl, _⟩ := h
    rfl
  obtain ⟨a, xs, n, rfl, hs, hn, hx, q⟩ := h
  refine ⟨_, PSs.nox ((pss_one (ps_ret (pe_callB (cr_sortA rfl) rfl T.z_sorted bb_sorted (pa_cons (pe_callTy (cr_setL rfl) rfl T.z_set bb_set (pa_cons (pv 0) pa_nil)) pa_nil))))), ?_⟩
  refine ⟨_, rfl, a, nts xs, n + 1, rfl, hs, by (show n + 1 + 1 < 4096); omega, fun x hx' => ?_, fun p c np => ?_⟩
  · obtain ⟨e, he, rfl⟩ := List.mem_map.mp hx'
    have := hx e he
    omega
  refine ⟨_, _, _, rfl, upd_same, fun ns r so hm nr => ?_⟩
  have np2 : H r = none := by
    have := nr
    unfold upd at this
    split at this
    · cases this
    · exact this
  have k : Same H (upd H p (SetO w p (memI (nts xs)) c)) := fun b o e => by rw [upd_ne (ne_of_none e np)]; exact e
  have e : ns = nts (asc n xs) := by
    have e1 : ∀ x ∈ ns, 0 ≤ x ∧ x ≤ (n : Int) ∧ x.toNat ∈ xs := fun x hx' => by
      have m := of_decide_eq_true ((hm x).mp hx')
      obtain ⟨y, hy, rfl⟩ := List.mem_map.mp m
      have := hx y hy
      exact ⟨by omega, by omega, by rw [Int.toNat_natCast]; exact hy⟩
    have e2 : ns = nts (ns.map Int.toNat) := by
      show ns = (ns.map Int.toNat).map fun e : Nat => (e : Int)
      rw [List.map_map]
      refine (List.map_id ns).symm.trans (List.map_congr_left fun x hx' => ?_)
      have := (e1 x hx').1
      show x = ((x.toNat : Nat) : Int)
      omega
    have e3 : ns.map Int.toNat = asc n xs := by
      refine sorted_eq ?_ (asc_sorted n xs) fun z => ⟨fun hz => ?_, fun hz => ?_⟩
      · refine List.pairwise_map.mpr (List.Pairwise.imp_of_mem (fun {a b} ha hb hab => ?_) so)
        have := (e1 a ha).1
        have := (e1 b hb).1
        omega
      · obtain ⟨y, hy, rfl⟩ := List.mem_map.mp hz
        have := e1 y hy
        exact mem_asc.mpr ⟨by omega, this.2.2⟩
      · obtain ⟨h1, h2⟩ := mem_asc.mp hz
        refine List.mem_map.mpr ⟨(z : Int), (hm _).mpr (decide_eq_true (List.mem_map.mpr ⟨z, h2, rfl⟩)), by omega⟩
    rw [e2, e3]
  refine q r _ (fun b o e => ?_) np2 (by rw [upd_same, e])
  rw [upd_ne (ne_of_none (k b o e) nr)]
  exact k b o e
end
end Pd
set_option Elab.async false
set_option linter.all false
set_option maxRecDepth 100000
set_option maxHeartbeats 4000000
namespace Pd
open PySem PySem.Spec PyProof.Rows L2
section
variable {P : Program} {w : World} {K : PySem.W.Frag} {mg : Str → Option Value} {base : Heap} {f : Addr} {fd : FuncData}
abbrev N_ends : List Str := ["self", "number", "start", "key"]
theorem sc_ends : FnScope N_ends ["self", "number", "start"] (defScope s_ends) := ⟨rfl, rfl, rfl, by decide +kernel, rfl, by decide +kernel, by decide +kernel⟩
theorem ok_ends {g : Addr} {D k : Nat} (T : Txt K mg) (F : FnP K "ends" "Splitter.ends" s_ends f fd) (h_find_ends : HasM P w K mg base (Cs K) "find_ends" g ["self", "number", "start"] k (spFind K D)) : FnOk P w K mg base CX0 (k + 1) f fd ["self", "number", "start"] (spEnds K D) := by
  refine F.ok sc_ends (fun vs H Q E h => ?_) (fun cdv A outer s H vs Q E hr h => ?_)
  · obtain ⟨S, n, m, p, rfl, _⟩ := h
    rfl
  obtain ⟨S, n, m, p, rfl, spl, hp, hd, hm, q⟩ := h
  refine ⟨_, PSs.nox ((pss_cons (ps_set (i := 3) sc_ends.nd rfl (Or.inl rfl) (pe_tup (pa_cons (pv 1) (pa_cons (pv 2) pa_nil))))
    (pss_cons (ps_if (pt_cmp (pc_dnotin (hu_of hr) (pv 3) (pe_fld (pv 0) rfl))) (pss_one (ps_dput (hu_of hr) (pe_fld (pv 0) rfl) (pv 3) (pe_methH (pv 0) h_find_ends hr (by omega) (pa_cons (pv 1) (pa_cons (pv 2) pa_nil))) rfl)) pss_nil)
    (pss_one (ps_ret (pe_dget (hu_of hr) (pe_fld (pv 0) rfl) (pv 3) (fun _ _ => rfl))))))), ?_⟩
  refine ⟨_, rfl, _, rfl, (by show 2 ≤ sizeLine; decide), fun t nt => ?_⟩
  have g1 := Go.fresh spl nt (.tup [V.int (n : Int), V.int (m : Int)])
  obtain ⟨kvs, d1, d2⟩ := g1.spl.dict
  have ht : ∀ {H' : Hp}, Kp (upd H t (.tup [V.int (n : Int), V.int (m : Int)])) H' → H' t = some (.tup ((kNS n m).map kV)) := fun k => k _ _ upd_same rfl
  refine ⟨_, rfl, _, rfl, S.x, _, _, _, _, rfl, g1.spl.ins, T.cl, T.n_known, rfl, S.d, _, rfl, DGet.t (k := kNS n m) d1 (ht (Kp.refl _)), _, rfl, ?_⟩
  cases e : valV kvs (kNS n m) with
  | none =>
    refine iteTb rfl ⟨_, rfl, S.x, _, _, rfl, g1.spl.ins, rfl, _, rfl, _, rfl, S, n, m, p, rfl, g1.spl, hp, hd, hm, fun a H2 na g2 ha => ?_⟩
    obtain ⟨kvs2, j1, j2⟩ := g2.spl.dict
    have few : kvs2.length < sizeLine := small_line (by have := j2.few g2.spl.few g2.spl.short; omega)
    refine ⟨_, rfl, S.x, _, _, _, _, rfl, g2.spl.ins, T.cl, T.n_known, rfl, _, rfl, S.d, _, rfl, DPut.t (k := kNS n m) j1 (ht g2.kp) few, ?_⟩
    have g3 := (g1.trans g2).put hp hm ha (g1.kp.free na) j1
    have k3 : Kp H2 (upd H2 S.d (.dT (putK kvs2 (kNS n m) (.ref a)))) := Kp.put j1 _
    refine ⟨_, rfl, S.x, _, _, _, _, rfl, g3.spl.ins, T.cl, T.n_known, rfl, _, rfl, S.d, .ref a, rfl, ?_, q a _ g3 ⟨_, kNS n m, upd_same, valV_mem (by rw [valV_put, if_pos rfl])⟩ (k3 _ _ ha rfl)⟩
    have g := DGet.t (k := kNS n m) (H := upd H2 S.d (.dT (putK kvs2 (kNS n m) (.ref a)))) upd_same (ht (g2.kp.trans k3))
    rw [valV_put, if_pos rfl] at g
    exact g
  | some v =>
    obtain ⟨n', s', p', a, e1, e2, e3, rfl, e5⟩ := d2.at_ _ _ (valV_mem e)
    obtain ⟨rfl, rfl⟩ := kNS_inj e1
    obtain rfl : p = p' := Option.some.inj (hp.symm.trans e2)
    refine iteFb rfl ⟨_, rfl, S.x, _, _, _, _, rfl, g1.spl.ins, T.cl, T.n_known, rfl, _, rfl, S.d, .ref a, rfl, ?_, q a _ g1 ⟨kvs, _, d1, valV_mem e⟩ e5⟩
    have g := DGet.t (k := kNS n m) d1 (ht (Kp.refl _))
    rw [e] at g
    exact g
end
end Pd
set_option Elab.async false
set_option linter.all false
set_option maxRecDepth 100000
set_option maxHeartbeats 4000000
namespace Pd
open PySem PySem.Spec PyProof.Rows L2
section
variable {P : Program} {w : World} {K : PySem.W.Frag} {mg : Str → Option Value} {base : Heap} {f : Addr} {fd : FuncData}
abbrev N_find_ends : List Str := ["self", "number", "start", "word", "layers", "end", "part", "layer"]
theorem sc_find_ends : FnScope N_find_ends ["self", "number", "start"] (defScope s_find_ends) := ⟨rfl, rfl, rfl, by decide +kernel, rfl, by decide +kernel, by decide +kernel⟩
theorem ok_find_ends {gL gA gE gR gY : Addr} {D k : Nat} (T : Txt K mg) (F : FnP K "find_ends" "Splitter.find_ends" s_find_ends f fd) (hk : 5 ≤ k) (h_leaf_end : Has P w K mg base "leaf_end" gL ["pattern", "text", "at"] 1 (spLeafEnd K)) (h_ascending : Has P w K mg base "ascending" gA ["numbers"] 1 (spAscending K))
    (h_ends : HasM P w K mg base (Cs K) "ends" gE ["self", "number", "start"] k (spEnds K D)) (h_row_reach : HasM P w K mg base (Cs K) "row_reach" gR ["self", "number", "start"] k (spReach K D)) (h_layers : HasM P w K mg base (Cs K) "layers" gY ["self", "number", "start"] k (spLayers K D)) :
    FnOk P w K mg base CX0 (k + 1) f fd ["self", "number", "start"] (spFind K (D + 1)) := by
  refine F.ok sc_find_ends (fun vs H Q E h => ?_) (fun cdv A outer s H vs Q E hr h => ?_)
  · obtain ⟨S, n, m, p, rfl, _⟩ := h
    rfl
  obtain ⟨S, n, m, p, rfl, spl, hp, hd, hm, q⟩ := h
  refine ⟨_, PSs.nox ((pss_cons (ps_set (i := 3) sc_find_ends.nd rfl (Or.inl rfl) (pe_ix ix_tup (pe_ix ix_list (pe_fld (pv 0) rfl) (pv 1) (fun _ _ => rfl)) pe_int (fun _ _ => rfl)))
    (pss_cons (ps_if (pt_cmpR op_eq (pv 3) pe_str (nomark _)) (pss_one (ps_ret (pe_ix ix_list (pe_methH (pv 0) h_row_reach hr (by omega) (pa_cons (pv 1) (pa_cons (pv 2) pa_nil))) (pe_un un_neg pe_int) (fun _ _ => rfl)))) pss_nil)
    (pss_cons (ps_if (pt_cmpR op_eq (pv 3) pe_str (nomark _)) (pss_one (ps_ret (pe_callH h_ascending hr (by omega) rfl (pa_cons (pe_lc2 (own := [("part", 6), ("end", 5)]) (vs1 := [5]) rfl sc_find_ends.nd (pi_list (pe_ix ix_list (pe_fld (pv 0) rfl) (pv 1) (fun _ _ => rfl))) (blkOk_by (N := N_find_ends) (sc := defScope s_find_ends) (by decide +kernel)) (by decide) (fun _ _ _ _ _ => pg_name (i := 6) sc_find_ends.nd rfl (Or.inl rfl)) (fun _ _ _ _ _ => pts_nil) (fun _ _ _ _ _ => (pi_listK (K := K) rfl (pe_methH (pv 0) h_ends hr (by omega) (pa_cons (pv 6) (pa_cons (pv 2) pa_nil))))) (fun _ _ _ _ _ => pg_name (i := 5) sc_find_ends.nd rfl (Or.inl rfl)) (fun _ _ _ _ _ => pts_nil) (fun _ _ _ _ _ => (pv 5))) pa_nil)))) pss_nil)
    (pss_cons (ps_if (pt_cmpR op_eq (pv 3) pe_str (nomark _)) (pss_cons (ps_set (i := 4) sc_find_ends.nd rfl (Or.inl rfl) (pe_methH (pv 0) h_layers hr (by omega) (pa_cons (pv 1) (pa_cons (pv 2) pa_nil))))
    (pss_one (ps_ret (pe_callH h_ascending hr (by omega) rfl (pa_cons (pe_lc2 (own := [("layer", 7), ("end", 5)]) (vs1 := [5]) rfl sc_find_ends.nd (pi_list (pe_slice sl_list (pv 4) (po_some (pe_ix ix_tup (pe_ix ix_list (pe_fld (pv 0) rfl) (pv 1) (fun _ _ => rfl)) pe_int (fun _ _ => rfl))) po_none)) (blkOk_by (N := N_find_ends) (sc := defScope s_find_ends) (by decide +kernel)) (by decide) (fun _ _ _ _ _ => pg_name (i := 7) sc_find_ends.nd rfl (Or.inl rfl)) (fun _ _ _ _ _ => pts_nil) (fun _ _ _ _ _ => (pi_listK (K := K) rfl (pv 7))) (fun _ _ _ _ _ => pg_name (i := 5) sc_find_ends.nd rfl (Or.inl rfl)) (fun _ _ _ _ _ => pts_nil) (fun _ _ _ _ _ => (pv 5))) pa_nil))))) pss_nil)
    (pss_cons (ps_set (i := 5) sc_find_ends.nd rfl (Or.inl rfl) (pe_callH h_leaf_end hr (by omega) rfl (pa_cons (pe_ix ix_list (pe_fld (pv 0) rfl) (pv 1) (fun _ _ => rfl)) (pa_cons (pe_fld (pv 0) rfl) (pa_cons (pv 2) pa_nil)))))
    (pss_one (ps_ret (pe_ifExp (pt_cmpR op_isN (pv 5) pe_non (nomark _)) (pe_lst pa_nil) (pe_lst (pa_cons (pv 5) pa_nil))))))))))), ?_⟩
  obtain ⟨tv, v, ht, hv, hP⟩ := spl.tree hp
  obtain ⟨a, us, rfl, hw⟩ := hP.word
  have hlen : m ≤ (tx S.z).length := by rw [tx_len]; exact hm
  have hz := tx_len S.z
  have hsh := spl.short
  refine ⟨_, rfl, S.x, _, _, _, _, rfl, spl.ins, T.cl, T.n_trees, rfl, _, rfl, S.tl, tv, _, _, rfl, rfl, SqL.of ht, hv, a, _, _, _, rfl, rfl, hw, at0, ?_⟩
  cases p with
  | row ps =>
    rw [ends_row] at q
    refine ⟨_, rfl, rfl, _, rfl, iteTb (veq rfl) ?_⟩
    refine ⟨_, rfl, S.x, _, _, rfl, spl.ins, rfl, _, rfl, _, rfl, S, n, m, ps, rfl, spl, hp, by rw [dep] at hd; omega, hm, fun b H1 g1 hb => ?_⟩
    obtain ⟨as, c, e1, e2, e3, e4⟩ := hb.last (k := ps.length) (reaches_last _ _ _) (reaches_len _ _ _)
    exact ⟨_, rfl, b, _, _, _, rfl, rfl, SqL.of e1, e2, q c H1 e4 g1 e3⟩
  | alt ps =>
    rw [ends_alt] at q
    refine ⟨_, rfl, rfl, _, rfl, iteFb (vne ne_or_row) ⟨_, rfl, rfl, _, rfl, iteTb (veq rfl) ?_⟩⟩
    obtain ⟨ua, b, cs, hu, hb, hc, lc, kid⟩ := spl.unders hp
    refine ⟨_, rfl, S.x, _, _, _, _, rfl, spl.ins, T.cl, T.n_under, rfl, _, rfl, S.ul, _, _, _, rfl, rfl, SqL.of hu, hb, b, rfl, ⟨_, SqL.of hc⟩, fun G nG => ?_⟩
    let ac : Nat → List Nat := fun i => (ps.take i).flatMap fun p => ends (tx S.z) p m
    have lps : ps.length ≤ 1000 := by
      have h4 := spl.wfp hp
      rw [Wf] at h4
      exact h4.2
    have lac : ∀ i, (ac i).length ≤ 1001000 := fun i => by
      have h1 := flat_len (fun p => ends (tx S.z) p m) 1001 (fun p => by have := ends_len (tx S.z) p m hlen; omega) (ps.take i)
      rw [List.length_take] at h1
      have : min i ps.length * 1001 ≤ 1000 * 1001 := Nat.mul_le_mul_right _ (by omega)
      exact Nat.le_trans h1 this
    refine walk_list (xs := nv cs) (fun i H' => Acc K S H H' G (nv (ac i)) ∧ i ≤ ps.length) ⟨Acc.start spl nG, Nat.zero_le _⟩ (fun i H' _ h => h.1.go.kp.seq (SqL.of hc)) (fun i x H1 hx h => ?_) fun H1 h => ?_
    · obtain ⟨A1, hi⟩ := h
      obtain ⟨c, hc1, rfl⟩ := nv_atV hx
      have li : i < ps.length := by
        have := (List.getElem?_eq_some_iff.mp hc1).1
        have e : (Pat.alt ps).kids.length = ps.length := rfl
        omega
      have hq : ps[i]? = some ps[i] := List.getElem?_eq_getElem li
      obtain ⟨c', hc2, hc3⟩ := kid i ps[i] hq
      obtain rfl : c = c' := Option.some.inj (hc1.symm.trans hc2)
      refine ⟨rfl, _, rfl, S.x, _, _, rfl, A1.go.spl.ins, rfl, _, rfl, _, rfl, S, c, m, ps[i], rfl, A1.go.spl, hc3, ?_, hm, fun b2 H2 g2 in2 hb2 => ⟨b2, rfl, ⟨_, SqL.of hb2⟩, ?_⟩⟩
      · have := deps_mem (List.mem_of_getElem? hq)
        rw [dep] at hd
        omega
      have sn := flat_snoc (fun p => ends (tx S.z) p m) ps i hq
      have n2 : b2 ≠ G := (A1.then g2).off.ne in2
      refine walk_list (xs := nv (ends (tx S.z) ps[i] m)) (fun j H' => Acc K S H H' G (nv (ac i ++ (ends (tx S.z) ps[i] m).take j)) ∧ SqL K H' b2 (nv (ends (tx S.z) ps[i] m))) ⟨by rw [List.take_zero, List.append_nil]; exact A1.then g2, SqL.of hb2⟩ (fun j H' _ h => h.2) (fun j x H3 hx3 h => ?_) fun H3 h => ?_
      · obtain ⟨A3, hb3⟩ := h
        obtain ⟨e, he, rfl⟩ := nv_atV hx3
        have few : ((nv (ac i ++ (ends (tx S.z) ps[i] m).take j))).length < sizeLine := by
          rw [nv_len, List.length_append, List.length_take]
          have l1 := lac i
          have l2 := ends_len (tx S.z) ps[i] m hlen
          exact small_line (by omega)
        refine ⟨rfl, _, rfl, _, A3.at_, few, ?_⟩
        rw [nv_snoc, List.append_assoc, ← take_snoc _ j he]
        exact ⟨A3.push spl, SqL.ne hb3 n2⟩
      · obtain ⟨A3, _⟩ := h
        rw [nv_len, List.take_length] at A3
        refine ⟨?_, li⟩
        have e : ac (i + 1) = ac i ++ ends (tx S.z) ps[i] m := sn
        rw [e]
        exact A3
    · obtain ⟨A1, hi⟩ := h
      rw [nv_len] at A1
      have e : ac cs.length = altEnds (tx S.z) ps m := by
        show (ps.take cs.length).flatMap _ = _
        rw [altEnds_flat, lc]
        show (ps.take ps.length).flatMap _ = _
        rw [List.take_length]
      rw [e] at A1
      refine ⟨G, altEnds (tx S.z) ps m, (tx S.z).length, rfl, SqL.of A1.at_, by omega, fun x hx => ?_, fun p H2 s2 np e2 => ?_⟩
      · rw [altEnds_flat] at hx
        obtain ⟨y, _, hy⟩ := List.mem_flatMap.mp hx
        exact ends_le _ _ _ _ hlen hy
      · exact q p H2 (A1.go.kp.free np) (A1.go.same s2) e2
  | rep p l m' =>
    rw [ends_rep] at q
    have h4 := spl.wfp hp
    rw [Wf] at h4
    refine ⟨_, rfl, rfl, _, rfl, iteFb (vne ne_repeat_row) ⟨_, rfl, rfl, _, rfl, iteFb (vne ne_repeat_or) ⟨_, rfl, rfl, _, rfl, iteTb (veq rfl) ?_⟩⟩⟩
    refine ⟨_, rfl, S.x, _, _, rfl, spl.ins, rfl, _, rfl, _, rfl, S, n, m, p, l, m', rfl, spl, hp, by rw [dep] at hd; omega, hm, fun b H1 top g1 hb h1 h2 h3 => ?_⟩
    obtain ⟨as, a1, a2, a3⟩ := hb
    obtain ⟨tv, v, ht, hv, hP⟩ := g1.spl.tree hp
    obtain ⟨a', u, e, hw, _⟩ := hP.rep
    cases e
    refine ⟨_, rfl, ⟨_, rfl, S.x, _, _, _, _, rfl, g1.spl.ins, T.cl, T.n_trees, rfl, _, rfl, S.tl, tv, _, _, rfl, rfl, SqL.of ht, hv, a', _, _, _, rfl, rfl, hw, at2, (l : Int), rfl, b, _, rfl, SqL.of a1, fun c nc => ?_⟩⟩
    have g2 := Go.fresh g1.spl nc (.lst (cutV (as.map V.ref) (some (l : Int)) none))
    rw [cut_from, ← List.map_drop] at g2
    rw [cut_from, ← List.map_drop]
    refine ⟨c, rfl, ⟨_, SqL.of upd_same⟩, fun G nG => ?_⟩
    let L := (List.range (top + 1)).map (lay (tx S.z).length (ends (tx S.z) p) l m)
    have lL : L.length = top + 1 := by rw [List.length_map, List.length_range]
    let ac : Nat → List Nat := fun i => ((L.drop l).take i).flatten
    have mL : ∀ ys ∈ L, ∃ j, ys = lay (tx S.z).length (ends (tx S.z) p) l m j := fun ys hy => by
      obtain ⟨j, _, e⟩ := List.mem_map.mp hy
      exact ⟨j, e.symm⟩
    have lac : ∀ i, (ac i).length ≤ 2100 * 1001 := fun i => by
      have h1 := flat_len2 1001 ((L.drop l).take i) (fun ys hy => by
        obtain ⟨j, rfl⟩ := mL ys (List.mem_of_mem_drop (List.mem_of_mem_take hy))
        have := lay_len (f := ends (tx S.z) p) (l := l) hlen j
        omega)
      rw [List.length_take, List.length_drop] at h1
      have : min i (L.length - l) * 1001 ≤ 2100 * 1001 := Nat.mul_le_mul_right _ (by omega)
      exact Nat.le_trans h1 this
    refine walk_list (xs := (as.drop l).map V.ref) (fun i H' => Acc K S (upd H1 c (.lst ((as.drop l).map V.ref))) H' G (nv (ac i))) (Acc.start g2.spl nG) (fun i H' _ h => h.go.kp.seq (SqL.of upd_same)) (fun i x H2 hx A1 => ?_) fun H2 A1 => ?_
    · obtain ⟨b2, hb2, rfl⟩ : ∃ b2, (as.drop l)[i]? = some b2 ∧ x = .ref b2 := by
        rw [List.getElem?_map] at hx
        cases q : (as.drop l)[i]? with
        | none => rw [q] at hx; cases hx
        | some b2 => rw [q] at hx; exact ⟨b2, rfl, (Option.some.inj hx).symm⟩
      rw [List.getElem?_drop] at hb2
      have li : l + i < L.length := by
        have := (List.getElem?_eq_some_iff.mp hb2).1
        have e : as.length = L.length := a2
        omega
      have hy : L[l + i]? = some L[l + i] := List.getElem?_eq_getElem li
      have hb3 := a3 _ _ _ hb2 hy
      have hb4 := A1.go.kp _ _ (g2.kp _ _ hb3 rfl) rfl
      have n2 : b2 ≠ G := ne_of_none (g2.kp _ _ hb3 rfl) A1.free
      obtain ⟨j0, ej⟩ := mL _ (List.getElem_mem li)
      have lj : L[l + i].length ≤ 1001 := by
        rw [ej]
        have := lay_len (f := ends (tx S.z) p) (l := l) hlen j0
        omega
      refine ⟨rfl, _, rfl, b2, rfl, ⟨_, SqL.of hb4⟩, ?_⟩
      refine walk_list (xs := nv L[l + i]) (fun j H' => Acc K S (upd H1 c (.lst ((as.drop l).map V.ref))) H' G (nv (ac i ++ L[l + i].take j)) ∧ SqL K H' b2 (nv L[l + i])) ⟨by rw [List.take_zero, List.append_nil]; exact A1, SqL.of hb4⟩ (fun j H' _ h => h.2) (fun j x H3 hx3 h => ?_) fun H3 h => ?_
      · obtain ⟨A3, hb3⟩ := h
        obtain ⟨e, he, rfl⟩ := nv_atV hx3
        have few : ((nv (ac i ++ L[l + i].take j))).length < sizeLine := by
          rw [nv_len, List.length_append, List.length_take]
          have l1 := lac i
          exact small_line (by omega)
        refine ⟨rfl, _, rfl, _, A3.at_, few, ?_⟩
        rw [nv_snoc, List.append_assoc, ← take_snoc _ j he]
        exact ⟨A3.push g2.spl, SqL.ne hb3 n2⟩
      · obtain ⟨A3, _⟩ := h
        rw [nv_len, List.take_length] at A3
        have e : ac (i + 1) = ac i ++ L[l + i] := by
          show ((L.drop l).take (i + 1)).flatten = _
          rw [take_snoc _ i (show (L.drop l)[i]? = some L[l + i] by rw [List.getElem?_drop]; exact hy), List.flatten_append]
          simp [ac]
        rw [e]
        exact A3
    · have e : ac ((as.drop l).map V.ref).length = (L.drop l).flatten := by
        show ((L.drop l).take _).flatten = _
        rw [List.take_of_length_le]
        rw [List.length_map, List.length_drop, List.length_drop]
        have e : as.length = L.length := a2
        omega
      rw [e] at A1
      refine ⟨G, (L.drop l).flatten, (tx S.z).length, rfl, SqL.of A1.at_, by omega, fun x hx => ?_, fun r H3 s3 nr e3 => ?_⟩
      · obtain ⟨ys, hy, hx⟩ := List.mem_flatten.mp hx
        obtain ⟨j, rfl⟩ := mL ys (List.mem_of_mem_drop hy)
        exact lay_le hlen j x hx
      · rw [repEnds_top hlen h1 h2] at e3
        exact q r H3 (g1.kp.free (g2.kp.free (A1.go.kp.free nr))) ((g1.trans (g2.trans A1.go)).same s3) e3
  | leaf l =>
    rw [ends_leaf] at q
    have w := leafWord_ne l
    refine ⟨_, rfl, rfl, _, rfl, iteFb (vne w.1) ⟨_, rfl, rfl, _, rfl, iteFb (vne w.2.1) ⟨_, rfl, rfl, _, rfl, iteFb (vne w.2.2) ?_⟩⟩⟩
    refine ⟨_, rfl, S.x, _, _, _, _, rfl, spl.ins, T.cl, T.n_trees, rfl, _, rfl, S.tl, tv, _, _, rfl, rfl, SqL.of ht, hv, _, rfl, S.x, _, _, _, _, rfl, spl.ins, T.cl, T.n_text, rfl, _, rfl, _, l, S.z, m, rfl, hP.leafD, hsh, hm, fun H1 s1 => ?_⟩
    cases e : leafEnd (tx S.z) l m with
    | none =>
      rw [e] at q
      refine ⟨_, rfl, rfl, _, rfl, iteTb rfl ⟨(by show 0 ≤ sizeLine; decide), fun c nc => ?_⟩⟩
      exact q c _ (Same.free s1 nc) (((Go.refl spl).same s1).add nc _) upd_same
    | some x =>
      rw [e] at q
      refine ⟨_, rfl, rfl, _, rfl, iteFb rfl ⟨_, rfl, (by show 1 ≤ sizeLine; decide), fun c nc => ?_⟩⟩
      exact q c _ (Same.free s1 nc) (((Go.refl spl).same s1).add nc _) upd_same
end
end Pd
set_option Elab.async false
set_option linter.all false
set_option maxRecDepth 100000
set_option maxHeartbeats 4000000
namespace Pd
open PySem PySem.Spec PyProof.Rows L2
section
variable {P : Program} {w : World} {K : PySem.W.Frag} {mg : Str → Option Value} {base : Heap} {f : Addr} {fd : FuncData}
abbrev N_row_reach : List Str := ["self", "number", "start", "reach", "part", "at", "end"]
theorem sc_row_reach : FnScope N_row_reach ["self", "number", "start"] (defScope s_row_reach) := ⟨rfl, rfl, rfl, by decide +kernel, rfl, by decide +kernel, by decide +kernel⟩
theorem ok_row_reach {gA gE : Addr} {D k : Nat} (T : Txt K mg) (F : FnP K "row_reach" "Splitter.row_reach" s_row_reach f fd) (hk : 5 ≤ k) (h_ascending : Has P w K mg base "ascending" gA ["numbers"] 1 (spAscending K))
    (h_ends : HasM P w K mg base (Cs K) "ends" gE ["self", "number", "start"] k (spEnds K D)) :
    FnOk P w K mg base CX0 (k + 1) f fd ["self", "number", "start"] (spReach K D) := by
  refine F.ok sc_row_reach (fun vs H Q E h => ?_) (fun cdv A outer s H vs Q E hr h => ?_)
  · obtain ⟨S, n, m, p, rfl, _⟩ := h
    rfl
  obtain ⟨S, n, m, ps, rfl, spl, hp, hd, hm, q⟩ := h
  refine ⟨_, PSs.nox ((pss_cons (ps_set (i := 3) sc_row_reach.nd rfl (Or.inl rfl) (pe_lst (pa_cons (pe_lst (pa_cons (pv 2) pa_nil)) pa_nil)))
    (pss_cons (ps_for PassesOwn.never rfl (pi_list (pe_ix ix_list (pe_fld (pv 0) rfl) (pv 1) (fun _ _ => rfl))) (pg_name (i := 4) sc_row_reach.nd rfl (Or.inr rfl)) (pss_one (ps_expr (pe_bm PySem.F.plainAttrs_list PySem.F.slot_list_append PySem.F.type_list_append mt_append (pv 3) (pa_cons (pe_callH h_ascending hr (by omega) rfl (pa_cons (pe_lc2 (own := [("at", 5), ("end", 6)]) (vs1 := [6]) rfl sc_row_reach.nd (pi_list (pe_ix ix_list (pv 3) (pe_un un_neg pe_int) (fun _ _ => rfl))) (blkOk_by (N := N_row_reach) (sc := defScope s_row_reach) (by decide +kernel)) (by decide) (fun _ _ _ _ _ => pg_name (i := 5) sc_row_reach.nd rfl (Or.inl rfl)) (fun _ _ _ _ _ => pts_nil) (fun _ _ _ _ _ => (pi_listK (K := K) rfl (pe_methH (pv 0) h_ends hr (by omega) (pa_cons (pv 4) (pa_cons (pv 5) pa_nil))))) (fun _ _ _ _ _ => pg_name (i := 6) sc_row_reach.nd rfl (Or.inl rfl)) (fun _ _ _ _ _ => pts_nil) (fun _ _ _ _ _ => (pv 6))) pa_nil)) pa_nil)))))
    (pss_one (ps_ret (pv 3)))))), ?_⟩
  have hlen : m ≤ (tx S.z).length := by rw [tx_len]; exact hm
  have hz := tx_len S.z
  have hsh := spl.short
  have h4 := spl.wfp hp
  rw [Wf] at h4
  refine ⟨_, rfl, (by show 1 ≤ sizeLine; decide), fun b0 nb0 => ⟨(by show 1 ≤ sizeLine; decide), fun R nR => ?_⟩⟩
  have g0 := Go.fresh spl nb0 (.lst [V.int (m : Int)])
  have A0 : Acc K S H (upd (upd H b0 (.lst [V.int (m : Int)])) R (.lst [V.ref b0])) R [V.ref b0] := by
    have a := Acc.start (G := R) (xs := [V.ref b0]) g0.spl nR
    exact ⟨g0.trans a.go, a.off, a.at_, g0.kp.free nR⟩
  obtain ⟨ua, b, cs, hu, hb, hc, lc, kid⟩ := spl.unders hp
  let rs := reaches (tx S.z) ps [m]
  have bound : ∀ ys ∈ rs, (∀ y ∈ ys, y ≤ (tx S.z).length) ∧ ys.Pairwise (· < ·) := reaches_le _ _ _ (fun x hx => by rw [List.mem_singleton.mp hx]; exact hlen) (List.pairwise_singleton _ _)
  have lcs : cs.length = ps.length := lc
  refine ⟨_, rfl, S.x, _, _, _, _, rfl, A0.go.spl.ins, T.cl, T.n_under, rfl, _, rfl, S.ul, _, _, _, rfl, rfl, SqL.of (A0.go.kp _ _ hu rfl), hb, b, rfl, ⟨_, SqL.of (A0.go.kp _ _ hc rfl)⟩, for_list (xs := nv cs) (fun i σ H' => ∃ (as : List Addr) (v4 : Option V), σ = [some (.ref S.x), some (.int (n : Int)), some (.int (m : Int)), some (.ref R), v4, none, none] ∧ Acc K S H H' R (as.map V.ref) ∧ as.length = i + 1 ∧ i ≤ ps.length ∧
      (∀ (j : Nat) (c : Addr) (xs : List Nat), as[j]? = some c → rs[j]? = some xs → H' c = some (.lst (nv xs))) ∧ (∀ c ∈ as, H c = none ∧ c ≠ R)) ⟨[b0], none, rfl, A0, rfl, Nat.zero_le _, fun j c xs h1 h2 => ?_, fun c hc => ?_⟩ (fun i σ H' _ h => ?_) (fun i x σ H1 hx h => ?_) fun σ H1 h => ?_⟩
  · have e : j = 0 := by
      have := (List.getElem?_eq_some_iff.mp h1).1
      simp at this
      exact this
    subst e
    have e1 : b0 = c := Option.some.inj h1
    subst e1
    rw [reaches_head] at h2
    rw [← Option.some.inj h2, upd_ne (ne_of_none (upd_same (H := H) (o := .lst [V.int (m : Int)])) nR)]
    exact upd_same
  · rw [List.mem_singleton.mp hc]
    exact ⟨nb0, ne_of_none (upd_same (H := H) (o := .lst [V.int (m : Int)])) nR⟩
  · obtain ⟨as, v4, _, A1, _⟩ := h
    exact SqL.of (A1.go.kp _ _ hc rfl)
  · obtain ⟨as, v4, rfl, A1, la, hi, hl, hf⟩ := h
    obtain ⟨c, hc1, rfl⟩ := nv_atV hx
    have li : i < ps.length := by
      have := (List.getElem?_eq_some_iff.mp hc1).1
      omega
    have hq : ps[i]? = some ps[i] := List.getElem?_eq_getElem li
    obtain ⟨c', hc2, hc3⟩ := kid i ps[i] hq
    obtain rfl : c = c' := Option.some.inj (hc1.symm.trans hc2)
    have lr : i < rs.length := by
      show i < (reaches (tx S.z) ps [m]).length
      rw [reaches_len]
      omega
    have hr0 : rs[i]? = some rs[i] := List.getElem?_eq_getElem lr
    have ha0 : as[i]? = some as[i] := List.getElem?_eq_getElem (by omega)
    have hlast := hl i _ _ ha0 hr0
    have hb0 := bound _ (List.getElem_mem lr)
    have lst : atI (as.map V.ref) (-1) = some (.ref as[i]) := atI_end (k := i) (by rw [List.getElem?_map, ha0]; rfl) (by rw [List.length_map]; exact la)
    refine ⟨_, rfl, .inl ⟨rfl, _, SqL.of A1.at_⟩, _, rfl, _, rfl, R, _, _, _, rfl, rfl, SqL.of A1.at_, lst, as[i], rfl, ⟨_, SqL.of hlast⟩, fun G nG => ?_⟩
    let ac : Nat → List Nat := fun j => (rs[i].take j).flatMap (ends (tx S.z) ps[i])
    have lri : rs[i].length ≤ 1001 := by
      have := sorted_len hb0.2 hb0.1
      omega
    have lac : ∀ j, (ac j).length ≤ 1001 * 1001 := fun j => by
      have h1 := flat_lenM (ends (tx S.z) ps[i]) 1001 (rs[i].take j) (fun a ha => by have := ends_len (tx S.z) ps[i] a (hb0.1 a (List.mem_of_mem_take ha)); omega)
      rw [List.length_take] at h1
      have : min j rs[i].length * 1001 ≤ 1001 * 1001 := Nat.mul_le_mul_right _ (by omega)
      exact Nat.le_trans h1 this
    refine walk_list (xs := nv rs[i]) (fun j H' => Acc K S H1 H' G (nv (ac j)) ∧ j ≤ rs[i].length) ⟨Acc.start A1.go.spl nG, Nat.zero_le _⟩ (fun j H' _ h => h.1.go.kp.seq (SqL.of hlast)) (fun j x H2 hx h => ?_) fun H2 h => ?_
    · obtain ⟨A2, hj⟩ := h
      obtain ⟨a, ha1, rfl⟩ := nv_atV hx
      have am : a ≤ S.z.length := by
        have := hb0.1 a (List.mem_of_getElem? ha1)
        omega
      refine ⟨rfl, _, rfl, S.x, _, _, rfl, A2.go.spl.ins, rfl, _, rfl, _, rfl, S, c, a, ps[i], rfl, A2.go.spl, hc3, ?_, am, fun b2 H3 g3 in3 hb2 => ⟨b2, rfl, ⟨_, SqL.of hb2⟩, ?_⟩⟩
      · have := deps_mem (List.mem_of_getElem? hq)
        omega
      have n2 : b2 ≠ G := (A2.then g3).off.ne in3
      refine walk_list (xs := nv (ends (tx S.z) ps[i] a)) (fun k H' => Acc K S H1 H' G (nv (ac j ++ (ends (tx S.z) ps[i] a).take k)) ∧ SqL K H' b2 (nv (ends (tx S.z) ps[i] a))) ⟨by rw [List.take_zero, List.append_nil]; exact A2.then g3, SqL.of hb2⟩ (fun k H' _ h => h.2) (fun k x H4 hx4 h => ?_) fun H4 h => ?_
      · obtain ⟨A4, hb4⟩ := h
        obtain ⟨e, he, rfl⟩ := nv_atV hx4
        have few : ((nv (ac j ++ (ends (tx S.z) ps[i] a).take k))).length < sizeLine := by
          rw [nv_len, List.length_append, List.length_take]
          have l1 := lac j
          have l2 := ends_len (tx S.z) ps[i] a (by omega)
          exact small_line (by omega)
        refine ⟨rfl, _, rfl, _, A4.at_, few, ?_⟩
        rw [nv_snoc, List.append_assoc, ← take_snoc _ k he]
        exact ⟨A4.push A1.go.spl, SqL.ne hb4 n2⟩
      · obtain ⟨A4, _⟩ := h
        rw [nv_len, List.take_length] at A4
        refine ⟨?_, (List.getElem?_eq_some_iff.mp ha1).1⟩
        have e : ac (j + 1) = ac j ++ ends (tx S.z) ps[i] a := flat_snoc _ _ j ha1
        rw [e]
        exact A4
    · obtain ⟨A2, _⟩ := h
      rw [nv_len] at A2
      have e : ac rs[i].length = rs[i].flatMap (ends (tx S.z) ps[i]) := by
        show (rs[i].take _).flatMap _ = _
        rw [List.take_length]
      rw [e] at A2
      refine ⟨G, _, (tx S.z).length, rfl, SqL.of A2.at_, by omega, fun x hx => ?_, fun p H3 s3 np e3 => ?_⟩
      · obtain ⟨y, hy, hy2⟩ := List.mem_flatMap.mp hx
        exact ends_le _ _ _ _ (hb0.1 y hy) hy2
      have A3 : Acc K S H H3 R (as.map V.ref) := A1.then (A2.go.same s3)
      have np1 : H1 p = none := A2.go.kp.free np
      have few : (as.map V.ref).length < sizeLine := by
        rw [List.length_map]
        exact small_line (by omega)
      refine ⟨R, _, _, rfl, rfl, A3.at_, few, as ++ [p], _, rfl, ?_, by rw [List.length_append, la]; rfl, li, fun j c' xs h1 h2 => ?_, fun c' hc' => ?_⟩
      · have a := A3.push (ys := as.map V.ref ++ [V.ref p]) spl
        rw [List.map_append]
        exact a
      · by_cases lj : j < as.length
        · rw [List.getElem?_append_left lj] at h1
          have nR' := (hf c' (List.mem_of_getElem? h1)).2
          rw [upd_ne nR']
          exact s3 _ _ (A2.go.kp _ _ (hl j c' xs h1 h2) rfl)
        · have ej : j = i + 1 := by
            have := (List.getElem?_eq_some_iff.mp h1).1
            rw [List.length_append] at this
            have : j < as.length + 1 := this
            omega
          subst ej
          rw [List.getElem?_append_right (by omega), la, Nat.sub_self] at h1
          have e1 : p = c' := Option.some.inj h1
          subst e1
          rw [reaches_next _ _ _ i ps[i] rs[i] hq hr0] at h2
          rw [← Option.some.inj h2, upd_ne (ne_of_none A1.at_ np1).symm]
          exact e3
      · rcases List.mem_append.mp hc' with h | h
        · exact hf c' h
        · rw [List.mem_singleton.mp h]
          exact ⟨A1.go.kp.free np1, (ne_of_none A1.at_ np1).symm⟩
  · obtain ⟨as, v4, rfl, A1, la, hi, hl, hf⟩ := h
    rw [nv_len] at la
    refine ⟨_, rfl, q R H1 A1.go ⟨as, A1.at_, ?_, hl, fun c hc => (hf c hc).1⟩⟩
    rw [la, reaches_len]
    omega
end
end Pd
set_option Elab.async false
set_option linter.all false
set_option maxRecDepth 100000
set_option maxHeartbeats 4000000
namespace Pd
open PySem PySem.Spec PyProof.Rows L2
section
variable {P : Program} {w : World} {K : PySem.W.Frag} {mg : Str → Option Value} {base : Heap} {f : Addr} {fd : FuncData}
abbrev N_layers : List Str := ["self", "number", "start", "least", "most", "part", "layers", "empty_too", "reached", "at", "end"]
theorem sc_layers : FnScope N_layers ["self", "number", "start"] (defScope s_layers) := ⟨rfl, rfl, rfl, by decide +kernel, rfl, by decide +kernel, by decide +kernel⟩
theorem ok_layers {gA gE : Addr} {D k : Nat} (T : Txt K mg) (F : FnP K "layers" "Splitter.layers" s_layers f fd) (hk : 5 ≤ k) (h_ascending : Has P w K mg base "ascending" gA ["numbers"] 1 (spAscending K))
    (h_ends : HasM P w K mg base (Cs K) "ends" gE ["self", "number", "start"] k (spEnds K D)) :
    FnOk P w K mg base CX0 (k + 1) f fd ["self", "number", "start"] (spLayers K D) := by
  refine F.ok sc_layers (fun vs H Q E h => ?_) (fun cdv A outer s H vs Q E hr h => ?_)
  · obtain ⟨S, n, m, p, l, mo, rfl, _⟩ := h
    rfl
  obtain ⟨S, n, m, p, l, mo, rfl, spl, hp, hd, hm, q⟩ := h
  refine ⟨_, PSs.nox ((pss_cons (ps_asg (pe_slice sl_tupA (pe_ix ix_list (pe_fld (pv 0) rfl) (pv 1) (fun _ _ => rfl)) (po_some pe_int) po_none) (pg_tup rfl (pgs_cons (pg_name (i := 3) sc_layers.nd rfl (Or.inl rfl)) (pgs_cons (pg_name (i := 4) sc_layers.nd rfl (Or.inl rfl)) pgs_nil))))
    (pss_cons (ps_set (i := 5) sc_layers.nd rfl (Or.inr rfl) (pe_ix ix_list (pe_ix ix_list (pe_fld (pv 0) rfl) (pv 1) (fun _ _ => rfl)) pe_int (fun _ _ => rfl)))
    (pss_cons (ps_set (i := 6) sc_layers.nd rfl (Or.inl rfl) (pe_lst (pa_cons (pe_lst (pa_cons (pv 2) pa_nil)) pa_nil)))
    (pss_cons (ps_while PassesOwn.never (PW.pt (pw_and (pt_cmpR op_gt (pe_callB call_len_seq rfl T.z_len PySem.boot_len (pa_cons (pe_ix ix_list (pv 6) (pe_un un_neg pe_int) (fun _ _ => rfl)) pa_nil)) pe_int (nomark _)) (pw_and1 (PW.pt (pw_or (pt_cmpR op_isN (pv 4) pe_non (nomark _)) (pw_or1 (pt_cmpR op_le (pe_callB call_len_seq rfl T.z_len PySem.boot_len (pa_cons (pv 6) pa_nil)) (pv 4) (nomark _)))))))) (pss_cons (ps_set (i := 7) sc_layers.nd rfl (Or.inr rfl) (pe_cmpR op_le (pe_callB call_len_seq rfl T.z_len PySem.boot_len (pa_cons (pv 6) pa_nil)) (pv 3) (nomark _)))
    (pss_cons (ps_setLc2 (i := 8) (own := [("at", 9), ("end", 10)]) (vs1 := [10]) rfl sc_layers.nd rfl rfl (sw_true rfl rfl rfl (by decide +kernel)) (pi_list (pe_ix ix_list (pv 6) (pe_un un_neg pe_int) (fun _ _ => rfl))) (blkOk_by (N := N_layers) (sc := defScope s_layers) (by decide +kernel)) (by decide) (fun _ _ _ _ _ => pg_name (i := 9) sc_layers.nd rfl (Or.inl rfl)) (fun _ _ _ _ _ => pts_nil) (fun _ _ _ _ _ => (pi_listK (K := K) rfl (pe_methH (pv 0) h_ends hr (by omega) (pa_cons (pv 5) (pa_cons (pv 9) pa_nil))))) (fun _ _ _ _ _ => pg_name (i := 10) sc_layers.nd rfl (Or.inl rfl)) (fun _ _ _ _ _ => pts_one (PW.pt (pw_or (pt_val (pv 7)) (pw_or1 (pt_cmpR op_gt (pv 10) (pv 9) (nomark _)))))) (fun _ _ _ _ _ => (pv 10)))
    (pss_one (ps_expr (pe_bm PySem.F.plainAttrs_list PySem.F.slot_list_append PySem.F.type_list_append mt_append (pv 6) (pa_cons (pe_callH h_ascending hr (by omega) rfl (pa_cons (pv 8) pa_nil)) pa_nil)))))))
    (pss_one (ps_ret (pv 6)))))))), ?_⟩
  have hz := tx_len S.z
  have hlen : m ≤ (tx S.z).length := by rw [tx_len]; exact hm
  have hsh := spl.short
  have h4 := spl.wfp hp
  rw [Wf] at h4
  obtain ⟨tv, v, ht, hv, hP⟩ := spl.tree hp
  obtain ⟨a', u, rfl, hw, _⟩ := hP.rep
  obtain ⟨ua, b, cs, hu, hb, hc, lc, kid⟩ := spl.unders hp
  obtain ⟨c, hc1, hc2⟩ := kid 0 p rfl
  refine ⟨_, rfl, S.x, _, _, _, _, rfl, spl.ins, T.cl, T.n_trees, rfl, _, rfl, S.tl, tv, _, _, rfl, rfl, SqL.of ht, hv, (2 : Int), rfl, a', _, rfl, hw, fun h => absurd (show HT.sIx 4 0 (some 2) = 0 from h.1) (by decide), fun _ t nt => ?_⟩
  have g1 := Go.fresh spl nt (.tup (cutV [V.str "repeat", u, V.int (l : Int), om mo] (some 2) none))
  have ct : cutV [V.str "repeat", u, V.int (l : Int), om mo] (some 2) none = [V.int (l : Int), om mo] := cut_from (k := 2)
  refine ⟨t, _, rfl, SqT.of upd_same, by rw [ct]; rfl, ?_⟩
  rw [ct] at g1 ⊢
  refine ⟨_, _, rfl, _, _, rfl, rfl, ?_⟩
  refine ⟨_, rfl, S.x, _, _, _, _, rfl, g1.spl.ins, T.cl, T.n_under, rfl, _, rfl, S.ul, _, _, _, rfl, rfl, SqL.of (g1.kp _ _ hu rfl), hb, b, _, _, _, rfl, rfl, SqL.of (g1.kp _ _ hc rfl), atI_nat (nv_at hc1), ?_⟩
  refine ⟨_, rfl, (by show 1 ≤ sizeLine; decide), fun b0 nb0 => ⟨(by show 1 ≤ sizeLine; decide), fun R nR => ?_⟩⟩
  have g0 := g1.add nb0 (.lst [V.int (m : Int)])
  have A0 : Acc K S H (upd (upd (upd H t (.tup [V.int (l : Int), om mo])) b0 (.lst [V.int (m : Int)])) R (.lst [V.ref b0])) R [V.ref b0] := by
    have a := Acc.start (G := R) (xs := [V.ref b0]) g0.spl nR
    exact ⟨g0.trans a.go, a.off, a.at_, g0.kp.free nR⟩
  let N := (tx S.z).length
  let f0 := ends (tx S.z) p
  have hNe : N = (tx S.z).length := rfl
  let W : Nat → L2.St → Hp → Prop := fun mm σ H' => ∃ (top : Nat) (as : List Addr) (v7 v8 : Option V), mm = l + N + 2 - top ∧ σ = [some (.ref S.x), some (.int (n : Int)), some (.int (m : Int)), some (.int (l : Int)), some (om mo), some (.int (c : Int)), some (.ref R), v7, v8, none, none] ∧
    Acc K S H H' R (as.map V.ref) ∧ as.length = top + 1 ∧ top ≤ l + N + 1 ∧ (∀ x, mo = some x → top ≤ x) ∧ (∀ (j : Nat) (c : Addr), as[j]? = some c → H' c = some (.lst (nv (lay N f0 l m j)))) ∧ ∀ c ∈ as, H c = none ∧ c ≠ R
  have eb0 : H b0 = none := g1.kp.free nb0
  have nbR : b0 ≠ R := ne_of_none (upd_same (H := upd H t (.tup [V.int (l : Int), om mo])) (o := .lst [V.int (m : Int)])) nR
  refine ⟨W, ⟨_, 0, [b0], none, none, rfl, rfl, A0, rfl, Nat.zero_le _, fun _ _ => Nat.zero_le _, fun j c h1 => ?_, fun c hc => ?_⟩, fun mm σ H1 hW => ?_⟩
  · have e : j = 0 := by
      have := (List.getElem?_eq_some_iff.mp h1).1
      simp at this
      exact this
    subst e
    have e1 : b0 = c := Option.some.inj h1
    subst e1
    rw [lay, upd_ne nbR]
    exact upd_same
  · rw [List.mem_singleton.mp hc]
    exact ⟨eb0, nbR⟩
  obtain ⟨top, as, v7, v8, rfl, rfl, A1, la, htop, hmo, hl, hf⟩ := hW
  have ha0 : as[top]? = some as[top] := List.getElem?_eq_getElem (by omega)
  have hlast := hl top _ ha0
  have lst : atI (as.map V.ref) (-1) = some (.ref as[top]) := atI_end (k := top) (by rw [List.getElem?_map, ha0]; rfl) (by rw [List.length_map]; exact la)
  obtain ⟨X, hXd⟩ : ∃ X, X = lay N f0 l m top := ⟨_, rfl⟩
  rw [← hXd] at hlast
  have xle : ∀ y ∈ X, y ≤ (tx S.z).length := fun y hy => lay_le hlen top y (by rw [hXd] at hy; exact hy)
  have done : (X = [] ∨ mo = some top) → Q (.ref R) H1 := fun h => by
    refine q R H1 top A1.go ⟨as, A1.at_, ?_, fun i b' xs h1 h2 => ?_⟩ (by rw [← hXd]; exact h) hmo (by show top ≤ l + S.z.length + 2; omega)
    · rw [la, List.length_map, List.length_range]
    · rw [List.getElem?_map] at h2
      cases q : (List.range (top + 1))[i]? with
      | none => rw [q] at h2; cases h2
      | some y =>
        rw [q] at h2
        have e : y = i := by
          have := List.getElem?_eq_some_iff.mp q
          obtain ⟨h3, h4⟩ := this
          rw [List.getElem_range] at h4
          exact h4.symm
        subst e
        rw [← Option.some.inj h2]
        exact hl _ _ h1
  refine ⟨_, rfl, _, rfl, R, _, _, _, rfl, rfl, SqL.of A1.at_, lst, as[top], _, rfl, .inl (SqL.of hlast), _, _, rfl, rfl, _, rfl, ite2b (fun c1 => ?_) fun c1 => ?_⟩
  rotate_left
  · have h0 : X = [] := by
      have := of_decide_eq_false c1
      rw [nv_len] at this
      exact List.eq_nil_of_length_eq_zero (by omega)
    exact ⟨_, rfl, done (.inl h0)⟩
  have hX : X ≠ [] := fun e => by
    have := of_decide_eq_true c1
    rw [nv_len] at this
    rw [e] at this
    exact absurd this (by decide)
  have htop2 : top ≤ l + N := by
    refine Classical.byContradiction fun g => ?_
    obtain ⟨k', e⟩ : ∃ k', top = l + k' := ⟨top - l, by omega⟩
    obtain ⟨y, hy⟩ := List.exists_mem_of_ne_nil X hX
    have h1 : y ∈ lay N f0 l m (l + k') := by rw [← e, ← hXd]; exact hy
    have h2 := lay_ge k' y h1
    have h3 := xle y hy
    omega
  have lX : X.length ≤ 1001 := by
    have := lay_len (f := f0) (l := l) hlen top
    rw [hXd]
    show (lay (tx S.z).length f0 l m top).length ≤ 1001
    omega
  by_cases hc : ∀ x, mo = some x → top + 1 ≤ x
  rotate_left
  · obtain ⟨x, rfl⟩ : ∃ x, mo = some x := by
      cases mo with
      | none => exact absurd (fun x e => nomatch e) hc
      | some x => exact ⟨x, rfl⟩
    have e : top = x := by
      have h1 := hmo x rfl
      refine Classical.byContradiction fun g => hc fun y e => ?_
      have := Option.some.inj e
      omega
    refine ⟨_, rfl, rfl, _, rfl, iteF ⟨_, rfl, R, _, rfl, .inl (SqL.of A1.at_), _, rfl, _, _, rfl, rfl, _, rfl, ?_⟩⟩
    have e2 : decide (((as.map V.ref).length : Int) ≤ (x : Int)) = false := by
      rw [List.length_map, la]
      exact decide_eq_false (by omega)
    exact iteFb e2 ⟨_, rfl, done (.inr (by rw [e]))⟩
  refine ⟨_, rfl, rfl, _, rfl, iteEither ?body fun e a => ?_⟩
  rotate_left
  · obtain ⟨x, rfl⟩ : ∃ x, mo = some x := by
      cases mo with
      | none => cases e
      | some x => exact ⟨x, rfl⟩
    have e2 : decide (((as.map V.ref).length : Int) ≤ (x : Int)) = true := by
      rw [List.length_map, la]
      have := hc x rfl
      exact decide_eq_true (by omega)
    exact ⟨_, rfl, R, _, rfl, .inl (SqL.of A1.at_), _, rfl, _, _, rfl, rfl, _, rfl, iteTb e2 a⟩
  refine ⟨fun σ' H' => W (l + N + 2 - (top + 1)) σ' H', fun σ' H' h => ⟨_, by omega, h⟩, ?_⟩
  refine ⟨_, rfl, R, _, rfl, .inl (SqL.of A1.at_), _, rfl, _, _, rfl, rfl, ?_⟩
  have eE : decide (((as.map V.ref).length : Int) ≤ (l : Int)) = decide (top + 1 ≤ l) := by
    rw [List.length_map, la]
    exact decide_eq_decide.mpr (by omega)
  refine ⟨_, rfl, _, rfl, R, _, _, _, rfl, rfl, SqL.of A1.at_, lst, as[top], rfl, ⟨_, SqL.of hlast⟩, fun G nG => ?_⟩
  let pr : Nat → Nat → Bool := fun a e => decide (top + 1 ≤ l) || decide (a < e)
  let fl : Nat → List Nat := fun a => (f0 a).filter fun e => pr a e
  let ac : Nat → List Nat := fun j => (X.take j).flatMap fl
  have lfl : ∀ a ∈ X, (fl a).length ≤ 1001 := fun a ha => by
    have h1 := List.length_filter_le (fun e => pr a e) (f0 a)
    have h2 := ends_len (tx S.z) p a (xle a ha)
    exact Nat.le_trans h1 (by show (ends (tx S.z) p a).length ≤ 1001; omega)
  have lac : ∀ j, (ac j).length ≤ 1001 * 1001 := fun j => by
    have h1 := flat_lenM fl 1001 (X.take j) (fun a ha => lfl a (List.mem_of_mem_take ha))
    rw [List.length_take] at h1
    have : min j X.length * 1001 ≤ 1001 * 1001 := Nat.mul_le_mul_right _ (by omega)
    exact Nat.le_trans h1 this
  refine walk_list (xs := nv X) (fun j H' => Acc K S H1 H' G (nv (ac j)) ∧ j ≤ X.length) ⟨Acc.start A1.go.spl nG, Nat.zero_le _⟩ (fun j H' _ h => h.1.go.kp.seq (SqL.of hlast)) (fun j x H2 hx h => ?_) fun H2 h => ?_
  · obtain ⟨A2, hj⟩ := h
    obtain ⟨a, ha1, rfl⟩ := nv_atV hx
    have aX : a ∈ X := List.mem_of_getElem? ha1
    have am : a ≤ S.z.length := by
      have := xle a aX
      omega
    refine ⟨rfl, _, rfl, S.x, _, _, rfl, A2.go.spl.ins, rfl, _, rfl, _, rfl, S, c, a, p, rfl, A2.go.spl, hc2, hd, am, fun b2 H3 g3 in3 hb2 => ⟨b2, rfl, ⟨_, SqL.of hb2⟩, ?_⟩⟩
    have n2 : b2 ≠ G := (A2.then g3).off.ne in3
    refine walk_list (xs := nv (f0 a)) (fun k H' => Acc K S H1 H' G (nv (ac j ++ ((f0 a).take k).filter fun e => pr a e)) ∧ SqL K H' b2 (nv (f0 a))) ⟨by rw [List.take_zero, List.filter_nil, List.append_nil]; exact A2.then g3, SqL.of hb2⟩ (fun k H' _ h => h.2) (fun k x H4 hx4 h => ?_) fun H4 h => ?_
    · obtain ⟨A4, hb4⟩ := h
      obtain ⟨e, he, rfl⟩ := nv_atV hx4
      have few : (nv (ac j ++ ((f0 a).take k).filter fun e => pr a e)).length < sizeLine := by
        rw [nv_len, List.length_append]
        have l1 := lac j
        have l2 := List.length_filter_le (fun e => pr a e) ((f0 a).take k)
        have l3 := ends_len (tx S.z) p a (by omega)
        have l4 : ((f0 a).take k).length ≤ 1001 := by
          rw [List.length_take]
          show min k (ends (tx S.z) p a).length ≤ 1001
          omega
        exact small_line (by omega)
      have sn := filt_snoc (p := fun e => pr a e) (f0 a) k he
      have kept : pr a e = true → Acc K S H1 (upd H4 G (.lst (nv (ac j ++ ((f0 a).take k).filter fun e => pr a e) ++ [V.int (e : Int)]))) G (nv (ac j ++ ((f0 a).take (k + 1)).filter fun e => pr a e)) ∧ SqL K (upd H4 G (.lst (nv (ac j ++ ((f0 a).take k).filter fun e => pr a e) ++ [V.int (e : Int)]))) b2 (nv (f0 a)) := fun hp => by
        rw [hp, if_pos rfl] at sn
        rw [nv_snoc, List.append_assoc, ← sn]
        exact ⟨A4.push A1.go.spl, SqL.ne hb4 n2⟩
      have left : pr a e = false → Acc K S H1 H4 G (nv (ac j ++ ((f0 a).take (k + 1)).filter fun e => pr a e)) ∧ SqL K H4 b2 (nv (f0 a)) := fun hp => by
        rw [hp, if_neg Bool.false_ne_true, List.append_nil] at sn
        rw [sn]
        exact ⟨A4, hb4⟩
      refine ⟨rfl, _, rfl, _, rfl, ite2b (fun c7 => ?_) fun c7 => ⟨_, rfl, _, rfl, _, _, rfl, rfl, _, rfl, ite2b (fun c8 => ?_) fun c8 => ?_⟩⟩
      · rw [eE] at c7
        exact ⟨_, rfl, _, A4.at_, few, kept (by show (decide (top + 1 ≤ l) || decide (a < e)) = true; rw [c7]; rfl)⟩
      · have h8 : decide (a < e) = true := by
          have := of_decide_eq_true c8
          exact decide_eq_true (by omega)
        exact ⟨_, rfl, _, A4.at_, few, kept (by show (decide (top + 1 ≤ l) || decide (a < e)) = true; rw [h8, Bool.or_true])⟩
      · have h8 : decide (a < e) = false := by
          have := of_decide_eq_false c8
          exact decide_eq_false (by omega)
        rw [eE] at c7
        exact left (by show (decide (top + 1 ≤ l) || decide (a < e)) = false; rw [h8, c7]; rfl)
    · obtain ⟨A4, _⟩ := h
      rw [nv_len, List.take_length] at A4
      refine ⟨?_, (List.getElem?_eq_some_iff.mp ha1).1⟩
      have e : ac (j + 1) = ac j ++ fl a := flat_snoc _ _ j ha1
      rw [e]
      exact A4
  · obtain ⟨A2, _⟩ := h
    rw [nv_len] at A2
    have e : ac X.length = X.flatMap fl := by
      show (X.take _).flatMap _ = _
      rw [List.take_length]
    rw [e] at A2
    have AR := A1.then A2.go
    refine ⟨_, rfl, .inl ⟨rfl, _, SqL.of AR.at_⟩, _, rfl, G, _, (tx S.z).length, rfl, SqL.of A2.at_, by omega, fun x hx => ?_, fun r H3 s3 nr e3 => ?_⟩
    · obtain ⟨y, hy, hy2⟩ := List.mem_flatMap.mp hx
      exact ends_le _ _ _ _ (xle y hy) (List.mem_filter.mp hy2).1
    have A3 : Acc K S H H3 R (as.map V.ref) := AR.then ((Go.refl A2.go.spl).same s3)
    have nr1 : H1 r = none := A2.go.kp.free nr
    have few : (as.map V.ref).length < sizeLine := by
      rw [List.length_map]
      exact small_line (by omega)
    have e4 : lay N f0 l m (top + 1) = asc (tx S.z).length (X.flatMap fl) := by
      rw [lay, stepL, ← hXd]
    refine ⟨R, _, _, rfl, rfl, A3.at_, few, top + 1, as ++ [r], _, _, rfl, rfl, ?_, by rw [List.length_append, la]; rfl, by omega, hc, fun j c' h1 => ?_, fun c' hc' => ?_⟩
    · have a := A3.push (ys := as.map V.ref ++ [V.ref r]) spl
      rw [List.map_append]
      exact a
    · by_cases lj : j < as.length
      · rw [List.getElem?_append_left lj] at h1
        have nR' := (hf c' (List.mem_of_getElem? h1)).2
        rw [upd_ne nR']
        exact s3 _ _ (A2.go.kp _ _ (hl j c' h1) rfl)
      · have ej : j = top + 1 := by
          have := (List.getElem?_eq_some_iff.mp h1).1
          rw [List.length_append] at this
          have : j < as.length + 1 := this
          omega
        subst ej
        rw [List.getElem?_append_right (by omega), la, Nat.sub_self] at h1
        have e1 : r = c' := Option.some.inj h1
        subst e1
        rw [e4, upd_ne (ne_of_none A1.at_ nr1).symm]
        exact e3
    · rcases List.mem_append.mp hc' with h | h
      · exact hf c' h
      · rw [List.mem_singleton.mp h]
        exact ⟨A1.go.kp.free nr1, (ne_of_none A1.at_ nr1).symm⟩
end
end Pd
set_option Elab.async false
set_option linter.all false
set_option maxRecDepth 100000
set_option maxHeartbeats 4000000
namespace Pd
open PySem PySem.Spec PyProof.Rows L2
section
variable {P : Program} {w : World} {K : PySem.W.Frag} {mg : Str → Option Value} {base : Heap} {f : Addr} {fd : FuncData}
abbrev N_derive : List Str := ["self", "number", "start", "end", "word", "k", "part"]
theorem sc_derive : FnScope N_derive ["self", "number", "start", "end"] (defScope s_derive) := ⟨rfl, rfl, rfl, by decide +kernel, rfl, by decide +kernel, by decide +kernel⟩
theorem ok_derive {gE gR gC gD : Addr} {D k : Nat} (T : Txt K mg) (F : FnP K "derive" "Splitter.derive" s_derive f fd) (hk : 5 ≤ k) (h_ends : HasM P w K mg base (Cs K) "ends" gE ["self", "number", "start"] k (spEnds K (D + 1)))
    (h_row_derivations : HasM P w K mg base (Cs K) "row_derivations" gR ["self", "number", "start", "end"] k (spRowDer K D)) (h_copy_derivations : HasM P w K mg base (Cs K) "copy_derivations" gC ["self", "number", "start", "end"] k (spCopyDer K D))
    (h_derive : HasM P w K mg base (Cs K) "derive" gD ["self", "number", "start", "end"] k (spDerive K D)) :
    FnOk P w K mg base CX0 (k + 1) f fd ["self", "number", "start", "end"] (spDerive K (D + 1)) := by
  refine F.ok sc_derive (fun vs H Q E h => ?_) (fun cdv A outer s H vs Q E hr h => ?_)
  · obtain ⟨S, n, m, e, p, rfl, _⟩ := h
    rfl
  obtain ⟨S, n, m, e, p, rfl, spl, hp, hd, hm, q⟩ := h
  refine ⟨_, PSs.nox ((pss_cons (ps_if (pt_cmpR op_notIn_seq (pv 3) (pe_methH (pv 0) h_ends hr (by omega) (pa_cons (pv 1) (pa_cons (pv 2) pa_nil))) rfl) (pss_one (ps_ret pe_non)) pss_nil)
    (pss_cons (ps_set (i := 4) sc_derive.nd rfl (Or.inl rfl) (pe_ix ix_tup (pe_ix ix_list (pe_fld (pv 0) rfl) (pv 1) (fun _ _ => rfl)) pe_int (fun _ _ => rfl)))
    (pss_cons (ps_if (pt_cmpR op_eq (pv 4) pe_str (nomark _)) (pss_one (ps_ret (pe_tup (pa_cons pe_str (pa_cons (pe_methH (pv 0) h_row_derivations hr (by omega) (pa_cons (pv 1) (pa_cons (pv 2) (pa_cons (pv 3) pa_nil)))) pa_nil))))) pss_nil)
    (pss_cons (ps_if (pt_cmpR op_eq (pv 4) pe_str (nomark _)) (pss_one (ps_ret (pe_tup (pa_cons pe_str (pa_cons (pe_methH (pv 0) h_copy_derivations hr (by omega) (pa_cons (pv 1) (pa_cons (pv 2) (pa_cons (pv 3) pa_nil)))) pa_nil))))) pss_nil)
    (pss_cons (ps_if (pt_cmpR op_eq (pv 4) pe_str (nomark _)) (pss_one (ps_for PassesOwn.never rfl (pi_enum rfl T.z_enumerate (pa_cons (pe_ix ix_list (pe_fld (pv 0) rfl) (pv 1) (fun _ _ => rfl)) pa_nil)) (pg_tup rfl (pgs_cons (pg_name (i := 5) sc_derive.nd rfl (Or.inl rfl)) (pgs_cons (pg_name (i := 6) sc_derive.nd rfl (Or.inl rfl)) pgs_nil))) (pss_one (ps_if (pt_cmpR op_in_seq (pv 3) (pe_methH (pv 0) h_ends hr (by omega) (pa_cons (pv 6) (pa_cons (pv 2) pa_nil))) rfl) (pss_one (ps_ret (pe_tup (pa_cons pe_str (pa_cons (pv 5) (pa_cons (pe_methH (pv 0) h_derive hr (by omega) (pa_cons (pv 6) (pa_cons (pv 2) (pa_cons (pv 3) pa_nil)))) pa_nil)))))) pss_nil)))) pss_nil)
    (pss_one (ps_ret (pe_tup (pa_cons pe_str pa_nil)))))))))), ?_⟩
  refine ⟨_, rfl, _, rfl, S.x, _, _, rfl, spl.ins, rfl, _, rfl, _, rfl, S, n, m, p, rfl, spl, hp, hd, hm, fun a H1 g1 in1 ha => ⟨a, _, rfl, .inl (SqL.of ha), rfl, nv_flat _, _, rfl, ?_⟩⟩
  rw [nv_in]
  refine ite2b (fun c => ?_) fun c => ?_
  · have hn : ¬ e ∈ ends (tx S.z) p m := fun h => by
      have c2 : (!decide (e ∈ ends (tx S.z) p m)) = true := c
      rw [decide_eq_true h] at c2
      cases c2
    exact q .non H1 g1 (by rw [if_neg hn]; exact .non)
  have he : e ∈ ends (tx S.z) p m := Classical.byContradiction fun h => by
    have c2 : (!decide (e ∈ ends (tx S.z) p m)) = false := c
    rw [decide_eq_false h] at c2
    cases c2
  rw [if_pos he] at q
  obtain ⟨tv, v, ht, hv, hP⟩ := g1.spl.tree hp
  obtain ⟨a', us, rfl, hw⟩ := hP.word
  refine ⟨_, rfl, S.x, _, _, _, _, rfl, g1.spl.ins, T.cl, T.n_trees, rfl, _, rfl, S.tl, tv, _, _, rfl, rfl, SqL.of ht, hv, a', _, _, _, rfl, rfl, hw, at0, ?_⟩
  cases p with
  | row ps =>
    rw [der_row] at q
    rw [ends_row] at he
    rw [dep] at hd
    refine ⟨_, rfl, rfl, _, rfl, iteTb (veq rfl) ?_⟩
    refine ⟨_, rfl, S.x, _, _, rfl, g1.spl.ins, rfl, _, rfl, _, rfl, _, rfl, S, n, m, e, ps, rfl, g1.spl, hp, by omega, hm, he, fun v H2 g2 hv => ⟨(by show 2 ≤ sizeLine; decide), fun t nt => ?_⟩⟩
    have k := Kp.new nt (.tup [V.str "row", v])
    exact q (.ref t) _ ((g1.trans g2).add nt _) (.tupI upd_same (.two (.str _) (k.dp hv)))
  | rep p l mo =>
    rw [der_rep] at q
    rw [ends_rep] at he
    rw [dep] at hd
    refine ⟨_, rfl, rfl, _, rfl, iteFb (vne ne_repeat_row) ⟨_, rfl, rfl, _, rfl, iteTb (veq rfl) ?_⟩⟩
    refine ⟨_, rfl, S.x, _, _, rfl, g1.spl.ins, rfl, _, rfl, _, rfl, _, rfl, S, n, m, e, p, l, mo, rfl, g1.spl, hp, by omega, hm, he, fun v H2 g2 hv => ⟨(by show 2 ≤ sizeLine; decide), fun t nt => ?_⟩⟩
    have k := Kp.new nt (.tup [V.str "repeat", v])
    exact q (.ref t) _ ((g1.trans g2).add nt _) (.tupI upd_same (.two (.str _) (k.dp hv)))
  | alt ps =>
    rw [der_alt] at q
    rw [ends_alt] at he
    rw [dep] at hd
    obtain ⟨i0, p0, hi0, he0⟩ := mem_altEnds (mem_asc.mp he).2
    refine ⟨_, rfl, rfl, _, rfl, iteFb (vne ne_or_row) ⟨_, rfl, rfl, _, rfl, iteFb (vne ne_or_repeat) ⟨_, rfl, rfl, _, rfl, iteTb (veq rfl) ?_⟩⟩⟩
    obtain ⟨ua, b, cs, hu, hb, hc, lc, kid⟩ := g1.spl.unders hp
    have lcs : cs.length = ps.length := lc
    refine ⟨_, rfl, S.x, _, _, _, _, rfl, g1.spl.ins, T.cl, T.n_under, rfl, _, rfl, S.ul, _, _, _, rfl, rfl, SqL.of hu, hb, b, _, rfl, SqL.of hc, for_enum (xs := nv cs) (fun i σ H' => ∃ v5 v6 : Option V, σ = [some (.ref S.x), some (.int (n : Int)), some (.int (m : Int)), some (.int (e : Int)), some (.str "or"), v5, v6] ∧ Go K S H1 H' ∧ ∀ (j : Nat) (q : Pat), j < i → ps[j]? = some q → e ∉ ends (tx S.z) q m)
      ⟨none, none, rfl, Go.refl g1.spl, fun j q hj => absurd hj (Nat.not_lt_zero _)⟩ (fun i σ H' _ h => ?_) (fun i x T0 σ H2 hx h nT => ?_) fun σ H2 h => ?_⟩
    · obtain ⟨_, _, _, g, _⟩ := h
      exact SqL.of (g.kp _ _ hc rfl)
    · obtain ⟨v5, v6, rfl, g2, hn⟩ := h
      obtain ⟨c, hc1, rfl⟩ := nv_atV hx
      have li : i < ps.length := by
        have := (List.getElem?_eq_some_iff.mp hc1).1
        omega
      have hq : ps[i]? = some ps[i] := List.getElem?_eq_getElem li
      obtain ⟨c', hc2, hc3⟩ := kid i ps[i] hq
      obtain rfl : c = c' := Option.some.inj (hc1.symm.trans hc2)
      have hdi : dep ps[i] ≤ D := by
        have := deps_mem (List.mem_of_getElem? hq)
        omega
      have g3 := g2.add nT (.tup [V.int ((i : Nat) : Int), V.int (c : Int)])
      refine ⟨T0, _, rfl, SqT.of upd_same, rfl, _, _, rfl, _, _, rfl, rfl, ?_⟩
      refine ⟨_, rfl, _, rfl, S.x, _, _, rfl, g3.spl.ins, rfl, _, rfl, _, rfl, S, c, m, ps[i], rfl, g3.spl, hc3, by omega, hm, fun a3 H4 g4 in4 ha4 => ⟨a3, _, rfl, .inl (SqL.of ha4), rfl, nv_flat _, _, rfl, ?_⟩⟩
      rw [nv_in]
      refine ite2b (fun c5 => ?_) fun c5 => ?_
      · have hin : e ∈ ends (tx S.z) ps[i] m := of_decide_eq_true c5
        refine ⟨_, rfl, _, rfl, S.x, _, _, rfl, g4.spl.ins, rfl, _, rfl, _, rfl, _, rfl, S, c, m, e, ps[i], rfl, g4.spl, hc3, hdi, hm, fun v H5 g5 hv => ⟨(by show 3 ≤ sizeLine; decide), fun t nt => ?_⟩⟩
        rw [if_pos hin] at hv
        rw [altDer_at _ _ _ ps 0 i ps[i] hn hq hin, Nat.zero_add] at q
        have k := Kp.new nt (.tup [V.str "or", V.int ((i : Nat) : Int), v])
        exact q (.ref t) _ ((g1.trans (g3.trans (g4.trans g5))).add nt _) (.tupI upd_same (.three (.str _) (.int _) (k.dp hv)))
      · have hin : e ∉ ends (tx S.z) ps[i] m := of_decide_eq_false c5
        refine ⟨_, _, rfl, g3.trans g4, fun j q hj hq2 => ?_⟩
        by_cases ej : j = i
        · subst ej
          rw [hq] at hq2
          cases hq2
          exact hin
        · exact hn j q (by omega) hq2
    · obtain ⟨v5, v6, rfl, g2, hn⟩ := h
      rw [nv_len] at hn
      have := (List.getElem?_eq_some_iff.mp hi0).1
      exact absurd he0 (hn i0 p0 (by omega) hi0)
  | leaf l =>
    rw [der_leaf] at q
    have w := leafWord_ne l
    refine ⟨_, rfl, rfl, _, rfl, iteFb (vne w.1) ⟨_, rfl, rfl, _, rfl, iteFb (vne w.2.2) ⟨_, rfl, rfl, _, rfl, iteFb (vne w.2.1) ⟨(by show 1 ≤ sizeLine; decide), fun t nt => ?_⟩⟩⟩⟩
    exact q (.ref t) _ (g1.add nt _) (.tupI upd_same (.one (.str _)))
end
end Pd
set_option Elab.async false
set_option linter.all false
set_option maxRecDepth 100000
set_option maxHeartbeats 4000000
namespace Pd
open PySem PySem.Spec PyProof.Rows L2
section
variable {P : Program} {w : World} {K : PySem.W.Frag} {mg : Str → Option Value} {base : Heap} {f : Addr} {fd : FuncData}
abbrev N_row_derivations : List Str := ["self", "number", "start", "end", "reach", "told", "at", "k", "part", "begins", "begin"]
theorem sc_row_derivations : FnScope N_row_derivations ["self", "number", "start", "end"] (defScope s_row_derivations) := ⟨rfl, rfl, rfl, by decide +kernel, rfl, by decide +kernel, by decide +kernel⟩
theorem ok_row_derivations {gE gR gD : Addr} {D k : Nat} (T : Txt K mg) (F : FnP K "row_derivations" "Splitter.row_derivations" s_row_derivations f fd) (hk : 5 ≤ k) (h_ends : HasM P w K mg base (Cs K) "ends" gE ["self", "number", "start"] k (spEnds K D))
    (h_row_reach : HasM P w K mg base (Cs K) "row_reach" gR ["self", "number", "start"] k (spReach K D)) (h_derive : HasM P w K mg base (Cs K) "derive" gD ["self", "number", "start", "end"] k (spDerive K D)) :
    FnOk P w K mg base CX0 (k + 1) f fd ["self", "number", "start", "end"] (spRowDer K D) := by
  refine F.ok sc_row_derivations (fun vs H Q E h => ?_) (fun cdv A outer s H vs Q E hr h => ?_)
  · obtain ⟨S, n, m, e, p, rfl, _⟩ := h
    rfl
  obtain ⟨S, n, m, e, ps, rfl, spl, hp, hd, hm, he, q⟩ := h
  refine ⟨_, PSs.nox ((pss_cons (ps_set (i := 4) sc_row_derivations.nd rfl (Or.inl rfl) (pe_methH (pv 0) h_row_reach hr (by omega) (pa_cons (pv 1) (pa_cons (pv 2) pa_nil))))
    (pss_cons (ps_set (i := 5) sc_row_derivations.nd rfl (Or.inl rfl) (pe_lst pa_nil))
    (pss_cons (ps_set (i := 6) sc_row_derivations.nd rfl (Or.inr rfl) (pv 3))
    (pss_cons (ps_for PassesOwn.never rfl (pi_range3 rfl T.z_range (pa_cons (pe_op op_sub (pe_callB call_len_seq rfl T.z_len PySem.boot_len (pa_cons (pe_ix ix_list (pe_fld (pv 0) rfl) (pv 1) (fun _ _ => rfl)) pa_nil)) pe_int) (pa_cons (pe_un un_neg pe_int) (pa_cons (pe_un un_neg pe_int) pa_nil)))) (pg_name (i := 7) sc_row_derivations.nd rfl (Or.inl rfl)) (pss_cons (ps_set (i := 8) sc_row_derivations.nd rfl (Or.inr rfl) (pe_ix ix_list (pe_ix ix_list (pe_fld (pv 0) rfl) (pv 1) (fun _ _ => rfl)) (pv 7) (fun _ _ => rfl)))
    (pss_cons (ps_setLc (i := 9) (own := [("begin", 10)]) rfl sc_row_derivations.nd rfl rfl (sw_true rfl rfl rfl (by decide +kernel)) (pi_list (pe_ix ix_list (pv 4) (pv 7) (fun _ _ => rfl))) (blkOk_by (N := N_row_derivations) (sc := defScope s_row_derivations) (by decide +kernel)) (fun _ _ _ _ _ => pg_name (i := 10) sc_row_derivations.nd rfl (Or.inl rfl)) (fun _ _ _ _ _ => pts_one (pt_cmpR (op_in_seqK (K := K) rfl) (pv 6) (pe_methH (pv 0) h_ends hr (by omega) (pa_cons (pv 8) (pa_cons (pv 10) pa_nil))) rfl)) (fun _ _ _ _ _ => (pv 10)))
    (pss_cons (ps_expr (pe_bm PySem.F.plainAttrs_list PySem.F.slot_list_append PySem.F.type_list_append mt_append (pv 5) (pa_cons (pe_methH (pv 0) h_derive hr (by omega) (pa_cons (pv 8) (pa_cons (pe_ix ix_list (pv 9) pe_int (fun _ _ => rfl)) (pa_cons (pv 6) pa_nil)))) pa_nil)))
    (pss_one (ps_set (i := 6) sc_row_derivations.nd rfl (Or.inr rfl) (pe_ix ix_list (pv 9) pe_int (fun _ _ => rfl))))))))
    (pss_one (ps_ret (pe_callTy call_tuple_of rfl T.z_tuple bb_tuple (pa_cons (pe_revL (pv 5)) pa_nil))))))))), ?_⟩
  have hlen : m ≤ (tx S.z).length := by rw [tx_len]; exact hm
  have hz := tx_len S.z
  have hsh := spl.short
  have h4 := spl.wfp hp
  rw [Wf] at h4
  refine ⟨_, rfl, S.x, _, _, rfl, spl.ins, rfl, _, rfl, _, rfl, S, n, m, ps, rfl, spl, hp, hd, hm, fun a0 H1 g1 hL => ?_⟩
  refine ⟨(by show 0 ≤ sizeLine; decide), fun R nR => ?_⟩
  have AR0 : Acc K S H1 (upd H1 R (.lst [])) R [] := Acc.start g1.spl nR
  obtain ⟨ua, b, cs, hu, hb, hc, lc, kid⟩ := g1.spl.unders hp
  have lcs : cs.length = ps.length := lc
  let rs := reaches (tx S.z) ps [m]
  let rj : Nat → List Nat := fun j => (rs[j]?).getD []
  have hrj : ∀ j, j ≤ ps.length → rs[j]? = some (rj j) := fun j hj => by
    have lr : j < rs.length := by
      show j < (reaches (tx S.z) ps [m]).length
      rw [reaches_len]
      omega
    show rs[j]? = some ((rs[j]?).getD [])
    rw [List.getElem?_eq_getElem lr]
    rfl
  have bound : ∀ j, (∀ y ∈ rj j, y ≤ (tx S.z).length) ∧ (rj j).Pairwise (· < ·) := fun j => by
    by_cases hj : j ≤ ps.length
    · exact reaches_le _ _ _ (fun x hx => by rw [List.mem_singleton.mp hx]; exact hlen) (List.pairwise_singleton _ _) _ (List.mem_of_getElem? (hrj j hj))
    · have : rs[j]? = none := List.getElem?_eq_none (by show (reaches (tx S.z) ps [m]).length ≤ j; rw [reaches_len]; omega)
      have e0 : rj j = [] := by show (rs[j]?).getD [] = []; rw [this]; rfl
      rw [e0]
      exact ⟨fun y hy => (nomatch hy), List.Pairwise.nil⟩
  let RD : Nat → List PyData × Nat := fun j => rowDer (tx S.z) (ps.drop j) (rj j) e
  have RDlast : RD ps.length = ([], e) := by
    show rowDer (tx S.z) (ps.drop ps.length) _ e = _
    rw [List.drop_length, rowDer]
  have hlastr : rj ps.length = rowEnds (tx S.z) ps [m] := by
    have h1 := hrj ps.length (Nat.le_refl _)
    rw [show rs[ps.length]? = some (rowEnds (tx S.z) ps [m]) from reaches_last _ _ _] at h1
    exact (Option.some.inj h1).symm
  have RDstep : ∀ (j : Nat) (p : Pat), ps[j]? = some p → RD j = (der (tx S.z) p (firstOf (rj j) fun b => decide ((RD (j + 1)).2 ∈ ends (tx S.z) p b)) (RD (j + 1)).2 :: (RD (j + 1)).1, firstOf (rj j) fun b => decide ((RD (j + 1)).2 ∈ ends (tx S.z) p b)) ∧ rj (j + 1) = asc (tx S.z).length ((rj j).flatMap (ends (tx S.z) p)) := fun j p hj => by
    have lt := (List.getElem?_eq_some_iff.mp hj).1
    have h1 := reaches_next (tx S.z) ps [m] j p (rj j) hj (hrj j (by omega))
    have h2 : rj (j + 1) = asc (tx S.z).length ((rj j).flatMap (ends (tx S.z) p)) := by
      have h3 := hrj (j + 1) (by omega)
      rw [show rs[j + 1]? = _ from h1] at h3
      exact (Option.some.inj h3).symm
    refine ⟨?_, h2⟩
    have e1 : ps.drop j = p :: ps.drop (j + 1) := by
      rw [List.drop_eq_getElem_cons lt]
      have := (List.getElem?_eq_some_iff.mp hj).2
      rw [this]
    show rowDer (tx S.z) (ps.drop j) (rj j) e = _
    rw [e1, rowDer_cons, ← h2]
  have kb := AR0.go.kp
  refine ⟨_, rfl, _, rfl, S.x, _, _, _, _, rfl, AR0.go.spl.ins, T.cl, T.n_under, rfl, _, rfl, S.ul, _, _, _, rfl, rfl, SqL.of (kb _ _ hu rfl), hb, b, _, rfl, .inl (SqL.of (kb _ _ hc rfl)), _, _, rfl, rfl, _, rfl, _, rfl, ((ps.length : Int) - 1), -1, -1, ps.length, ?_, ?_, ?_⟩
  · rw [nv_len, lcs]
  · have := RgC.neg (i := (ps.length : Int) - 1) (j := -1) (by omega) (by omega) (by omega) (by omega)
    rw [show ((ps.length : Int) - 1 - -1).toNat = ps.length by omega] at this
    exact this
  refine for_rangeC (fun i σ H' => ∃ (j : Nat) (dsV : List V) (v7 v8 v9 : Option V), j + i = ps.length ∧ σ = [some (.ref S.x), some (.int (n : Int)), some (.int (m : Int)), some (.int (e : Int)), some (.ref a0), some (.ref R), some (.int ((RD j).2 : Int)), v7, v8, v9, none] ∧ Acc K S H1 H' R dsV ∧ DpAll K H' dsV (RD j).1.reverse ∧ (RD j).2 ∈ rj j ∧ dsV.length = i)
    ⟨ps.length, [], none, none, none, rfl, by rw [RDlast]; rfl, AR0, by rw [RDlast]; exact .nil, by rw [RDlast, hlastr]; exact he, rfl⟩ (fun i σ H2 hi h => ?_) fun σ H2 h => ?_
  · obtain ⟨j1, dsV, v7, v8, v9, ej, rfl, A2, hds, hat, lds⟩ := h
    obtain ⟨j, rfl⟩ : ∃ j, j1 = j + 1 := ⟨j1 - 1, by omega⟩
    have lj : j < ps.length := by omega
    have hq : ps[j]? = some ps[j] := List.getElem?_eq_getElem lj
    obtain ⟨c, hc1, hc3⟩ := kid j ps[j] hq
    obtain ⟨st, sr⟩ := RDstep j ps[j] hq
    have eidx : ((ps.length : Int) - 1 + ((i : Nat) : Int) * (-1)) = ((j : Nat) : Int) := by omega
    have hdj : dep ps[j] ≤ D := by
      have := deps_mem (List.mem_of_getElem? hq)
      omega
    rw [eidx]
    have k2 := A2.go.kp
    refine ⟨_, rfl, S.x, _, _, _, _, rfl, A2.go.spl.ins, T.cl, T.n_under, rfl, _, rfl, S.ul, _, _, _, rfl, rfl, SqL.of (k2 _ _ hu rfl), hb, _, rfl, b, _, _, _, rfl, rfl, SqL.of (k2 _ _ hc rfl), atI_nat (nv_at hc1), ?_⟩
    obtain ⟨as, bj, r1, r2, r3, r4, r5⟩ := hL.lol.at (hrj j (by omega))
    refine ⟨_, rfl, _, rfl, a0, _, _, _, rfl, rfl, SqL.of (k2 _ _ r1 rfl), r4, bj, rfl, ⟨_, SqL.of (k2 _ _ r5 rfl)⟩, fun G nG => ?_⟩
    let pr : Nat → Bool := fun b => decide ((RD (j + 1)).2 ∈ ends (tx S.z) ps[j] b)
    refine walk_list (xs := nv (rj j)) (fun k H' => Acc K S H2 H' G (nv (((rj j).take k).filter pr))) (Acc.start A2.go.spl nG) (fun k H' _ h => h.go.kp.seq (SqL.of (k2 _ _ r5 rfl))) (fun k x H3 hx A3 => ?_) fun H3 A3 => ?_
    · obtain ⟨y, hy, rfl⟩ := nv_atV hx
      have yle := (bound j).1 y (List.mem_of_getElem? hy)
      have sn := filt_snoc (p := pr) (rj j) k hy
      have few : (nv (((rj j).take k).filter pr)).length < sizeLine := by
        rw [nv_len]
        have l2 := List.length_filter_le pr ((rj j).take k)
        have l3 := sorted_len (bound j).2 (bound j).1
        rw [List.length_take] at l2
        exact small_line (by omega)
      refine ⟨rfl, _, rfl, _, rfl, S.x, _, _, rfl, A3.go.spl.ins, rfl, _, rfl, _, rfl, S, c, y, ps[j], rfl, A3.go.spl, hc3, by omega, by omega, fun a3 H4 g4 in4 ha4 => ⟨a3, _, rfl, .inl (SqL.of ha4), rfl, nv_flat _, _, rfl, ?_⟩⟩
      rw [nv_in]
      have A4 := A3.then g4
      refine ite2b (fun c5 => ?_) fun c5 => ?_
      · have hp1 : pr y = true := c5
        rw [hp1, if_pos rfl] at sn
        refine ⟨_, rfl, _, A4.at_, few, ?_⟩
        rw [nv_snoc, ← sn]
        exact A4.push A2.go.spl
      · have hp1 : pr y = false := c5
        rw [hp1, if_neg Bool.false_ne_true, List.append_nil] at sn
        rw [sn]
        exact A4
    · rw [nv_len, List.take_length] at A3
      have hex : ∃ x ∈ rj j, pr x = true := by
        rw [sr] at hat
        obtain ⟨x, hx, hx2⟩ := List.mem_flatMap.mp (mem_asc.mp hat).2
        exact ⟨x, hx, decide_eq_true hx2⟩
      obtain ⟨f1, f2, f3⟩ := firstOf_mem hex
      have f4 : (RD (j + 1)).2 ∈ ends (tx S.z) ps[j] (firstOf (rj j) pr) := of_decide_eq_true f2
      have fle := (bound j).1 _ f1
      have AR := A2.then A3.go
      refine ⟨_, rfl, .inl ⟨rfl, _, SqL.of AR.at_⟩, _, rfl, S.x, _, _, rfl, A3.go.spl.ins, rfl, _, rfl, _, rfl, G, _, _, _, rfl, rfl, SqL.of A3.at_, atI_nat (j := 0) (nv_at f3), _, rfl, S, c, firstOf (rj j) pr, (RD (j + 1)).2, ps[j], rfl, A3.go.spl, hc3, hdj, by omega, fun v H5 g5 hv => ?_⟩
      rw [if_pos f4] at hv
      have A5 := AR.then g5
      have few : dsV.length < sizeLine := small_line (by omega)
      have nGR : G ≠ R := (ne_of_none A2.at_ nG).symm
      have hG5 : upd H5 R (.lst (dsV ++ [v])) G = some (.lst (nv ((rj j).filter pr))) := by
        rw [upd_ne nGR]
        exact g5.kp _ _ A3.at_ rfl
      have kt : Kt H5 (upd H5 R (.lst (dsV ++ [v]))) := Kt.lst A5.at_
      refine ⟨R, _, _, rfl, rfl, A5.at_, few, _, rfl, G, _, _, _, rfl, rfl, SqL.of hG5, atI_nat (j := 0) (nv_at f3), j, dsV ++ [v], some (.int (j : Int)), some (.int (c : Int)), some (.ref G), by omega, ?_, A5.push g1.spl, ?_, ?_, by rw [List.length_append, lds]; rfl⟩
      · rw [st]
        rfl
      · rw [st, List.reverse_cons]
        refine DpAll.append (kt.dpAll (noLs_of fun d hd => ?_) (((A3.go.kp).trans g5.kp).dpAll hds)) (.one (kt.dp (der_isDer _ _ _ _).noL hv))
        exact (rowDer_isDer _ _ _ _ d (List.mem_reverse.mp hd)).noL
      · rw [st]
        exact f1
  · obtain ⟨j, dsV, v7, v8, v9, ej, rfl, A2, hds, hat, lds⟩ := h
    obtain rfl : j = 0 := by omega
    refine ⟨_, rfl, R, _, rfl, SqL.of A2.at_, fun p1 np1 => ⟨p1, _, rfl, .inl ⟨SqL.of upd_same, fun l nl => ?_⟩⟩⟩
    have e0 : RD 0 = rowDer (tx S.z) ps [m] e := by
      show rowDer (tx S.z) (ps.drop 0) (rj 0) e = _
      have h1 := hrj 0 (Nat.zero_le _)
      rw [show rs[0]? = some [m] from reaches_head _ _ _] at h1
      rw [List.drop_zero, ← Option.some.inj h1]
    have k6 := (Kp.new np1 (.lst dsV.reverse)).add nl (.tup dsV.reverse)
    have hr2 := DpAll.reverse hds
    rw [List.reverse_reverse, e0] at hr2
    exact q (.ref l) _ ((g1.trans (A2.go.add np1 _)).add nl _) (.tupI upd_same (k6.dpAll hr2))
end
end Pd
set_option Elab.async false
set_option linter.all false
set_option maxRecDepth 100000
set_option maxHeartbeats 4000000
namespace Pd
open PySem PySem.Spec PyProof.Rows L2
section
variable {P : Program} {w : World} {K : PySem.W.Frag} {mg : Str → Option Value} {base : Heap} {f : Addr} {fd : FuncData}
abbrev N_copy_derivations : List Str := ["self", "number", "start", "end", "layers", "least", "part", "copies", "told", "at", "k", "begins", "begin"]
theorem sc_copy_derivations : FnScope N_copy_derivations ["self", "number", "start", "end"] (defScope s_copy_derivations) := ⟨rfl, rfl, rfl, by decide +kernel, rfl, by decide +kernel, by decide +kernel⟩
theorem ok_copy_derivations {gE gY gD : Addr} {D k : Nat} (T : Txt K mg) (F : FnP K "copy_derivations" "Splitter.copy_derivations" s_copy_derivations f fd) (hk : 5 ≤ k) (h_ends : HasM P w K mg base (Cs K) "ends" gE ["self", "number", "start"] k (spEnds K D))
    (h_layers : HasM P w K mg base (Cs K) "layers" gY ["self", "number", "start"] k (spLayers K D)) (h_derive : HasM P w K mg base (Cs K) "derive" gD ["self", "number", "start", "end"] k (spDerive K D)) :
    FnOk P w K mg base CX0 (k + 1) f fd ["self", "number", "start", "end"] (spCopyDer K D) := by
  refine F.ok sc_copy_derivations (fun vs H Q E h => ?_) (fun cdv A outer s H vs Q E hr h => ?_)
  · obtain ⟨S, n, m, e, p, l, mo, rfl, _⟩ := h
    rfl
  obtain ⟨S, n, m, e, p, l, mo, rfl, spl, hp, hd, hm, he, q⟩ := h
  refine ⟨_, PSs.nox ((pss_cons (ps_set (i := 4) sc_copy_derivations.nd rfl (Or.inl rfl) (pe_methH (pv 0) h_layers hr (by omega) (pa_cons (pv 1) (pa_cons (pv 2) pa_nil))))
    (pss_cons (ps_set (i := 5) sc_copy_derivations.nd rfl (Or.inr rfl) (pe_ix ix_tup (pe_ix ix_list (pe_fld (pv 0) rfl) (pv 1) (fun _ _ => rfl)) pe_int (fun _ _ => rfl)))
    (pss_cons (ps_set (i := 6) sc_copy_derivations.nd rfl (Or.inr rfl) (pe_ix ix_list (pe_ix ix_list (pe_fld (pv 0) rfl) (pv 1) (fun _ _ => rfl)) pe_int (fun _ _ => rfl)))
    (pss_cons (ps_set (i := 7) sc_copy_derivations.nd rfl (Or.inl rfl) (pv 5))
    (pss_cons (ps_while PassesOwn.never (pt_cmpR op_notIn_seq (pv 3) (pe_ix ix_list (pv 4) (pv 7) (fun _ _ => rfl)) rfl) (pss_one (ps_aug (i := 7) sc_copy_derivations.nd rfl (Or.inl rfl) pe_int ip_add)))
    (pss_cons (ps_set (i := 8) sc_copy_derivations.nd rfl (Or.inl rfl) (pe_lst pa_nil))
    (pss_cons (ps_set (i := 9) sc_copy_derivations.nd rfl (Or.inr rfl) (pv 3))
    (pss_cons (ps_for PassesOwn.never rfl (pi_range3 rfl T.z_range (pa_cons (pe_op op_sub (pv 7) pe_int) (pa_cons (pe_un un_neg pe_int) (pa_cons (pe_un un_neg pe_int) pa_nil)))) (pg_name (i := 10) sc_copy_derivations.nd rfl (Or.inr rfl)) (pss_cons (ps_setLc (i := 11) (own := [("begin", 12)]) rfl sc_copy_derivations.nd rfl rfl (sw_true rfl rfl rfl (by decide +kernel)) (pi_list (pe_ix ix_list (pv 4) (pv 10) (fun _ _ => rfl))) (blkOk_by (N := N_copy_derivations) (sc := defScope s_copy_derivations) (by decide +kernel)) (fun _ _ _ _ _ => pg_name (i := 12) sc_copy_derivations.nd rfl (Or.inl rfl)) (fun _ _ _ _ _ => pts_one (PW.pt (pw_and (pt_cmpR (op_in_seqK (K := K) rfl) (pv 9) (pe_methH (pv 0) h_ends hr (by omega) (pa_cons (pv 6) (pa_cons (pv 12) pa_nil))) rfl) (pw_and1 (PW.pt (pw_or (pt_cmpR op_lt (pv 10) (pv 5) (nomark _)) (pw_or1 (pt_cmpR op_lt (pv 12) (pv 9) (nomark _))))))))) (fun _ _ _ _ _ => (pv 12)))
    (pss_cons (ps_expr (pe_bm PySem.F.plainAttrs_list PySem.F.slot_list_append PySem.F.type_list_append mt_append (pv 8) (pa_cons (pe_methH (pv 0) h_derive hr (by omega) (pa_cons (pv 6) (pa_cons (pe_ix ix_list (pv 11) pe_int (fun _ _ => rfl)) (pa_cons (pv 9) pa_nil)))) pa_nil)))
    (pss_one (ps_set (i := 9) sc_copy_derivations.nd rfl (Or.inr rfl) (pe_ix ix_list (pv 11) pe_int (fun _ _ => rfl)))))))
    (pss_one (ps_ret (pe_callTy call_tuple_of rfl T.z_tuple bb_tuple (pa_cons (pe_revL (pv 8)) pa_nil))))))))))))), ?_⟩
  have hlen : m ≤ (tx S.z).length := by rw [tx_len]; exact hm
  have hz := tx_len S.z
  have hsh := spl.short
  have h4 := spl.wfp hp
  rw [Wf] at h4
  refine ⟨_, rfl, S.x, _, _, rfl, spl.ins, rfl, _, rfl, _, rfl, S, n, m, p, l, mo, rfl, spl, hp, hd, hm, fun a0 H1 top g1 hL t1 t2 t3 => ?_⟩
  obtain ⟨tv, v, ht, hv, hP⟩ := g1.spl.tree hp
  obtain ⟨a', u, rfl, hw, _⟩ := hP.rep
  obtain ⟨ua, b, cs, hu, hb, hc, lc, kid⟩ := g1.spl.unders hp
  obtain ⟨c, hc1, hc2⟩ := kid 0 p rfl
  refine ⟨_, rfl, S.x, _, _, _, _, rfl, g1.spl.ins, T.cl, T.n_trees, rfl, _, rfl, S.tl, tv, _, _, rfl, rfl, SqL.of ht, hv, a', _, _, _, rfl, rfl, hw, at2, ?_⟩
  refine ⟨_, rfl, S.x, _, _, _, _, rfl, g1.spl.ins, T.cl, T.n_under, rfl, _, rfl, S.ul, _, _, _, rfl, rfl, SqL.of hu, hb, b, _, _, _, rfl, rfl, SqL.of hc, atI_nat (j := 0) (nv_at hc1), ?_⟩
  refine ⟨_, rfl, ?_⟩
  obtain ⟨f0, hf0⟩ : ∃ f0, f0 = ends (tx S.z) p := ⟨_, rfl⟩
  obtain ⟨N, hN⟩ : ∃ N, N = (tx S.z).length := ⟨_, rfl⟩
  rw [← hf0, ← hN] at hL t1 he q
  obtain ⟨cp, hcp⟩ : ∃ cp, cp = copiesOf N f0 l mo m e := ⟨_, rfl⟩
  obtain ⟨c1, c2, c3, c4⟩ := copies_spec he
  rw [← hcp] at c1 c2 c3 c4 q
  have ctop : cp ≤ top := by
    refine Classical.byContradiction fun g => ?_
    rcases t1 with t1 | t1
    · have := lay_nil t1 (cp - top)
      rw [show top + (cp - top) = cp by omega] at this
      rw [this] at c3
      cases c3
    · rw [t1, cap] at c2
      omega
  have lol : ∀ j, j ≤ top → ∃ (as : List Addr) (bj : Addr), H1 a0 = some (.lst (as.map V.ref)) ∧ atI (as.map V.ref) (j : Int) = some (.ref bj) ∧ H1 bj = some (.lst (nv (lay N f0 l m j))) := fun j hj => by
    obtain ⟨as, bj, r1, r2, r3, r4, r5⟩ := hL.at (i := j) (xs := lay N f0 l m j) (by rw [List.getElem?_map, List.getElem?_range (by omega)]; rfl)
    exact ⟨as, bj, r1, r4, r5⟩
  refine while_by (fun σ H' => H' = H1 ∧ ∃ j, l ≤ j ∧ j ≤ cp ∧ σ = [some (.ref S.x), some (.int (n : Int)), some (.int (m : Int)), some (.int (e : Int)), some (.ref a0), some (.int (l : Int)), some (.int (c : Int)), some (.int (j : Int)), none, none, none, none, none])
    (fun (σ : L2.St) (_ : Hp) => match σ[7]? with | some (some (V.int j)) => cp - j.toNat | _ => 0) ⟨rfl, l, Nat.le_refl _, c1, rfl⟩ (fun σ H2 h => ?_) ?mono
  case mono =>
    intro σ H' Q1 Q2 hq h
    obtain ⟨v1, e1, v2, e2, v3, e3, p1, xs, i, v4, e4, e5, e6, e7, p2, xs2, e8, e9, e10, e11, kk, e12, h⟩ := h
    exact ⟨v1, e1, v2, e2, v3, e3, p1, xs, i, v4, e4, e5, e6, e7, p2, xs2, e8, e9, e10, e11, kk, e12, hq _ _ h⟩
  obtain ⟨rfl, j, j1, j2, rfl⟩ := h
  obtain ⟨as, bj, r1, r2, r3⟩ := lol j (by omega)
  refine ⟨_, rfl, _, rfl, _, rfl, a0, _, _, _, rfl, rfl, SqL.of r1, r2, bj, _, rfl, .inl (SqL.of r3), rfl, nv_flat _, _, rfl, ?_⟩
  rw [nv_in]
  refine ite2b (fun h1 => ?_) fun h1 => ?_
  · have hn : e ∉ lay N f0 l m j := fun h => by
      have c5 : (!decide (e ∈ lay N f0 l m j)) = true := h1
      rw [decide_eq_true h] at c5
      cases c5
    have ne : j ≠ cp := fun z => hn (z ▸ c3)
    refine ⟨_, rfl, _, _, rfl, rfl, ⟨rfl, j + 1, by omega, by omega, ?_⟩, ?_⟩
    · rfl
    · show cp - ((j : Int) + 1).toNat < cp - (j : Int).toNat
      omega
  have hin : e ∈ lay N f0 l m j := Classical.byContradiction fun h => by
    have c5 : (!decide (e ∈ lay N f0 l m j)) = false := h1
    rw [decide_eq_false h] at c5
    cases c5
  obtain rfl : j = cp := Classical.byContradiction fun h => c4 j j1 (by omega) hin
  refine ⟨(by show 0 ≤ sizeLine; decide), fun R nR => ?_⟩
  have AR0 : Acc K S H2 (upd H2 R (.lst [])) R [] := Acc.start g1.spl nR
  refine ⟨_, rfl, _, rfl, _, _, rfl, rfl, _, rfl, _, rfl, ((j : Int) - 1), -1, -1, j, rfl, ?_, ?_⟩
  · have := RgC.neg (i := (j : Int) - 1) (j := -1) (by omega) (by omega) (by omega) (by omega)
    rw [show ((j : Int) - 1 - -1).toNat = j by omega] at this
    exact this
  let CD := copyDer N f0 (der (tx S.z) p) l m
  refine for_rangeC (fun i σ H' => ∃ (k at_ : Nat) (dsV : List V) (ds : List PyData) (v10 v11 : Option V), k + i = j ∧ σ = [some (.ref S.x), some (.int (n : Int)), some (.int (m : Int)), some (.int (e : Int)), some (.ref a0), some (.int (l : Int)), some (.int (c : Int)), some (.int (j : Int)), some (.ref R), some (.int (at_ : Int)), v10, v11, none] ∧
      Acc K S H2 H' R dsV ∧ DpAll K H' dsV ds ∧ (∀ d ∈ ds, IsDer d) ∧ CD j e = CD k at_ ++ ds.reverse ∧ at_ ∈ lay N f0 l m k ∧ dsV.length = i)
    ⟨j, e, [], [], none, none, rfl, rfl, AR0, .nil, fun d hd => (nomatch hd), by rw [List.reverse_nil, List.append_nil], hin, rfl⟩ (fun i σ H3 hi h => ?_) fun σ H3 h => ?_
  · obtain ⟨k1, at_, dsV, ds, v10, v11, ek, rfl, A2, hds, hder, hcd, hat, lds⟩ := h
    obtain ⟨k, rfl⟩ : ∃ k, k1 = k + 1 := ⟨k1 - 1, by omega⟩
    have eidx : ((j : Int) - 1 + ((i : Nat) : Int) * (-1)) = ((k : Nat) : Int) := by omega
    rw [eidx]
    have k2 := A2.go.kp
    obtain ⟨as, bk, r1, r2, r3⟩ := lol k (by omega)
    obtain ⟨b1, b2, b3, b4⟩ := beg_spec hat
    have yle : ∀ y ∈ lay N f0 l m k, y ≤ (tx S.z).length := fun y hy => by
      have := lay_le (n := N) (by omega) k y hy
      omega
    have lln := lay_len (n := N) (f := f0) (l := l) (s := m) (by omega) k
    refine ⟨_, rfl, _, rfl, a0, _, _, _, rfl, rfl, SqL.of (k2 _ _ r1 rfl), r2, bk, rfl, ⟨_, SqL.of (k2 _ _ r3 rfl)⟩, fun G nG => ?_⟩
    let pr : Nat → Bool := fun b => decide (at_ ∈ f0 b) && (decide (k < l) || decide (b < at_))
    refine walk_list (xs := nv (lay N f0 l m k)) (fun i' H' => Acc K S H3 H' G (nv (((lay N f0 l m k).take i').filter pr))) (Acc.start A2.go.spl nG) (fun i' H' _ h => h.go.kp.seq (SqL.of (k2 _ _ r3 rfl))) (fun i' x H4 hx A3 => ?_) fun H4 A3 => ?_
    · obtain ⟨y, hy, rfl⟩ := nv_atV hx
      have ym := List.mem_of_getElem? hy
      have yl := yle y ym
      have sn := filt_snoc (p := pr) (lay N f0 l m k) i' hy
      have few : (nv (((lay N f0 l m k).take i').filter pr)).length < sizeLine := by
        rw [nv_len]
        have l2 := List.length_filter_le pr ((lay N f0 l m k).take i')
        rw [List.length_take] at l2
        exact small_line (by omega)
      refine ⟨rfl, _, rfl, _, rfl, S.x, _, _, rfl, A3.go.spl.ins, rfl, _, rfl, _, rfl, S, c, y, p, rfl, A3.go.spl, hc2, hd, by omega, fun a3 H5 g4 in4 ha4 => ⟨a3, _, rfl, .inl (SqL.of ha4), rfl, nv_flat _, _, rfl, ?_⟩⟩
      rw [nv_in, ← hf0]
      have A4 := A3.then g4
      have kept : pr y = true → ∃ acc, H5 G = some (.lst acc) ∧ acc.length < sizeLine ∧ Acc K S H3 (upd H5 G (.lst (acc ++ [V.int (y : Int)]))) G (nv (((lay N f0 l m k).take (i' + 1)).filter pr)) := fun hp1 => by
        rw [hp1, if_pos rfl] at sn
        refine ⟨_, A4.at_, few, ?_⟩
        rw [nv_snoc, ← sn]
        exact A4.push A2.go.spl
      have left : pr y = false → Acc K S H3 H5 G (nv (((lay N f0 l m k).take (i' + 1)).filter pr)) := fun hp1 => by
        rw [hp1, if_neg Bool.false_ne_true, List.append_nil] at sn
        rw [sn]
        exact A4
      refine ite2b (fun c5 => ?_) fun c5 => ?_
      · have m5 : decide (at_ ∈ f0 y) = true := c5
        refine ⟨_, rfl, _, rfl, _, _, rfl, rfl, _, rfl, ite2b (fun c6 => ?_) fun c6 => ?_⟩
        · have c7 : decide (k < l) = true := by
            have := of_decide_eq_true c6
            exact decide_eq_true (by omega)
          exact ⟨_, rfl, kept (by show (decide (at_ ∈ f0 y) && (decide (k < l) || decide (y < at_))) = true; rw [m5, c7]; rfl)⟩
        · have c7 : decide (k < l) = false := by
            have := of_decide_eq_false c6
            exact decide_eq_false (by omega)
          refine ⟨_, rfl, _, rfl, _, _, rfl, rfl, _, rfl, ite2b (fun c8 => ?_) fun c8 => ?_⟩
          · have c9 : decide (y < at_) = true := by
              have := of_decide_eq_true c8
              exact decide_eq_true (by omega)
            exact ⟨_, rfl, kept (by show (decide (at_ ∈ f0 y) && (decide (k < l) || decide (y < at_))) = true; rw [m5, c7, c9]; rfl)⟩
          · have c9 : decide (y < at_) = false := by
              have := of_decide_eq_false c8
              exact decide_eq_false (by omega)
            exact left (by show (decide (at_ ∈ f0 y) && (decide (k < l) || decide (y < at_))) = false; rw [m5, c7, c9]; rfl)
      · have m5 : decide (at_ ∈ f0 y) = false := c5
        exact left (by show (decide (at_ ∈ f0 y) && (decide (k < l) || decide (y < at_))) = false; rw [m5]; rfl)
    · rw [nv_len, List.take_length] at A3
      have fle := yle _ b1
      have AR := A2.then A3.go
      refine ⟨_, rfl, .inl ⟨rfl, _, SqL.of AR.at_⟩, _, rfl, S.x, _, _, rfl, A3.go.spl.ins, rfl, _, rfl, _, rfl, G, _, _, _, rfl, rfl, SqL.of A3.at_, atI_nat (j := 0) (nv_at b4), _, rfl, S, c, begOf N f0 l m k at_, at_, p, rfl, A3.go.spl, hc2, hd, by omega, fun v H6 g5 hv => ?_⟩
      rw [← hf0, if_pos b2] at hv
      have A5 := AR.then g5
      have few : dsV.length < sizeLine := small_line (by omega)
      have nGR : G ≠ R := (ne_of_none A2.at_ nG).symm
      have hG5 : upd H6 R (.lst (dsV ++ [v])) G = some (.lst (nv ((lay N f0 l m k).filter pr))) := by
        rw [upd_ne nGR]
        exact g5.kp _ _ A3.at_ rfl
      have kt : Kt H6 (upd H6 R (.lst (dsV ++ [v]))) := Kt.lst A5.at_
      refine ⟨R, _, _, rfl, rfl, A5.at_, few, _, rfl, G, _, _, _, rfl, rfl, SqL.of hG5, atI_nat (j := 0) (nv_at b4), k, begOf N f0 l m k at_, dsV ++ [v], ds ++ [der (tx S.z) p (begOf N f0 l m k at_) at_], some (.int (k : Int)), some (.ref G), by omega, rfl, A5.push g1.spl, ?_, ?_, ?_, b1, by rw [List.length_append, lds]; rfl⟩
      · exact DpAll.append (kt.dpAll (noLs_of fun d hd => (hder d hd).noL) (((A3.go.kp).trans g5.kp).dpAll hds)) (.one (kt.dp (der_isDer _ _ _ _).noL hv))
      · intro d hd
        rcases List.mem_append.mp hd with h | h
        · exact hder d h
        · rw [List.mem_singleton.mp h]
          exact der_isDer _ _ _ _
      · rw [hcd]
        show copyDer N f0 (der (tx S.z) p) l m (k + 1) at_ ++ ds.reverse = copyDer N f0 (der (tx S.z) p) l m k _ ++ _
        rw [copyDer, List.reverse_append, List.append_assoc]
        rfl
  · obtain ⟨k, at_, dsV, ds, v10, v11, ek, rfl, A2, hds, hder, hcd, hat, lds⟩ := h
    obtain rfl : k = 0 := by omega
    refine ⟨_, rfl, R, _, rfl, SqL.of A2.at_, fun p1 np1 => ⟨p1, _, rfl, .inl ⟨SqL.of upd_same, fun l1 nl => ?_⟩⟩⟩
    have k6 := (Kp.new np1 (.lst dsV.reverse)).add nl (.tup dsV.reverse)
    have hr2 := DpAll.reverse hds
    have e0 : CD j e = ds.reverse := by
      rw [hcd]
      show copyDer N f0 (der (tx S.z) p) l m 0 at_ ++ _ = _
      rw [copyDer, List.nil_append]
    rw [← e0] at hr2
    refine q (.ref l1) _ ((g1.trans (A2.go.add np1 _)).add nl _) ?_
    exact .tupI upd_same (k6.dpAll hr2)
end
end Pd
set_option Elab.async false
set_option linter.all false
set_option maxRecDepth 100000
set_option maxHeartbeats 4000000
namespace Pd
open PySem PySem.Spec PyProof.Rows L2
section
variable {P : Program} {w : World} {K : PySem.W.Frag} {mg : Str → Option Value} {base : Heap} {f : Addr} {fd : FuncData}
abbrev N_number_tree : List Str := ["self", "tree", "number", "inner", "part"]
theorem sc_number_tree : FnScope N_number_tree ["self", "tree"] (defScope s_number_tree) := ⟨rfl, rfl, rfl, by decide +kernel, rfl, by decide +kernel, by decide +kernel⟩
theorem ok_number_tree {gP gN : Addr} {D k : Nat} (T : Txt K mg) (F : FnP K "number_tree" "Splitter.number_tree" s_number_tree f fd) (hk : 5 ≤ k) (h_parts_under : Has P w K mg base "parts_under" gP ["pattern"] 1 (spPartsUnder K)) (h_number_tree : HasM P w K mg base (Cs K) "number_tree" gN ["self", "tree"] k (spNumberTree K D)) :
    FnOk P w K mg base CX0 (k + 1) f fd ["self", "tree"] (spNumberTree K (D + 1)) := by
  refine F.ok sc_number_tree (fun vs H Q E h => ?_) (fun cdv A outer s H vs Q E hr h => ?_)
  · obtain ⟨x, dx, tl, ul, d, z, v, p, tv, ua, rfl, _⟩ := h
    rfl
  obtain ⟨x, dx, tl, ul, d, z, v, p, tv, ua, rfl, hx, hp, hw, hd, htu, ht, hu, hl, few, q⟩ := h
  refine ⟨_, PSs.nox ((pss_cons (ps_set (i := 2) sc_number_tree.nd rfl (Or.inl rfl) (pe_callB call_len_seq rfl T.z_len PySem.boot_len (pa_cons (pe_fld (pv 0) rfl) pa_nil)))
    (pss_cons (ps_expr (pe_bm PySem.F.plainAttrs_list PySem.F.slot_list_append PySem.F.type_list_append mt_append (pe_fld (pv 0) rfl) (pa_cons (pv 1) pa_nil)))
    (pss_cons (ps_expr (pe_bm PySem.F.plainAttrs_list PySem.F.slot_list_append PySem.F.type_list_append mt_append (pe_fld (pv 0) rfl) (pa_cons (pe_lst pa_nil) pa_nil)))
    (pss_cons (ps_setLc (i := 3) (own := [("part", 4)]) rfl sc_number_tree.nd rfl rfl (sw_true rfl rfl rfl (by decide +kernel)) (pi_tup (pe_callH h_parts_under hr (by omega) rfl (pa_cons (pv 1) pa_nil))) (blkOk_by (N := N_number_tree) (sc := defScope s_number_tree) (by decide +kernel)) (fun _ _ _ _ _ => pg_name (i := 4) sc_number_tree.nd rfl (Or.inl rfl)) (fun _ _ _ _ _ => pts_nil) (fun _ _ _ _ _ => (pe_methH (pv 0) h_number_tree hr (by omega) (pa_cons (pv 4) pa_nil))))
    (pss_cons (ps_expr (pe_bm PySem.F.plainAttrs_list PySem.F.slot_list_extend PySem.F.type_list_extend mt_extend (pe_ix ix_list (pe_fld (pv 0) rfl) (pv 2) (fun _ _ => rfl)) (pa_cons (pv 3) pa_nil)))
    (pss_one (ps_ret (pv 2))))))))), ?_⟩
  have hn1 := nodes_eq p
  have hu1 := unders_eq tv.length p
  have lnode : (nodes p).length = (nodess p.kids).length + 1 := by rw [hn1]; rfl
  have nxt : tl ≠ x := ne_of ht hx (by intro z; cases z)
  have nxu : ul ≠ x := ne_of hu hx (by intro z; cases z)
  refine ⟨_, rfl, x, _, _, _, _, rfl, hx, T.cl, T.n_trees, rfl, tl, _, rfl, .inl (SqL.of ht), ?_⟩
  refine ⟨_, rfl, x, _, _, _, _, rfl, hx, T.cl, T.n_trees, rfl, .inl ⟨rfl, _, SqL.of ht⟩, _, rfl, tl, _, _, rfl, rfl, ht, small_line (by omega), ?_⟩
  obtain ⟨H1, e1⟩ : ∃ H1, H1 = upd H tl (.lst (tv ++ [v])) := ⟨_, rfl⟩
  rw [← e1]
  have hx1 : H1 x = some (.ins (Cs K) dx [("text", .str z), ("trees", .ref tl), ("under", .ref ul), ("known_ends", .ref d)]) := by rw [e1, upd_ne nxt.symm]; exact hx
  have hu1' : H1 ul = some (.lst (ua.map V.ref)) := by rw [e1, upd_ne htu.symm]; exact hu
  have ht1 : H1 tl = some (.lst (tv ++ [v])) := by rw [e1, upd_same]
  have s1 : ∀ b o, H b = some o → b ≠ tl → b ≠ ul → H1 b = some o := fun b o h n1 n2 => by rw [e1, upd_ne n1]; exact h
  refine ⟨_, rfl, x, _, _, _, _, rfl, hx1, T.cl, T.n_under, rfl, .inl ⟨rfl, _, SqL.of hu1'⟩, (by show 0 ≤ sizeLine; decide), fun b0 nb0 => ?_⟩
  have nb0u : b0 ≠ ul := (ne_of_none hu1' nb0).symm
  have nb0t : b0 ≠ tl := (ne_of_none ht1 nb0).symm
  have nb0x : b0 ≠ x := (ne_of_none hx1 nb0).symm
  refine ⟨ul, _, _, rfl, rfl, by rw [upd_ne nb0u.symm]; exact hu1', by rw [List.length_map]; exact small_line (by omega), ?_⟩
  obtain ⟨H2, e2⟩ : ∃ H2, H2 = upd (upd H1 b0 (.lst [])) ul (.lst (ua.map V.ref ++ [V.ref b0])) := ⟨_, rfl⟩
  rw [← e2]
  have s2 : ∀ b o, H b = some o → b ≠ tl → b ≠ ul → H2 b = some o := fun b o h n1 n2 => by
    have h1 := s1 b o h n1 n2
    rw [e2, upd_ne n2, upd_ne (ne_of_none h1 nb0)]
    exact h1
  have hx2 := s2 _ _ hx nxt.symm nxu.symm
  have ht2 : H2 tl = some (.lst (tv ++ [v])) := by rw [e2, upd_ne htu, upd_ne nb0t.symm]; exact ht1
  have hu2 : H2 ul = some (.lst ((ua ++ [b0]).map V.ref)) := by rw [e2, upd_same, List.map_append]; rfl
  have hb2 : H2 b0 = some (.lst []) := by rw [e2, upd_ne nb0u, upd_same]
  have kt2 : Kt H H2 := fun b o h n => s2 b o h (fun z => by subst z; rw [ht] at h; cases h; cases n) (fun z => by subst z; rw [hu] at h; cases h; cases n)
  have hp2 : PtV K H2 v p := kt2.dp (enc_noL p) hp
  have hb0 : H b0 = none := by
    cases e : H b0 with
    | none => rfl
    | some o =>
      rw [s1 b0 o e nb0t nb0u] at nb0
      cases nb0
  refine ⟨_, rfl, v, p, rfl, hp2, fun a xs H3 ha hxs s3 => ⟨a, rfl, ⟨_, ha⟩, fun G nG => ?_⟩⟩
  have nG2 : H2 G = none := Same.free s3 nG
  let ks := p.kids
  let n := tv.length
  have lk : xs.length = ks.length := by
    have := hxs.len
    rw [List.length_map] at this
    exact this
  let J : Nat → Hp → Prop := fun i H' => ∃ (tw : List V) (uw : List Addr), Kt H3 H' ∧ (∀ b o, H2 b = some o → b ≠ tl → b ≠ ul → H' b = some o) ∧ H' tl = some (.lst (tv ++ v :: tw)) ∧ DpAll K H' tw ((nodess (ks.take i)).map enc) ∧ H' ul = some (.lst ((ua ++ b0 :: uw).map V.ref)) ∧ uw.length = (underss (n + 1) (ks.take i)).length ∧
    (∀ (j : Nat) (b : Addr) (cs : List Nat), uw[j]? = some b → (underss (n + 1) (ks.take i))[j]? = some cs → H2 b = none ∧ H' b = some (.lst (nv cs)) ∧ b ≠ G) ∧ H' G = some (.lst (nv (heads (n + 1) (ks.take i))))
  refine walk_tup (xs := xs) J ?start (fun i H' _ h => ?_) (fun i x' H4 hx' h => ?_) fun H4 h => ?_
  case start =>
    have k3 : Same H3 (upd H3 G (.lst [])) := same_new nG _
    refine ⟨[], [], (Kp.of k3).kt, fun b o h _ _ => k3 _ _ (s3 b o h), ?_, ?_, ?_, ?_, fun j b cs h => ?_, ?_⟩
    · exact k3 _ _ (s3 _ _ ht2)
    · rw [List.take_zero, nodess_nil]
      exact .nil
    · exact k3 _ _ (s3 _ _ hu2)
    · rw [List.take_zero, underss_nil]
      rfl
    · simp at h
    · rw [List.take_zero]
      exact upd_same
  · obtain ⟨tw, uw, kt, _⟩ := h
    exact kt.tup ha
  · obtain ⟨tw, uw, kt, st, j1, j2, j3, j4, j5, j6⟩ := h
    obtain ⟨dd, hd1, hd2⟩ := hxs.atV hx'
    have li : i < ks.length := by
      have := (List.getElem?_eq_some_iff.mp hx').1
      omega
    have hq : ks[i]? = some ks[i] := List.getElem?_eq_getElem li
    have edd : dd = enc ks[i] := by
      rw [List.getElem?_map, show p.kids[i]? = some ks[i] from hq] at hd1
      exact (Option.some.inj hd1).symm
    subst edd
    have hP4 : PtV K H4 x' ks[i] := kt.dp (enc_noL _) hd2
    have ltw : tw.length = (nodess (ks.take i)).length := by
      have := j2.len
      rw [List.length_map] at this
      exact this
    have nt := nodess_take hq
    have nle := nodess_take_le ks (i + 1)
    rw [nt, List.length_append] at nle
    have lkn : (nodess p.kids).length = (nodess ks).length := rfl
    have ltv : (tv ++ v :: tw).length = n + 1 + (nodess (ks.take i)).length := by
      rw [List.length_append, List.length_cons, ltw]
      show tv.length + _ = tv.length + 1 + _
      omega
    have luw : uw.length = (nodess (ks.take i)).length := by rw [j4, underss_len]
    have hx4 := st _ _ hx2 nxt.symm nxu.symm
    have dk : dep ks[i] < dep p := dep_kid (List.mem_of_getElem? hq)
    refine ⟨rfl, _, rfl, x, _, _, rfl, hx4, rfl, _, rfl, x, dx, tl, ul, d, z, x', ks[i], tv ++ v :: tw, ua ++ b0 :: uw, rfl, hx4, hP4, wf_kids hw (List.mem_of_getElem? hq), by omega, htu, j1, j3, ?_, ?_, fun H5 tw' uw' k5 r1 r2 r3 r4 r5 => ?_⟩
    · rw [ltv, List.length_append, List.length_cons]
      show tv.length + 1 + _ = _
      omega
    · rw [ltv]
      show tv.length + 1 + _ + _ ≤ 1000
      omega
    have nGt : G ≠ tl := (ne_of_none ht2 nG2).symm
    have nGu : G ≠ ul := (ne_of_none hu2 nG2).symm
    have hG5 : H5 G = some (.lst (nv (heads (n + 1) (ks.take i)))) := k5 _ _ j6 nGt nGu
    have kt45 : Kt H4 H5 := fun b o h n => k5 b o h (fun z => by subst z; rw [j1] at h; cases h; cases n) (fun z => by subst z; rw [j3] at h; cases h; cases n)
    have kt5 : Kt H5 (upd H5 G (.lst (nv (heads (n + 1) (ks.take i)) ++ [V.int ((tv ++ v :: tw).length : Int)]))) := Kt.lst hG5
    refine ⟨_, hG5, ?_, tw ++ tw', uw ++ uw', kt.trans (kt45.trans kt5), fun b o h n1 n2 => ?_, ?_, ?_, ?_, ?_, fun j b cs g1 g2 => ?_, ?_⟩
    · rw [nv_len, heads_len, List.length_take]
      have : (nodess ks).length ≥ ks.length := nodess_ge ks
      exact small_line (by omega)
    · rw [upd_ne (ne_of_none h nG2)]
      exact k5 _ _ (st b o h n1 n2) n1 n2
    · rw [upd_ne nGt.symm, r1, List.append_assoc]
      rfl
    · rw [nt, List.map_append]
      refine kt5.dpAll ?_ (DpAll.append (kt45.dpAll ?_ j2) r2)
      · exact noLs_of fun d hd => by
          rcases List.mem_append.mp hd with h | h
          · obtain ⟨y, _, rfl⟩ := List.mem_map.mp h
            exact enc_noL y
          · obtain ⟨y, _, rfl⟩ := List.mem_map.mp h
            exact enc_noL y
      · exact noLs_of fun d hd => by
          obtain ⟨y, _, rfl⟩ := List.mem_map.mp hd
          exact enc_noL y
    · rw [upd_ne nGu.symm, r3, List.append_assoc]
      rfl
    · rw [underss_take hq, List.length_append, List.length_append, j4, r4, ltv]
    · rw [underss_take hq] at g2
      by_cases lj : j < uw.length
      · rw [List.getElem?_append_left lj] at g1
        rw [List.getElem?_append_left (by omega)] at g2
        obtain ⟨q1, q2, q3⟩ := j5 j b cs g1 g2
        have nbt : b ≠ tl := (ne_of_none ht2 q1).symm
        have nbu : b ≠ ul := (ne_of_none hu2 q1).symm
        exact ⟨q1, by rw [upd_ne q3]; exact k5 _ _ q2 nbt nbu, q3⟩
      · rw [List.getElem?_append_right (by omega)] at g1
        rw [List.getElem?_append_right (by omega), ← j4, ← ltv] at g2
        obtain ⟨q1, q2⟩ := r5 _ b cs g1 g2
        have nbG : b ≠ G := (ne_of_none j6 q1).symm
        refine ⟨?_, by rw [upd_ne nbG]; exact q2, nbG⟩
        cases e : H2 b with
        | none => rfl
        | some o =>
          by_cases n1 : b = tl
          · subst n1; rw [j1] at q1; cases q1
          · by_cases n2 : b = ul
            · subst n2; rw [j3] at q1; cases q1
            · rw [st b o e n1 n2] at q1; cases q1
    · rw [upd_same, heads_take hq, ltv, nv_snoc]
  · obtain ⟨tw, uw, kt, st, j1, j2, j3, j4, j5, j6⟩ := h
    rw [lk, List.take_length] at j2 j4 j5 j6
    have hx4 := st _ _ hx2 nxt.symm nxu.symm
    have hb4 : H4 b0 = some (.lst []) := st _ _ hb2 nb0t nb0u
    have nGb : G ≠ b0 := (ne_of_none hb2 nG2).symm
    have hat : atI ((ua ++ b0 :: uw).map V.ref) ((tv.length : Nat) : Int) = some (.ref b0) := atI_nat (by rw [List.getElem?_map, List.getElem?_append_right (by omega), hl, Nat.sub_self]; rfl)
    refine ⟨_, rfl, x, _, _, _, _, rfl, hx4, T.cl, T.n_under, rfl, _, rfl, ul, _, _, _, rfl, rfl, SqL.of j3, hat, .inl ⟨rfl, _, SqL.of hb4⟩, _, rfl, b0, G, _, _, rfl, rfl, hb4, j6, ?_, ?_⟩
    · rw [nv_len, heads_len]
      have := nodess_ge ks
      have lkn : (nodess p.kids).length = (nodess ks).length := rfl
      show 0 + ks.length ≤ sizeLine
      exact small_le (by omega)
    have ktf : Kt H4 (upd H4 b0 (.lst ([] ++ nv (heads (n + 1) ks)))) := Kt.lst hb4
    refine ⟨_, rfl, q _ (v :: tw) (b0 :: uw) (fun b o h n1 n2 => ?_) ?_ ?_ ?_ ?_ fun j b cs g1 g2 => ?_⟩
    · rw [upd_ne (ne_of_none h hb0)]
      exact st _ _ (s2 b o h n1 n2) n1 n2
    · rw [upd_ne nb0t.symm]
      exact j1
    · rw [hn1]
      refine .cons (ktf.dp (enc_noL p) ((((Kp.of s3).kt).trans kt).dp (enc_noL p) hp2)) (ktf.dpAll ?_ j2)
      exact noLs_of fun d hd => by
        obtain ⟨y, _, rfl⟩ := List.mem_map.mp hd
        exact enc_noL y
    · rw [upd_ne nb0u.symm]
      exact j3
    · rw [hu1, List.length_cons, List.length_cons, j4]
    · rw [hu1] at g2
      cases j with
      | zero =>
        have e1 : b0 = b := Option.some.inj g1
        have e2 : heads (tv.length + 1) p.kids = cs := Option.some.inj g2
        subst e1 e2
        exact ⟨hb0, by rw [upd_same]; rfl⟩
      | succ j =>
        obtain ⟨q1, q2, q3⟩ := j5 j b cs (by simpa using g1) (by simpa using g2)
        have nb : b ≠ b0 := (ne_of_none hb2 q1).symm
        refine ⟨?_, by rw [upd_ne nb]; exact q2⟩
        cases e : H b with
        | none => rfl
        | some o =>
          have n1 : b ≠ tl := (ne_of_none ht2 q1).symm
          have n2 : b ≠ ul := (ne_of_none hu2 q1).symm
          rw [s2 b o e n1 n2] at q1
          cases q1
end
end Pd
set_option Elab.async false
set_option linter.all false
set_option maxRecDepth 100000
set_option maxHeartbeats 4000000
namespace Pd
open PySem PySem.Spec PyProof.Rows L2
section
variable {P : Program} {w : World} {K : PySem.W.Frag} {mg : Str → Option Value} {base : Heap} {f : Addr} {fd : FuncData}
abbrev N_init : List Str := ["self", "pattern", "text"]
theorem sc_init : FnScope N_init ["self", "pattern", "text"] (defScope s_init) := ⟨rfl, rfl, rfl, by decide +kernel, rfl, by decide +kernel, by decide +kernel⟩
theorem ok_init {gN : Addr} {k : Nat} (T : Txt K mg) (F : FnP K "__init__" "Splitter.__init__" s_init f fd) (h_number_tree : HasM P w K mg base (Cs K) "number_tree" gN ["self", "tree"] k (spNumberTree K 8)) :
    FnOk P w K mg base CX0 (k + 1) f fd ["self", "pattern", "text"] (spInit K) := by
  refine F.ok sc_init (fun vs H Q E h => ?_) (fun cdv A outer s H vs Q E hr h => ?_)
  · obtain ⟨x, dx, v, p, z, rfl, _⟩ := h
    rfl
  obtain ⟨x, dx, v, p, z, rfl, hx, hdx, hp, hw, hd, few, hz, q⟩ := h
  refine ⟨_, PSs.nox ((pss_cons (ps_fld (pv 0) (pv 2) rfl)
    (pss_cons (ps_fld (pv 0) (pe_lst pa_nil) rfl)
    (pss_cons (ps_fld (pv 0) (pe_lst pa_nil) rfl)
    (pss_cons (ps_fld (pv 0) pe_dnewT rfl)
    (pss_one (ps_expr (pe_methH (pv 0) h_number_tree hr (by omega) (pa_cons (pv 1) pa_nil))))))))), ?_⟩
  refine ⟨_, rfl, _, rfl, x, _, _, _, rfl, hx, T.cl, T.n_text, by decide, ?_⟩
  obtain ⟨H1, e1⟩ : ∃ H1, H1 = upd H x (.ins (Cs K) dx (putF "text" (.str z) [])) := ⟨_, rfl⟩
  rw [← e1]
  have x1 : H1 x = some (.ins (Cs K) dx [("text", .str z)]) := by rw [e1, upd_same]; rfl
  have s1 : ∀ b o, H b = some o → b ≠ x → H1 b = some o := fun b o h n => by rw [e1, upd_ne n]; exact h
  refine ⟨(by show 0 ≤ sizeLine; decide), fun tl ntl => ⟨_, rfl, x, _, _, _, rfl, by rw [upd_ne (ne_of_none x1 ntl)]; exact x1, T.cl, T.n_trees, (by show 1 < 1000; decide), ?_⟩⟩
  obtain ⟨H2, e2⟩ : ∃ H2, H2 = upd (upd H1 tl (.lst [])) x (.ins (Cs K) dx (putF "trees" (.ref tl) [("text", .str z)])) := ⟨_, rfl⟩
  rw [← e2]
  have ntx : tl ≠ x := (ne_of_none x1 ntl).symm
  have x2 : H2 x = some (.ins (Cs K) dx [("text", .str z), ("trees", .ref tl)]) := by rw [e2, upd_same]; rfl
  have t2 : H2 tl = some (.lst []) := by rw [e2, upd_ne ntx, upd_same]
  have s2 : ∀ b o, H1 b = some o → b ≠ x → H2 b = some o := fun b o h n => by rw [e2, upd_ne n, upd_ne (ne_of_none h ntl)]; exact h
  refine ⟨(by show 0 ≤ sizeLine; decide), fun ul nul => ⟨_, rfl, x, _, _, _, rfl, by rw [upd_ne (ne_of_none x2 nul)]; exact x2, T.cl, T.n_under, (by show 2 < 1000; decide), ?_⟩⟩
  obtain ⟨H3, e3⟩ : ∃ H3, H3 = upd (upd H2 ul (.lst [])) x (.ins (Cs K) dx (putF "under" (.ref ul) [("text", .str z), ("trees", .ref tl)])) := ⟨_, rfl⟩
  rw [← e3]
  have nux : ul ≠ x := (ne_of_none x2 nul).symm
  have x3 : H3 x = some (.ins (Cs K) dx [("text", .str z), ("trees", .ref tl), ("under", .ref ul)]) := by rw [e3, upd_same]; rfl
  have u3 : H3 ul = some (.lst []) := by rw [e3, upd_ne nux, upd_same]
  have s3 : ∀ b o, H2 b = some o → b ≠ x → H3 b = some o := fun b o h n => by rw [e3, upd_ne n, upd_ne (ne_of_none h nul)]; exact h
  refine fun d nd => ⟨_, rfl, x, _, _, _, rfl, by rw [upd_ne (ne_of_none x3 nd)]; exact x3, T.cl, T.n_known, (by show 3 < 1000; decide), ?_⟩
  obtain ⟨H4, e4⟩ : ∃ H4, H4 = upd (upd H3 d (.dT [])) x (.ins (Cs K) dx (putF "known_ends" (.ref d) [("text", .str z), ("trees", .ref tl), ("under", .ref ul)])) := ⟨_, rfl⟩
  rw [← e4]
  have ndx : d ≠ x := (ne_of_none x3 nd).symm
  have x4 : H4 x = some (.ins (Cs K) dx [("text", .str z), ("trees", .ref tl), ("under", .ref ul), ("known_ends", .ref d)]) := by rw [e4, upd_same]; rfl
  have d4 : H4 d = some (.dT []) := by rw [e4, upd_ne ndx, upd_same]
  have s4 : ∀ b o, H3 b = some o → b ≠ x → H4 b = some o := fun b o h n => by rw [e4, upd_ne n, upd_ne (ne_of_none h nd)]; exact h
  have sA : ∀ b o, H b = some o → b ≠ x → H4 b = some o := fun b o h n => s4 b o (s3 b o (s2 b o (s1 b o h n) n) n) n
  have t4 := s4 _ _ (s3 _ _ t2 ntx) ntx
  have u4 := s4 _ _ u3 nux
  have ntu : tl ≠ ul := ne_of_none t2 nul
  have kt : Kt H H4 := fun b o h n => sA b o h fun z => by subst z; rw [hx] at h; cases h; cases n
  refine ⟨_, rfl, x, _, _, rfl, x4, rfl, _, rfl, x, dx, tl, ul, d, z, v, p, [], [], rfl, x4, kt.dp (enc_noL p) hp, hw, hd, ntu, t4, u4, rfl, by show 0 + _ ≤ 1000; omega, fun H5 tw uw k5 r1 r2 r3 r4 r5 => ?_⟩
  have nof : ∀ b o, H b = some o → b ≠ x → b ≠ tl ∧ b ≠ ul := fun b o h n => by
    have h1 := s1 b o h n
    have h2 := s2 b o h1 n
    exact ⟨ne_of_none h1 ntl, ne_of_none h2 nul⟩
  refine q H5 ⟨x, dx, tl, ul, d, z, nodes p, unders 0 p⟩ (fun b o h n => k5 b o (sA b o h n) (nof b o h n).1 (nof b o h n).2) rfl rfl (by rw [nodes_eq]; rfl) ⟨k5 _ _ x4 ntx.symm nux.symm, ⟨tw, r1, r2⟩, ⟨uw, r3, r4, fun i b xs h1 h2 => (r5 i b xs h1 h2).2⟩, fun n q hn => ?_, wf_nodes p hw, Nat.le_trans few (by decide), hz, [], k5 _ _ d4 (ne_of d4 t4 (by intro z; cases z)) (ne_of d4 u4 (by intro z; cases z)), List.Pairwise.nil, fun k v h => (nomatch h)⟩
  obtain ⟨cs, h1, h2, h3⟩ := fits_nodes p 0 n q hn
  refine ⟨cs, h1, h2, fun i c r hi hr => ?_⟩
  obtain ⟨m, e1, e2⟩ := h3 i c r hi hr
  rw [e1, Nat.zero_add]
  exact e2
abbrev N_derivation : List Str := ["pattern", "text", "start", "end"]
theorem sc_derivation : FnScope N_derivation ["pattern", "text", "start", "end"] (defScope s_derivation) := ⟨rfl, rfl, rfl, by decide +kernel, rfl, by decide +kernel, by decide +kernel⟩
theorem ok_derivation {gD : Addr} {k : Nat} (T : Txt K mg) (F : FnP K "derivation" "derivation" s_derivation f fd) (hk : 5 ≤ k) (h_init : HasI P w K mg base (mI K) ["self", "pattern", "text"] (k - 1) (spInit K)) (h_derive : HasM P w K mg base (Cs K) "derive" gD ["self", "number", "start", "end"] k (spDerive K 8)) :
    FnOk P w K mg base CX0 (k + 1) f fd ["pattern", "text", "start", "end"] (spDerivation K) := by
  refine F.ok sc_derivation (fun vs H Q E h => ?_) (fun cdv A outer s H vs Q E hr h => ?_)
  · obtain ⟨v, p, z, m, e, rfl, _⟩ := h
    rfl
  obtain ⟨v, p, z, m, e, rfl, hp, hw, hd, few, hz, hm, q⟩ := h
  refine ⟨_, PSs.nox ((pss_one (ps_ret (pe_methH (pe_makeH h_init hr (by omega) rfl T.gC T.mkr (pa_cons (pv 0) (pa_cons (pv 1) pa_nil))) h_derive hr (by omega) (pa_cons pe_int (pa_cons (pv 2) (pa_cons (pv 3) pa_nil))))))), ?_⟩
  refine ⟨_, rfl, _, rfl, fun x dx nx ndx ne => ?_⟩
  have kt : Kp H (upd (upd H dx (.own x)) x (.ins (Cs K) dx [])) := (Kp.new ndx _).add (by rw [upd_ne ne.symm]; exact nx) _
  refine ⟨x, dx, v, p, z, rfl, upd_same, by rw [upd_ne ne, upd_same], kt.dp hp, hw, hd, few, hz, fun H1 S k1 ex ez et spl => ⟨rfl, ?_⟩⟩
  have same1 : Same H H1 := fun b o h => k1 b o (by rw [upd_ne (ne_of_none h nx), upd_ne (ne_of_none h ndx)]; exact h) (ne_of_none h nx)
  subst ex ez
  refine ⟨S.x, _, _, rfl, spl.ins, rfl, _, rfl, _, rfl, S, 0, m, e, p, rfl, spl, et, hd, hm, fun u H2 g2 hu => q u H2 ((Kp.of same1).trans g2.kp) hu⟩
abbrev N_is_derivation : List Str := ["pattern", "text", "start", "end", "value"]
theorem sc_is_derivation : FnScope N_is_derivation ["pattern", "text", "start", "end", "value"] (defScope s_is_derivation) := ⟨rfl, rfl, rfl, by decide +kernel, rfl, by decide +kernel, by decide +kernel⟩
theorem ok_is_derivation {gE : Addr} {k : Nat} (T : Txt K mg) (F : FnP K "is_derivation" "is_derivation" s_is_derivation f fd) (hk : 5 ≤ k) (h_derived_end : Has P w K mg base "derived_end" gE ["pattern", "text", "at", "value"] k (spDerivedEnd K 8)) :
    FnOk P w K mg base CX0 (k + 1) f fd ["pattern", "text", "start", "end", "value"] (spIsDerivation K) := by
  refine F.ok sc_is_derivation (fun vs H Q E h => ?_) (fun cdv A outer s H vs Q E hr h => ?_)
  · obtain ⟨v, u, p, d, z, m, e, rfl, _⟩ := h
    rfl
  obtain ⟨v, u, p, d, z, m, e, rfl, hp, hw, hd, hu, hz, hm, q⟩ := h
  refine ⟨_, PSs.nox ((pss_one (ps_ret (pe_cmpR op_eq (pe_callH h_derived_end hr (by omega) rfl (pa_cons (pv 0) (pa_cons (pv 1) (pa_cons (pv 2) (pa_cons (pv 4) pa_nil))))) (pv 3) (nomark _))))), ?_⟩
  refine ⟨_, rfl, _, rfl, _, rfl, _, rfl, v, u, p, d, z, m, rfl, hp, hw, hd, hu, hz, hm, fun H1 k1 => ⟨_, rfl, ?_⟩⟩
  have q1 := q H1 k1
  cases e1 : walk (tx z) p m d with
  | none =>
    rw [e1] at q1
    refine ⟨rfl, ?_⟩
    rw [show decide ((none : Option Nat) = some e) = false from decide_eq_false (by simp)] at q1
    exact q1
  | some y =>
    rw [e1] at q1
    refine ⟨rfl, ?_⟩
    have e2 : decide (V.int (y : Int) = V.int (e : Int)) = decide (some y = some e) := by
      refine decide_eq_decide.mpr ⟨fun h => ?_, fun h => ?_⟩
      · have := V.int.inj h
        exact congrArg some (by omega)
      · rw [Option.some.inj h]
    show Q (.bl (decide (V.int (y : Int) = V.int (e : Int)))) H1
    rw [e2]
    exact q1
end
end Pd
set_option Elab.async false
set_option linter.all false
set_option maxRecDepth 100000
set_option maxHeartbeats 4000000
namespace Pd
open PySem PySem.Spec PyProof.Rows L2
section
variable {P : Program} {w : World} {K : PySem.W.Frag} {mg : Str → Option Value} {base : Heap} {f : Addr} {fd : FuncData}
theorem Dp_pt {K : PySem.W.Frag} {H : Hp} {v : V} {p : Pat} (h : Dp K H v (enc p)) : PtV K H v p := h
abbrev N_several_end : List Str := ["parts", "text", "at", "value", "part", "inner"]
theorem sc_several_end : FnScope N_several_end ["parts", "text", "at", "value"] (defScope s_several_end) := ⟨rfl, rfl, rfl, by decide +kernel, rfl, by decide +kernel, by decide +kernel⟩
theorem ok_several_end {gE : Addr} {D k : Nat} (T : Txt K mg) (F : FnP K "several_end" "several_end" s_several_end f fd) (hk : 5 ≤ k) (h_derived_end : Has P w K mg base "derived_end" gE ["pattern", "text", "at", "value"] k (spDerivedEnd K D)) :
    FnOk P w K mg base CX0 (k + 1) f fd ["parts", "text", "at", "value"] (spSeveralEnd K D) := by
  refine F.ok sc_several_end (fun vs H Q E h => ?_) (fun cdv A outer s0 H vs Q E hr h => ?_)
  · obtain ⟨a, b, xs, ys, ps, ds, z, s, rfl, _⟩ := h
    rfl
  obtain ⟨a, b, xs, ys, ps, ds, z, s, rfl, hxs, hxs2, hys, hds, lpd, hps, hz, hs, q⟩ := h
  refine ⟨_, PSs.nox ((pss_cons (ps_for PassesOwn.never rfl (pi_zipM rfl T.z_zip (pa_cons (pv 0) (pa_cons (pv 3) pa_nil))) (pg_tup rfl (pgs_cons (pg_name (i := 4) sc_several_end.nd rfl (Or.inl rfl)) (pgs_cons (pg_name (i := 5) sc_several_end.nd rfl (Or.inl rfl)) pgs_nil))) (pss_cons (ps_set (i := 2) sc_several_end.nd rfl (Or.inl rfl) (pe_callH h_derived_end hr (by omega) rfl (pa_cons (pv 4) (pa_cons (pv 1) (pa_cons (pv 2) (pa_cons (pv 5) pa_nil))))))
    (pss_one (ps_if (pt_cmpR op_isN (pv 2) pe_non (nomark _)) (pss_one (ps_ret pe_non)) pss_nil))))
    (pss_one (ps_ret (pv 2))))), ?_⟩
  have htx := tx_len z
  have lxs : xs.length = ps.length := by
    have := hxs2.len
    rw [List.length_map] at this
    exact this
  have lys : ys.length = ds.length := hds.len
  have lxy : xs.length = ys.length := by omega
  let Pv : Nat → L2.St → Hp → Prop := fun i σ H' => ∃ (cur : Nat) (v4 v5 : Option V), σ = [some (.ref a), some (.str z), some (.int (cur : Int)), some (.ref b), v4, v5] ∧ Kp H H' ∧ cur ≤ z.length ∧ rowWalk (tx z) ps s ds = rowWalk (tx z) (ps.drop i) cur (ds.drop i)
  rcases hxs with hT | hL
  · refine ⟨_, rfl, _, rfl, a, b, xs, ys, rfl, .inl ⟨hT, hys, RZ.for_zipT lxy Pv ?_ ?_ ?_ ?_⟩⟩
    · exact ⟨s, none, none, rfl, Kp.refl H, hs, by rw [List.drop_zero, List.drop_zero]⟩
    · intro i σ H1 h
      obtain ⟨cur, v4, v5, _, k1, _⟩ := h
      exact ⟨k1.tup hT, k1.tup hys⟩
    · intro i x y T0 σ H1 hx hy h nT
      obtain ⟨cur, v4, v5, rfl, k1, hc, hr1⟩ := h
      have k2 := k1.add nT (.tup [x, y])
      obtain ⟨pd, hp1, hp2⟩ := hxs2.atV hx
      obtain ⟨d, hd1, hd2⟩ := hds.atV hy
      obtain ⟨p, hp3, rfl⟩ : ∃ p, ps[i]? = some p ∧ pd = enc p := by
        rw [List.getElem?_map] at hp1
        cases e : ps[i]? with
        | none => rw [e] at hp1; cases hp1
        | some p => rw [e] at hp1; exact ⟨p, rfl, (Option.some.inj hp1).symm⟩
      have hw := hps p (List.mem_of_getElem? hp3)
      have dp : ps.drop i = p :: ps.drop (i + 1) := by
        have h1 := (List.getElem?_eq_some_iff.mp hp3)
        obtain ⟨h1, h2⟩ := h1
        rw [List.drop_eq_getElem_cons h1, h2]
      have dd : ds.drop i = d :: ds.drop (i + 1) := by
        have h1 := (List.getElem?_eq_some_iff.mp hd1)
        obtain ⟨h1, h2⟩ := h1
        rw [List.drop_eq_getElem_cons h1, h2]
      rw [dp, dd, rowWalk_cons] at hr1
      refine ⟨T0, _, rfl, SqT.of upd_same, rfl, _, _, rfl, _, _, rfl, rfl, ?_⟩
      refine ⟨_, rfl, _, rfl, _, rfl, _, rfl, x, y, p, d, z, cur, rfl, k2.pt (Dp_pt hp2), hw.1, hw.2, k2.dp hd2, hz, hc, fun H2 k3 => ?_⟩
      have k4 := k2.trans k3
      cases e : walk (tx z) p cur d with
      | none =>
        rw [e] at hr1
        refine ⟨_, rfl, rfl, _, rfl, iteTb rfl ?_⟩
        have q1 := q H2 k4
        rw [hr1] at q1
        exact q1
      | some nx =>
        rw [e] at hr1
        refine ⟨_, rfl, rfl, _, rfl, iteFb rfl ⟨nx, _, _, rfl, k4, ?_, hr1⟩⟩
        have := walk_le (tx z) p cur d nx (by omega) e
        omega
    · intro σ H1 h
      obtain ⟨cur, v4, v5, rfl, k1, hc, hr1⟩ := h
      have q1 := q H1 k1
      rw [hr1, lxs, List.drop_length, List.drop_eq_nil_of_le (by omega), rowWalk_done] at q1
      exact ⟨_, rfl, q1⟩
  · refine ⟨_, rfl, _, rfl, a, b, xs, ys, rfl, .inr ⟨hL, hys, for_zipM lxy Pv ?_ ?_ ?_ ?_⟩⟩
    · exact ⟨s, none, none, rfl, Kp.refl H, hs, by rw [List.drop_zero, List.drop_zero]⟩
    · intro i σ H1 h
      obtain ⟨cur, v4, v5, _, k1, _⟩ := h
      exact ⟨k1.seq hL, k1.tup hys⟩
    · intro i x y T0 σ H1 hx hy h nT
      obtain ⟨cur, v4, v5, rfl, k1, hc, hr1⟩ := h
      have k2 := k1.add nT (.tup [x, y])
      obtain ⟨pd, hp1, hp2⟩ := hxs2.atV hx
      obtain ⟨d, hd1, hd2⟩ := hds.atV hy
      obtain ⟨p, hp3, rfl⟩ : ∃ p, ps[i]? = some p ∧ pd = enc p := by
        rw [List.getElem?_map] at hp1
        cases e : ps[i]? with
        | none => rw [e] at hp1; cases hp1
        | some p => rw [e] at hp1; exact ⟨p, rfl, (Option.some.inj hp1).symm⟩
      have hw := hps p (List.mem_of_getElem? hp3)
      have dp : ps.drop i = p :: ps.drop (i + 1) := by
        have h1 := (List.getElem?_eq_some_iff.mp hp3)
        obtain ⟨h1, h2⟩ := h1
        rw [List.drop_eq_getElem_cons h1, h2]
      have dd : ds.drop i = d :: ds.drop (i + 1) := by
        have h1 := (List.getElem?_eq_some_iff.mp hd1)
        obtain ⟨h1, h2⟩ := h1
        rw [List.drop_eq_getElem_cons h1, h2]
      rw [dp, dd, rowWalk_cons] at hr1
      refine ⟨T0, _, rfl, SqT.of upd_same, rfl, _, _, rfl, _, _, rfl, rfl, ?_⟩
      refine ⟨_, rfl, _, rfl, _, rfl, _, rfl, x, y, p, d, z, cur, rfl, k2.pt (Dp_pt hp2), hw.1, hw.2, k2.dp hd2, hz, hc, fun H2 k3 => ?_⟩
      have k4 := k2.trans k3
      cases e : walk (tx z) p cur d with
      | none =>
        rw [e] at hr1
        refine ⟨_, rfl, rfl, _, rfl, iteTb rfl ?_⟩
        have q1 := q H2 k4
        rw [hr1] at q1
        exact q1
      | some nx =>
        rw [e] at hr1
        refine ⟨_, rfl, rfl, _, rfl, iteFb rfl ⟨nx, _, _, rfl, k4, ?_, hr1⟩⟩
        have := walk_le (tx z) p cur d nx (by omega) e
        omega
    · intro σ H1 h
      obtain ⟨cur, v4, v5, rfl, k1, hc, hr1⟩ := h
      have q1 := q H1 k1
      rw [hr1, lxs, List.drop_length, List.drop_eq_nil_of_le (by omega), rowWalk_done] at q1
      exact ⟨_, rfl, q1⟩
end
end Pd
set_option Elab.async false
set_option linter.all false
set_option maxRecDepth 100000
set_option maxHeartbeats 4000000
namespace Pd
open PySem PySem.Spec PyProof.Rows L2
section
variable {P : Program} {w : World} {K : PySem.W.Frag} {mg : Str → Option Value} {base : Heap} {f : Addr} {fd : FuncData}
theorem call_len_seqB {X : Cx} : CallR X (.builtin "len") (fun xs H Q => ∃ p ys, xs = [.ref p] ∧ (SqL X.K H p ys ∨ SqT X.K H p ys) ∧ (ys.length ≤ sizeLine → Q (.int ys.length) H)) := by
  intro pins s σ H xs us Q I r h
  obtain ⟨p, ys, rfl, hq, q⟩ := h
  refine call_len_seq pins s σ H _ us Q I r ⟨p, ys, rfl, hq, q ?_⟩
  rcases hq with hq | hq
  · obtain ⟨its, r', pl, hz⟩ := I.list hq
    exact hz
  · obtain ⟨its, r', pl, hz⟩ := I.tuple hq
    exact hz
theorem iteElse {c : Bool} {A B : Prop} (b : B) (ha : c = true → B → A) : if c = true then A else B := by
  cases c with
  | true => exact iteT (ha rfl b)
  | false => exact iteF b
theorem dp_rep {K : PySem.W.Frag} {H : Hp} {u : V} {p : Pat} (h : Dp K H u (enc p)) : ∀ n : Nat, DpAll K H (List.replicate n u) ((List.replicate n p).map enc)
  | 0 => .nil
  | n + 1 => by
    rw [List.replicate_succ, List.replicate_succ, List.map_cons]
    exact .cons h (dp_rep h n)
abbrev N_derived_end : List Str := ["pattern", "text", "at", "value", "word", "least", "most", "many", "k"]
theorem sc_derived_end : FnScope N_derived_end ["pattern", "text", "at", "value"] (defScope s_derived_end) := ⟨rfl, rfl, rfl, by decide +kernel, rfl, by decide +kernel, by decide +kernel⟩
theorem ok_derived_end {gI gL gS gE : Addr} {D k : Nat} (T : Txt K mg) (F : FnP K "derived_end" "derived_end" s_derived_end f fd) (hk : 5 ≤ k) (h_is_index_of : Has P w K mg base "is_index_of" gI ["many", "thing"] 3 (spIsIndexOf K)) (h_leaf_end : Has P w K mg base "leaf_end" gL ["pattern", "text", "at"] 1 (spLeafEnd K))
    (h_several_end : Has P w K mg base "several_end" gS ["parts", "text", "at", "value"] k (spSeveralEnd K D)) (h_derived_end : Has P w K mg base "derived_end" gE ["pattern", "text", "at", "value"] k (spDerivedEnd K D)) :
    FnOk P w K mg base CX0 (k + 1) f fd ["pattern", "text", "at", "value"] (spDerivedEnd K (D + 1)) := by
  refine F.ok sc_derived_end (fun vs H Q E h => ?_) (fun cdv A outer s0 H vs Q E hr h => ?_)
  · obtain ⟨v, u, p, d, z, s, rfl, _⟩ := h
    rfl
  obtain ⟨v, u, p, d, z, s, rfl, hp, hw, hdp, hd, hz, hs, q⟩ := h
  refine ⟨_, PSs.nox ((pss_cons (ps_if (PW.pt (pw_or (pt_not (pt_val (pe_callB call_isi rfl T.z_isinstance bb_isinstance (pa_cons (pv 3) (pa_cons (pe_bltn (v := .ty "tuple") rfl T.z_tuple bb_tuple rfl) pa_nil))))) (pw_or (pt_cmpR op_eq (pe_callB call_len_seq rfl T.z_len PySem.boot_len (pa_cons (pv 3) pa_nil)) pe_int (nomark _)) (pw_or1 (pt_not (pt_val (pe_callB call_isi rfl T.z_isinstance bb_isinstance (pa_cons (pe_ix ix_tup (pv 3) pe_int (fun _ _ => rfl)) (pa_cons (pe_bltn (v := .ty "str") rfl T.z_str bb_str rfl) pa_nil))))))))) (pss_one (ps_ret pe_non)) pss_nil)
    (pss_cons (ps_set (i := 4) sc_derived_end.nd rfl (Or.inl rfl) (pe_ix ix_tup (pv 0) pe_int (fun _ _ => rfl)))
    (pss_cons (ps_if (pt_cmpR op_notIn_seq (pv 4) (pe_tup (pa_cons pe_str (pa_cons pe_str (pa_cons pe_str pa_nil)))) rfl) (pss_cons (ps_if (PW.pt (pw_or (pt_cmpR op_ne (pe_callB call_len_seq rfl T.z_len PySem.boot_len (pa_cons (pv 3) pa_nil)) pe_int (nomark _)) (pw_or1 (pt_cmpR op_ne (pe_ix ix_tup (pv 3) pe_int (fun _ _ => rfl)) pe_str (nomark _))))) (pss_one (ps_ret pe_non)) pss_nil)
    (pss_one (ps_ret (pe_callH h_leaf_end hr (by omega) rfl (pa_cons (pv 0) (pa_cons (pv 1) (pa_cons (pv 2) pa_nil))))))) pss_nil)
    (pss_cons (ps_if (pt_cmpR op_ne (pe_ix ix_tup (pv 3) pe_int (fun _ _ => rfl)) (pv 4) (nomark _)) (pss_one (ps_ret pe_non)) pss_nil)
    (pss_cons (ps_if (pt_cmpR op_eq (pv 4) pe_str (nomark _)) (pss_cons (ps_if (PW.pt (pw_or (pt_cmpR op_ne (pe_callB call_len_seq rfl T.z_len PySem.boot_len (pa_cons (pv 3) pa_nil)) pe_int (nomark _)) (pw_or1 (pt_not (pt_val (pe_callH h_is_index_of hr (by omega) rfl (pa_cons (pe_callB call_len_seq rfl T.z_len PySem.boot_len (pa_cons (pe_ix ix_tup (pv 0) pe_int (fun _ _ => rfl)) pa_nil)) (pa_cons (pe_ix ix_tup (pv 3) pe_int (fun _ _ => rfl)) pa_nil)))))))) (pss_one (ps_ret pe_non)) pss_nil)
    (pss_one (ps_ret (pe_callH h_derived_end hr (by omega) rfl (pa_cons (pe_ix ix_tup (pe_ix ix_tup (pv 0) pe_int (fun _ _ => rfl)) (pe_ix ix_tup (pv 3) pe_int (fun _ _ => rfl)) (fun _ _ => rfl)) (pa_cons (pv 1) (pa_cons (pv 2) (pa_cons (pe_ix ix_tup (pv 3) pe_int (fun _ _ => rfl)) pa_nil)))))))) pss_nil)
    (pss_cons (ps_if (PW.pt (pw_or (pt_cmpR op_ne (pe_callB call_len_seq rfl T.z_len PySem.boot_len (pa_cons (pv 3) pa_nil)) pe_int (nomark _)) (pw_or1 (pt_not (pt_val (pe_callB call_isi rfl T.z_isinstance bb_isinstance (pa_cons (pe_ix ix_tup (pv 3) pe_int (fun _ _ => rfl)) (pa_cons (pe_bltn (v := .ty "tuple") rfl T.z_tuple bb_tuple rfl) pa_nil)))))))) (pss_one (ps_ret pe_non)) pss_nil)
    (pss_cons (ps_if (pt_cmpR op_eq (pv 4) pe_str (nomark _)) (pss_cons (ps_if (pt_cmpR op_ne (pe_callB call_len_seq rfl T.z_len PySem.boot_len (pa_cons (pe_ix ix_tup (pv 3) pe_int (fun _ _ => rfl)) pa_nil)) (pe_callB call_len_seq rfl T.z_len PySem.boot_len (pa_cons (pe_ix ix_tup (pv 0) pe_int (fun _ _ => rfl)) pa_nil)) (nomark _)) (pss_one (ps_ret pe_non)) pss_nil)
    (pss_one (ps_ret (pe_callH h_several_end hr (by omega) rfl (pa_cons (pe_ix ix_tup (pv 0) pe_int (fun _ _ => rfl)) (pa_cons (pv 1) (pa_cons (pv 2) (pa_cons (pe_ix ix_tup (pv 3) pe_int (fun _ _ => rfl)) pa_nil)))))))) pss_nil)
    (pss_cons (ps_asg (pe_slice sl_tupA (pv 0) (po_some pe_int) po_none) (pg_tup rfl (pgs_cons (pg_name (i := 5) sc_derived_end.nd rfl (Or.inl rfl)) (pgs_cons (pg_name (i := 6) sc_derived_end.nd rfl (Or.inl rfl)) pgs_nil))))
    (pss_cons (ps_set (i := 7) sc_derived_end.nd rfl (Or.inl rfl) (pe_callB call_len_seqB rfl T.z_len PySem.boot_len (pa_cons (pe_ix ix_tup (pv 3) pe_int (fun _ _ => rfl)) pa_nil)))
    (pss_cons (ps_if (PW.pt (pw_or (pt_cmpR op_lt (pv 7) (pv 5) (nomark _)) (pw_or1 (PW.pt (pw_and (pt_cmpR op_notN (pv 6) pe_non (nomark _)) (pw_and1 (pt_cmpR op_gt (pv 7) (pv 6) (nomark _)))))))) (pss_one (ps_ret pe_non)) pss_nil)
    (pss_one (ps_ret (pe_callH h_several_end hr (by omega) rfl (pa_cons (pe_lc (own := [("k", 8)]) rfl sc_derived_end.nd (pi_range1 rfl T.z_range (pa_cons (pv 7) pa_nil)) (blkOk_by (N := N_derived_end) (sc := defScope s_derived_end) (by decide +kernel)) (fun _ _ _ _ _ => pg_name (i := 8) sc_derived_end.nd rfl (Or.inl rfl)) (fun _ _ _ _ _ => pts_nil) (fun _ _ _ _ _ => (pe_ix (ix_tupK (K := K) rfl) (pv 0) pe_int (fun _ _ => rfl)))) (pa_cons (pv 1) (pa_cons (pv 2) (pa_cons (pe_ix ix_tup (pv 3) pe_int (fun _ _ => rfl)) pa_nil)))))))))))))))))), ?_⟩
  have htx := tx_len z
  refine ⟨_, rfl, _, _, _, _, _, rfl, .ty _, hd.tyx, kit_ty (kit_tup d), _, rfl, ite2b (fun c => ?_) fun c => ?_⟩
  · have e : isTup d = false := by cases e : isTup d <;> rw [e] at c <;> first | rfl | cases c
    have q1 := q H (Kp.refl H)
    rw [walk_not (ne_tup_of e)] at q1
    exact q1
  obtain ⟨ds, rfl⟩ : ∃ ds, d = .tuple ds := by
    cases d with
    | tuple ds => exact ⟨ds, rfl⟩
    | _ => cases c
  obtain ⟨b, ys, rfl, hT, hA⟩ := hd.tupE
  have hlen := hA.len
  refine ⟨_, rfl, b, ys, rfl, .inr hT, rfl, _, rfl, ite2b (fun cl => ?_) fun cl => ?_⟩
  · have e : (ys.length : Int) = 0 := V.int.inj (of_decide_eq_true cl)
    have e2 : ds = [] := List.eq_nil_of_length_eq_zero (by omega)
    have q1 := q H (Kp.refl H)
    rw [e2, walk_empty] at q1
    exact q1
  obtain ⟨d0, dr, rfl⟩ : ∃ d0 dr, ds = d0 :: dr := by
    cases ds with
    | nil => exact absurd (by rw [hlen]; rfl) (of_decide_eq_false cl)
    | cons d0 dr => exact ⟨d0, dr, rfl⟩
  obtain ⟨v0, vr, rfl, hd0, hdr⟩ : ∃ v0 vr, ys = v0 :: vr ∧ Dp K H v0 d0 ∧ DpAll K H vr dr := by
    cases hA with
    | cons h1 h2 => exact ⟨_, _, rfl, h1, h2⟩
  refine ⟨_, rfl, b, _, _, _, rfl, rfl, hT, at0, _, _, _, _, _, rfl, .ty _, hd0.tyx, kit_ty (kit_str d0), _, rfl, ite2b (fun c => ?_) fun c => ?_⟩
  · have e : isStr d0 = false := by cases e : isStr d0 <;> rw [e] at c <;> first | rfl | cases c
    have q1 := q H (Kp.refl H)
    rw [walk_head (fun w e2 => by rw [e2] at e; cases e)] at q1
    exact q1
  obtain ⟨w0, rfl⟩ : ∃ w0, d0 = .str w0 := by
    cases d0 with
    | str w0 => exact ⟨w0, rfl⟩
    | _ => cases c
  obtain rfl := hd0.strE
  have ldr : vr.length = dr.length := hdr.len
  cases p with
  | leaf l =>
    obtain ⟨a, us, rfl, hsq, _⟩ := leafV hp.leafD
    refine ⟨_, rfl, a, _, _, _, rfl, rfl, hsq, at0, ?_⟩
    refine ⟨_, rfl, (by show 3 ≤ sizeLine; decide), fun t nt => ⟨t, _, rfl, .inr (SqT.of upd_same), rfl, rfl, _, rfl, iteTb (in3_leaf l) ?_⟩⟩
    have k1 := Kp.new nt (.tup [V.str "row", V.str "or", V.str "repeat"])
    refine ⟨_, rfl, b, _, rfl, .inr (k1.tup hT), rfl, _, rfl, ite2b (fun c => ?_) fun c => ?_⟩
    · have q1 := q _ k1
      rw [walk_leaf_none (.inr fun e => by
        rw [e] at ldr
        have c2 : (!decide (V.int ((vr.length + 1 : Nat) : Int) = V.int 1)) = true := c
        rw [ldr] at c2
        cases c2)] at q1
      exact q1
    have e0 : dr = [] := by
      have c2 : (!decide (V.int ((vr.length + 1 : Nat) : Int) = V.int 1)) = false := c
      refine List.eq_nil_of_length_eq_zero (Classical.byContradiction fun g => ?_)
      rw [nvi_t (by omega)] at c2
      cases c2
    subst e0
    refine ⟨_, rfl, b, _, _, _, rfl, rfl, k1.tup hT, at0, rfl, _, rfl, ite2b (fun c => ?_) fun c => ?_⟩
    · have q1 := q _ k1
      rw [walk_leaf_none (.inl fun e => by rw [nvs_f e] at c; cases c)] at q1
      exact q1
    have e1 : w0 = "one" := Classical.byContradiction fun e => by rw [nvs_t e] at c; cases c
    subst e1
    rw [walk_leaf_one] at q
    exact ⟨_, rfl, _, rfl, _, rfl, _, l, z, s, rfl, k1.dp hp.leafD, hz, hs, fun H2 s2 => q H2 (k1.trans (Kp.of s2))⟩
  | row ps =>
    obtain ⟨a, c0, xs, rfl, hsq, hcT, hxs⟩ := hp.row
    rw [Wf] at hw
    rw [dep] at hdp
    refine ⟨_, rfl, a, _, _, _, rfl, rfl, hsq, at0, ?_⟩
    refine ⟨_, rfl, (by show 3 ≤ sizeLine; decide), fun t nt => ⟨t, _, rfl, .inr (SqT.of upd_same), rfl, rfl, _, rfl, iteFb in3_row ?_⟩⟩
    have k1 := Kp.new nt (.tup [V.str "row", V.str "or", V.str "repeat"])
    refine ⟨_, rfl, b, _, _, _, rfl, rfl, k1.tup hT, at0, _, rfl, rfl, _, rfl, ite2b (fun c => ?_) fun c => ?_⟩
    · have q1 := q _ k1
      rw [walk_row_none (.inl fun e => by rw [nvs_f e] at c; cases c)] at q1
      exact q1
    have e1 : w0 = "row" := Classical.byContradiction fun e => by rw [nvs_t e] at c; cases c
    subst e1
    refine ⟨_, rfl, rfl, _, rfl, iteFb (vne ne_row_or) ?_⟩
    refine ⟨_, rfl, b, _, rfl, .inr (k1.tup hT), rfl, _, rfl, ite2b (fun c => ?_) fun c => ?_⟩
    · have q1 := q _ k1
      rw [walk_row_none (.inr fun es e => by
        rw [e] at ldr
        have c2 : (!decide (V.int ((vr.length + 1 : Nat) : Int) = V.int 2)) = true := c
        rw [ldr] at c2
        cases c2)] at q1
      exact q1
    obtain ⟨d1, rfl⟩ : ∃ d1, dr = [d1] := by
      have c2 : (!decide (V.int ((vr.length + 1 : Nat) : Int) = V.int 2)) = false := c
      refine List.length_eq_one_iff.mp (Classical.byContradiction fun g => ?_)
      rw [nvi_t (by omega)] at c2
      cases c2
    obtain ⟨v1, rfl, hd1⟩ : ∃ v1, vr = [v1] ∧ Dp K H v1 d1 := by
      cases hdr with
      | cons h1 h2 => cases h2; exact ⟨_, rfl, h1⟩
    refine ⟨_, rfl, b, _, _, _, rfl, rfl, k1.tup hT, at1, _, _, _, _, _, rfl, .ty _, (k1.dp hd1).tyx, kit_ty (kit_tup d1), _, rfl, ite2b (fun c => ?_) fun c => ?_⟩
    · have e : isTup d1 = false := by cases e : isTup d1 <;> rw [e] at c <;> first | rfl | cases c
      have q1 := q _ k1
      rw [walk_row_none (.inr fun es e2 => ne_tup_of e es (List.cons.inj e2).1)] at q1
      exact q1
    obtain ⟨es, rfl⟩ : ∃ es, d1 = .tuple es := by
      cases d1 with
      | tuple ds => exact ⟨ds, rfl⟩
      | _ => cases c
    rw [walk_row_is] at q
    obtain ⟨b1, zs, rfl, hT1, hA1⟩ := hd1.tupE
    have l1 : zs.length = es.length := hA1.len
    have l2 : xs.length = ps.length := by
      have := hxs.len
      rw [List.length_map] at this
      exact this
    refine ⟨_, rfl, rfl, _, rfl, iteTb (veq rfl) ?_⟩
    refine ⟨_, rfl, b, _, _, _, rfl, rfl, k1.tup hT, at1, b1, _, rfl, .inr (k1.tup hT1), _, rfl, a, _, _, _, rfl, rfl, k1.tup hsq, at1, c0, _, rfl, .inr (k1.tup hcT), rfl, _, rfl, ite2b (fun c => ?_) fun c => ?_⟩
    · have ne : ps.length ≠ es.length := fun e => by rw [nvi_f (by omega)] at c; cases c
      have q1 := q _ k1
      rw [rowWalk_len _ _ _ ne] at q1
      exact q1
    have el : ps.length = es.length := Classical.byContradiction fun e => by rw [nvi_t (by omega)] at c; cases c
    exact ⟨_, rfl, a, _, _, _, rfl, rfl, k1.tup hsq, at1, _, rfl, _, rfl, _, rfl, b, _, _, _, rfl, rfl, k1.tup hT, at1, c0, b1, xs, zs, ps, es, z, s, rfl, .inl (k1.tup hcT), k1.dpAll hxs, k1.tup hT1, k1.dpAll hA1, el, fun p hp => ⟨wfs_mem hw.1 hp, by have := deps_mem hp; omega⟩, hz, hs, fun H2 k2 => q H2 (k1.trans k2)⟩
  | alt ps =>
    obtain ⟨a, c0, xs, rfl, hsq, hcT, hxs⟩ := hp.alt
    rw [Wf] at hw
    rw [dep] at hdp
    refine ⟨_, rfl, a, _, _, _, rfl, rfl, hsq, at0, ?_⟩
    refine ⟨_, rfl, (by show 3 ≤ sizeLine; decide), fun t nt => ⟨t, _, rfl, .inr (SqT.of upd_same), rfl, rfl, _, rfl, iteFb in3_or ?_⟩⟩
    have k1 := Kp.new nt (.tup [V.str "row", V.str "or", V.str "repeat"])
    refine ⟨_, rfl, b, _, _, _, rfl, rfl, k1.tup hT, at0, _, rfl, rfl, _, rfl, ite2b (fun c => ?_) fun c => ?_⟩
    · have q1 := q _ k1
      rw [walk_alt_none (.inl fun e => by rw [nvs_f e] at c; cases c)] at q1
      exact q1
    have e1 : w0 = "or" := Classical.byContradiction fun e => by rw [nvs_t e] at c; cases c
    subst e1
    refine ⟨_, rfl, rfl, _, rfl, iteTb (veq rfl) ?_⟩
    refine ⟨_, rfl, b, _, rfl, .inr (k1.tup hT), rfl, _, rfl, ite2b (fun c => ?_) fun c => ?_⟩
    · have q1 := q _ k1
      rw [walk_alt_none (.inr fun k x e => by
        rw [e] at ldr
        have c2 : (!decide (V.int ((vr.length + 1 : Nat) : Int) = V.int 3)) = true := c
        rw [ldr] at c2
        cases c2)] at q1
      exact q1
    obtain ⟨d1, d2, rfl⟩ : ∃ d1 d2, dr = [d1, d2] := by
      have c2 : (!decide (V.int ((vr.length + 1 : Nat) : Int) = V.int 3)) = false := c
      have l2 : dr.length = 2 := Classical.byContradiction fun g => by
        rw [nvi_t (by omega)] at c2
        cases c2
      match dr, l2 with
      | [d1, d2], _ => exact ⟨d1, d2, rfl⟩
    obtain ⟨v1, v2, rfl, hd1, hd2⟩ : ∃ v1 v2, vr = [v1, v2] ∧ Dp K H v1 d1 ∧ Dp K H v2 d2 := by
      cases hdr with
      | cons h1 h2 =>
        cases h2 with
        | cons h2 h3 => cases h3; exact ⟨_, _, rfl, h1, h2⟩
    have l2 : xs.length = ps.length := by
      have := hxs.len
      rw [List.length_map] at this
      exact this
    refine ⟨_, rfl, a, _, _, _, rfl, rfl, k1.tup hsq, at1, c0, _, rfl, .inr (k1.tup hcT), _, rfl, b, _, _, _, rfl, rfl, k1.tup hT, at1, v1, d1, _, rfl, k1.dp hd1, _, rfl, ite2b (fun c => ?_) fun c => ?_⟩
    · have q1 := q _ k1
      cases d1 with
      | int i =>
        have c1 : (!(decide (0 ≤ i) && decide (i ≤ (xs.length : Int) - 1))) = true := c
        rw [walk_alt_is] at q1
        by_cases g : 0 ≤ i
        · rw [decide_eq_true g, Bool.true_and] at c1
          have g2 : ¬ i ≤ (xs.length : Int) - 1 := fun z => by rw [decide_eq_true z] at c1; cases c1
          rw [if_pos g, altWalk_out _ _ (by omega)] at q1
          exact q1
        · rw [if_neg g] at q1
          exact q1
      | _ =>
        rw [walk_alt_none (.inr fun k x e => by cases e)] at q1
        exact q1
    obtain ⟨i, rfl, hi⟩ : ∃ i : Nat, d1 = .int (i : Int) ∧ i < ps.length := by
      cases d1 with
      | int i =>
        have c1 : (!(decide (0 ≤ i) && decide (i ≤ (xs.length : Int) - 1))) = false := c
        have g : 0 ≤ i := Classical.byContradiction fun z => by rw [decide_eq_false z, Bool.false_and] at c1; cases c1
        have g2 : i ≤ (xs.length : Int) - 1 := Classical.byContradiction fun z => by rw [decide_eq_false z, Bool.and_false] at c1; cases c1
        obtain ⟨j, rfl⟩ := Int.eq_ofNat_of_zero_le g
        exact ⟨j, rfl, by omega⟩
      | _ => cases c
    obtain rfl := hd1.intE
    have hpi : ps[i]? = some ps[i] := List.getElem?_eq_getElem hi
    obtain ⟨u, hu1, hu2⟩ := hxs.at (i := i) (d := enc ps[i]) (by rw [List.getElem?_map, hpi]; rfl)
    rw [walk_alt_is, if_pos (Int.natCast_nonneg i), Int.toNat_natCast, altWalk_at ps i _ hpi] at q
    have dm := deps_mem (List.mem_of_getElem? hpi)
    refine ⟨_, rfl, a, _, _, _, rfl, rfl, k1.tup hsq, at1, _, rfl, b, _, _, _, rfl, rfl, k1.tup hT, at1, c0, _, _, _, rfl, rfl, k1.tup hcT, atI_nat hu1, _, rfl, _, rfl, _, rfl, b, _, _, _, rfl, rfl, k1.tup hT, at2, ?_⟩
    exact ⟨u, v2, ps[i], d2, z, s, rfl, k1.dp hu2, wfs_mem hw.1 (List.mem_of_getElem? hpi), by omega, k1.dp hd2, hz, hs, fun H2 k2 => q H2 (k1.trans k2)⟩
  | rep p l mo =>
    obtain ⟨a, u, rfl, hsq, hu⟩ := hp.rep
    rw [Wf] at hw
    rw [dep] at hdp
    refine ⟨_, rfl, a, _, _, _, rfl, rfl, hsq, at0, ?_⟩
    refine ⟨_, rfl, (by show 3 ≤ sizeLine; decide), fun t nt => ⟨t, _, rfl, .inr (SqT.of upd_same), rfl, rfl, _, rfl, iteFb in3_rep ?_⟩⟩
    have k1 := Kp.new nt (.tup [V.str "row", V.str "or", V.str "repeat"])
    refine ⟨_, rfl, b, _, _, _, rfl, rfl, k1.tup hT, at0, _, rfl, rfl, _, rfl, ite2b (fun c => ?_) fun c => ?_⟩
    · have q1 := q _ k1
      rw [walk_rep_none (.inl fun e => by rw [nvs_f e] at c; cases c)] at q1
      exact q1
    have e1 : w0 = "repeat" := Classical.byContradiction fun e => by rw [nvs_t e] at c; cases c
    subst e1
    refine ⟨_, rfl, rfl, _, rfl, iteFb (vne ne_repeat_or) ?_⟩
    refine ⟨_, rfl, b, _, rfl, .inr (k1.tup hT), rfl, _, rfl, ite2b (fun c => ?_) fun c => ?_⟩
    · have q1 := q _ k1
      rw [walk_rep_none (.inr fun es e => by
        rw [e] at ldr
        have c2 : (!decide (V.int ((vr.length + 1 : Nat) : Int) = V.int 2)) = true := c
        rw [ldr] at c2
        cases c2)] at q1
      exact q1
    obtain ⟨d1, rfl⟩ : ∃ d1, dr = [d1] := by
      have c2 : (!decide (V.int ((vr.length + 1 : Nat) : Int) = V.int 2)) = false := c
      refine List.length_eq_one_iff.mp (Classical.byContradiction fun g => ?_)
      rw [nvi_t (by omega)] at c2
      cases c2
    obtain ⟨v1, rfl, hd1⟩ : ∃ v1, vr = [v1] ∧ Dp K H v1 d1 := by
      cases hdr with
      | cons h1 h2 => cases h2; exact ⟨_, rfl, h1⟩
    refine ⟨_, rfl, b, _, _, _, rfl, rfl, k1.tup hT, at1, _, _, _, _, _, rfl, .ty _, (k1.dp hd1).tyx, kit_ty (kit_tup d1), _, rfl, ite2b (fun c => ?_) fun c => ?_⟩
    · have e : isTup d1 = false := by cases e : isTup d1 <;> rw [e] at c <;> first | rfl | cases c
      have q1 := q _ k1
      rw [walk_rep_none (.inr fun es e2 => ne_tup_of e es (List.cons.inj e2).1)] at q1
      exact q1
    obtain ⟨es, rfl⟩ : ∃ es, d1 = .tuple es := by
      cases d1 with
      | tuple ds => exact ⟨ds, rfl⟩
      | _ => cases c
    rw [walk_rep_is] at q
    obtain ⟨b1, zs, rfl, hT1, hA1⟩ := hd1.tupE
    have l1 : zs.length = es.length := hA1.len
    refine ⟨_, rfl, rfl, _, rfl, iteFb (vne ne_repeat_row) ?_⟩
    refine ⟨_, rfl, (2 : Int), rfl, a, _, rfl, k1.tup hsq, fun h => absurd (show HT.sIx 4 0 (some 2) = 0 from h.1) (by decide), fun _ t2 nt2 => ?_⟩
    have ct : cutV [V.str "repeat", u, V.int (l : Int), om mo] (some 2) none = [V.int (l : Int), om mo] := cut_from (k := 2)
    have k2 := k1.add nt2 (.tup (cutV [V.str "repeat", u, V.int (l : Int), om mo] (some 2) none))
    refine ⟨t2, _, rfl, SqT.of upd_same, by rw [ct]; rfl, ?_⟩
    rw [ct] at k2 ⊢
    refine ⟨_, _, rfl, _, _, rfl, rfl, ?_⟩
    refine ⟨_, rfl, b, _, _, _, rfl, rfl, k2.tup hT, at1, b1, _, rfl, .inr (k2.tup hT1), fun few => ?_⟩
    have lx : ¬ (l ≤ es.length ∧ ∀ x, mo = some x → es.length ≤ x) → Q .non (upd (upd H t (.tup [V.str "row", V.str "or", V.str "repeat"])) t2 (.tup [V.int (l : Int), om mo])) := fun g => by
      have q1 := q _ k2
      rw [if_neg g] at q1
      exact q1
    obtain ⟨Hx, hHx⟩ : ∃ Hx, Hx = upd (upd H t (.tup [V.str "row", V.str "or", V.str "repeat"])) t2 (.tup [V.int (l : Int), om mo]) := ⟨_, rfl⟩
    rw [← hHx] at k2 lx ⊢
    clear hHx ct
    refine ⟨_, rfl, _, rfl, _, _, rfl, rfl, _, rfl, ite2b (fun c => ?_) fun c => ?_⟩
    · exact lx fun g => by
        have := of_decide_eq_true c
        omega
    have gl : l ≤ es.length := by
      have := of_decide_eq_false c
      omega
    by_cases g : ∀ x, mo = some x → es.length ≤ x
    rotate_left
    · obtain ⟨x, rfl⟩ : ∃ x, mo = some x := by
        cases mo with
        | none => exact absurd (fun x e => nomatch e) g
        | some x => exact ⟨x, rfl⟩
      have gx : x < es.length := Classical.byContradiction fun h => g fun y e => by
        have := Option.some.inj e
        omega
      exact ⟨_, rfl, rfl, _, rfl, iteTb rfl ⟨_, rfl, _, rfl, _, _, rfl, rfl, _, rfl, iteTb (decide_eq_true (by omega)) (lx fun h => g h.2)⟩⟩
    refine ⟨_, rfl, rfl, _, rfl, iteElse ?fin fun e B => ?_⟩
    rotate_left
    · obtain ⟨x, rfl⟩ : ∃ x, mo = some x := by
        cases mo with
        | none => cases e
        | some x => exact ⟨x, rfl⟩
      refine ⟨_, rfl, _, rfl, _, _, rfl, rfl, _, rfl, iteFb (decide_eq_false ?_) B⟩
      have := g x rfl
      omega
    rw [if_pos ⟨gl, g⟩] at q
    have line : (sizeLine : Nat) < 2 ^ 62 := by rw [sizeLine_eq]; decide
    refine ⟨_, rfl, (zs.length : Int), rfl, by omega, by omega, fun G nG => ?_⟩
    refine walk_range (n := (zs.length : Int).toNat) (fun i H' => Same Hx H' ∧ Hx G = none ∧ H' G = some (.lst (List.replicate i u))) ⟨same_new nG _, nG, upd_same⟩ (fun i H' hi h => ?_) fun H2 h => ?_
    · obtain ⟨h1, h2, h3⟩ := h
      have k4 := k2.trans (Kp.of h1)
      refine ⟨rfl, _, rfl, a, _, _, _, rfl, rfl, k4.tup hsq, at1, List.replicate i u, h3, ?_, same_over h1 h2 _, h2, ?_⟩
      · rw [List.length_replicate]
        omega
      · rw [upd_same, List.replicate_succ']
    · obtain ⟨h1, h2, h3⟩ := h
      have k4 := k2.trans (Kp.of h1)
      rw [Int.toNat_natCast, l1] at h3
      refine ⟨_, rfl, _, rfl, _, rfl, b, _, _, _, rfl, rfl, k4.tup hT, at1, ?_⟩
      refine ⟨G, b1, List.replicate es.length u, zs, List.replicate es.length p, es, z, s, rfl, .inr (SqL.of h3), ?_, k4.tup hT1, k4.dpAll hA1, List.length_replicate, fun p' hp' => ?_, hz, hs, fun H3 k5 => q H3 (k4.trans k5)⟩
      · exact dp_rep (k4.dp hu) _
      · rw [List.eq_of_mem_replicate hp']
        exact ⟨hw.1, by omega⟩
end
end Pd
set_option Elab.async false
set_option linter.all false
set_option maxRecDepth 100000
set_option maxHeartbeats 4000000
namespace Pd
open PySem PySem.Spec PyProof.Rows L2
section
variable {P : Program} {w : World} {K : PySem.W.Frag} {mg : Str → Option Value} {base : Heap} {f : Addr} {fd : FuncData}
theorem cmul_of {x y : Int} (h : 0 ≤ x ∧ x < 2147483647) : CMul x y := .inl ⟨by omega, by omega⟩
abbrev N_law_drops : List Str := ["_law_cell", "_law_many", "_law_drops_here", "_law_left", "_law_stir", "_law_k"]
theorem sc_law_drops : FnScope N_law_drops ["_law_cell", "_law_many"] (defScope s_law_drops) := ⟨rfl, rfl, rfl, by decide +kernel, rfl, by decide +kernel, by decide +kernel⟩
theorem ok_law_drops (T : Txt K mg) (F : FnP K "_law_drops" "_law_drops" s_law_drops f fd) : FnOk P w K mg base CX0 1 f fd ["_law_cell", "_law_many"] spLawDrops := by
  refine F.ok sc_law_drops (fun vs H Q E h => ?_) (fun cdv A outer s H vs Q E hr h => ?_)
  · obtain ⟨i, rfl, _⟩ := h
    rfl
  obtain ⟨i, rfl, q⟩ := h
  refine ⟨_, PSs.nox ((pss_cons (ps_set (i := 2) sc_law_drops.nd rfl (Or.inl rfl) (pe_lst pa_nil))
    (pss_cons (ps_set (i := 3) sc_law_drops.nd rfl (Or.inl rfl) pe_int)
    (pss_cons (ps_if (pt_cmpR op_ge (pe_callB call_abs rfl T.z_abs bb_abs (pa_cons (pv 0) pa_nil)) (pe_op op_pow pe_int pe_int) (nomark _)) (pss_one (ps_set (i := 3) sc_law_drops.nd rfl (Or.inl rfl) (pe_callB call_abs rfl T.z_abs bb_abs (pa_cons (pe_callTy call_int1 rfl T.z_int bb_int (pa_cons (pv 0) pa_nil)) pa_nil)))) pss_nil)
    (pss_cons (ps_set (i := 4) sc_law_drops.nd rfl (Or.inl rfl) (pe_op op_mod (pe_callTy call_int1 rfl T.z_int bb_int (pa_cons (pv 0) pa_nil)) pe_int))
    (pss_cons (ps_for PassesOwn.never rfl (pi_range1 rfl T.z_range (pa_cons (pv 1) pa_nil)) (pg_name (i := 5) sc_law_drops.nd rfl (Or.inl rfl)) (pss_one (ps_if (pt_cmpR op_gt (pv 3) pe_int (nomark _)) (pss_cons (ps_expr (pe_bm PySem.F.plainAttrs_list PySem.F.slot_list_append PySem.F.type_list_append mt_append (pv 2) (pa_cons (pe_op op_mod (pe_callTy call_int1 rfl T.z_int bb_int (pa_cons (pv 3) pa_nil)) pe_int) pa_nil)))
    (pss_one (ps_set (i := 3) sc_law_drops.nd rfl (Or.inl rfl) (pe_op op_fdiv (pv 3) pe_int)))) (pss_cons (ps_set (i := 4) sc_law_drops.nd rfl (Or.inl rfl) (pe_op op_mod (pe_callTy call_int1 rfl T.z_int bb_int (pa_cons (pe_op op_add (pe_op op_add (pe_op op_add (pe_op op_mul (pv 4) pe_int) (pv 0)) (pe_op op_mul (pe_op op_mul (pe_op op_mul pe_int (pv 5)) (pv 5)) (pv 5))) pe_int) pa_nil)) pe_int))
    (pss_one (ps_expr (pe_bm PySem.F.plainAttrs_list PySem.F.slot_list_append PySem.F.type_list_append mt_append (pv 2) (pa_cons (pe_op op_mod (pe_op op_fdiv (pe_op op_mod (pe_callTy call_int1 rfl T.z_int bb_int (pa_cons (pe_op op_mul (pv 4) (pe_op op_add (pe_op op_fdiv (pv 4) pe_int) pe_int)) pa_nil)) pe_int) pe_int) pe_int) pa_nil))))))))
    (pss_one (ps_ret (pv 2))))))))), ?_⟩
  refine ⟨(by show 0 ≤ sizeLine; decide), fun R nR => ?_⟩
  have hst : 0 ≤ i % 2147483629 ∧ i % 2147483629 < 2147483629 := ⟨Int.emod_nonneg _ (by decide), Int.emod_lt_of_pos _ (by decide)⟩
  have mod0 : (fun _ j : Int => 0 < j) i 2147483629 := by show (0 : Int) < 2147483629; decide
  refine ⟨_, rfl, i, rfl, _, _, rfl, rfl, ⟨by decide, by decide, by decide⟩, _, _, rfl, rfl, _, rfl, ite2b (fun c => ⟨_, rfl, .inl ⟨_, rfl, i, rfl, ?_⟩⟩) fun c => ?_⟩
  all_goals
    refine ⟨_, rfl, .inl ⟨_, rfl, _, _, rfl, rfl, mod0, ?_⟩⟩
    refine ⟨_, rfl, (80 : Int), rfl, by decide, by decide, for_range (fun (m : Nat) (σ : L2.St) (H' : Hp) => ∃ (left st : Int) (v5 : Option V) (ns : List Int), σ = [some (.int i), some (.int 80), some (.ref R), some (.int left), some (.int st), v5] ∧ 0 ≤ st ∧ st < 2147483648 ∧ Same H H' ∧ H' R = some (.lst (ns.map V.int)) ∧ ns.length = m ∧ Drawn ns)
      ⟨_, i % 2147483629, none, [], rfl, hst.1, by omega, same_new nR _, upd_same, rfl, fun x hx => nomatch hx⟩ (fun j σ H1 hj h => ?_) fun σ H1 h => ?_⟩
    · obtain ⟨left, st, v5, ns, rfl, st0, st1, s1, h1, h2, h3⟩ := h
      have few : (ns.map V.int).length < sizeLine := by
        rw [List.length_map]
        exact small_line (by omega)
      have push : ∀ x : Int, 0 ≤ x → x < 1441440 → Same H (upd H1 R (.lst (ns.map V.int ++ [.int x]))) ∧ upd H1 R (.lst (ns.map V.int ++ [.int x])) R = some (.lst ((ns ++ [x]).map V.int)) ∧ (ns ++ [x]).length = j + 1 ∧ Drawn (ns ++ [x]) := fun x x0 x1 => by
        refine ⟨same_over s1 nR _, ?_, by rw [List.length_append, h2]; rfl, fun y hy => ?_⟩
        · rw [upd_same, List.map_append]; rfl
        · rcases List.mem_append.mp hy with h | h
          · exact h3 y h
          · rw [List.mem_singleton.mp h]
            exact ⟨x0, x1⟩
      refine ⟨_, rfl, _, _, rfl, rfl, _, rfl, ite2b (fun c => ?_) fun c => ?_⟩
      · have p := push (left % 1441440) (Int.emod_nonneg _ (by decide)) (Int.emod_lt_of_pos _ (by decide))
        refine ⟨_, rfl, .inl ⟨rfl, _, SqL.of h1⟩, _, rfl, .inl ⟨_, rfl, _, _, rfl, rfl, (by show (0 : Int) < 1441440; decide), R, _, _, rfl, rfl, h1, few, ?_⟩⟩
        exact ⟨_, rfl, _, _, rfl, rfl, ⟨by decide, by decide⟩, left / 1441440, st, _, ns ++ [left % 1441440], rfl, st0, st1, p.1, p.2.1, p.2.2.1, p.2.2.2⟩
      · have p3 : (0 : Int) < 2147483647 := by decide
        have p2 : (0 : Int) < 2147483629 := by decide
        have p1 : (0 : Int) < 1441440 := by decide
        refine ⟨_, rfl, _, _, rfl, rfl, .inr ⟨by decide, by decide⟩, _, rfl, _, _, rfl, rfl, _, rfl, _, _, rfl, rfl, .inl ⟨by decide, by decide⟩, _, rfl, _, _, rfl, rfl, .inr ⟨by omega, by omega⟩, _, rfl, _, _, rfl, rfl, .inr ⟨by omega, by omega⟩, _, _, rfl, rfl, _, _, rfl, rfl, .inl ⟨_, rfl, _, _, rfl, rfl, p3, ?_⟩⟩
        have e0 : ∀ y : Int, 0 ≤ y % 2147483647 ∧ y % 2147483647 < 2147483647 := fun y => ⟨Int.emod_nonneg _ (by decide), Int.emod_lt_of_pos _ (by decide)⟩
        have e1 := e0 (st * 69621 + i + 5 * (0 + (j : Int)) * (0 + (j : Int)) * (0 + (j : Int)) + 3)
        have p := fun y : Int => push (y % 1441440) (Int.emod_nonneg _ (by decide)) (Int.emod_lt_of_pos _ (by decide))
        refine ⟨_, rfl, .inl ⟨rfl, _, SqL.of h1⟩, _, rfl, _, rfl, _, _, rfl, rfl, ⟨by decide, by decide⟩, _, _, rfl, rfl, _, _, rfl, rfl, cmul_of e1, .inl ⟨_, rfl, _, _, rfl, rfl, p2, _, _, rfl, rfl, ⟨by decide, by decide⟩, _, _, rfl, rfl, p1, R, _, _, rfl, rfl, h1, few, ?_⟩⟩
        exact ⟨left, _, _, ns ++ [_], rfl, e1.1, Int.lt_trans e1.2 (by decide), (p _).1, (p _).2.1, (p _).2.2.1, (p _).2.2.2⟩
    · obtain ⟨left, st, v5, ns, rfl, _, _, s1, h1, h2, h3⟩ := h
      exact ⟨_, rfl, q R ns H1 s1 h1 h2 h3⟩
abbrev N_law_signs : List Str := []
theorem sc_law_signs : FnScope N_law_signs [] (defScope s_law_signs) := ⟨rfl, rfl, rfl, by decide +kernel, rfl, by decide +kernel, by decide +kernel⟩
theorem ok_law_signs (F : FnP K "_law_signs" "_law_signs" s_law_signs f fd) : FnOk P w K mg base CX0 1 f fd [] spLawSigns := by
  refine F.ok sc_law_signs (fun vs H Q E h => ?_) (fun cdv A outer s H vs Q E hr h => ?_)
  · obtain ⟨rfl, _⟩ := h
    rfl
  obtain ⟨rfl, q⟩ := h
  refine ⟨_, PSs.nox ((pss_one (ps_ret pe_str))), ?_⟩
  exact q
theorem signs_len : signs.length = 96 := by decide +kernel
theorem signs_all : ∀ c ∈ signs.cps.toList, c < 0x110000 := by decide +kernel
theorem at_emod {α : Type} {xs : List α} {i n : Int} (h : xs.length = n) (hn : 0 < n) : ∃ c, c ∈ xs ∧ atI xs (i % n) = some c := by
  have h0 := Int.emod_nonneg i (show n ≠ 0 by omega)
  have h1 := Int.emod_lt_of_pos i hn
  obtain ⟨j, hj⟩ := Int.eq_ofNat_of_zero_le h0
  have lj : j < xs.length := by omega
  have e : xs[j]? = some xs[j] := List.getElem?_eq_getElem lj
  exact ⟨xs[j], List.getElem_mem lj, by rw [hj]; exact atI_nat e⟩
abbrev N_law_letter : List Str := ["_law_drop"]
theorem sc_law_letter : FnScope N_law_letter ["_law_drop"] (defScope s_law_letter) := ⟨rfl, rfl, rfl, by decide +kernel, rfl, by decide +kernel, by decide +kernel⟩
theorem ok_law_letter {gS : Addr} (T : Txt K mg) (F : FnP K "_law_letter" "_law_letter" s_law_letter f fd) (h_law_signs : Has P w K mg base "_law_signs" gS [] 1 spLawSigns) : FnOk P w K mg base CX0 2 f fd ["_law_drop"] spLawLetter := by
  refine F.ok sc_law_letter (fun vs H Q E h => ?_) (fun cdv A outer s H vs Q E hr h => ?_)
  · obtain ⟨i, rfl, _⟩ := h
    rfl
  obtain ⟨i, rfl, h0, q⟩ := h
  refine ⟨_, PSs.nox ((pss_cons (ps_if (pt_cmpR op_eq (pe_op op_mod (pe_callTy call_int1 rfl T.z_int bb_int (pa_cons (pv 0) pa_nil)) pe_int) pe_int (nomark _)) (pss_one (ps_ret (pe_ix ix_str (pe_callH0 h_law_signs hr (by omega) rfl) (pe_op op_mod (pe_callTy call_int1 rfl T.z_int bb_int (pa_cons (pe_op op_fdiv (pv 0) pe_int) pa_nil)) pe_int) (fun _ _ => rfl)))) pss_nil)
    (pss_one (ps_ret (pe_ix ix_str pe_str (pe_op op_mod (pe_callTy call_int1 rfl T.z_int bb_int (pa_cons (pe_op op_fdiv (pv 0) pe_int) pa_nil)) pe_int) (fun _ _ => rfl)))))), ?_⟩
  have p8 : (0 : Int) < 8 := by decide
  have p96 : (0 : Int) < 96 := by decide
  have p7 : (0 : Int) < 7 := by decide
  refine ⟨_, rfl, .inl ⟨_, rfl, _, _, rfl, rfl, p8, rfl, _, rfl, ite2b (fun c => ?_) fun c => ?_⟩⟩
  · obtain ⟨c, hc, he⟩ := at_emod (xs := signs.cps.toList) (i := i / 8) (n := 96) (by rw [Array.length_toList]; exact congrArg (fun n : Nat => (n : Int)) signs_len) p96
    refine ⟨rfl, _, rfl, _, _, rfl, rfl, ⟨by decide, by decide⟩, .inl ⟨_, rfl, _, _, rfl, rfl, p96, _, _, c, rfl, rfl, ?_, he, q c (signs_all c hc)⟩⟩
    rw [signs_len]
    exact small_le (by decide)
  · obtain ⟨c, hc, he⟩ := at_emod (xs := ("abcabac" : Str).cps.toList) (i := i / 8) (n := 7) (by decide +kernel) p7
    have ha : ∀ c ∈ ("abcabac" : Str).cps.toList, c < 0x110000 := by decide +kernel
    refine ⟨_, rfl, _, _, rfl, rfl, ⟨by decide, by decide⟩, .inl ⟨_, rfl, _, _, rfl, rfl, p7, _, _, c, rfl, rfl, ?_, he, q c (ha c hc)⟩⟩
    exact small_le (by decide +kernel)
end
end Pd
set_option Elab.async false
set_option linter.all false
set_option maxRecDepth 100000
set_option maxHeartbeats 4000000
namespace Pd
open PySem PySem.Spec PyProof.Rows L2
/-! PdLaw: rules and readings for the law's own defs -/
theorem cutV_whole {xs : List V} {lo hi : Option Int} (h : HT.sIx xs.length 0 lo = 0 ∧ HT.sIx xs.length xs.length hi = xs.length) : cutV xs lo hi = xs := by
  unfold cutV
  rw [h.1, h.2, List.drop_zero, Nat.sub_zero, List.take_length]
/-- a part of a tuple, whichever tuple it is -/
def rSlB (K : PySem.W.Frag) : V → Option Int → Option Int → Hp → VK → Prop := fun x lo hi H Q => ∃ a xs, x = .ref a ∧ SqT K H a xs ∧ ∀ p H', Same H H' → SqT K H' p (cutV xs lo hi) → Q (.ref p) H'
theorem sl_tupB {X : Cx} : SlR X (rSlB X.K) := by
  intro pins s σ H x v vl vu lo hi sl Q I rx hs pl pu h
  obtain ⟨a, xs, rfl, hx, q⟩ := h
  refine sl_tupA pins s σ H _ v vl vu lo hi sl Q I rx hs pl pu ⟨a, xs, rfl, hx, fun hw => q a H (Same.refl H) (by rw [cutV_whole hw]; exact hx), fun _ p np => q p _ (same_new np _) (SqT.of upd_same)⟩
/-- tuple + tuple, whichever tuple it is -/
def rCatB (K : PySem.W.Frag) : R2 := fun x y H Q => ∃ a b xs ys, x = .ref a ∧ y = .ref b ∧ SqT K H a xs ∧ SqT K H b ys ∧ xs.length + ys.length ≤ sizeLine ∧ ∀ p H', Same H H' → SqT K H' p (xs ++ ys) → Q (.ref p) H'
theorem op_catB {X : Cx} : OpR X (binaryOp .Add) (rCatB X.K) := by
  intro pins s σ H x y v u Q I rx ry h
  obtain ⟨a, b, xs, ys, rfl, rfl, ha, hb, hz, q⟩ := h
  refine op_catA pins s σ H _ _ v u Q I rx ry ⟨a, b, xs, ys, rfl, rfl, ha, hb, hz, fun e => q b H (Same.refl H) (by rw [e]; exact hb), fun _ e => q a H (Same.refl H) (by rw [e, List.append_nil]; exact ha), fun _ _ p np => q p _ (same_new np _) (SqT.of upd_same)⟩
/-- list + list, of any lists -/
def rCatL (K : PySem.W.Frag) : R2 := fun x y H Q => ∃ a b xs ys, x = .ref a ∧ y = .ref b ∧ SqL K H a xs ∧ SqL K H b ys ∧ xs.length + ys.length ≤ sizeLine ∧ ∀ p, H p = none → Q (.ref p) (upd H p (.lst (xs ++ ys)))
theorem new_any {K : PySem.W.Frag} {H : Hp} {p : Addr} (xs : List V) (n : H p = none) : ∃ H', H' = upd H p (.tup xs) ∧ Same H H' ∧ SqT K H' p xs := ⟨_, rfl, same_new n _, SqT.of upd_same⟩
theorem newL_any {K : PySem.W.Frag} {H : Hp} {p : Addr} (xs : List V) (n : H p = none) : ∃ H', H' = upd H p (.lst xs) ∧ Same H H' ∧ H' p = some (.lst xs) := ⟨_, rfl, same_new n _, upd_same⟩
theorem dp_cut {K : PySem.W.Frag} {H : Hp} {ds : List PyData} {vs : List V} (h : DpAll K H vs ds) (lo hi : Option Int) : ∃ es, DpAll K H (cutV vs lo hi) es ∧ (∀ d ∈ es, d ∈ ds) ∧ es.length ≤ ds.length := by
  unfold cutV
  refine ⟨_, (h.drop _).take _, fun d hd => List.mem_of_mem_drop (List.mem_of_mem_take hd), ?_⟩
  rw [List.length_take, List.length_drop]
  omega
theorem at_emodD {K : PySem.W.Frag} {H : Hp} {ds : List PyData} {vs : List V} {N : Nat} {i n : Int} (h : DpAll K H vs ds) (hs : ∀ d ∈ ds, Shp N d) (hl : vs.length = n) (hn : 0 < n) : ∃ v d, atI vs (i % n) = some v ∧ Dp K H v d ∧ Shp N d := by
  have h0 := Int.emod_nonneg i (show n ≠ 0 by omega)
  have h1 := Int.emod_lt_of_pos i hn
  obtain ⟨j, hj⟩ := Int.eq_ofNat_of_zero_le h0
  have lj : j < vs.length := by omega
  have e : vs[j]? = some vs[j] := List.getElem?_eq_getElem lj
  obtain ⟨d, e1, e2⟩ := h.atV e
  exact ⟨_, d, by rw [hj]; exact atI_nat e, e2, hs d (List.mem_of_getElem? e1)⟩
theorem all_nil {α : Type} {P : α → Prop} : ∀ d ∈ ([] : List α), P d := fun d h => nomatch h
theorem all_cons {α : Type} {P : α → Prop} {a : α} {l : List α} (h : P a) (g : ∀ d ∈ l, P d) : ∀ d ∈ a :: l, P d := fun d hd => by
  rcases List.mem_cons.mp hd with rfl | hd
  · exact h
  · exact g d hd
theorem all_app {α : Type} {P : α → Prop} {l m : List α} (h : ∀ d ∈ l, P d) (g : ∀ d ∈ m, P d) : ∀ d ∈ l ++ m, P d := fun d hd => by
  rcases List.mem_append.mp hd with hd | hd
  · exact h d hd
  · exact g d hd
theorem atI_lastV {v : V} : ∀ {vs : List V}, atI (vs ++ [v]) (-1) = some v := fun {vs} => atI_last vs v
theorem last_of {K : PySem.W.Frag} {H : Hp} {ds : List PyData} {vs : List V} (h : DpAll K H vs ds) (n : vs ≠ []) : ∃ v d, atI vs (-1) = some v ∧ Dp K H v d ∧ d ∈ ds := by
  have l : vs.length - 1 < vs.length := by
    have := List.length_pos_iff.mpr n
    omega
  have e : vs[vs.length - 1]? = some vs[vs.length - 1] := List.getElem?_eq_getElem l
  obtain ⟨d, e1, e2⟩ := h.atV e
  exact ⟨_, d, atI_end e (by omega), e2, List.mem_of_getElem? e1⟩
theorem at_drawn {ns : List Int} {K : PySem.W.Frag} {H : Hp} {i : Nat} (hd : Drawn ns) (h : i < ns.length) : ∃ x, atI (ns.map V.int) (i : Int) = some (.int x) ∧ 0 ≤ x ∧ x < 1441440 := by
  have e : ns[i]? = some ns[i] := List.getElem?_eq_getElem h
  refine ⟨ns[i], atI_nat (by rw [List.getElem?_map, e]; rfl), hd _ (List.getElem_mem h)⟩
theorem drawn_drop {ns : List Int} (n : Nat) (hd : Drawn ns) : Drawn (ns.drop n) := fun x hx => hd x (List.mem_of_mem_drop hx)
theorem drawn_take {ns : List Int} (n : Nat) (hd : Drawn ns) : Drawn (ns.take n) := fun x hx => hd x (List.mem_of_mem_take hx)
theorem cut_ints_from {ns : List Int} {k : Nat} : cutV (ns.map V.int) (some (k : Int)) none = (ns.drop k).map V.int := by rw [cut_from, List.map_drop]
end Pd
set_option Elab.async false
set_option linter.all false
set_option maxRecDepth 100000
set_option maxHeartbeats 4000000
namespace Pd
open PySem PySem.Spec PyProof.Rows L2
section
variable {P : Program} {w : World} {K : PySem.W.Frag} {mg : Str → Option Value} {base : Heap} {f : Addr} {fd : FuncData}
/-- inside a comprehension: over a text -/
theorem walk_str {x : Str} {Body : V → Hp → (Hp → Prop) → Prop} {H1 : Hp} {Qd : Hp → Prop} (Pv : Nat → Hp → Prop) (h0 : Pv 0 H1) (hs : ∀ i c H, x.cps[i]? = some c → Pv i H → Body (.str ⟨#[c]⟩) H (Pv (i + 1))) (hd : ∀ H, Pv x.cps.size H → Qd H) :
    ∃ W : Nat → Nat → Hp → Prop, (∃ m, W 0 m H1) ∧ ∀ i m H, W i m H → ((Its x).stop i H ∧ Qd H) ∨ ((Its x).go i H ∧ ∃ Nx : Hp → Prop, (∀ H', Nx H' → ∃ m', m' < m ∧ W (i + 1) m' H') ∧ ∀ y H', (Its x).yld i H y H' → Body y H' Nx) := by
  refine ⟨fun i m H => m = x.cps.size - i ∧ i ≤ x.cps.size ∧ Pv i H, ⟨_, rfl, Nat.zero_le _, h0⟩, ?_⟩
  rintro i m H ⟨rfl, hi, p⟩
  by_cases hlt : i < x.cps.size
  · refine .inr ⟨hlt, Pv (i + 1), fun H' p' => ⟨x.cps.size - (i + 1), by omega, rfl, hlt, p'⟩, ?_⟩
    rintro y H' ⟨rfl, c, hc, rfl⟩
    exact hs i c _ hc p
  · obtain rfl : i = x.cps.size := by omega
    exact .inl ⟨Nat.le_refl _, hd H p⟩
abbrev N_law_class : List Str := ["_law_drop", "_law_way", "_law_rest", "_law_picked", "_law_many", "_law_low", "_law_chosen", "_law_sign"]
theorem sc_law_class : FnScope N_law_class ["_law_drop"] (defScope s_law_class) := ⟨rfl, rfl, rfl, by decide +kernel, rfl, by decide +kernel, by decide +kernel⟩
theorem ok_law_class {gS : Addr} (T : Txt K mg) (F : FnP K "_law_class" "_law_class" s_law_class f fd) (h_law_signs : Has P w K mg base "_law_signs" gS [] 1 spLawSigns) : FnOk P w K mg base CX0 2 f fd ["_law_drop"] (spLawClass K) := by
  refine F.ok sc_law_class (fun vs H Q E h => ?_) (fun cdv A outer s H vs Q E hr h => ?_)
  · obtain ⟨i, rfl, _⟩ := h
    rfl
  obtain ⟨i, rfl, h0, h1, q⟩ := h
  refine ⟨_, PSs.nox ((pss_cons (ps_set (i := 1) sc_law_class.nd rfl (Or.inr rfl) (pe_op op_mod (pe_callTy call_int1 rfl T.z_int bb_int (pa_cons (pv 0) pa_nil)) pe_int))
    (pss_cons (ps_set (i := 2) sc_law_class.nd rfl (Or.inl rfl) (pe_op op_fdiv (pv 0) pe_int))
    (pss_cons (ps_set (i := 3) sc_law_class.nd rfl (Or.inr rfl) (pe_ix ix_list (pe_lst (pa_cons pe_str (pa_cons pe_str (pa_cons pe_str (pa_cons pe_str (pa_cons pe_str (pa_cons pe_str (pa_cons pe_str (pa_cons pe_str pa_nil))))))))) (pe_op op_mod (pe_callTy call_int1 rfl T.z_int bb_int (pa_cons (pv 2) pa_nil)) pe_int) (fun _ _ => rfl)))
    (pss_cons (ps_if (pt_cmpR op_gt (pv 1) pe_int (nomark _)) (pss_cons (ps_set (i := 4) sc_law_class.nd rfl (Or.inl rfl) (pe_op op_add pe_int (pe_op op_mod (pe_callTy call_int1 rfl T.z_int bb_int (pa_cons (pv 2) pa_nil)) pe_int)))
    (pss_cons (ps_if (pt_cmpR op_eq (pe_op op_mod (pe_callTy call_int1 rfl T.z_int bb_int (pa_cons (pe_op op_fdiv (pv 2) pe_int) pa_nil)) pe_int) pe_int (nomark _)) (pss_one (ps_set (i := 4) sc_law_class.nd rfl (Or.inl rfl) (pe_op op_add pe_int (pe_op op_mod (pe_callTy call_int1 rfl T.z_int bb_int (pa_cons (pv 4) pa_nil)) pe_int)))) pss_nil)
    (pss_cons (ps_set (i := 5) sc_law_class.nd rfl (Or.inl rfl) (pe_op op_mod (pe_callTy call_int1 rfl T.z_int bb_int (pa_cons (pe_op op_add (pe_op op_mul (pv 2) (pv 2)) (pv 0)) pa_nil)) (pe_op op_sub pe_int (pv 4))))
    (pss_one (ps_set (i := 3) sc_law_class.nd rfl (Or.inr rfl) (pe_slice sl_str (pe_callH0 h_law_signs hr (by omega) rfl) (po_some (pv 5)) (po_some (pe_op op_add (pv 5) (pv 4))))))))) pss_nil)
    (pss_cons (ps_setLc (i := 6) (own := [("_law_sign", 7)]) rfl sc_law_class.nd rfl rfl (sw_true rfl rfl rfl (by decide +kernel)) (pi_str (pe_callH0 h_law_signs hr (by omega) rfl)) (blkOk_by (N := N_law_class) (sc := defScope s_law_class) (by decide +kernel)) (fun _ _ _ _ _ => pg_name (i := 7) sc_law_class.nd rfl (Or.inl rfl)) (fun _ _ _ _ _ => pts_one (pt_cmpR op_ne (pe_cmpR op_in_sign (pv 7) (pv 3) rfl) (pe_and (pe_cmpR op_eq (pe_op op_mod (pe_callTy call_int1 rfl T.z_int bb_int (pa_cons (pv 1) pa_nil)) pe_int) pe_int (nomark _)) (pe_one (pe_cmpR op_lt (pe_callB call_len_str rfl T.z_len PySem.boot_len (pa_cons (pv 3) pa_nil)) pe_int (nomark _)))) (nomark _))) (fun _ _ _ _ _ => (pv 7)))
    (pss_one (ps_ret (pe_tup (pa_cons pe_str (pa_cons (pe_join pe_str (pv 6)) pa_nil))))))))))), ?_⟩
  have p4 : (0 : Int) < 4 := by decide
  have p8 : (0 : Int) < 8 := by decide
  have p96 : (0 : Int) < 96 := by decide
  have p3 : (0 : Int) < 3 := by decide
  have p7 : (0 : Int) < 7 := by decide
  have p2 : (0 : Int) < 2 := by decide
  have hr1 : 0 ≤ i / 4 ∧ i / 4 < 1441440 := by omega
  obtain ⟨pk, hpk⟩ : ∃ pk : List Str, pk = [("a" : Str), "b", "ab", "ac", "abc", "c]", "-^", "\\\n"] := ⟨_, rfl⟩
  have hpl : ∀ z ∈ pk, z.length ≤ 96 := by rw [hpk]; decide +kernel
  obtain ⟨v, hv, he⟩ := at_emod (xs := pk.map V.str) (i := i / 4) (n := 8) (by rw [hpk]; rfl) p8
  obtain ⟨z, hz, rfl⟩ := List.mem_map.mp hv
  have hzA : z.length ≤ sizeLine := small_le (Nat.le_trans (hpl z hz) (by decide))
  have hzB : ∀ lo hi, (cutS signs lo hi).length ≤ sizeLine := fun lo hi => small_le (Nat.le_trans (cutS_length _ _ _) (by rw [signs_len]; decide))
  rw [hpk] at he
  refine ⟨_, rfl, .inl ⟨_, rfl, _, _, rfl, rfl, p4, ?_⟩⟩
  refine ⟨_, rfl, _, _, rfl, rfl, ⟨by decide, by decide⟩, ?_⟩
  refine ⟨(by show 8 ≤ sizeLine; exact small_le (by decide)), fun R nR => ⟨_, rfl, .inl ⟨_, rfl, _, _, rfl, rfl, p8, R, _, _, _, rfl, rfl, SqL.of upd_same, he, ?_⟩⟩⟩
  have s1 : Same H (upd H R (.lst ([("a" : Str), "b", "ab", "ac", "abc", "c]", "-^", "\\\n"].map V.str))) := same_new nR _
  have m96 : ∀ x : Int, 0 ≤ x % 96 ∧ x % 96 < 96 := fun x => ⟨Int.emod_nonneg _ (by decide), Int.emod_lt_of_pos _ (by decide)⟩
  have m7 : ∀ x : Int, 0 ≤ x % 7 ∧ x % 7 < 7 := fun x => ⟨Int.emod_nonneg _ (by decide), Int.emod_lt_of_pos _ (by decide)⟩
  have h96 := m96 (i / 4)
  have h7 := m7 (1 + i / 4 % 96)
  have sl : signs.length ≤ sizeLine := small_le (by rw [signs_len]; decide)
  have cm : CMul (i / 4) (i / 4) := cmul_of ⟨hr1.1, by omega⟩
  have d1 : (fun _ j : Int => 0 < j) (i / 4 * (i / 4) + i) (97 - (45 + (1 + i / 4 % 96) % 7)) := by show (0 : Int) < _; omega
  have d2 : (fun _ j : Int => 0 < j) (i / 4 * (i / 4) + i) (97 - (1 + i / 4 % 96)) := by show (0 : Int) < _; omega
  refine ⟨_, rfl, _, _, rfl, rfl, _, rfl, ite2b (fun c => ⟨_, rfl, .inl ⟨_, rfl, _, _, rfl, rfl, p96, _, _, rfl, rfl, _, rfl, _, _, rfl, rfl, ⟨by decide, by decide⟩, .inl ⟨_, rfl, _, _, rfl, rfl, p3, rfl, _, rfl,
    ite2b (fun c2 => ⟨_, rfl, .inl ⟨_, rfl, _, _, rfl, rfl, p7, _, _, rfl, rfl, _, rfl, _, rfl, _, _, rfl, rfl, cm, _, rfl, _, _, rfl, rfl, .inl ⟨_, rfl, _, rfl, _, _, rfl, rfl, _, _, rfl, rfl, d1, rfl, _, rfl, _, rfl, _, rfl, _, rfl, _, _, rfl, rfl, _, rfl, signs, rfl, sl, ?_⟩⟩⟩)
      fun c2 => ⟨_, rfl, _, rfl, _, _, rfl, rfl, cm, _, rfl, _, _, rfl, rfl, .inl ⟨_, rfl, _, rfl, _, _, rfl, rfl, _, _, rfl, rfl, d2, rfl, _, rfl, _, rfl, _, rfl, _, rfl, _, _, rfl, rfl, _, rfl, signs, rfl, sl, ?_⟩⟩⟩⟩⟩) fun c => ?_⟩
  all_goals
    refine ⟨rfl, _, rfl, fun G nG => walk_str (fun j H' => ∃ ys : List Str, Same H H' ∧ H G = none ∧ H' G = some (.lst (ys.map V.str)) ∧ ys.length ≤ j ∧ ∀ y ∈ ys, y.length = 1) ⟨[], s1.trans (same_new nG _), s1.free nG, upd_same, Nat.zero_le _, fun y hy => nomatch hy⟩ (fun j c' H2 hc' h => ?_) fun H2 h => ?_⟩
    · obtain ⟨ys, h1, h2, h3, h4, h5⟩ := h
      have ls : j < 96 := by
        have h := (Array.getElem?_eq_some_iff.mp hc').1
        have : signs.cps.size = 96 := signs_len
        omega
      have few : (ys.map V.str).length < sizeLine := by
        rw [List.length_map]
        exact small_line (by omega)
      have yes : ∃ ys' : List Str, Same H (upd H2 G (.lst (ys.map V.str ++ [.str ⟨#[c']⟩]))) ∧ H G = none ∧ upd H2 G (.lst (ys.map V.str ++ [.str ⟨#[c']⟩])) G = some (.lst (ys'.map V.str)) ∧ ys'.length ≤ j + 1 ∧ ∀ y ∈ ys', y.length = 1 := by
        refine ⟨ys ++ [⟨#[c']⟩], same_over h1 h2 _, h2, ?_, by rw [List.length_append]; exact Nat.succ_le_succ h4, fun y hy => ?_⟩
        · rw [upd_same, List.map_append]; rfl
        · rcases List.mem_append.mp hy with h | h
          · exact h5 y h
          · rw [List.mem_singleton.mp h]; rfl
      have no : ∃ ys' : List Str, Same H H2 ∧ H G = none ∧ H2 G = some (.lst (ys'.map V.str)) ∧ ys'.length ≤ j + 1 ∧ ∀ y ∈ ys', y.length = 1 := ⟨ys, h1, h2, h3, by omega, h5⟩
      refine ⟨rfl, _, rfl, _, rfl, c', _, rfl, rfl, _, rfl, .inl ⟨_, rfl, _, _, rfl, rfl, p2, rfl, _, rfl, ite2b (fun c3 => ⟨_, rfl, _, rfl, ?_, _, _, rfl, rfl, rfl, _, rfl, ?_⟩) fun c3 => ⟨rfl, _, rfl, ?_⟩⟩⟩
      · first
          | exact hzA
          | exact hzB _ _
      all_goals exact ite2b (fun c4 => ⟨_, rfl, _, h3, few, yes⟩) fun c4 => no
    · obtain ⟨ys, h1, h2, h3, h4, h5⟩ := h
      have l96 : ys.length ≤ 96 := by
        have : signs.cps.size = 96 := signs_len
        omega
      have sum1 : (ys.map (·.length)).sum ≤ 96 := by
        have : ys.map (·.length) = List.replicate ys.length 1 := List.eq_replicate_iff.mpr ⟨List.length_map .., fun b hb => by
          obtain ⟨y, hy, rfl⟩ := List.mem_map.mp hb
          exact h5 y hy⟩
        rw [this, List.sum_replicate_nat]
        omega
      refine ⟨⟨_, rfl⟩, _, rfl, _, G, ys, rfl, rfl, .inl (SqL.of h3), ?_, ?_⟩
      · have e : ("" : Str).length = 0 := rfl
        rw [e]
        omega
      refine ⟨(by show 2 ≤ sizeLine; exact small_le (by decide)), fun t nt => ?_⟩
      refine q _ (Txt.join "" ys) _ (same_add h1 nt _) ?_
      exact .tup (SqT.of upd_same) (.cons (.str _) (.cons (.str _) .nil))
end
end Pd
set_option Elab.async false
set_option linter.all false
set_option maxRecDepth 100000
set_option maxHeartbeats 4000000
namespace Pd
open PySem PySem.Spec PyProof.Rows L2
section
variable {P : Program} {w : World} {K : PySem.W.Frag} {mg : Str → Option Value} {base : Heap} {f : Addr} {fd : FuncData}
abbrev N_law_leaf : List Str := ["_law_drop", "_law_way"]
theorem sc_law_leaf : FnScope N_law_leaf ["_law_drop"] (defScope s_law_leaf) := ⟨rfl, rfl, rfl, by decide +kernel, rfl, by decide +kernel, by decide +kernel⟩
theorem ok_law_leaf {gL gC : Addr} (T : Txt K mg) (F : FnP K "_law_leaf" "_law_leaf" s_law_leaf f fd) (h_law_letter : Has P w K mg base "_law_letter" gL ["_law_drop"] 2 spLawLetter) (h_law_class : Has P w K mg base "_law_class" gC ["_law_drop"] 2 (spLawClass K)) : FnOk P w K mg base CX0 3 f fd ["_law_drop"] (spLawLeaf K) := by
  refine F.ok sc_law_leaf (fun vs H Q E h => ?_) (fun cdv A outer s H vs Q E hr h => ?_)
  · obtain ⟨i, rfl, _⟩ := h
    rfl
  obtain ⟨i, rfl, h0, h1, q⟩ := h
  refine ⟨_, PSs.nox ((pss_cons (ps_set (i := 1) sc_law_leaf.nd rfl (Or.inl rfl) (pe_op op_mod (pe_callTy call_int1 rfl T.z_int bb_int (pa_cons (pv 0) pa_nil)) pe_int))
    (pss_cons (ps_if (pt_cmpR op_lt (pv 1) pe_int (nomark _)) (pss_one (ps_ret (pe_tup (pa_cons pe_str (pa_cons (pe_callH h_law_letter hr (by omega) rfl (pa_cons (pe_op op_fdiv (pv 0) pe_int) pa_nil)) pa_nil))))) pss_nil)
    (pss_cons (ps_if (pt_cmpR op_lt (pv 1) pe_int (nomark _)) (pss_one (ps_ret (pe_tup (pa_cons pe_str pa_nil)))) pss_nil)
    (pss_cons (ps_if (pt_cmpR op_lt (pv 1) pe_int (nomark _)) (pss_one (ps_ret (pe_callH h_law_class hr (by omega) rfl (pa_cons (pe_op op_fdiv (pv 0) pe_int) pa_nil)))) pss_nil)
    (pss_one (ps_ret (pe_ix ix_list (pe_lst (pa_cons (pe_tup (pa_cons pe_str pa_nil)) (pa_cons (pe_tup (pa_cons pe_str pa_nil)) (pa_cons (pe_tup (pa_cons pe_str (pa_cons (pe_tup pa_nil) pa_nil))) pa_nil)))) (pe_op op_sub (pv 1) pe_int) (fun _ _ => rfl))))))))), ?_⟩
  have p13 : (0 : Int) < 13 := by decide
  have leafq : ∀ (v : V) (l : Leaf) (H' : Hp), Same H H' → Dp K H' v l.enc → Q v H' := fun v l H' s1 d => q v (.leaf l) H' s1 (PtV.mkLeaf d) (by rw [Wf]; exact True.intro) (by rw [dep]; exact Nat.le_refl _) (by rw [nodes]; exact Nat.le_refl _)
  have l0 : (0 : Nat) ≤ sizeLine := small_le (by decide)
  have l3 : (3 : Nat) ≤ sizeLine := small_le (by decide)
  have l1 : (1 : Nat) ≤ sizeLine := small_le (by decide)
  have l2 : (2 : Nat) ≤ sizeLine := small_le (by decide)
  have m13 : 0 ≤ i % 13 ∧ i % 13 < 13 := ⟨Int.emod_nonneg _ (by decide), Int.emod_lt_of_pos _ (by decide)⟩
  refine ⟨_, rfl, .inl ⟨_, rfl, _, _, rfl, rfl, p13, ?_⟩⟩
  refine ⟨_, rfl, _, _, rfl, rfl, _, rfl, ite2b (fun c => ?_) fun c => ?_⟩
  · refine ⟨_, rfl, _, _, rfl, rfl, ⟨by decide, by decide⟩, _, rfl, by show 0 ≤ i / 13; omega, fun c hc => ⟨l2, fun t nt => ?_⟩⟩
    exact leafq _ (.sgn false ⟨#[c]⟩) _ (same_new nt _) (.tup (SqT.of upd_same) (.cons (.str _) (.cons (.str _) .nil)))
  refine ⟨_, rfl, _, _, rfl, rfl, _, rfl, ite2b (fun c2 => ?_) fun c2 => ?_⟩
  · refine ⟨l1, fun t nt => ?_⟩
    exact leafq _ .any _ (same_new nt _) (.tup (SqT.of upd_same) (.cons (.str _) .nil))
  refine ⟨_, rfl, _, _, rfl, rfl, _, rfl, ite2b (fun c3 => ?_) fun c3 => ?_⟩
  · refine ⟨_, rfl, _, _, rfl, rfl, ⟨by decide, by decide⟩, _, rfl, by show 0 ≤ i / 13; omega, by show i / 13 < 1441440; omega, fun v z H' s1 d => ?_⟩
    exact leafq v (.sgn true z) H' s1 d
  have g3 : 10 ≤ i % 13 := by
    have : ¬ i % 13 < 10 := of_decide_eq_false c3
    omega
  refine ⟨l1, fun t1 n1 => ⟨l1, fun t2 n2 => ⟨l0, fun t3 n3 => ⟨l2, fun t4 n4 => ⟨l3, fun R nR => ?_⟩⟩⟩⟩⟩
  have s1 := same_new n1 (.tup [V.str "begin"])
  have s2 := same_add s1 n2 (.tup [V.str "end"])
  have s3 := same_add s2 n3 (.tup [])
  have s4 := same_add s3 n4 (.tup [V.str "row", .ref t3])
  have s5 := same_add s4 nR (.lst [.ref t1, .ref t2, .ref t4])
  refine ⟨_, rfl, _, _, rfl, rfl, ?_⟩
  have cs : i % 13 = 10 ∨ i % 13 = 11 ∨ i % 13 = 12 := by omega
  have e1 := same_add (same_add (same_add (same_new n2 (.tup [V.str "end"])) n3 (.tup [])) n4 (.tup [V.str "row", .ref t3])) nR (.lst [.ref t1, .ref t2, .ref t4]) t1 _ upd_same
  have e2 := same_add (same_add (same_new n3 (.tup [])) n4 (.tup [V.str "row", .ref t3])) nR (.lst [.ref t1, .ref t2, .ref t4]) t2 _ upd_same
  have e3 := same_add (same_new n4 (.tup [V.str "row", .ref t3])) nR (.lst [.ref t1, .ref t2, .ref t4]) t3 _ upd_same
  have e4 := same_new nR (.lst [.ref t1, .ref t2, .ref t4]) t4 _ upd_same
  rcases cs with h | h | h
  · refine ⟨R, _, _, _, rfl, rfl, SqL.of upd_same, (by show atI _ (i % 13 - 10) = _; rw [h]; exact at0), ?_⟩
    exact leafq _ .beg _ s5 (.tup (SqT.of e1) (.cons (.str _) .nil))
  · refine ⟨R, _, _, _, rfl, rfl, SqL.of upd_same, (by show atI _ (i % 13 - 10) = _; rw [h]; exact at1), ?_⟩
    exact leafq _ .fin _ s5 (.tup (SqT.of e2) (.cons (.str _) .nil))
  · refine ⟨R, _, _, _, rfl, rfl, SqL.of upd_same, (by show atI _ (i % 13 - 10) = _; rw [h]; exact at2), ?_⟩
    refine q _ (.row []) _ s5 (.mkRow (SqT.of e4) (SqT.of e3) .nil) ?_ ?_ ?_
    · rw [Wf, Wfs]
      exact ⟨True.intro, Nat.zero_le _⟩
    · rw [dep, deps]
      exact Nat.le_refl _
    · rw [nodes_eq]
      exact Nat.le_refl _
theorem deps_le {D : Nat} : ∀ {ps : List Pat}, (∀ p ∈ ps, dep p ≤ D) → deps ps ≤ D
  | [], _ => by rw [deps]; exact Nat.zero_le _
  | p :: ps, h => by
    rw [deps]
    exact Nat.max_le.mpr ⟨h p List.mem_cons_self, deps_le fun q hq => h q (List.mem_cons_of_mem _ hq)⟩
abbrev N_law_flat : List Str := ["_law_word", "_law_parts", "_law_told", "_law_part"]
theorem sc_law_flat : FnScope N_law_flat ["_law_word", "_law_parts"] (defScope s_law_flat) := ⟨rfl, rfl, rfl, by decide +kernel, rfl, by decide +kernel, by decide +kernel⟩
theorem flat_in {K : PySem.W.Frag} {H : Hp} {v : V} {p : Pat} {o : Bool} (h : PtV K H v p) (e : wd p = flatWord o) : ∃ a c zs, v = .ref a ∧ SqT K H a [.str (flatWord o), .ref c] ∧ SqT K H c zs ∧ DpAll K H zs (p.kids.map enc) := by
  cases p with
  | leaf l =>
    obtain ⟨h1, h2, _⟩ := leafWord_ne l
    cases o with
    | true => exact absurd e h2
    | false => exact absurd e h1
  | row ps =>
    cases o with
    | true => exact absurd e ne_row_or
    | false => exact h.row
  | alt ps =>
    cases o with
    | true => exact h.alt
    | false => exact absurd e ne_or_row
  | rep p l m =>
    cases o with
    | true => exact absurd e ne_repeat_or
    | false => exact absurd e ne_repeat_row
theorem ok_law_flat (T : Txt K mg) (F : FnP K "_law_flat" "_law_flat" s_law_flat f fd) : FnOk P w K mg base CX0 1 f fd ["_law_word", "_law_parts"] (spLawFlat K) := by
  refine F.ok sc_law_flat (fun vs H Q E h => ?_) (fun cdv A outer s H vs Q E hr h => ?_)
  · obtain ⟨o, a, xs, ps, D, N, rfl, _⟩ := h
    rfl
  obtain ⟨o, a, xs, ps, D, N, rfl, hsq, hxs, l3, hps, hN, hN0, q⟩ := h
  refine ⟨_, PSs.nox ((pss_cons (ps_set (i := 2) sc_law_flat.nd rfl (Or.inl rfl) (pe_lst pa_nil))
    (pss_cons (ps_for PassesOwn.never rfl (pi_list (pv 1)) (pg_name (i := 3) sc_law_flat.nd rfl (Or.inl rfl)) (pss_one (ps_if (pt_cmpR op_eq (pe_ix ix_tup (pv 3) pe_int (fun _ _ => rfl)) (pv 0) (nomark _)) (pss_one (ps_set (i := 2) sc_law_flat.nd rfl (Or.inl rfl) (pe_op op_cat (pv 2) (pe_callTy call_list_of rfl T.z_list bb_list (pa_cons (pe_ix ix_tup (pv 3) pe_int (fun _ _ => rfl)) pa_nil))))) (pss_one (ps_expr (pe_bm PySem.F.plainAttrs_list PySem.F.slot_list_append PySem.F.type_list_append mt_append (pv 2) (pa_cons (pv 3) pa_nil)))))))
    (pss_cons (ps_if (pt_cmpR op_eq (pe_callB call_len_seq rfl T.z_len PySem.boot_len (pa_cons (pv 2) pa_nil)) pe_int (nomark _)) (pss_one (ps_ret (pe_ix ix_list (pv 2) pe_int (fun _ _ => rfl)))) pss_nil)
    (pss_one (ps_ret (pe_tup (pa_cons (pv 0) (pa_cons (pe_callTy call_tuple_of rfl T.z_tuple bb_tuple (pa_cons (pv 2) pa_nil)) pa_nil))))))))), ?_⟩
  have lxs : xs.length = ps.length := by
    have := hxs.len
    rw [List.length_map] at this
    exact this
  refine ⟨(by show 0 ≤ sizeLine; exact small_le (by decide)), fun R nR => ?_⟩
  refine ⟨_, rfl, a, rfl, ⟨xs, (same_new nR _).seq hsq⟩, for_list (xs := xs) (fun i σ H' => ∃ (R : Addr) (us : List V) (qs : List Pat) (v3 : Option V), σ = [some (.str (flatWord o)), some (.ref a), some (.ref R), v3] ∧ Same H H' ∧ H R = none ∧ H' R = some (.lst us) ∧ DpAll K H' us (qs.map enc) ∧ (∀ p ∈ qs, Wf p ∧ dep p ≤ D) ∧ (nodess qs).length ≤ i * N)
    ⟨R, [], [], none, rfl, same_new nR _, nR, upd_same, .nil, fun p hp => (nomatch hp), by rw [nodess_nil]; exact Nat.zero_le _⟩ (fun i σ H1 _ h => ?_) (fun i v σ H1 hv h => ?_) fun σ H1 h => ?_⟩
  · obtain ⟨R, us, qs, v3, _, s1, _⟩ := h
    exact s1.seq hsq
  · obtain ⟨R, us, qs, v3, rfl, s1, nR, hR, hus, hqs, hn⟩ := h
    have k1 := Kp.of s1
    obtain ⟨d, hd1, hd2⟩ := hxs.atV hv
    obtain ⟨p, hp3, rfl⟩ : ∃ p, ps[i]? = some p ∧ d = enc p := by
      rw [List.getElem?_map] at hd1
      cases e : ps[i]? with
      | none => rw [e] at hd1; cases hd1
      | some p => rw [e] at hd1; exact ⟨p, rfl, (Option.some.inj hd1).symm⟩
    have hpi := hps p (List.mem_of_getElem? hp3)
    have li : i < 3 := by
      have := (List.getElem?_eq_some_iff.mp hp3).1
      omega
    have lN : i * N ≤ 2 * 100 := Nat.mul_le_mul (by omega) hN
    have lus : us.length = qs.length := by
      have := hus.len
      rw [List.length_map] at this
      exact this
    have lqs := nodess_ge qs
    have hpv : PtV K H1 v p := k1.dp hd2
    obtain ⟨pa, pus, rfl, hpw⟩ := hpv.word
    have sN : (i + 1) * N = i * N + N := Nat.succ_mul i N
    refine ⟨_, rfl, pa, _, _, _, rfl, rfl, hpw, at0, _, rfl, rfl, _, rfl, ite2b (fun c => ?_) fun c => ?_⟩
    · have e : wd p = flatWord o := V.str.inj (of_decide_eq_true c)
      obtain ⟨pa', cc, zs, e2, hT, hcT, hz⟩ := flat_in hpv e
      cases e2
      have lz : zs.length = p.kids.length := by
        have := hz.len
        rw [List.length_map] at this
        exact this
      have lk := nodess_ge p.kids
      have ln : (nodes p).length = (nodess p.kids).length + 1 := by rw [nodes_eq]; rfl
      refine ⟨_, rfl, _, rfl, pa, _, _, _, rfl, rfl, hT, at1, cc, zs, rfl, .inr hcT, fun L nL => ?_⟩
      have neL : R ≠ L := ne_of_none hR nL
      refine ⟨R, L, us, zs, rfl, rfl, (by rw [upd_ne neL]; exact hR), upd_same, small_le (by omega), fun R2 nR2 => ?_⟩
      have k2 := (Kp.new nL (.lst zs)).add nR2 (.lst (us ++ zs))
      have s2 := same_add (same_add s1 nL (.lst zs)) nR2 (.lst (us ++ zs))
      refine ⟨R2, us ++ zs, qs ++ p.kids, some (.ref pa), rfl, s2, (same_add s1 nL _).free nR2, upd_same, ?_, fun p' hp' => ?_, ?_⟩
      · rw [List.map_append]
        exact (k2.dpAll hus).append (k2.dpAll hz)
      · rcases List.mem_append.mp hp' with h | h
        · exact hqs p' h
        · have := dep_kid h
          exact ⟨wf_kids hpi.1 h, by omega⟩
      · rw [nodess_app, List.length_append]
        omega
    · refine ⟨_, rfl, .inl ⟨rfl, _, SqL.of hR⟩, _, rfl, R, _, _, rfl, rfl, hR, small_line (by omega), R, us ++ [.ref pa], qs ++ [p], some (.ref pa), rfl, same_over s1 nR _, nR, upd_same, ?_, fun p' hp' => ?_, ?_⟩
      · rw [List.map_append]
        have kt := Kt.lst (ys := us ++ [.ref pa]) hR
        refine DpAll.append (kt.dpAll ?_ hus) (.one (kt.dp (enc_noL p) hpv))
        rw [← encs_map]
        exact encs_noL qs
      · rcases List.mem_append.mp hp' with h | h
        · exact hqs p' h
        · rw [List.mem_singleton.mp h]
          exact ⟨hpi.1, hpi.2.1⟩
      · rw [nodess_app, List.length_append, nodess_one]
        omega
  · obtain ⟨R, us, qs, v3, rfl, s1, nR, hR, hus, hqs, hn⟩ := h
    have lus : us.length = qs.length := by
      have := hus.len
      rw [List.length_map] at this
      exact this
    have lqs := nodess_ge qs
    have l3N : xs.length * N ≤ 3 * N := Nat.mul_le_mul_right N (by omega)
    refine ⟨_, rfl, R, us, rfl, .inl (SqL.of hR), rfl, _, rfl, ite2b (fun c => ?_) fun c => ?_⟩
    · have l1 : us.length = 1 := by
        have := V.int.inj (of_decide_eq_true c)
        omega
      obtain ⟨u, rfl⟩ := List.length_eq_one_iff.mp l1
      obtain ⟨p, rfl⟩ := List.length_eq_one_iff.mp (show qs.length = 1 by omega)
      rw [nodess_one] at hn
      have hp := hqs p List.mem_cons_self
      cases hus with
      | cons h1 h2 => exact ⟨_, rfl, R, _, _, _, rfl, rfl, SqL.of hR, at0, q u p H1 s1 h1 hp.1 (by omega) (by omega)⟩
    · refine ⟨_, rfl, _, rfl, R, us, rfl, .inl ⟨SqL.of hR, fun t nt => ⟨(by show 2 ≤ sizeLine; exact small_le (by decide)), fun t2 nt2 => ?_⟩⟩⟩
      have k2 := (Kp.new nt (.tup us)).add nt2 (.tup [.str (flatWord o), .ref t])
      have s2 := same_add (same_add s1 nt (.tup us)) nt2 (.tup [.str (flatWord o), .ref t])
      have ht : SqT K (upd (upd H1 t (.tup us)) t2 (.tup [.str (flatWord o), .ref t])) t us := SqT.of (same_new nt2 _ _ _ upd_same)
      have hwf : Wfs qs := wfs_of fun p hp => (hqs p hp).1
      have hdp : deps qs ≤ D := deps_le fun p hp => (hqs p hp).2
      have lq : qs.length ≤ 1000 := by omega
      cases o with
      | true =>
        refine q _ (.alt qs) _ s2 (.mkAlt (SqT.of upd_same) ht (k2.dpAll hus)) ?_ ?_ ?_
        · rw [Wf]; exact ⟨hwf, lq⟩
        · rw [dep]; omega
        · rw [nodes_eq]
          show (nodess qs).length + 1 ≤ _
          omega
      | false =>
        refine q _ (.row qs) _ s2 (.mkRow (SqT.of upd_same) ht (k2.dpAll hus)) ?_ ?_ ?_
        · rw [Wf]; exact ⟨hwf, lq⟩
        · rw [dep]; omega
        · rw [nodes_eq]
          show (nodess qs).length + 1 ≤ _
          omega
end
end Pd
set_option Elab.async false
set_option linter.all false
set_option maxRecDepth 100000
set_option maxHeartbeats 4000000
namespace Pd
open PySem PySem.Spec PyProof.Rows L2
section
variable {P : Program} {w : World} {K : PySem.W.Frag} {mg : Str → Option Value} {base : Heap} {f : Addr} {fd : FuncData}
abbrev N_law_says : List Str := ["_law_found", "_law_due"]
theorem sc_law_says : FnScope N_law_says ["_law_found", "_law_due"] (defScope s_law_says) := ⟨rfl, rfl, rfl, by decide +kernel, rfl, by decide +kernel, by decide +kernel⟩
theorem ok_law_says (T : Txt K mg) (F : FnP K "_law_says" "_law_says" s_law_says f fd) : FnOk P w K mg base CX0 1 f fd ["_law_found", "_law_due"] spLawSays := by
  refine F.ok sc_law_says (fun vs H Q E h => ?_) (fun cdv A outer s H vs Q E hr h => ?_)
  · obtain ⟨a, b, rfl, _⟩ := h
    rfl
  obtain ⟨a, b, rfl, q⟩ := h
  refine ⟨_, PSs.nox ((pss_one (ps_ret (pe_and (pe_callB call_isi rfl T.z_isinstance bb_isinstance (pa_cons (pv 0) (pa_cons (pe_bltn (v := .ty "bool") rfl T.z_bool bb_bool rfl) pa_nil))) (pe_one (pe_cmpR op_eq (pv 0) (pv 1) (nomark _))))))), ?_⟩
  have q1 : Q (.bl (decide (V.bl a = V.bl b))) H := by
    have e : decide (V.bl a = V.bl b) = decide (a = b) := decide_eq_decide.mpr ⟨V.bl.inj, congrArg _⟩
    rw [e]
    exact q
  exact ⟨_, rfl, _, _, _, _, _, rfl, .ty _, (Dp.bl (K := K) (H := H) a).tyx, kit_ty (kit_bool (.bool a)), _, rfl, iteTb rfl ⟨_, rfl, _, rfl, rfl, q1⟩⟩
theorem fold_app {α : Type} (a : Array α) : ∀ (n : Nat) (acc : Array α), ((List.replicate n a).foldl (· ++ ·) acc).toList = acc.toList ++ (List.replicate n a.toList).flatten
  | 0, acc => by simp
  | n + 1, acc => by
    rw [List.replicate_succ, List.foldl_cons, fold_app a n, List.replicate_succ, List.flatten_cons, Array.toList_append, List.append_assoc]
theorem flat_one {c : Nat} : ∀ n : Nat, (List.replicate n [c]).flatten = List.replicate n c
  | 0 => rfl
  | n + 1 => by
    rw [List.replicate_succ, List.flatten_cons, flat_one n]
    rfl
theorem mul_sign {x : Str} {c : Nat} (hx : x.cps.toList = [c]) (n : Nat) : (Txt.mul x (n : Int)).cps.toList = List.replicate n c := by
  unfold Txt.mul
  split
  · obtain rfl : n = 0 := by omega
    rfl
  · split
    · rename_i h1 h2
      rw [Bool.or_eq_true] at h2
      have hl : x.length = 1 := by
        show x.cps.size = 1
        rw [← Array.length_toList, hx]
        rfl
      rcases h2 with h2 | h2
      · obtain rfl : n = 1 := by have := eq_of_beq h2; omega
        exact hx
      · rw [hl] at h2
        cases h2
    · show ((List.replicate (n : Int).toNat x.cps).foldl (· ++ ·) #[]).toList = _
      rw [fold_app, hx, Int.toNat_natCast]
      exact flat_one n
theorem tx_mul_a (n : Nat) : tx (Txt.mul "a" (n : Int)) = List.replicate n 97 := mul_sign (by decide +kernel) n
theorem len_of_tx {z : Str} {n : Nat} (h : (tx z).length = n) : z.length = n := by rw [← h, tx_len]
theorem sum_ones : ∀ {ys : List Str}, (∀ y ∈ ys, y.length = 1) → (ys.map (·.length)).sum = ys.length
  | [], _ => rfl
  | y :: ys, h => by
    rw [List.map_cons, List.sum_cons, sum_ones fun z hz => h z (List.mem_cons_of_mem _ hz), h y List.mem_cons_self, List.length_cons]
    omega
theorem join_len {ys : List Str} (h : ∀ y ∈ ys, y.length = 1) : (Txt.join "" ys).length = ys.length := by
  rw [TL.join_eq, ← PySem.StrLaws.glued_eq_join, PySem.size_glued, sum_ones h]
  exact Nat.mul_zero _ ▸ rfl
abbrev N_law_text : List Str := ["_law_drops_here", "_law_many", "_law_drop"]
theorem sc_law_text : FnScope N_law_text ["_law_drops_here", "_law_many"] (defScope s_law_text) := ⟨rfl, rfl, rfl, by decide +kernel, rfl, by decide +kernel, by decide +kernel⟩
theorem ok_law_text {gL : Addr} (T : Txt K mg) (F : FnP K "_law_text" "_law_text" s_law_text f fd) (h_law_letter : Has P w K mg base "_law_letter" gL ["_law_drop"] 2 spLawLetter) : FnOk P w K mg base CX0 3 f fd ["_law_drops_here", "_law_many"] (spLawText K) := by
  refine F.ok sc_law_text (fun vs H Q E h => ?_) (fun cdv A outer s H vs Q E hr h => ?_)
  · obtain ⟨a, ns, n, rfl, _⟩ := h
    rfl
  obtain ⟨a, ns, n, rfl, hsq, hd, l10, l80, hn, q⟩ := h
  refine ⟨_, PSs.nox ((pss_cons (ps_if (pt_cmpR op_eq (pe_op op_mod (pe_callTy call_int1 rfl T.z_int bb_int (pa_cons (pe_ix ix_list (pv 0) pe_int (fun _ _ => rfl)) pa_nil)) pe_int) pe_int (nomark _)) (pss_one (ps_ret (pe_op op_mulS pe_str (pv 1)))) pss_nil)
    (pss_one (ps_ret (pe_join pe_str (pe_lc (own := [("_law_drop", 2)]) rfl sc_law_text.nd (pi_list (pe_slice sl_list (pv 0) (po_some pe_int) (po_some (pe_op op_add pe_int (pv 1))))) (blkOk_by (N := N_law_text) (sc := defScope s_law_text) (by decide +kernel)) (fun _ _ _ _ _ => pg_name (i := 2) sc_law_text.nd rfl (Or.inl rfl)) (fun _ _ _ _ _ => pts_nil) (fun _ _ _ _ _ => (pe_callH h_law_letter hr (by omega) rfl (pa_cons (pv 2) pa_nil))))))))), ?_⟩
  have p4 : (0 : Int) < 4 := by decide
  obtain ⟨x0, hx0⟩ : ∃ x0, ns[0]? = some x0 := ⟨ns[0], List.getElem?_eq_getElem (by omega)⟩
  refine ⟨_, rfl, a, _, _, _, rfl, rfl, hsq, atI_nat (j := 0) (by rw [List.getElem?_map, hx0]; rfl), .inl ⟨_, rfl, _, _, rfl, rfl, p4, rfl, _, rfl, ite2b (fun c => ?_) fun c => ?_⟩⟩
  · refine ⟨_, rfl, "a", (n : Int), rfl, rfl, rfl, by omega, by omega, q _ H (Same.refl H) ?_⟩
    rw [len_of_tx (n := n) (by rw [tx_mul_a]; exact List.length_replicate)]
    exact hn
  · refine ⟨⟨_, rfl⟩, _, rfl, (1 : Int), rfl, _, rfl, _, _, rfl, rfl, _, rfl, a, _, rfl, hsq, fun L nL => ?_⟩
    have e1 : cutV (ns.map V.int) (some 1) (some (1 + (n : Int))) = ((ns.drop 1).take n).map V.int := by
      have h := cut_two (xs := ns.map V.int) (j := 1) (k := 1 + n)
      rw [← List.map_drop, ← List.map_take, show 1 + n - 1 = n by omega] at h
      rw [← h]
      congr 2
    have hL : ∀ H', Same (upd H L (.lst (cutV (ns.map V.int) (some 1) (some (1 + (n : Int)))))) H' → H' L = some (.lst (((ns.drop 1).take n).map V.int)) := fun H' s => by
      rw [← e1]
      exact s _ _ upd_same
    obtain ⟨H0, eH0⟩ : ∃ H0, H0 = upd H L (.lst (cutV (ns.map V.int) (some 1) (some (1 + (n : Int))))) := ⟨_, rfl⟩
    have s0 : Same H H0 := by rw [eH0]; exact same_new nL _
    rw [← eH0] at hL
    refine ⟨L, rfl, ⟨_, SqL.of upd_same⟩, fun G nG => walk_list (xs := ((ns.drop 1).take n).map V.int) (fun i H' => ∃ ys : List Str, Same H0 H' ∧ H0 G = none ∧ H' G = some (.lst (ys.map V.str)) ∧ ys.length = i ∧ ∀ y ∈ ys, y.length = 1)
      ⟨[], ?_, ?_, upd_same, rfl, fun y hy => nomatch hy⟩ (fun i H1 _ h => ?_) (fun i x H1 hx h => ?_) fun H1 h => ?_⟩
    · rw [eH0]; exact same_new nG _
    · rw [eH0]; exact nG
    · obtain ⟨ys, s1, _⟩ := h
      exact SqL.of (hL H1 s1)
    · obtain ⟨ys, s1, n1, h1, h2, h3⟩ := h
      rw [List.getElem?_map] at hx
      cases e : ((ns.drop 1).take n)[i]? with
      | none => rw [e] at hx; cases hx
      | some v =>
        rw [e] at hx
        obtain rfl := (Option.some.inj hx).symm
        have li : i < 6 := by
          have h := (List.getElem?_eq_some_iff.mp e).1
          rw [List.length_take] at h
          omega
        have hv := hd v (List.mem_of_mem_drop (List.mem_of_mem_take (List.mem_of_getElem? e)))
        refine ⟨rfl, _, rfl, v, rfl, hv.1, fun c hc => ⟨ys.map V.str, h1, ?_, ys ++ [⟨#[c]⟩], same_over s1 n1 _, n1, ?_, by rw [List.length_append, h2]; rfl, fun y hy => ?_⟩⟩
        · rw [List.length_map]
          exact small_line (by omega)
        · rw [upd_same, List.map_append]; rfl
        · rcases List.mem_append.mp hy with h | h
          · exact h3 y h
          · rw [List.mem_singleton.mp h]; rfl
    · obtain ⟨ys, s1, n1, h1, h2, h3⟩ := h
      have ln : ys.length ≤ 6 := by
        rw [h2, List.length_map, List.length_take]
        omega
      refine ⟨_, G, ys, rfl, rfl, .inl (SqL.of h1), ?_, q _ H1 (s0.trans s1) ?_⟩
      · rw [sum_ones h3]
        have e : ("" : Str).length = 0 := rfl
        rw [e]
        omega
      · rw [join_len h3]
        exact ln
end
end Pd
set_option Elab.async false
set_option linter.all false
set_option maxRecDepth 100000
set_option maxHeartbeats 4000000
namespace Pd
open PySem PySem.Spec PyProof.Rows L2
section
variable {P : Program} {w : World} {K : PySem.W.Frag} {mg : Str → Option Value} {base : Heap} {f : Addr} {fd : FuncData}
/-- all but one list stays -/
def Kb (b : Addr) (H H' : Hp) : Prop := ∀ c o, H c = some o → c ≠ b → H' c = some o
theorem Kb.refl {b : Addr} (H : Hp) : Kb b H H := fun _ _ h _ => h
theorem Kb.trans {b : Addr} {H H1 H2 : Hp} (a : Kb b H H1) (c : Kb b H1 H2) : Kb b H H2 := fun x o h n => c x o (a x o h n) n
theorem Kb.of {b : Addr} {H H' : Hp} (s : Same H H') : Kb b H H' := fun c o h _ => s c o h
theorem Kb.kt {b : Addr} {H H' : Hp} {xs : List V} (k : Kb b H H') (h : H b = some (.lst xs)) : Kt H H' := fun c o q n => k c o q fun e => by
  subst e
  rw [h] at q
  cases q
  cases n
theorem Kb.free {b p : Addr} {H H' : Hp} {xs : List V} (k : Kb b H H') (h : H' b = some (.lst xs)) (n : H' p = none) : H p = none := by
  cases q : H p with
  | none => rfl
  | some o =>
    by_cases e : p = b
    · subst e
      rw [h] at n
      cases n
    · rw [k p o q e] at n
      cases n
theorem Kb.over {b G : Addr} {H H1 : Hp} (k : Kb b H H1) (n : H G = none) (o : HO) : Kb b H (upd H1 G o) := fun c u h ne => by
  rw [upd_ne (ne_of_none h n)]
  exact k c u h ne
theorem Kb.add {b G : Addr} {H H1 : Hp} (k : Kb b H H1) (n : H1 G = none) (o : HO) : Kb b H (upd H1 G o) := k.trans (Kb.of (same_new n o))
theorem Kb.self {b : Addr} {H : Hp} {o : HO} : Kb b H (upd H b o) := fun c u h ne => by rw [upd_ne ne]; exact h
theorem Kb.seq {K : PySem.W.Frag} {b a : Addr} {H H' : Hp} {xs : List V} (k : Kb b H H') (n : a ≠ b) (h : SqL K H a xs) : SqL K H' a xs := by
  rcases h with (h | ⟨o, h⟩) | h
  · exact .inl (.inl (k _ _ h n))
  · exact .inl (.inr ⟨o, k _ _ h n⟩)
  · exact .inr h
/-- trees one level down, none at the ground -/
def spT (K : PySem.W.Frag) : Nat → Sp
  | 0 => fun _ _ _ _ => False
  | d + 1 => spLawTree K d
theorem flat_at : ∀ k : Bool, atI [V.str "row", V.str "or"] (if k = true then 1 else 0) = some (.str (flatWord k))
  | true => at1
  | false => at0
abbrev N_law_tree : List Str := ["_law_drops_here", "_law_spot", "_law_room", "_law_deep", "_law_drop", "_law_way", "_law_rest", "_law_many", "_law_parts", "_law_least", "_law_most", "_law_copies", "_law_k"]
theorem sc_law_tree : FnScope N_law_tree ["_law_drops_here", "_law_spot", "_law_room", "_law_deep"] (defScope s_law_tree) := ⟨rfl, rfl, rfl, by decide +kernel, rfl, by decide +kernel, by decide +kernel⟩
theorem ok_law_tree {gT gL gF : Addr} {d k : Nat} (T : Txt K mg) (F : FnP K "_law_tree" "_law_tree" s_law_tree f fd) (hk : 4 ≤ k) (h_law_leaf : Has P w K mg base "_law_leaf" gL ["_law_drop"] 3 (spLawLeaf K)) (h_law_flat : Has P w K mg base "_law_flat" gF ["_law_word", "_law_parts"] 1 (spLawFlat K))
    (h_law_tree : Has P w K mg base "_law_tree" gT ["_law_drops_here", "_law_spot", "_law_room", "_law_deep"] k (spT K d)) : FnOk P w K mg base CX0 (k + 1) f fd ["_law_drops_here", "_law_spot", "_law_room", "_law_deep"] (spLawTree K d) := by
  refine F.ok sc_law_tree (fun vs H Q E h => ?_) (fun cdv A outer s H vs Q E hr h => ?_)
  · obtain ⟨a, b, ns, room, spot, rfl, _⟩ := h
    rfl
  obtain ⟨a, b, ns, room, spot, rfl, hsq, nab, hd, l80, hb, r1, r8, hd3, q⟩ := h
  refine ⟨_, PSs.nox ((pss_cons (ps_set (i := 4) sc_law_tree.nd rfl (Or.inl rfl) (pe_ix ix_list (pv 0) (pe_op op_mod (pe_callTy call_int1 rfl T.z_int bb_int (pa_cons (pe_ix ix_list (pv 1) pe_int (fun _ _ => rfl)) pa_nil)) (pe_callB call_len_seq rfl T.z_len PySem.boot_len (pa_cons (pv 0) pa_nil))) (fun _ _ => rfl)))
    (pss_cons (ps_asg (pe_op op_add (pe_ix ix_list (pv 1) pe_int (fun _ _ => rfl)) pe_int) (pg_sub (pv 1) pe_int set_list))
    (pss_cons (ps_set (i := 5) sc_law_tree.nd rfl (Or.inl rfl) (pe_op op_mod (pe_callTy call_int1 rfl T.z_int bb_int (pa_cons (pv 4) pa_nil)) pe_int))
    (pss_cons (ps_set (i := 6) sc_law_tree.nd rfl (Or.inl rfl) (pe_op op_fdiv (pv 4) pe_int))
    (pss_cons (ps_if (PW.pt (pw_or (pt_cmpR op_eq (pv 3) pe_int (nomark _)) (pw_or (pt_cmpR op_lt (pv 2) pe_int (nomark _)) (pw_or1 (pt_cmpR op_lt (pv 5) pe_int (nomark _)))))) (pss_one (ps_ret (pe_callH h_law_leaf hr (by omega) rfl (pa_cons (pv 6) pa_nil)))) pss_nil)
    (pss_cons (ps_if (pt_cmpR op_lt (pv 5) pe_int (nomark _)) (pss_cons (ps_set (i := 7) sc_law_tree.nd rfl (Or.inr rfl) (pe_callB (call_min2 rfl) rfl T.z_min bb_min (pa_cons (pv 2) (pa_cons (pe_op op_add pe_int (pe_op op_mod (pe_callTy call_int1 rfl T.z_int bb_int (pa_cons (pv 6) pa_nil)) pe_int)) pa_nil))))
    (pss_cons (ps_setLc (i := 8) (own := [("_law_k", 12)]) rfl sc_law_tree.nd rfl rfl (sw_true rfl rfl rfl (by decide +kernel)) (pi_range1 rfl T.z_range (pa_cons (pv 7) pa_nil)) (blkOk_by (N := N_law_tree) (sc := defScope s_law_tree) (by decide +kernel)) (fun _ _ _ _ _ => pg_name (i := 12) sc_law_tree.nd rfl (Or.inl rfl)) (fun _ _ _ _ _ => pts_nil) (fun _ _ _ _ _ => (pe_callH h_law_tree hr (by omega) rfl (pa_cons (pv 0) (pa_cons (pv 1) (pa_cons (pe_callB (call_max2 rfl) rfl T.z_max bb_max (pa_cons pe_int (pa_cons (pe_op op_fdiv (pv 2) (pv 7)) pa_nil))) (pa_cons (pe_op op_sub (pv 3) pe_int) pa_nil)))))))
    (pss_one (ps_ret (pe_callH h_law_flat hr (by omega) rfl (pa_cons (pe_ix ix_list (pe_lst (pa_cons pe_str (pa_cons pe_str pa_nil))) (pe_callTy call_int1 rfl T.z_int bb_int (pa_cons (pe_cmpR op_gt (pv 5) pe_int (nomark _)) pa_nil)) (fun _ _ => rfl)) (pa_cons (pv 8) pa_nil))))))) pss_nil)
    (pss_cons (ps_set (i := 9) sc_law_tree.nd rfl (Or.inl rfl) (pe_op op_mod (pe_callTy call_int1 rfl T.z_int bb_int (pa_cons (pv 6) pa_nil)) (pe_callB (call_min2 rfl) rfl T.z_min bb_min (pa_cons pe_int (pa_cons (pe_op op_add (pv 2) pe_int) pa_nil)))))
    (pss_cons (ps_set (i := 10) sc_law_tree.nd rfl (Or.inl rfl) (pe_ix ix_list (pe_lst (pa_cons pe_non (pa_cons pe_non (pa_cons (pv 9) (pa_cons (pe_op op_add (pv 9) (pe_op op_mod (pe_callTy call_int1 rfl T.z_int bb_int (pa_cons (pe_op op_fdiv (pv 6) pe_int) pa_nil)) pe_int)) pa_nil))))) (pe_op op_mod (pe_callTy call_int1 rfl T.z_int bb_int (pa_cons (pe_op op_fdiv (pv 6) pe_int) pa_nil)) pe_int) (fun _ _ => rfl)))
    (pss_cons (ps_if (pt_cmpR op_isN (pv 10) pe_non (nomark _)) (pss_one (ps_set (i := 11) sc_law_tree.nd rfl (Or.inl rfl) (pe_callB (call_max2 rfl) rfl T.z_max bb_max (pa_cons pe_int (pa_cons (pv 9) pa_nil))))) (pss_cons (ps_set (i := 10) sc_law_tree.nd rfl (Or.inl rfl) (pe_callB (call_min2 rfl) rfl T.z_min bb_min (pa_cons (pv 10) (pa_cons (pv 2) pa_nil))))
    (pss_cons (ps_set (i := 9) sc_law_tree.nd rfl (Or.inl rfl) (pe_callB (call_min2 rfl) rfl T.z_min bb_min (pa_cons (pv 9) (pa_cons (pv 10) pa_nil))))
    (pss_one (ps_set (i := 11) sc_law_tree.nd rfl (Or.inl rfl) (pe_callB (call_max2 rfl) rfl T.z_max bb_max (pa_cons pe_int (pa_cons (pv 10) pa_nil))))))))
    (pss_one (ps_ret (pe_tup (pa_cons pe_str (pa_cons (pe_callH h_law_tree hr (by omega) rfl (pa_cons (pv 0) (pa_cons (pv 1) (pa_cons (pe_callB (call_max2 rfl) rfl T.z_max bb_max (pa_cons pe_int (pa_cons (pe_op op_fdiv (pv 2) (pv 11)) pa_nil))) (pa_cons (pe_op op_sub (pv 3) pe_int) pa_nil))))) (pa_cons (pv 9) (pa_cons (pv 10) pa_nil))))))))))))))))), ?_⟩
  have p80 : (0 : Int) < 80 := by decide
  have p10 : (0 : Int) < 10 := by decide
  obtain ⟨v0, hv0, he⟩ := at_emod (xs := ns.map V.int) (i := spot) (n := 80) (by rw [List.length_map, l80]; rfl) p80
  obtain ⟨x, hx, rfl⟩ := List.mem_map.mp hv0
  have hx2 := hd x hx
  have plen : (fun _ j : Int => 0 < j) spot ((ns.map V.int).length : Nat) := by show (0 : Int) < ((ns.map V.int).length : Nat); rw [List.length_map, l80]; decide
  refine ⟨_, rfl, _, rfl, b, _, _, _, rfl, rfl, SqL.of hb, at0, .inl ⟨_, rfl, _, rfl, a, _, rfl, .inl hsq, _, _, rfl, rfl, plen, a, _, _, _, rfl, rfl, hsq, (by show atI _ (spot % ((ns.map V.int).length : Nat)) = _; rw [List.length_map, l80]; exact he), ?_⟩⟩
  refine ⟨_, rfl, b, _, _, _, rfl, rfl, SqL.of hb, at0, _, _, rfl, rfl, _, rfl, b, _, _, 0, rfl, rfl, hb, rfl, ?_⟩
  have hb1 : upd H b (.lst [.int (spot + 1)]) b = some (.lst [.int (spot + 1)]) := upd_same
  have kb1 : Kb b H (upd H b (.lst [.int (spot + 1)])) := Kb.self
  refine ⟨_, rfl, .inl ⟨_, rfl, _, _, rfl, rfl, p10, ?_⟩⟩
  refine ⟨_, rfl, _, _, rfl, rfl, ⟨by decide, by decide⟩, ?_⟩
  have hx10 : 0 ≤ x / 10 ∧ x / 10 < 144144 := by omega
  have pow1 : 1 ≤ 4 ^ (d + 1) := Nat.one_le_pow _ _ (by decide)
  refine ⟨_, rfl, rfl, _, rfl, iteEither ?leaf fun e1 A => ⟨_, rfl, _, _, rfl, rfl, _, rfl, ite2b (fun _ => A) fun e2 => ⟨_, rfl, _, _, rfl, rfl, _, rfl, ite2b (fun _ => A) fun e3 => ?_⟩⟩⟩
  · refine ⟨_, rfl, _, rfl, by show 0 ≤ x / 10; omega, by show x / 10 < 1441440; omega, fun v p H' s1 hp hw hdp hn => q v p _ H' (kb1.trans (Kb.of s1)) (s1 _ _ hb1) hp hw (by omega) (by omega)⟩
  obtain ⟨d', rfl⟩ : ∃ d', d = d' + 1 := by
    cases d with
    | zero => cases e1
    | succ d' => exact ⟨d', rfl⟩
  have r2 : 2 ≤ room := by
    have := of_decide_eq_false e2
    omega
  have dd : ((d' + 1 : Nat) : Int) - 1 = (d' : Int) := by omega
  have p2 : (0 : Int) < 2 := by decide
  have p3 : (0 : Int) < 3 := by decide
  have p4 : (0 : Int) < 4 := by decide
  have pw2 : 4 ^ (d' + 1 + 1) = 4 * 4 ^ (d' + 1) := by rw [Nat.pow_succ, Nat.mul_comm]
  have pw1 : 1 ≤ 4 ^ (d' + 1) := Nat.one_le_pow _ _ (by decide)
  have rdiv : ∀ m : Int, 1 ≤ m → 1 ≤ (if room / m > 1 then room / m else 1) ∧ (if room / m > 1 then room / m else 1) ≤ 8 := fun m hm => by
    have h1 : room / m ≤ room := Int.ediv_le_self m (by omega)
    split <;> omega
  refine ⟨_, rfl, _, _, rfl, rfl, _, rfl, ite2b (fun c => ?_) fun c => ?_⟩
  · have hM : ∀ r : Int, 0 ≤ r % 2 → r % 2 < 2 → 2 ≤ (if 2 + r % 2 < room then 2 + r % 2 else room) ∧ (if 2 + r % 2 < room then 2 + r % 2 else room) ≤ 3 := fun r g1 g2 => by split <;> omega
    have hM := hM (x / 10) (Int.emod_nonneg _ (by decide)) (Int.emod_lt_of_pos _ (by decide))
    refine ⟨_, rfl, _, rfl, .inl ⟨_, rfl, _, _, rfl, rfl, p2, _, _, rfl, rfl, _, _, rfl, ?_⟩⟩
    obtain ⟨M, eM⟩ : ∃ M, M = (if 2 + x / 10 % 2 < room then 2 + x / 10 % 2 else room) := ⟨_, rfl⟩
    rw [← eM] at hM
    have bM : -(2 ^ 62) ≤ M ∧ M < 2 ^ 62 := by omega
    have lM : M.toNat ≤ 3 := by omega
    have cM : CDiv room M := ⟨by omega, by omega⟩
    have rM := rdiv M (by omega)
    subst eM
    refine ⟨_, rfl, _, rfl, bM.1, bM.2, fun G nG => walk_range (fun i H' => ∃ (us : List V) (ps : List Pat) (spot' : Int), Kb b H H' ∧ H G = none ∧ H' G = some (.lst us) ∧ H' b = some (.lst [.int spot']) ∧ DpAll K H' us (ps.map enc) ∧ us.length = i ∧ ∀ p ∈ ps, Wf p ∧ dep p ≤ d' + 1 ∧ (nodes p).length ≤ 4 ^ (d' + 1)) ?start (fun i H2 hi h => ?_) fun H2 h => ?_⟩
    · exact ⟨[], [], spot + 1, Kb.add kb1 nG _, kb1.free hb1 nG, upd_same, same_new nG _ _ _ hb1, .nil, rfl, fun p hp => nomatch hp⟩
    · obtain ⟨us, ps, spot', kb2, n0, hG, hb2, hus, lus, hps⟩ := h
      refine ⟨rfl, _, rfl, _, rfl, _, rfl, _, rfl, _, _, rfl, rfl, cM, _, _, rfl, _, rfl, _, _, rfl, rfl, ?_⟩
      refine ⟨a, b, ns, _, spot', congrArg (fun t => [V.ref a, V.ref b, _, V.int t]) dd, kb2.seq nab hsq, nab, hd, l80, hb2, rM.1, rM.2, by omega, fun v p spot2 H3 kb3 hb3 hp hw hdp hn => ?_⟩
      have nGb : G ≠ b := fun e => by
        subst e
        rw [hb] at n0
        cases n0
      have hG3 := kb3 G _ hG nGb
      have kt3 : Kt H2 H3 := Kb.kt kb3 hb2
      refine ⟨us, hG3, small_line (by omega), us ++ [v], ps ++ [p], spot2, (Kb.trans kb2 kb3).over n0 _, n0, upd_same, by rw [upd_ne nGb.symm]; exact hb3, ?_, by rw [List.length_append, lus]; rfl, fun p' hp' => ?_⟩
      · rw [List.map_append]
        have kt4 := Kt.lst (ys := us ++ [v]) hG3
        refine DpAll.append ((kt3.trans kt4).dpAll ?_ hus) (.one (kt4.dp (enc_noL p) hp))
        rw [← encs_map]
        exact encs_noL ps
      · rcases List.mem_append.mp hp' with h | h
        · exact hps p' h
        · rw [List.mem_singleton.mp h]
          exact ⟨hw, hdp, hn⟩
    · obtain ⟨us, ps, spot', kb2, n0, hG, hb2, hus, lus, hps⟩ := h
      have lps : ps.length = us.length := by
        have := hus.len
        rw [List.length_map] at this
        exact this.symm
      have pw3 : 4 ^ (d' + 1) ≤ 4 ^ 3 := Nat.pow_le_pow_right (by decide) (by omega)
      refine ⟨(by show 2 ≤ sizeLine; exact small_le (by decide)), fun L nL => ⟨_, rfl, _, _, rfl, rfl, .inr ⟨_, rfl, L, _, _, _, rfl, rfl, SqL.of upd_same, flat_at _, _, rfl, ?_⟩⟩⟩
      have sL := same_new nL (.lst [.str "row", .str "or"])
      refine ⟨_, G, us, ps, d' + 1, 4 ^ (d' + 1), rfl, SqL.of (sL _ _ hG), (Kp.of sL).dpAll hus, by omega, hps, Nat.le_trans pw3 (by decide), by omega, fun v p H3 s3 hp hw hdp hn => ?_⟩
      exact q v p spot' H3 (kb2.trans (Kb.of (sL.trans s3))) (s3 _ _ (sL _ _ hb2)) hp hw hdp (by omega)
  · have hL : ∀ r : Int, 0 < (if room + 1 < 4 then room + 1 else 4) ∧ 0 ≤ r % (if room + 1 < 4 then room + 1 else 4) ∧ r % (if room + 1 < 4 then room + 1 else 4) ≤ 3 := fun r => by
      have h0 : 0 < (if room + 1 < 4 then room + 1 else 4) ∧ (if room + 1 < 4 then room + 1 else 4) ≤ 4 := by split <;> omega
      have h1 := Int.emod_nonneg r (show (if room + 1 < 4 then room + 1 else 4) ≠ 0 by omega)
      have h2 := Int.emod_lt_of_pos r h0.1
      exact ⟨h0.1, h1, by omega⟩
    have hL := hL (x / 10)
    refine ⟨_, rfl, .inl ⟨_, rfl, _, rfl, _, _, rfl, rfl, _, _, rfl, _, _, rfl, rfl, hL.1, ?_⟩⟩
    obtain ⟨L0, eL⟩ : ∃ L0, L0 = x / 10 % (if room + 1 < 4 then room + 1 else 4) := ⟨_, rfl⟩
    rw [← eL] at hL
    have hL := hL.2
    have m3 : 0 ≤ x / 10 / 4 % 3 ∧ x / 10 / 4 % 3 < 3 := ⟨Int.emod_nonneg _ (by decide), Int.emod_lt_of_pos _ (by decide)⟩
    obtain ⟨v, hv, he⟩ := at_emod (xs := [V.non, V.non, V.int L0, V.int (L0 + x / 10 / 4 % 3)]) (i := x / 10 / 12) (n := 4) rfl p4
    have hv2 : v = .non ∨ ∃ m, v = .int m ∧ L0 ≤ m ∧ m ≤ L0 + 2 := by
      rcases List.mem_cons.mp hv with e | hv
      · exact .inl e
      rcases List.mem_cons.mp hv with e | hv
      · exact .inl e
      rcases List.mem_cons.mp hv with e | hv
      · exact .inr ⟨_, e, by omega, by omega⟩
      · exact .inr ⟨_, List.mem_singleton.mp hv, by omega, by omega⟩
    have fin : ∀ (l : Int) (m : Option Int) (v : V) (p : Pat) (spot2 : Int) (H1 H3 : Hp) (t : Addr) (u : V), 0 ≤ l → l ≤ 3 → (u = match m with | none => V.non | some m => .int m) → (∀ x, m = some x → l ≤ x ∧ x ≤ 8) → Kb b H H3 → H3 b = some (.lst [.int spot2]) → PtV K H3 v p → Wf p → dep p ≤ d' + 1 → (nodes p).length ≤ 4 ^ (d' + 1) → H3 t = none →
        Q (.ref t) (upd H3 t (.tup [.str "repeat", v, .int l, u])) := fun l m v p spot2 H1 H3 t u l0 l3 hu hm kb hb3 hp hw hdp hn nt => by
      have s4 := same_new nt (.tup [.str "repeat", v, .int l, u])
      have hT : SqT K (upd H3 t (.tup [.str "repeat", v, .int l, u])) t [.str "repeat", v, .int ((l.toNat : Nat) : Int), om (m.map Int.toNat)] := by
        refine SqT.of ?_
        rw [upd_same, Int.toNat_of_nonneg l0, hu]
        cases m with
        | none => rfl
        | some m =>
          have := hm m rfl
          show _ = some (HO.tup [V.str "repeat", v, V.int l, V.int ((m.toNat : Nat) : Int)])
          rw [Int.toNat_of_nonneg (by omega)]
      refine q _ (.rep p l.toNat (m.map Int.toNat)) spot2 _ (kb.add nt _) (s4 _ _ hb3) (.mkRep hT ((Kp.of s4).dp hp)) ?_ ?_ ?_
      · rw [Wf]
        refine ⟨hw, by omega, fun y hy => ?_⟩
        cases m with
        | none => cases hy
        | some m =>
          have h1 := hm m rfl
          have h2 := Option.some.inj hy
          omega
      · rw [dep]
        omega
      · rw [nodes_eq]
        show (nodess [p]).length + 1 ≤ _
        rw [nodess_one]
        omega
    have l4 : (4 : Nat) ≤ sizeLine := small_le (by decide)
    subst eL
    refine ⟨_, rfl, _, rfl, _, rfl, _, _, rfl, rfl, ⟨by decide, by decide⟩, .inl ⟨_, rfl, _, _, rfl, rfl, p3, _, _, rfl, rfl, l4, fun R nR => ⟨_, rfl, _, _, rfl, rfl, ⟨by decide, by decide⟩, .inl ⟨_, rfl, _, _, rfl, rfl, p4, R, _, _, _, rfl, rfl, SqL.of upd_same, he, ?_⟩⟩⟩⟩
    obtain ⟨HR, eHR⟩ : ∃ HR, HR = upd (upd H b (.lst [.int (spot + 1)])) R (.lst [V.non, V.non, V.int (x / 10 % (if room + 1 < 4 then room + 1 else 4)), V.int (x / 10 % (if room + 1 < 4 then room + 1 else 4) + x / 10 / 4 % 3)]) := ⟨_, rfl⟩
    have kbR : Kb b H HR := by rw [eHR]; exact kb1.add nR _
    have hbR : HR b = some (.lst [.int (spot + 1)]) := by rw [eHR]; exact same_new nR _ _ _ hb1
    subst eHR
    rcases hv2 with rfl | ⟨m, rfl, m0, m2⟩
    · have hC : ∀ y : Int, 0 ≤ y → y ≤ 3 → 1 ≤ (if y > 1 then y else 1) ∧ (if y > 1 then y else 1) ≤ 3 := fun y _ _ => by split <;> omega
      have hC := hC _ hL.1 hL.2
      have rC := rdiv _ hC.1
      have cC : CDiv room _ := ⟨hC.1, Int.lt_of_le_of_lt hC.2 (by decide)⟩
      refine ⟨_, rfl, rfl, _, rfl, iteTb rfl ⟨_, rfl, _, _, rfl, ?_⟩⟩
      refine ⟨_, rfl, _, rfl, _, rfl, _, rfl, _, _, rfl, rfl, cC, _, _, rfl, _, rfl, _, _, rfl, rfl, ?_⟩
      refine ⟨a, b, ns, _, spot + 1, congrArg (fun t => [V.ref a, V.ref b, _, V.int t]) dd, kbR.seq nab hsq, nab, hd, l80, hbR, rC.1, rC.2, by omega, fun v p spot2 H3 kb3 hb3 hp hw hdp hn => ?_⟩
      refine ⟨_, rfl, _, rfl, l4, fun t nt => ?_⟩
      exact fin _ none v p spot2 H H3 t _ hL.1 hL.2 rfl (fun _ e => nomatch e) (kbR.trans kb3) hb3 hp hw hdp hn nt
    · have hC : ∀ l m : Int, 0 ≤ l → l ≤ 3 → l ≤ m → 0 ≤ (if room < m then room else m) ∧ (if room < m then room else m) ≤ 8 ∧ 0 ≤ (if (if room < m then room else m) < l then (if room < m then room else m) else l) ∧ (if (if room < m then room else m) < l then (if room < m then room else m) else l) ≤ 3 ∧ (if (if room < m then room else m) < l then (if room < m then room else m) else l) ≤ (if room < m then room else m) ∧
          1 ≤ (if (if room < m then room else m) > 1 then (if room < m then room else m) else 1) ∧ (if (if room < m then room else m) > 1 then (if room < m then room else m) else 1) ≤ 8 := fun l m h1 h2 h3 => by
        have g1 : 0 ≤ (if room < m then room else m) ∧ (if room < m then room else m) ≤ 8 := by split <;> omega
        obtain ⟨M, eM⟩ : ∃ M, M = (if room < m then room else m) := ⟨_, rfl⟩
        rw [← eM] at g1 ⊢
        refine ⟨g1.1, g1.2, ?_, ?_, ?_, ?_, ?_⟩ <;> split <;> omega
      obtain ⟨c1, c2, c3, c4, c5, c6, c7⟩ := hC _ m hL.1 hL.2 m0
      have rC := rdiv _ c6
      have cC : CDiv room _ := ⟨c6, Int.lt_of_le_of_lt c7 (by decide)⟩
      refine ⟨_, rfl, rfl, _, rfl, iteFb rfl ⟨_, rfl, _, rfl, _, _, rfl, ⟨_, rfl, _, rfl, _, _, rfl, ⟨_, rfl, _, _, rfl, ?_⟩⟩⟩⟩
      refine ⟨_, rfl, _, rfl, _, rfl, _, rfl, _, _, rfl, rfl, cC, _, _, rfl, _, rfl, _, _, rfl, rfl, ?_⟩
      refine ⟨a, b, ns, _, spot + 1, congrArg (fun t => [V.ref a, V.ref b, _, V.int t]) dd, kbR.seq nab hsq, nab, hd, l80, hbR, rC.1, rC.2, by omega, fun v p spot2 H3 kb3 hb3 hp hw hdp hn => ?_⟩
      refine ⟨_, rfl, _, rfl, l4, fun t nt => ?_⟩
      exact fin _ (some _) v p spot2 H H3 t _ c3 c4 rfl (fun y e => by obtain rfl := Option.some.inj e; exact ⟨c5, c2⟩) (kbR.trans kb3) hb3 hp hw hdp hn nt
end
end Pd
set_option Elab.async false
set_option linter.all false
set_option maxRecDepth 100000
set_option maxHeartbeats 4000000
namespace Pd
open PySem PySem.Spec PyProof.Rows L2
section
variable {P : Program} {w : World} {K : PySem.W.Frag} {mg : Str → Option Value} {base : Heap} {f : Addr} {fd : FuncData}
/-- places, each once, are few -/
theorem few_of {n : Nat} {xs : List Nat} (h : xs.Nodup) (hn : ∀ e ∈ xs, e ≤ n) : xs.length ≤ n + 1 := nodup_below (n + 1) h fun x hx => Nat.lt_succ_of_le (hn x hx)
theorem addNew_take {told xs : List Nat} {i x : Nat} (h : xs[i]? = some x) : addNew told (xs.take (i + 1)) = if x ∈ addNew told (xs.take i) then addNew told (xs.take i) else addNew told (xs.take i) ++ [x] := by
  rw [take_snoc xs i h, addNew_snoc]
theorem onward_take {f : Nat → List Nat} {xs : List Nat} {i x : Nat} (h : xs[i]? = some x) : onward f (xs.take (i + 1)) = addNew (onward f (xs.take i)) (f x) := by
  rw [take_snoc xs i h, onward_snoc]
abbrev N_law_onward : List Str := ["_law_part", "_law_text_here", "_law_starts", "_law_told", "_law_at", "_law_end"]
theorem sc_law_onward : FnScope N_law_onward ["_law_part", "_law_text_here", "_law_starts"] (defScope s_law_onward) := ⟨rfl, rfl, rfl, by decide +kernel, rfl, by decide +kernel, by decide +kernel⟩
theorem ok_law_onward {gE : Addr} {D k : Nat} (T : Txt K mg) (F : FnP K "_law_onward" "_law_onward" s_law_onward f fd) (h_law_ends : Has P w K mg base "_law_ends" gE ["_law_tree_here", "_law_text_here", "_law_start"] k (spLawEnds K D)) :
    FnOk P w K mg base CX0 (k + 1) f fd ["_law_part", "_law_text_here", "_law_starts"] (spLawOnward K D) := by
  refine F.ok sc_law_onward (fun vs H Q E h => ?_) (fun cdv A outer s H vs Q E hr h => ?_)
  · obtain ⟨v, p, z, a, xs, rfl, _⟩ := h
    rfl
  obtain ⟨v, p, z, a, xs, rfl, hp, hw, hdp, hz, hsq, hxs, q⟩ := h
  refine ⟨_, PSs.nox ((pss_cons (ps_set (i := 3) sc_law_onward.nd rfl (Or.inl rfl) (pe_lst pa_nil))
    (pss_cons (ps_for PassesOwn.never rfl (pi_list (pv 2)) (pg_name (i := 4) sc_law_onward.nd rfl (Or.inl rfl)) (pss_one (ps_for PassesOwn.never rfl (pi_list (pe_callH h_law_ends hr (by omega) rfl (pa_cons (pv 0) (pa_cons (pv 1) (pa_cons (pv 4) pa_nil))))) (pg_name (i := 5) sc_law_onward.nd rfl (Or.inl rfl)) (pss_one (ps_if (pt_cmpR op_notIn_seq (pv 5) (pv 3) rfl) (pss_one (ps_expr (pe_bm PySem.F.plainAttrs_list PySem.F.slot_list_append PySem.F.type_list_append mt_append (pv 3) (pa_cons (pv 5) pa_nil)))) pss_nil)))))
    (pss_one (ps_ret (pv 3)))))), ?_⟩
  have htx := tx_len z
  let f0 := lends (tx z) p
  have hle : ∀ a e, a ≤ z.length → e ∈ f0 a → e ≤ z.length := fun a e ha he => by
    have := lends_le (tx z) p a e (by omega) he
    omega
  refine ⟨(by show 0 ≤ sizeLine; exact small_le (by decide)), fun R nR => ?_⟩
  refine ⟨_, rfl, a, rfl, ⟨nv xs, (same_new nR _).seq hsq⟩, for_list (xs := nv xs) (fun i σ H' => ∃ v4 v5 : Option V, σ = [some v, some (.str z), some (.ref a), some (.ref R), v4, v5] ∧ Same H H' ∧ H' R = some (.lst (nv (onward f0 (xs.take i))))) ⟨none, none, rfl, same_new nR _, upd_same⟩ (fun i σ H1 _ h => ?_) (fun i x σ H1 hx h => ?_) fun σ H1 h => ?_⟩
  · obtain ⟨_, _, _, s1, _⟩ := h
    exact s1.seq hsq
  · obtain ⟨v4, v5, rfl, s1, hR⟩ := h
    obtain ⟨y, hy, rfl⟩ := nv_atV hx
    have ym := hxs y (List.mem_of_getElem? hy)
    refine ⟨_, rfl, _, rfl, _, rfl, v, p, z, y, rfl, (Kp.of s1).dp hp, hw, hdp, hz, ym, fun b H2 s2 nb hb => ⟨b, rfl, ⟨_, SqL.of hb⟩, ?_⟩⟩
    have hR2 := s2 _ _ hR
    have nbR : b ≠ R := fun e => by
      subst e
      rw [hR] at nb
      cases nb
    refine for_list (xs := nv (f0 y)) (fun j σ H' => ∃ v5 : Option V, σ = [some v, some (.str z), some (.ref a), some (.ref R), some (.int (y : Int)), v5] ∧ Same H H' ∧ H' b = some (.lst (nv (f0 y))) ∧ H' R = some (.lst (nv (addNew (onward f0 (xs.take i)) ((f0 y).take j))))) ⟨v5, rfl, s1.trans s2, hb, hR2⟩ (fun j σ H3 _ h => ?_) (fun j u σ H3 hu h => ?_) fun σ H3 h => ?_
    · obtain ⟨_, _, _, h3, _⟩ := h
      exact SqL.of h3
    · obtain ⟨v5, rfl, s3, hb3, hR3⟩ := h
      obtain ⟨e, he, rfl⟩ := nv_atV hu
      have el := hle y e ym (List.mem_of_getElem? he)
      have hnd : (addNew (onward f0 (xs.take i)) ((f0 y).take j)).Nodup := addNew_nodup _ _ (onward_nodup _ _)
      have hlm : ∀ e ∈ addNew (onward f0 (xs.take i)) ((f0 y).take j), e ≤ z.length := fun e he => by
        rcases (mem_addNew _ _).mp he with h | h
        · exact onward_le hle (fun e he => hxs e (List.mem_of_mem_take he)) e h
        · exact hle y e ym (List.mem_of_mem_take h)
      have few := few_of hnd hlm
      refine ⟨_, rfl, _, rfl, R, _, rfl, .inl (SqL.of hR3), rfl, nv_flat _, _, rfl, ?_⟩
      rw [nv_in]
      refine ite2b (fun c => ?_) fun c => ?_
      · have ne : ¬ e ∈ addNew (onward f0 (xs.take i)) ((f0 y).take j) := fun h => by rw [decide_eq_true h] at c; cases c
        refine ⟨_, rfl, .inl ⟨rfl, _, SqL.of hR3⟩, _, rfl, R, _, _, rfl, rfl, hR3, by rw [nv_len]; exact small_line (by omega), _, rfl, same_over s3 nR _, by rw [upd_ne nbR]; exact hb3, ?_⟩
        rw [upd_same, nv_snoc, addNew_take he, if_neg ne]
      · have yes : e ∈ addNew (onward f0 (xs.take i)) ((f0 y).take j) := Classical.byContradiction fun h => by rw [decide_eq_false h] at c; cases c
        exact ⟨_, rfl, s3, hb3, by rw [addNew_take he, if_pos yes]; exact hR3⟩
    · obtain ⟨v5, rfl, s3, hb3, hR3⟩ := h
      rw [nv_len, List.take_length] at hR3
      exact ⟨_, _, rfl, s3, by rw [onward_take hy]; exact hR3⟩
  · obtain ⟨v4, v5, rfl, s1, hR⟩ := h
    rw [nv_len, List.take_length] at hR
    exact ⟨_, rfl, q R H1 s1 nR hR⟩
end
end Pd
set_option Elab.async false
set_option linter.all false
set_option maxRecDepth 100000
set_option maxHeartbeats 4000000
namespace Pd
open PySem PySem.Spec PyProof.Rows L2
section
variable {P : Program} {w : World} {K : PySem.W.Frag} {mg : Str → Option Value} {base : Heap} {f : Addr} {fd : FuncData}
abbrev nds (xs : List Nat) : List PyData := xs.map fun e : Nat => PyData.int (e : Int)
theorem dp_nv {K : PySem.W.Frag} {H : Hp} : ∀ xs : List Nat, DpAll K H (nv xs) (nds xs)
  | [] => .nil
  | x :: xs => .cons (.int _) (dp_nv xs)
theorem lay_nds : ∀ xs : List Nat, PyData.canLayAll0 (nds xs) = true ∧ PyData.depthAll (nds xs) = 0
  | [] => ⟨rfl, rfl⟩
  | x :: xs => by
    obtain ⟨h1, h2⟩ := lay_nds xs
    refine ⟨?_, ?_⟩
    · show PyData.canLayAll0 (PyData.int _ :: nds xs) = true
      rw [PyData.canLayAll0, h1]
      rfl
    · show PyData.depthAll (PyData.int _ :: nds xs) = 0
      rw [PyData.depthAll, h2]
      rfl
theorem shaped_nds (xs : List Nat) : SeqAt.shaped (.list (nds xs)) = true := by
  unfold SeqAt.shaped
  obtain ⟨h1, h2⟩ := lay_nds xs
  rw [PyData.canLay0, h1, PyData.depth, h2]
  rfl
theorem shaped_nil : SeqAt.shaped (.list []) = true := shaped_nds []
theorem eqv_nds_nil : ∀ xs : List Nat, PyData.eqv (.list (nds xs)) (.list []) = decide (xs = [])
  | [] => by
    rw [PyData.eqv]
    show PyData.eqvAll [] [] = _
    rw [PyData.eqvAll]
    rfl
  | x :: xs => by
    rw [PyData.eqv]
    show PyData.eqvAll (PyData.int _ :: nds xs) [] = _
    rw [PyData.eqvAll]
    rfl
abbrev N_law_copied : List Str := ["_law_tree_here", "_law_text_here", "_law_start", "_law_told", "_law_k", "_law_turns", "_law_fresh", "_law_end"]
theorem sc_law_copied : FnScope N_law_copied ["_law_tree_here", "_law_text_here", "_law_start"] (defScope s_law_copied) := ⟨rfl, rfl, rfl, by decide +kernel, rfl, by decide +kernel, by decide +kernel⟩
theorem ok_law_copied {gO : Addr} {D k : Nat} (T : Txt K mg) (F : FnP K "_law_copied" "_law_copied" s_law_copied f fd) (h_law_onward : Has P w K mg base "_law_onward" gO ["_law_part", "_law_text_here", "_law_starts"] k (spLawOnward K D)) :
    FnOk P w K mg base CX0 (k + 1) f fd ["_law_tree_here", "_law_text_here", "_law_start"] (spLawCopied K D) := by
  refine F.ok sc_law_copied (fun vs H Q E h => ?_) (fun cdv A outer s H vs Q E hr h => ?_)
  · obtain ⟨v, p, l, m, z, s, rfl, _⟩ := h
    rfl
  obtain ⟨v, p, l, m, z, s, rfl, hp, hw, hdp, hz, hs, q⟩ := h
  refine ⟨_, PSs.nox ((pss_cons (ps_set (i := 3) sc_law_copied.nd rfl (Or.inr rfl) (pe_lst (pa_cons (pv 2) pa_nil)))
    (pss_cons (ps_for PassesOwn.never rfl (pi_range1 rfl T.z_range (pa_cons (pe_ix ix_tup (pv 0) pe_int (fun _ _ => rfl)) pa_nil)) (pg_name (i := 4) sc_law_copied.nd rfl (Or.inl rfl)) (pss_one (ps_set (i := 3) sc_law_copied.nd rfl (Or.inr rfl) (pe_callH h_law_onward hr (by omega) rfl (pa_cons (pe_ix ix_tup (pv 0) pe_int (fun _ _ => rfl)) (pa_cons (pv 1) (pa_cons (pv 3) pa_nil)))))))
    (pss_cons (ps_set (i := 5) sc_law_copied.nd rfl (Or.inl rfl) (pe_op op_add (pe_callB call_len_str rfl T.z_len PySem.boot_len (pa_cons (pv 1) pa_nil)) pe_int))
    (pss_cons (ps_if (pt_cmpR op_notN (pe_ix ix_tup (pv 0) pe_int (fun _ _ => rfl)) pe_non (nomark _)) (pss_one (ps_set (i := 5) sc_law_copied.nd rfl (Or.inl rfl) (pe_op op_sub (pe_ix ix_tup (pv 0) pe_int (fun _ _ => rfl)) (pe_ix ix_tup (pv 0) pe_int (fun _ _ => rfl))))) pss_nil)
    (pss_cons (ps_set (i := 6) sc_law_copied.nd rfl (Or.inl rfl) (pv 3))
    (pss_cons (ps_for PassesOwn.never rfl (pi_range1 rfl T.z_range (pa_cons (pv 5) pa_nil)) (pg_name (i := 4) sc_law_copied.nd rfl (Or.inl rfl)) (pss_cons (ps_setLc (i := 6) (own := [("_law_end", 7)]) rfl sc_law_copied.nd rfl rfl (sw_true rfl rfl rfl (by decide +kernel)) (pi_list (pe_callH h_law_onward hr (by omega) rfl (pa_cons (pe_ix ix_tup (pv 0) pe_int (fun _ _ => rfl)) (pa_cons (pv 1) (pa_cons (pv 6) pa_nil))))) (blkOk_by (N := N_law_copied) (sc := defScope s_law_copied) (by decide +kernel)) (fun _ _ _ _ _ => pg_name (i := 7) sc_law_copied.nd rfl (Or.inl rfl)) (fun _ _ _ _ _ => pts_one (pt_cmpR (op_notIn_seqK (K := K) rfl) (pv 7) (pv 3) rfl)) (fun _ _ _ _ _ => (pv 7)))
    (pss_cons (ps_if (pt_cmpR (op_eqD hr.units) (pv 6) (pe_lst pa_nil) (nomark _)) (pss_one ps_break) pss_nil)
    (pss_one (ps_set (i := 3) sc_law_copied.nd rfl (Or.inr rfl) (pe_op op_cat (pv 3) (pv 6)))))))
    (pss_one (ps_ret (pv 3)))))))))), ?_⟩
  have htx := tx_len z
  let f0 := lends (tx z) p
  have hle : ∀ a e, a ≤ z.length → e ∈ f0 a → e ≤ z.length := fun a e ha he => by
    have := lends_le (tx z) p a e (by omega) he
    omega
  rw [Wf] at hw
  obtain ⟨hw1, hl, hm⟩ := hw
  obtain ⟨a, u, rfl, hT, hu⟩ := hp.rep
  have one_le : ∀ e ∈ [s], e ≤ z.length := fun e he => by rw [List.mem_singleton.mp he]; exact hs
  have line : (sizeLine : Nat) < 2 ^ 62 := by rw [sizeLine_eq]; decide
  refine ⟨_, rfl, (by show 1 ≤ sizeLine; exact small_le (by decide)), fun R nR => ?_⟩
  have s0 := same_new nR (.lst [V.int (s : Int)])
  refine ⟨_, rfl, a, _, _, _, rfl, rfl, (Kp.of s0).tup hT, at2, (l : Int), rfl, by omega, by omega, for_range (fun i σ H' => ∃ (R : Addr) (v4 : Option V), σ = [some (.ref a), some (.str z), some (.int (s : Int)), some (.ref R), v4, none, none, none] ∧ Same H H' ∧ H R = none ∧ H' R = some (.lst (nv (iter (onward f0) i [s]))))
    ⟨R, none, rfl, s0, nR, upd_same⟩ (fun i σ H1 _ h => ?_) fun σ H1 h => ?_⟩
  · obtain ⟨R, v4, rfl, s1, n1, hR⟩ := h
    have k1 := Kp.of s1
    refine ⟨_, rfl, a, _, _, _, rfl, rfl, k1.tup hT, at1, _, rfl, _, rfl, u, p, z, R, iter (onward f0) i [s], rfl, k1.dp hu, hw1, hdp, hz, SqL.of hR, iter_le hle i [s] one_le, fun b H2 s2 nb hb => ?_⟩
    exact ⟨b, _, rfl, s1.trans s2, s1.free nb, hb⟩
  · obtain ⟨R, v4, rfl, s1, n1, hR⟩ := h
    rw [Int.toNat_natCast] at hR
    have k1 := Kp.of s1
    obtain ⟨t0, et0⟩ : ∃ t0, t0 = iter (onward f0) l [s] := ⟨_, rfl⟩
    have t0n : t0.Nodup := by rw [et0]; exact iter_nodup _ _ (List.pairwise_singleton _ _)
    have t0l : ∀ e ∈ t0, e ≤ z.length := by rw [et0]; exact iter_le hle l [s] one_le
    rw [← et0] at hR
    have zl : z.length ≤ sizeLine := small_le (by omega)
    refine ⟨_, rfl, z, rfl, zl, _, _, rfl, rfl, ?_⟩
    obtain ⟨N, eN⟩ : ∃ N, N = turnsOf (tx z).length l m := ⟨_, rfl⟩
    have q2 : ∀ (b : Addr) (H' : Hp) (xs : List Nat), Same H H' → H b = none → H' b = some (.lst (nv xs)) → xs = spread f0 N t0 t0 → Q (.ref b) H' := fun b H' xs h1 h2 h3 h4 => q b H' h1 h2 (by rw [h3, h4, eN, et0]; rfl)
    refine ⟨_, rfl, a, _, _, _, rfl, rfl, k1.tup hT, at3, rfl, _, rfl, ite2b (fun c => ?_) fun c => ?_⟩
    · obtain ⟨x, rfl⟩ : ∃ x, m = some x := by
        cases m with
        | none => cases c
        | some x => exact ⟨x, rfl⟩
      have hx := hm x rfl
      refine ⟨_, rfl, a, _, _, _, rfl, rfl, k1.tup hT, at3, _, rfl, a, _, _, _, rfl, rfl, k1.tup hT, at2, _, _, rfl, rfl, ?_⟩
      have b1 : -(2 ^ 62) ≤ (x : Int) - (l : Int) := by omega
      have b2 : (x : Int) - (l : Int) < 2 ^ 62 := by omega
      have eN2 : ((x : Int) - (l : Int)).toNat = N := by
        rw [eN]
        show _ = x - l
        omega
      refine ⟨_, rfl, ⟨_, rfl, (x : Int) - (l : Int), rfl, b1, b2, ?_⟩⟩
      rw [eN2]
      refine for_range (fun i σ H' => ∃ (R F : Addr) (told fr : List Nat) (v4 v5 : Option V), σ = [some (.ref a), some (.str z), some (.int (s : Int)), some (.ref R), v4, v5, some (.ref F), none] ∧ Same H H' ∧ H R = none ∧ H' R = some (.lst (nv told)) ∧ H' F = some (.lst (nv fr)) ∧ told.Nodup ∧ (∀ e ∈ told, e ≤ z.length) ∧ (∀ e ∈ fr, e ≤ z.length) ∧ spread f0 N t0 t0 = spread f0 (N - i) told fr)
        ⟨R, R, t0, t0, v4, _, rfl, s1, n1, hR, hR, t0n, t0l, t0l, rfl⟩ (fun i σ H2 hi h => ?_) fun σ H2 h => ?_
      · obtain ⟨R, F, told, fr, v4, v5, rfl, s2, n2, hR, hF, tn, tl, fl, eq⟩ := h
        have k2 := Kp.of s2
        refine ⟨_, rfl, a, _, _, _, rfl, rfl, k2.tup hT, at1, _, rfl, _, rfl, u, p, z, F, fr, rfl, k2.dp hu, hw1, hdp, hz, SqL.of hF, fl, fun b H3 s3 nb hb => ⟨b, rfl, ⟨_, SqL.of hb⟩, fun G nG => ?_⟩⟩
        have ol : ∀ e ∈ onward f0 fr, e ≤ z.length := onward_le hle fl
        have lo := few_of (onward_nodup f0 fr) ol
        have lt := few_of tn tl
        have hR3 := s3 _ _ hR
        have nGR : G ≠ R := fun e => by
          subst e
          rw [hR3] at nG
          cases nG
        refine walk_list (xs := nv (onward f0 fr)) (fun j H' => Same H3 H' ∧ H' G = some (.lst (nv (fresh told ((onward f0 fr).take j))))) ⟨same_new nG _, upd_same⟩ (fun j H' _ h => h.1.seq (SqL.of hb)) (fun j y H4 hy h => ?_) fun H4 h => ?_
        · obtain ⟨s4, hG⟩ := h
          obtain ⟨e, he, rfl⟩ := nv_atV hy
          have few : (nv (fresh told ((onward f0 fr).take j))).length < sizeLine := by
            have h1 := List.length_filter_le (fun e => decide (e ∉ told)) ((onward f0 fr).take j)
            rw [List.length_take] at h1
            have h2 : (fresh told ((onward f0 fr).take j)).length ≤ min j (onward f0 fr).length := h1
            rw [nv_len]
            exact small_line (by omega)
          have sn : fresh told ((onward f0 fr).take (j + 1)) = fresh told ((onward f0 fr).take j) ++ if decide (e ∉ told) = true then [e] else [] := filt_snoc (onward f0 fr) j he
          refine ⟨rfl, _, rfl, _, rfl, R, _, rfl, .inl (SqL.of (s4 _ _ hR3)), rfl, nv_flat _, _, rfl, ?_⟩
          rw [nv_in]
          refine ite2b (fun c => ?_) fun c => ?_
          · have ne : e ∉ told := fun h => by rw [decide_eq_true h] at c; cases c
            rw [decide_eq_true ne, if_pos rfl] at sn
            refine ⟨_, rfl, _, hG, few, same_over s4 nG _, ?_⟩
            rw [upd_same, nv_snoc, sn]
          · have yes : e ∈ told := Classical.byContradiction fun h => by rw [decide_eq_false h] at c; cases c
            rw [decide_eq_false (fun h => h yes), if_neg Bool.false_ne_true, List.append_nil] at sn
            exact ⟨s4, by rw [sn]; exact hG⟩
        · obtain ⟨s4, hG⟩ := h
          rw [nv_len, List.take_length] at hG
          obtain ⟨fr', efr⟩ : ∃ fr', fr' = fresh told (onward f0 fr) := ⟨_, rfl⟩
          rw [← efr] at hG
          have hR4 := s4 _ _ hR3
          have fl' : ∀ e ∈ fr', e ≤ z.length := fun e he => by
            rw [efr] at he
            exact ol e (mem_fresh.mp he).1
          have fn' : fr'.Nodup := by rw [efr]; exact fresh_nodup (onward_nodup _ _)
          have lf := few_of fn' fl'
          refine ⟨_, rfl, (by show 0 ≤ sizeLine; exact small_le (by decide)), fun L nL => ?_⟩
          have sL := same_new nL (.lst [])
          refine ⟨.list (nds fr'), .list [], .lstI (sL _ _ hG) (dp_nv _), .lstI upd_same .nil, shaped_nds _, shaped_nil, _, rfl, ?_⟩
          rw [eqv_nds_nil]
          have sA := ((s2.trans s3).trans s4).trans sL
          obtain ⟨N', hN'⟩ : ∃ N', N - i = N' + 1 := ⟨N - i - 1, by omega⟩
          rw [hN', spread_succ, ← efr] at eq
          refine ite2b (fun c => ?_) fun c => ?_
          · rw [if_pos (of_decide_eq_true c)] at eq
            exact ⟨_, rfl, q2 R _ told sA n2 (sL _ _ hR4) eq.symm⟩
          · rw [if_neg (of_decide_eq_false c)] at eq
            refine ⟨_, rfl, _, rfl, R, G, nv told, nv fr', rfl, rfl, sL _ _ hR4, sL _ _ hG, small_le (by rw [nv_len, nv_len]; omega), fun R2 nR2 => ?_⟩
            have s5 := same_new nR2 (.lst (nv told ++ nv fr'))
            refine ⟨R2, G, told ++ fr', fr', _, _, rfl, sA.trans s5, sA.free nR2, by rw [upd_same, nv_app], s5 _ _ (sL _ _ hG), ?_, fun e he => ?_, fl', ?_⟩
            · rw [efr]
              exact told_nodup tn (onward_nodup _ _)
            · rcases List.mem_append.mp he with h | h
              · exact tl e h
              · exact fl' e h
            · rw [eq, show N - (i + 1) = N' by omega]
      · obtain ⟨R, F, told, fr, v4, v5, rfl, s2, n2, hR, hF, tn, tl, fl, eq⟩ := h
        rw [Nat.sub_self, spread_zero] at eq
        exact ⟨_, rfl, q2 R H2 told s2 n2 hR eq.symm⟩
    · obtain rfl : m = none := by
        cases m with
        | none => rfl
        | some x => cases c
      have b1 : -(2 ^ 62) ≤ (z.length : Int) + 1 := by omega
      have b2 : (z.length : Int) + 1 < 2 ^ 62 := by omega
      have eN2 : ((z.length : Int) + 1).toNat = N := by
        rw [eN]
        show _ = (tx z).length + 1
        omega
      refine ⟨_, rfl, ⟨_, rfl, (z.length : Int) + 1, rfl, b1, b2, ?_⟩⟩
      rw [eN2]
      refine for_range (fun i σ H' => ∃ (R F : Addr) (told fr : List Nat) (v4 v5 : Option V), σ = [some (.ref a), some (.str z), some (.int (s : Int)), some (.ref R), v4, v5, some (.ref F), none] ∧ Same H H' ∧ H R = none ∧ H' R = some (.lst (nv told)) ∧ H' F = some (.lst (nv fr)) ∧ told.Nodup ∧ (∀ e ∈ told, e ≤ z.length) ∧ (∀ e ∈ fr, e ≤ z.length) ∧ spread f0 N t0 t0 = spread f0 (N - i) told fr)
        ⟨R, R, t0, t0, v4, _, rfl, s1, n1, hR, hR, t0n, t0l, t0l, rfl⟩ (fun i σ H2 hi h => ?_) fun σ H2 h => ?_
      · obtain ⟨R, F, told, fr, v4, v5, rfl, s2, n2, hR, hF, tn, tl, fl, eq⟩ := h
        have k2 := Kp.of s2
        refine ⟨_, rfl, a, _, _, _, rfl, rfl, k2.tup hT, at1, _, rfl, _, rfl, u, p, z, F, fr, rfl, k2.dp hu, hw1, hdp, hz, SqL.of hF, fl, fun b H3 s3 nb hb => ⟨b, rfl, ⟨_, SqL.of hb⟩, fun G nG => ?_⟩⟩
        have ol : ∀ e ∈ onward f0 fr, e ≤ z.length := onward_le hle fl
        have lo := few_of (onward_nodup f0 fr) ol
        have lt := few_of tn tl
        have hR3 := s3 _ _ hR
        have nGR : G ≠ R := fun e => by
          subst e
          rw [hR3] at nG
          cases nG
        refine walk_list (xs := nv (onward f0 fr)) (fun j H' => Same H3 H' ∧ H' G = some (.lst (nv (fresh told ((onward f0 fr).take j))))) ⟨same_new nG _, upd_same⟩ (fun j H' _ h => h.1.seq (SqL.of hb)) (fun j y H4 hy h => ?_) fun H4 h => ?_
        · obtain ⟨s4, hG⟩ := h
          obtain ⟨e, he, rfl⟩ := nv_atV hy
          have few : (nv (fresh told ((onward f0 fr).take j))).length < sizeLine := by
            have h1 := List.length_filter_le (fun e => decide (e ∉ told)) ((onward f0 fr).take j)
            rw [List.length_take] at h1
            have h2 : (fresh told ((onward f0 fr).take j)).length ≤ min j (onward f0 fr).length := h1
            rw [nv_len]
            exact small_line (by omega)
          have sn : fresh told ((onward f0 fr).take (j + 1)) = fresh told ((onward f0 fr).take j) ++ if decide (e ∉ told) = true then [e] else [] := filt_snoc (onward f0 fr) j he
          refine ⟨rfl, _, rfl, _, rfl, R, _, rfl, .inl (SqL.of (s4 _ _ hR3)), rfl, nv_flat _, _, rfl, ?_⟩
          rw [nv_in]
          refine ite2b (fun c => ?_) fun c => ?_
          · have ne : e ∉ told := fun h => by rw [decide_eq_true h] at c; cases c
            rw [decide_eq_true ne, if_pos rfl] at sn
            refine ⟨_, rfl, _, hG, few, same_over s4 nG _, ?_⟩
            rw [upd_same, nv_snoc, sn]
          · have yes : e ∈ told := Classical.byContradiction fun h => by rw [decide_eq_false h] at c; cases c
            rw [decide_eq_false (fun h => h yes), if_neg Bool.false_ne_true, List.append_nil] at sn
            exact ⟨s4, by rw [sn]; exact hG⟩
        · obtain ⟨s4, hG⟩ := h
          rw [nv_len, List.take_length] at hG
          obtain ⟨fr', efr⟩ : ∃ fr', fr' = fresh told (onward f0 fr) := ⟨_, rfl⟩
          rw [← efr] at hG
          have hR4 := s4 _ _ hR3
          have fl' : ∀ e ∈ fr', e ≤ z.length := fun e he => by
            rw [efr] at he
            exact ol e (mem_fresh.mp he).1
          have fn' : fr'.Nodup := by rw [efr]; exact fresh_nodup (onward_nodup _ _)
          have lf := few_of fn' fl'
          refine ⟨_, rfl, (by show 0 ≤ sizeLine; exact small_le (by decide)), fun L nL => ?_⟩
          have sL := same_new nL (.lst [])
          refine ⟨.list (nds fr'), .list [], .lstI (sL _ _ hG) (dp_nv _), .lstI upd_same .nil, shaped_nds _, shaped_nil, _, rfl, ?_⟩
          rw [eqv_nds_nil]
          have sA := ((s2.trans s3).trans s4).trans sL
          obtain ⟨N', hN'⟩ : ∃ N', N - i = N' + 1 := ⟨N - i - 1, by omega⟩
          rw [hN', spread_succ, ← efr] at eq
          refine ite2b (fun c => ?_) fun c => ?_
          · rw [if_pos (of_decide_eq_true c)] at eq
            exact ⟨_, rfl, q2 R _ told sA n2 (sL _ _ hR4) eq.symm⟩
          · rw [if_neg (of_decide_eq_false c)] at eq
            refine ⟨_, rfl, _, rfl, R, G, nv told, nv fr', rfl, rfl, sL _ _ hR4, sL _ _ hG, small_le (by rw [nv_len, nv_len]; omega), fun R2 nR2 => ?_⟩
            have s5 := same_new nR2 (.lst (nv told ++ nv fr'))
            refine ⟨R2, G, told ++ fr', fr', _, _, rfl, sA.trans s5, sA.free nR2, by rw [upd_same, nv_app], s5 _ _ (sL _ _ hG), ?_, fun e he => ?_, fl', ?_⟩
            · rw [efr]
              exact told_nodup tn (onward_nodup _ _)
            · rcases List.mem_append.mp he with h | h
              · exact tl e h
              · exact fl' e h
            · rw [eq, show N - (i + 1) = N' by omega]
      · obtain ⟨R, F, told, fr, v4, v5, rfl, s2, n2, hR, hF, tn, tl, fl, eq⟩ := h
        rw [Nat.sub_self, spread_zero] at eq
        exact ⟨_, rfl, q2 R H2 told s2 n2 hR eq.symm⟩
end
end Pd
set_option Elab.async false
set_option linter.all false
set_option maxRecDepth 100000
set_option maxHeartbeats 4000000
namespace Pd
open PySem PySem.Spec PyProof.Rows L2
section
variable {P : Program} {w : World} {K : PySem.W.Frag} {mg : Str → Option Value} {base : Heap} {f : Addr} {fd : FuncData}
theorem lalt_snoc {t : List Nat} {s : Nat} {p : Pat} : ∀ (ps : List Pat) (told : List Nat), lalt t (ps ++ [p]) s told = lalt t ps s told ++ fresh (lalt t ps s told) (lends t p s)
  | [], told => by rw [List.nil_append, lalt_cons, lalt_nil, lalt_nil]
  | q :: ps, told => by rw [List.cons_append, lalt_cons, lalt_cons, lalt_snoc ps]
theorem lrow_snoc {t : List Nat} {p : Pat} : ∀ (ps : List Pat) (xs : List Nat), lrow t (ps ++ [p]) xs = onward (lends t p) (lrow t ps xs)
  | [], xs => by rw [List.nil_append, lrow_cons, lrow_nil, lrow_nil]
  | q :: ps, xs => by rw [List.cons_append, lrow_cons, lrow_cons, lrow_snoc ps]
theorem take_snocP {xs : List Pat} {i : Nat} {x : Pat} (h : xs[i]? = some x) : xs.take (i + 1) = xs.take i ++ [x] := take_snoc xs i h
theorem sgn_ne : ∀ (c : Bool) (z : Str), leafWord (.sgn c z) ≠ "begin" ∧ leafWord (.sgn c z) ≠ "end" ∧ leafWord (.sgn c z) ≠ "any"
  | false, _ => (by decide +kernel : ("sign" : Str) ≠ "begin" ∧ ("sign" : Str) ≠ "end" ∧ ("sign" : Str) ≠ "any")
  | true, _ => (by decide +kernel : ("class" : Str) ≠ "begin" ∧ ("class" : Str) ≠ "end" ∧ ("class" : Str) ≠ "any")
theorem wd_ne : (("row" : Str) ≠ "begin" ∧ ("row" : Str) ≠ "end") ∧ (("or" : Str) ≠ "begin" ∧ ("or" : Str) ≠ "end") ∧ (("repeat" : Str) ≠ "begin" ∧ ("repeat" : Str) ≠ "end") ∧ (("any" : Str) ≠ "begin" ∧ ("any" : Str) ≠ "end") ∧ ("end" : Str) ≠ "begin" := by decide +kernel
theorem ints_at {ps : List Pat} {xs : List V} {K : PySem.W.Frag} {H : Hp} {i : Nat} {v : V} (h : DpAll K H xs (ps.map enc)) (hv : xs[i]? = some v) : ∃ p, ps[i]? = some p ∧ PtV K H v p := by
  obtain ⟨d, hd1, hd2⟩ := h.atV hv
  rw [List.getElem?_map] at hd1
  cases e : ps[i]? with
  | none => rw [e] at hd1; cases hd1
  | some p =>
    rw [e] at hd1
    obtain rfl := (Option.some.inj hd1).symm
    exact ⟨p, rfl, hd2⟩
theorem b2n (k : Bool) : -(2 ^ 62) ≤ (if k = true then (1 : Int) else 0) ∧ (if k = true then (1 : Int) else 0) < 2 ^ 62 ∧ (if k = true then (1 : Int) else 0).toNat ≤ 1 := by
  cases k <;> decide
abbrev N_law_ends : List Str := ["_law_tree_here", "_law_text_here", "_law_start", "_law_word", "_law_told", "_law_part", "_law_k", "_law_end"]
theorem sc_law_ends : FnScope N_law_ends ["_law_tree_here", "_law_text_here", "_law_start"] (defScope s_law_ends) := ⟨rfl, rfl, rfl, by decide +kernel, rfl, by decide +kernel, by decide +kernel⟩
theorem ok_law_ends {gE gO gC : Addr} {D k j : Nat} (T : Txt K mg) (F : FnP K "_law_ends" "_law_ends" s_law_ends f fd) (hj : j ≤ k) (h_law_ends : Has P w K mg base "_law_ends" gE ["_law_tree_here", "_law_text_here", "_law_start"] j (spLawEnds K D))
    (h_law_onward : Has P w K mg base "_law_onward" gO ["_law_part", "_law_text_here", "_law_starts"] k (spLawOnward K D)) (h_law_copied : Has P w K mg base "_law_copied" gC ["_law_tree_here", "_law_text_here", "_law_start"] k (spLawCopied K D)) :
    FnOk P w K mg base CX0 (k + 1) f fd ["_law_tree_here", "_law_text_here", "_law_start"] (spLawEnds K (D + 1)) := by
  refine F.ok sc_law_ends (fun vs H Q E h => ?_) (fun cdv A outer s0 H vs Q E hr h => ?_)
  · obtain ⟨v, p, z, s, rfl, _⟩ := h
    rfl
  obtain ⟨v, p, z, s, rfl, hp, hw, hdp, hz, hs, q⟩ := h
  refine ⟨_, PSs.nox ((pss_cons (ps_set (i := 3) sc_law_ends.nd rfl (Or.inl rfl) (pe_ix ix_tup (pv 0) pe_int (fun _ _ => rfl)))
    (pss_cons (ps_if (pt_cmpR op_eq (pv 3) pe_str (nomark _)) (pss_one (ps_ret (pe_lc (own := [("_law_k", 6)]) rfl sc_law_ends.nd (pi_range1 rfl T.z_range (pa_cons (pe_callTy call_int1 rfl T.z_int bb_int (pa_cons (pe_cmpR op_eq (pv 2) pe_int (nomark _)) pa_nil)) pa_nil)) (blkOk_by (N := N_law_ends) (sc := defScope s_law_ends) (by decide +kernel)) (fun _ _ _ _ _ => pg_name (i := 6) sc_law_ends.nd rfl (Or.inl rfl)) (fun _ _ _ _ _ => pts_nil) (fun _ _ _ _ _ => (pv 2))))) pss_nil)
    (pss_cons (ps_if (pt_cmpR op_eq (pv 3) pe_str (nomark _)) (pss_one (ps_ret (pe_lc (own := [("_law_k", 6)]) rfl sc_law_ends.nd (pi_range1 rfl T.z_range (pa_cons (pe_callTy call_int1 rfl T.z_int bb_int (pa_cons (pe_cmpR op_eq (pv 2) (pe_callB call_len_str rfl T.z_len PySem.boot_len (pa_cons (pv 1) pa_nil)) (nomark _)) pa_nil)) pa_nil)) (blkOk_by (N := N_law_ends) (sc := defScope s_law_ends) (by decide +kernel)) (fun _ _ _ _ _ => pg_name (i := 6) sc_law_ends.nd rfl (Or.inl rfl)) (fun _ _ _ _ _ => pts_nil) (fun _ _ _ _ _ => (pv 2))))) pss_nil)
    (pss_cons (ps_if (pt_cmpR op_eq (pv 3) pe_str (nomark _)) (pss_cons (ps_set (i := 4) sc_law_ends.nd rfl (Or.inr rfl) (pe_lst pa_nil))
    (pss_cons (ps_for PassesOwn.never rfl (pi_tup (pe_ix ix_tup (pv 0) pe_int (fun _ _ => rfl))) (pg_name (i := 5) sc_law_ends.nd rfl (Or.inl rfl)) (pss_one (ps_set (i := 4) sc_law_ends.nd rfl (Or.inr rfl) (pe_op op_cat (pv 4) (pe_lc (own := [("_law_end", 7)]) rfl sc_law_ends.nd (pi_list (pe_callH h_law_ends hr (by omega) rfl (pa_cons (pv 5) (pa_cons (pv 1) (pa_cons (pv 2) pa_nil))))) (blkOk_by (N := N_law_ends) (sc := defScope s_law_ends) (by decide +kernel)) (fun _ _ _ _ _ => pg_name (i := 7) sc_law_ends.nd rfl (Or.inl rfl)) (fun _ _ _ _ _ => pts_one (pt_cmpR (op_notIn_seqK (K := K) rfl) (pv 7) (pv 4) rfl)) (fun _ _ _ _ _ => (pv 7)))))))
    (pss_one (ps_ret (pv 4))))) pss_nil)
    (pss_cons (ps_if (pt_cmpR op_eq (pv 3) pe_str (nomark _)) (pss_cons (ps_set (i := 4) sc_law_ends.nd rfl (Or.inr rfl) (pe_lst (pa_cons (pv 2) pa_nil)))
    (pss_cons (ps_for PassesOwn.never rfl (pi_tup (pe_ix ix_tup (pv 0) pe_int (fun _ _ => rfl))) (pg_name (i := 5) sc_law_ends.nd rfl (Or.inl rfl)) (pss_one (ps_set (i := 4) sc_law_ends.nd rfl (Or.inr rfl) (pe_callH h_law_onward hr (by omega) rfl (pa_cons (pv 5) (pa_cons (pv 1) (pa_cons (pv 4) pa_nil)))))))
    (pss_one (ps_ret (pv 4))))) pss_nil)
    (pss_cons (ps_if (pt_cmpR op_eq (pv 3) pe_str (nomark _)) (pss_one (ps_ret (pe_callH h_law_copied hr (by omega) rfl (pa_cons (pv 0) (pa_cons (pv 1) (pa_cons (pv 2) pa_nil)))))) pss_nil)
    (pss_cons (ps_if (PW.pt (pw_and (pt_cmpR op_lt (pv 2) (pe_callB call_len_str rfl T.z_len PySem.boot_len (pa_cons (pv 1) pa_nil)) (nomark _)) (pw_and1 (PW.pt (pw_or (pt_cmpR op_eq (pv 3) pe_str (nomark _)) (pw_or1 (pt_cmpR op_in_sign (pe_ix ix_str (pv 1) (pv 2) (fun _ _ => rfl)) (pe_ix ix_tup (pv 0) pe_int (fun _ _ => rfl)) rfl))))))) (pss_one (ps_ret (pe_lst (pa_cons (pe_op op_add (pv 2) pe_int) pa_nil)))) pss_nil)
    (pss_one (ps_ret (pe_lst pa_nil))))))))))), ?_⟩
  have htx := tx_len z
  have zl : z.length ≤ sizeLine := small_le (by omega)
  obtain ⟨w1, w2, w3, w4, w5⟩ := wd_ne
  cases p with
  | leaf l =>
    obtain ⟨a, us, rfl, hT, hsg⟩ := leafV hp.leafD
    obtain ⟨n1, n2, n3⟩ := leafWord_ne l
    rw [lends_leaf] at q
    refine ⟨_, rfl, a, _, _, _, rfl, rfl, hT, at0, ?_⟩
    have s1q : ∀ (R : Addr) (H' : Hp) (e : Nat), Same H H' → H R = none → H' R = some (.lst [.int ((s : Int) + 1)]) → leafEnd (tx z) l s = some (s + 1) → Q (.ref R) H' := fun R H' e h1 h2 h3 h4 => q R H' h1 h2 (by rw [h3, h4]; rfl)
    have s0q : ∀ (R : Addr) (H' : Hp), Same H H' → H R = none → H' R = some (.lst []) → leafEnd (tx z) l s = none → Q (.ref R) H' := fun R H' h1 h2 h3 h4 => q R H' h1 h2 (by rw [h3, h4]; rfl)
    have l1 : (1 : Nat) ≤ sizeLine := small_le (by decide)
    have l0 : (0 : Nat) ≤ sizeLine := small_le (by decide)
    cases l with
    | beg =>
      refine ⟨_, rfl, rfl, _, rfl, iteTb (veq rfl) ⟨_, rfl, rfl, ?_⟩⟩
      obtain ⟨kb, ekb⟩ : ∃ kb, kb = decide (V.int (s : Int) = V.int (0)) := ⟨_, rfl⟩
      have bb := b2n kb
      rw [ekb] at bb
      refine .inr ⟨_, rfl, _, rfl, bb.1, bb.2.1, fun G nG => walk_range (fun i H' => Same H H' ∧ H' G = some (.lst (List.replicate i (V.int (s : Int))))) ⟨same_new nG _, upd_same⟩ (fun i H1 hi h => ?_) fun H1 h => ?_⟩
      · obtain ⟨s1, hG⟩ := h
        have hi2 := Nat.lt_of_lt_of_le hi bb.2.2
        exact ⟨rfl, _, rfl, _, hG, by rw [List.length_replicate]; exact small_line (by omega), same_over s1 nG _, by rw [upd_same, List.replicate_succ']⟩
      · obtain ⟨s1, hG⟩ := h
        refine q G H1 s1 nG ?_
        rw [hG]
        by_cases e : s = 0
        · rw [vi_t (show (s : Int) = 0 by omega)]
          show some (HO.lst [V.int (s : Int)]) = some (.lst (nv (if s = 0 then some s else none).toList))
          rw [if_pos e]
          rfl
        · rw [vi_f (show (s : Int) ≠ 0 by omega)]
          show some (HO.lst []) = some (.lst (nv (if s = 0 then some s else none).toList))
          rw [if_neg e]
          rfl
    | fin =>
      refine ⟨_, rfl, rfl, _, rfl, iteFb (vne w5) ⟨_, rfl, rfl, _, rfl, iteTb (veq rfl) ⟨_, rfl, _, rfl, z, rfl, zl, rfl, ?_⟩⟩⟩
      obtain ⟨kb, ekb⟩ : ∃ kb, kb = decide (V.int (s : Int) = V.int ((z.length : Nat) : Int)) := ⟨_, rfl⟩
      have bb := b2n kb
      rw [ekb] at bb
      refine .inr ⟨_, rfl, _, rfl, bb.1, bb.2.1, fun G nG => walk_range (fun i H' => Same H H' ∧ H' G = some (.lst (List.replicate i (V.int (s : Int))))) ⟨same_new nG _, upd_same⟩ (fun i H1 hi h => ?_) fun H1 h => ?_⟩
      · obtain ⟨s1, hG⟩ := h
        have hi2 := Nat.lt_of_lt_of_le hi bb.2.2
        exact ⟨rfl, _, rfl, _, hG, by rw [List.length_replicate]; exact small_line (by omega), same_over s1 nG _, by rw [upd_same, List.replicate_succ']⟩
      · obtain ⟨s1, hG⟩ := h
        refine q G H1 s1 nG ?_
        rw [hG]
        by_cases e : s = z.length
        · rw [vi_t (show (s : Int) = ((z.length : Nat) : Int) by omega)]
          show some (HO.lst [V.int (s : Int)]) = some (.lst (nv (if s = (tx z).length then some s else none).toList))
          rw [if_pos (by omega)]
          rfl
        · rw [vi_f (show (s : Int) ≠ ((z.length : Nat) : Int) by omega)]
          show some (HO.lst []) = some (.lst (nv (if s = (tx z).length then some s else none).toList))
          rw [if_neg (by omega)]
          rfl
    | any =>
      refine ⟨_, rfl, rfl, _, rfl, iteFb (vne w4.1) ⟨_, rfl, rfl, _, rfl, iteFb (vne w4.2) ⟨_, rfl, rfl, _, rfl, iteFb (vne n2) ⟨_, rfl, rfl, _, rfl, iteFb (vne n1) ⟨_, rfl, rfl, _, rfl, iteFb (vne n3) ?_⟩⟩⟩⟩⟩
      refine ⟨_, rfl, _, rfl, z, rfl, zl, _, _, rfl, rfl, _, rfl, ite2b (fun c => ?_) fun c => ?_⟩
      · have c2 : (s : Int) < (z.length : Int) := of_decide_eq_true c
        refine ⟨_, rfl, rfl, _, rfl, iteTb (veq rfl) ⟨_, rfl, _, _, rfl, rfl, l1, fun R nR => s1q R _ s (same_new nR _) nR upd_same ?_⟩⟩
        exact if_pos (by omega)
      · have c2 : ¬ (s : Int) < (z.length : Int) := of_decide_eq_false c
        exact ⟨l0, fun R nR => s0q R _ (same_new nR _) nR upd_same (if_neg (by omega))⟩
    | sgn c0 zz =>
      obtain ⟨m1, m2, m3⟩ := sgn_ne c0 zz
      obtain rfl := hsg c0 zz rfl
      refine ⟨_, rfl, rfl, _, rfl, iteFb (vne m1) ⟨_, rfl, rfl, _, rfl, iteFb (vne m2) ⟨_, rfl, rfl, _, rfl, iteFb (vne n2) ⟨_, rfl, rfl, _, rfl, iteFb (vne n1) ⟨_, rfl, rfl, _, rfl, iteFb (vne n3) ?_⟩⟩⟩⟩⟩
      refine ⟨_, rfl, _, rfl, z, rfl, zl, _, _, rfl, rfl, _, rfl, ite2b (fun c => ?_) fun c => ?_⟩
      · have c2 : (s : Int) < (z.length : Int) := of_decide_eq_true c
        have ls : s < (tx z).length := by omega
        have e1 : (tx z)[s]? = some (tx z)[s] := List.getElem?_eq_getElem ls
        refine ⟨_, rfl, rfl, _, rfl, iteFb (vne m3) ⟨_, rfl, _, rfl, z, _, (tx z)[s], rfl, rfl, zl, atI_nat e1, _, rfl, a, _, _, _, rfl, rfl, hT, at1, _, zz, rfl, rfl, _, rfl, ite2b (fun c3 => ?_) fun c3 => ?_⟩⟩
        · refine ⟨_, rfl, _, _, rfl, rfl, l1, fun R nR => s1q R _ s (same_new nR _) nR upd_same ?_⟩
          show (match (tx z)[s]? with | some c => if c ∈ zz.cps.toList then some (s + 1) else none | none => none) = _
          rw [e1]
          exact if_pos (of_decide_eq_true c3)
        · refine ⟨l0, fun R nR => s0q R _ (same_new nR _) nR upd_same ?_⟩
          show (match (tx z)[s]? with | some c => if c ∈ zz.cps.toList then some (s + 1) else none | none => none) = _
          rw [e1]
          exact if_neg (of_decide_eq_false c3)
      · have c2 : ¬ (s : Int) < (z.length : Int) := of_decide_eq_false c
        refine ⟨l0, fun R nR => s0q R _ (same_new nR _) nR upd_same ?_⟩
        show (match (tx z)[s]? with | some c => if c ∈ zz.cps.toList then some (s + 1) else none | none => none) = _
        rw [List.getElem?_eq_none (by omega)]
  | row ps =>
    obtain ⟨a, c0, xs, rfl, hT, hcT, hxs⟩ := hp.row
    rw [Wf] at hw
    rw [dep] at hdp
    rw [lends_row] at q
    have hle : ∀ (ps : List Pat) (xs : List Nat), (∀ e ∈ xs, e ≤ z.length) → ∀ e ∈ lrow (tx z) ps xs, e ≤ z.length := fun ps xs h e he => by
      have := lrow_le (tx z) ps xs (fun e he => by have := h e he; omega) e he
      omega
    have lxs : xs.length = ps.length := by
      have := hxs.len
      rw [List.length_map] at this
      exact this
    refine ⟨_, rfl, a, _, _, _, rfl, rfl, hT, at0, ?_⟩
    refine ⟨_, rfl, rfl, _, rfl, iteFb (vne w1.1) ⟨_, rfl, rfl, _, rfl, iteFb (vne w1.2) ⟨_, rfl, rfl, _, rfl, iteFb (vne ne_row_or) ⟨_, rfl, rfl, _, rfl, iteTb (veq rfl) ?_⟩⟩⟩⟩
    refine ⟨_, rfl, (by show 1 ≤ sizeLine; exact small_le (by decide)), fun R nR => ?_⟩
    have s1 := same_new nR (.lst [V.int (s : Int)])
    refine ⟨_, rfl, a, _, _, _, rfl, rfl, (Kp.of s1).tup hT, at1, c0, rfl, ⟨xs, (Kp.of s1).tup hcT⟩, for_tup (xs := xs) (fun i σ H' => ∃ (R : Addr) (v5 : Option V), σ = [some (.ref a), some (.str z), some (.int (s : Int)), some (.str "row"), some (.ref R), v5, none, none] ∧ Same H H' ∧ H R = none ∧ H' R = some (.lst (nv (lrow (tx z) (ps.take i) [s]))))
      ⟨R, none, rfl, s1, nR, upd_same⟩ (fun i σ H1 _ h => ?_) (fun i v σ H1 hv h => ?_) fun σ H1 h => ?_⟩
    · obtain ⟨_, _, _, s1, _⟩ := h
      exact (Kp.of s1).tup hcT
    · obtain ⟨R, v5, rfl, s1, n1, hR⟩ := h
      obtain ⟨p, hp1, hp2⟩ := ints_at hxs hv
      have pm := List.mem_of_getElem? hp1
      have dm := deps_mem pm
      refine ⟨_, rfl, _, rfl, _, rfl, v, p, z, R, lrow (tx z) (ps.take i) [s], rfl, (Kp.of s1).dp hp2, wfs_mem hw.1 pm, by omega, hz, SqL.of hR, hle _ _ (fun e he => by rw [List.mem_singleton.mp he]; exact hs), fun b H2 s2 nb hb => ?_⟩
      exact ⟨b, _, rfl, s1.trans s2, s1.free nb, by rw [hb, take_snocP hp1, lrow_snoc]⟩
    · obtain ⟨R, v5, rfl, s1, n1, hR⟩ := h
      rw [lxs, List.take_length] at hR
      exact ⟨_, rfl, q R H1 s1 n1 hR⟩
  | alt ps =>
    obtain ⟨a, c0, xs, rfl, hT, hcT, hxs⟩ := hp.alt
    rw [Wf] at hw
    rw [dep] at hdp
    rw [lends_alt] at q
    have hle : ∀ (ps : List Pat), ∀ e ∈ lalt (tx z) ps s [], e ≤ z.length := fun ps e he => by
      have := lalt_le (tx z) ps s [] (by omega) (fun e he => nomatch he) e he
      omega
    have hnd : ∀ (ps : List Pat), (lalt (tx z) ps s []).Nodup := fun ps => lalt_nodup (tx z) ps s [] List.nodup_nil
    have lxs : xs.length = ps.length := by
      have := hxs.len
      rw [List.length_map] at this
      exact this
    refine ⟨_, rfl, a, _, _, _, rfl, rfl, hT, at0, ?_⟩
    refine ⟨_, rfl, rfl, _, rfl, iteFb (vne w2.1) ⟨_, rfl, rfl, _, rfl, iteFb (vne w2.2) ⟨_, rfl, rfl, _, rfl, iteTb (veq rfl) ?_⟩⟩⟩
    refine ⟨(by show 0 ≤ sizeLine; exact small_le (by decide)), fun R nR => ?_⟩
    have s1 := same_new nR (.lst [])
    refine ⟨_, rfl, a, _, _, _, rfl, rfl, (Kp.of s1).tup hT, at1, c0, rfl, ⟨xs, (Kp.of s1).tup hcT⟩, for_tup (xs := xs) (fun i σ H' => ∃ (R : Addr) (v5 : Option V), σ = [some (.ref a), some (.str z), some (.int (s : Int)), some (.str "or"), some (.ref R), v5, none, none] ∧ Same H H' ∧ H R = none ∧ H' R = some (.lst (nv (lalt (tx z) (ps.take i) s []))))
      ⟨R, none, rfl, s1, nR, by rw [upd_same, List.take_zero, lalt_nil]; rfl⟩ (fun i σ H1 _ h => ?_) (fun i v σ H1 hv h => ?_) fun σ H1 h => ?_⟩
    · obtain ⟨_, _, _, s1, _⟩ := h
      exact (Kp.of s1).tup hcT
    · obtain ⟨R, v5, rfl, s1, n1, hR⟩ := h
      obtain ⟨p, hp1, hp2⟩ := ints_at hxs hv
      have pm := List.mem_of_getElem? hp1
      have dm := deps_mem pm
      obtain ⟨told, et⟩ : ∃ told, told = lalt (tx z) (ps.take i) s [] := ⟨_, rfl⟩
      have tl : ∀ e ∈ told, e ≤ z.length := by rw [et]; exact hle _
      have lt := few_of (show told.Nodup by rw [et]; exact hnd _) tl
      rw [← et] at hR
      have hl := few_of (lends_nodup (tx z) p s) fun e he => lends_le (tx z) p s e (by omega) he
      refine ⟨_, rfl, _, rfl, _, rfl, _, rfl, v, p, z, s, rfl, (Kp.of s1).dp hp2, wfs_mem hw.1 pm, by omega, hz, hs, fun b H2 s2 nb hb => ⟨b, rfl, ⟨_, SqL.of hb⟩, fun G nG => ?_⟩⟩
      have hR2 := s2 _ _ hR
      have nGR : G ≠ R := fun e => by
        subst e
        rw [hR2] at nG
        cases nG
      refine walk_list (xs := nv (lends (tx z) p s)) (fun j H' => Same H2 H' ∧ H' G = some (.lst (nv (fresh told ((lends (tx z) p s).take j))))) ⟨same_new nG _, upd_same⟩ (fun j H' _ h => h.1.seq (SqL.of hb)) (fun j y H4 hy h => ?_) fun H4 h => ?_
      · obtain ⟨s4, hG⟩ := h
        obtain ⟨e, he, rfl⟩ := nv_atV hy
        have few : (nv (fresh told ((lends (tx z) p s).take j))).length < sizeLine := by
          have h1 := List.length_filter_le (fun e => decide (e ∉ told)) ((lends (tx z) p s).take j)
          rw [List.length_take] at h1
          have h2 : (fresh told ((lends (tx z) p s).take j)).length ≤ min j (lends (tx z) p s).length := h1
          rw [nv_len]
          exact small_line (by omega)
        have sn : fresh told ((lends (tx z) p s).take (j + 1)) = fresh told ((lends (tx z) p s).take j) ++ if decide (e ∉ told) = true then [e] else [] := filt_snoc (lends (tx z) p s) j he
        refine ⟨rfl, _, rfl, _, rfl, R, _, rfl, .inl (SqL.of (s4 _ _ hR2)), rfl, nv_flat _, _, rfl, ?_⟩
        rw [nv_in]
        refine ite2b (fun c => ?_) fun c => ?_
        · have ne : e ∉ told := fun h => by rw [decide_eq_true h] at c; cases c
          rw [decide_eq_true ne, if_pos rfl] at sn
          refine ⟨_, rfl, _, hG, few, same_over s4 nG _, ?_⟩
          rw [upd_same, nv_snoc, sn]
        · have yes : e ∈ told := Classical.byContradiction fun h => by rw [decide_eq_false h] at c; cases c
          rw [decide_eq_false (fun h => h yes), if_neg Bool.false_ne_true, List.append_nil] at sn
          exact ⟨s4, by rw [sn]; exact hG⟩
      · obtain ⟨s4, hG⟩ := h
        rw [nv_len, List.take_length] at hG
        have lf : (fresh told (lends (tx z) p s)).length ≤ (lends (tx z) p s).length := List.length_filter_le _ _
        refine ⟨R, G, _, _, rfl, rfl, s4 _ _ hR2, hG, small_le (by rw [nv_len, nv_len]; omega), fun R2 nR2 => ?_⟩
        have sA := (s1.trans s2).trans s4
        exact ⟨R2, _, rfl, same_add sA nR2 _, sA.free nR2, by rw [upd_same, nv_app, take_snocP hp1, lalt_snoc, et]⟩
    · obtain ⟨R, v5, rfl, s1, n1, hR⟩ := h
      rw [lxs, List.take_length] at hR
      exact ⟨_, rfl, q R H1 s1 n1 hR⟩
  | rep p l m =>
    obtain ⟨a, u, rfl, hT, hu⟩ := hp.rep
    rw [dep] at hdp
    rw [lends_rep] at q
    refine ⟨_, rfl, a, _, _, _, rfl, rfl, hT, at0, ?_⟩
    refine ⟨_, rfl, rfl, _, rfl, iteFb (vne w3.1) ⟨_, rfl, rfl, _, rfl, iteFb (vne w3.2) ⟨_, rfl, rfl, _, rfl, iteFb (vne ne_repeat_or) ⟨_, rfl, rfl, _, rfl, iteFb (vne ne_repeat_row) ⟨_, rfl, rfl, _, rfl, iteTb (veq rfl) ?_⟩⟩⟩⟩⟩
    exact ⟨_, rfl, _, rfl, _, rfl, _, p, l, m, z, s, rfl, hp, hw, by omega, hz, hs, q⟩
end
end Pd
set_option Elab.async false
set_option linter.all false
set_option maxRecDepth 100000
set_option maxHeartbeats 4000000
namespace Pd
open PySem PySem.Spec PyProof.Rows L2
section
variable {P : Program} {w : World} {K : PySem.W.Frag} {mg : Str → Option Value} {base : Heap} {f : Addr} {fd : FuncData}
theorem rowSteps_cons {t : List Nat} {p : Pat} {ps : List Pat} {s : Nat} {d : PyData} {ds : List PyData} : rowSteps t (p :: ps) s (d :: ds) = match walk t p s d with
    | some m => (rowSteps t ps m ds).map (m :: ·)
    | none => none := by
  rw [rowSteps] <;> (cases walk t p s d <;> rfl)
theorem rowSteps_nil {t : List Nat} {s : Nat} : rowSteps t [] s [] = some [] := by rw [rowSteps]
abbrev N_law_many_walked : List Str := ["_law_parts", "_law_text_here", "_law_start", "_law_values", "_law_ends_here", "_law_k", "_law_end"]
theorem sc_law_many_walked : FnScope N_law_many_walked ["_law_parts", "_law_text_here", "_law_start", "_law_values"] (defScope s_law_many_walked) := ⟨rfl, rfl, rfl, by decide +kernel, rfl, by decide +kernel, by decide +kernel⟩
theorem ok_law_many_walked {gW : Addr} {D k : Nat} (T : Txt K mg) (F : FnP K "_law_many_walked" "_law_many_walked" s_law_many_walked f fd) (h_law_walked : Has P w K mg base "_law_walked" gW ["_law_tree_here", "_law_text_here", "_law_start", "_law_value"] k (spLawWalked K D)) :
    FnOk P w K mg base CX0 (k + 1) f fd ["_law_parts", "_law_text_here", "_law_start", "_law_values"] (spLawMany K D) := by
  refine F.ok sc_law_many_walked (fun vs H Q E h => ?_) (fun cdv A outer s0 H vs Q E hr h => ?_)
  · obtain ⟨a, b, xs, ys, ps, ds, z, s, rfl, _⟩ := h
    rfl
  obtain ⟨a, b, xs, ys, ps, ds, z, s, rfl, hsq, hxs, hys, hds, lpd, l2000, hps, hsh, hz, hs, qn, qs⟩ := h
  refine ⟨_, PSs.nox ((pss_cons (ps_set (i := 4) sc_law_many_walked.nd rfl (Or.inl rfl) (pe_lst (pa_cons (pv 2) pa_nil)))
    (pss_cons (ps_for PassesOwn.never rfl (pi_range1 rfl T.z_range (pa_cons (pe_callB call_len_seq rfl T.z_len PySem.boot_len (pa_cons (pv 0) pa_nil)) pa_nil)) (pg_name (i := 5) sc_law_many_walked.nd rfl (Or.inl rfl)) (pss_cons (ps_set (i := 6) sc_law_many_walked.nd rfl (Or.inl rfl) (pe_callH h_law_walked hr (by omega) rfl (pa_cons (pe_ix ix_list (pv 0) (pv 5) (fun _ _ => rfl)) (pa_cons (pv 1) (pa_cons (pe_ix ix_list (pv 4) (pe_un un_neg pe_int) (fun _ _ => rfl)) (pa_cons (pe_ix ix_tup (pv 3) (pv 5) (fun _ _ => rfl)) pa_nil))))))
    (pss_cons (ps_if (pt_cmpR op_isN (pv 6) pe_non (nomark _)) (pss_one (ps_ret pe_non)) pss_nil)
    (pss_one (ps_expr (pe_bm PySem.F.plainAttrs_list PySem.F.slot_list_append PySem.F.type_list_append mt_append (pv 4) (pa_cons (pv 6) pa_nil)))))))
    (pss_one (ps_ret (pv 4)))))), ?_⟩
  have htx := tx_len z
  have lxs : xs.length = ps.length := by
    have := hxs.len
    rw [List.length_map] at this
    exact this
  have lys : ys.length = ds.length := hds.len
  refine ⟨_, rfl, (by show 1 ≤ sizeLine; exact small_le (by decide)), fun R nR => ?_⟩
  have s1 := same_new nR (.lst [V.int (s : Int)])
  refine ⟨_, rfl, a, xs, rfl, .inl (s1.seq hsq), (xs.length : Int), rfl, by omega, by omega, for_range (fun i σ H' => ∃ (cur : Nat) (es : List Nat) (v5 v6 : Option V), σ = [some (.ref a), some (.str z), some (.int (s : Int)), some (.ref b), some (.ref R), v5, v6] ∧ Same H H' ∧ H' R = some (.lst (nv (s :: es))) ∧ es.length = i ∧ (s :: es)[i]? = some cur ∧ cur ≤ z.length ∧
      rowWalk (tx z) ps s ds = rowWalk (tx z) (ps.drop i) cur (ds.drop i) ∧ rowSteps (tx z) ps s ds = (rowSteps (tx z) (ps.drop i) cur (ds.drop i)).map (es ++ ·))
    ⟨s, [], none, none, rfl, s1, upd_same, rfl, rfl, hs, rfl, by rw [List.drop_zero, List.drop_zero]; cases rowSteps (tx z) ps s ds <;> rfl⟩ (fun i σ H1 hi h => ?_) fun σ H1 h => ?_⟩
  · obtain ⟨cur, es, v5, v6, rfl, s2, hR, le, hcur, hc, hw, hst⟩ := h
    have hi2 : i < xs.length := by omega
    have k1 := Kp.of s2
    have hxi : xs[i]? = some xs[i] := List.getElem?_eq_getElem hi2
    have hyi : ys[i]? = some ys[i] := List.getElem?_eq_getElem (by omega)
    obtain ⟨pd, hp1, hp2⟩ := hxs.atV hxi
    obtain ⟨d, hd1, hd2⟩ := hds.atV hyi
    obtain ⟨p, hp3, rfl⟩ : ∃ p, ps[i]? = some p ∧ pd = enc p := by
      rw [List.getElem?_map] at hp1
      cases e : ps[i]? with
      | none => rw [e] at hp1; cases hp1
      | some p => rw [e] at hp1; exact ⟨p, rfl, (Option.some.inj hp1).symm⟩
    have hpw := hps p (List.mem_of_getElem? hp3)
    have dp : ps.drop i = p :: ps.drop (i + 1) := by
      obtain ⟨h1, h2⟩ := List.getElem?_eq_some_iff.mp hp3
      rw [List.drop_eq_getElem_cons h1, h2]
    have dd : ds.drop i = d :: ds.drop (i + 1) := by
      obtain ⟨h1, h2⟩ := List.getElem?_eq_some_iff.mp hd1
      rw [List.drop_eq_getElem_cons h1, h2]
    rw [dp, dd, rowWalk_cons] at hw
    rw [dp, dd, rowSteps_cons] at hst
    have a1 : atI xs (0 + (i : Int)) = some xs[i] := by rw [Int.zero_add]; exact atI_nat hxi
    have a2 : atI ys (0 + (i : Int)) = some ys[i] := by rw [Int.zero_add]; exact atI_nat hyi
    have a3 : atI (nv (s :: es)) (-1) = some (.int (cur : Int)) := atI_end (k := i) (nv_at hcur) (by rw [nv_len]; exact congrArg Nat.succ le)
    refine ⟨_, rfl, _, rfl, a, _, _, _, rfl, rfl, k1.seq hsq, a1, _, rfl, _, rfl, _, rfl, R, _, _, _, rfl, rfl, SqL.of hR, a3, _, rfl, _, rfl, b, _, _, _, rfl, rfl, k1.tup hys, a2, ?_⟩
    refine ⟨xs[i], ys[i], p, d, z, cur, rfl, k1.dp hp2, hpw.1, hpw.2, k1.dp hd2, hsh d (List.mem_of_getElem? hd1), hz, hc, fun H2 s3 => ?_⟩
    have s23 := s2.trans s3
    have hR2 := s3 _ _ hR
    cases e : walk (tx z) p cur d with
    | none =>
      rw [e] at hw
      exact ⟨_, rfl, rfl, _, rfl, iteTb rfl (qn hw H2 s23)⟩
    | some m =>
      rw [e] at hw hst
      have ml : m ≤ z.length := by
        have := walk_le (tx z) p cur d m (by omega) e
        omega
      refine ⟨_, rfl, rfl, _, rfl, iteFb rfl ?_⟩
      refine ⟨_, rfl, .inl ⟨rfl, _, SqL.of hR2⟩, _, rfl, R, _, _, rfl, rfl, hR2, by rw [nv_len]; exact small_line (by rw [List.length_cons]; omega), m, es ++ [m], _, _, rfl, same_over s23 nR _, ?_, by rw [List.length_append, le]; rfl, ?_, ml, hw, ?_⟩
      · rw [upd_same, nv_snoc]
        rfl
      · rw [List.getElem?_cons_succ, List.getElem?_append_right (by omega), le, Nat.sub_self]
        rfl
      · rw [hst]
        show Option.map (fun x => es ++ x) (Option.map (fun x => m :: x) (rowSteps (tx z) (ps.drop (i + 1)) m (ds.drop (i + 1)))) = _
        cases rowSteps (tx z) (ps.drop (i + 1)) m (ds.drop (i + 1)) with
        | none => rfl
        | some us =>
          show some (es ++ m :: us) = some ((es ++ [m]) ++ us)
          rw [List.append_assoc]
          rfl
  · obtain ⟨cur, es, v5, v6, rfl, s2, hR, le, hcur, hc, hw, hst⟩ := h
    rw [Int.toNat_natCast, lxs, List.drop_length, List.drop_eq_nil_of_le (by omega), rowSteps_nil] at hst
    refine ⟨_, rfl, qs es R H1 ?_ s2 hR⟩
    rw [hst]
    show some (es ++ []) = _
    rw [List.append_nil]
end
end Pd
set_option Elab.async false
set_option linter.all false
set_option maxRecDepth 100000
set_option maxHeartbeats 4000000
namespace Pd
open PySem PySem.Spec PyProof.Rows L2
section
variable {P : Program} {w : World} {K : PySem.W.Frag} {mg : Str → Option Value} {base : Heap} {f : Addr} {fd : FuncData}
theorem shaped_tup_nil : SeqAt.shaped (.tuple []) = true := by decide +kernel
theorem in3l (w : Str) : inV (.str w) [.str "row", .str "or", .str "repeat"] = inV (.str w) [.str "row", .str "or", .str "repeat"] := rfl
abbrev N_law_walked : List Str := ["_law_tree_here", "_law_text_here", "_law_start", "_law_value", "_law_word", "_law_ends_here", "_law_parts", "_law_one"]
theorem sc_law_walked : FnScope N_law_walked ["_law_tree_here", "_law_text_here", "_law_start", "_law_value"] (defScope s_law_walked) := ⟨rfl, rfl, rfl, by decide +kernel, rfl, by decide +kernel, by decide +kernel⟩
theorem ok_law_walked {gE gM gW : Addr} {D De k je jw : Nat} (T : Txt K mg) (F : FnP K "_law_walked" "_law_walked" s_law_walked f fd) (hj : je ≤ k) (hjw : jw ≤ k) (hDe : 1 ≤ De) (h_law_ends : Has P w K mg base "_law_ends" gE ["_law_tree_here", "_law_text_here", "_law_start"] je (spLawEnds K De))
    (h_law_many_walked : Has P w K mg base "_law_many_walked" gM ["_law_parts", "_law_text_here", "_law_start", "_law_values"] k (spLawMany K D)) (h_law_walked : Has P w K mg base "_law_walked" gW ["_law_tree_here", "_law_text_here", "_law_start", "_law_value"] jw (spLawWalked K D)) :
    FnOk P w K mg base CX0 (k + 1) f fd ["_law_tree_here", "_law_text_here", "_law_start", "_law_value"] (spLawWalked K (D + 1)) := by
  refine F.ok sc_law_walked (fun vs H Q E h => ?_) (fun cdv A outer s0 H vs Q E hr h => ?_)
  · obtain ⟨v, u, p, d, z, s, rfl, _⟩ := h
    rfl
  obtain ⟨v, u, p, d, z, s, rfl, hp, hw, hdp, hd, hsh, hz, hs, q⟩ := h
  refine ⟨_, PSs.nox ((pss_cons (ps_set (i := 4) sc_law_walked.nd rfl (Or.inl rfl) (pe_ix ix_tup (pv 0) pe_int (fun _ _ => rfl)))
    (pss_cons (ps_if (PW.pt (pw_or (pt_not (pt_val (pe_callB call_isi rfl T.z_isinstance bb_isinstance (pa_cons (pv 3) (pa_cons (pe_bltn (v := .ty "tuple") rfl T.z_tuple bb_tuple rfl) pa_nil))))) (pw_or (pt_cmpR (op_eqD hr.units) (pv 3) (pe_tup pa_nil) (nomark _)) (pw_or1 (pt_not (pt_val (pe_callB call_isi rfl T.z_isinstance bb_isinstance (pa_cons (pe_ix ix_tup (pv 3) pe_int (fun _ _ => rfl)) (pa_cons (pe_bltn (v := .ty "str") rfl T.z_str bb_str rfl) pa_nil))))))))) (pss_one (ps_ret pe_non)) pss_nil)
    (pss_cons (ps_if (pt_cmpR op_notIn_seq (pv 4) (pe_lst (pa_cons pe_str (pa_cons pe_str (pa_cons pe_str pa_nil)))) rfl) (pss_cons (ps_set (i := 5) sc_law_walked.nd rfl (Or.inl rfl) (pe_callH h_law_ends hr (by omega) rfl (pa_cons (pv 0) (pa_cons (pv 1) (pa_cons (pv 2) pa_nil)))))
    (pss_cons (ps_if (PW.pt (pw_or (pt_cmpR op_ne (pe_callB call_len_seq rfl T.z_len PySem.boot_len (pa_cons (pv 3) pa_nil)) pe_int (nomark _)) (pw_or (pt_cmpR op_ne (pe_ix ix_tup (pv 3) pe_int (fun _ _ => rfl)) pe_str (nomark _)) (pw_or1 (pt_cmpR (op_eqD hr.units) (pv 5) (pe_lst pa_nil) (nomark _)))))) (pss_one (ps_ret pe_non)) pss_nil)
    (pss_one (ps_ret (pe_ix ix_list (pv 5) pe_int (fun _ _ => rfl)))))) pss_nil)
    (pss_cons (ps_if (PW.pt (pw_or (pt_cmpR op_ne (pe_ix ix_tup (pv 3) pe_int (fun _ _ => rfl)) (pv 4) (nomark _)) (pw_or1 (pt_cmpR op_ne (pe_callB call_len_seq rfl T.z_len PySem.boot_len (pa_cons (pv 3) pa_nil)) (pe_op op_add pe_int (pe_callTy call_int1 rfl T.z_int bb_int (pa_cons (pe_cmpR op_eq (pv 4) pe_str (nomark _)) pa_nil))) (nomark _))))) (pss_one (ps_ret pe_non)) pss_nil)
    (pss_cons (ps_if (pt_cmpR op_eq (pv 4) pe_str (nomark _)) (pss_cons (ps_if (PW.pt (pw_or (pt_not (pt_val (pe_callB call_isi rfl T.z_isinstance bb_isinstance (pa_cons (pe_ix ix_tup (pv 3) pe_int (fun _ _ => rfl)) (pa_cons (pe_bltn (v := .ty "int") rfl T.z_int bb_int rfl) pa_nil))))) (pw_or (pt_val (pe_callB call_isi rfl T.z_isinstance bb_isinstance (pa_cons (pe_ix ix_tup (pv 3) pe_int (fun _ _ => rfl)) (pa_cons (pe_bltn (v := .ty "bool") rfl T.z_bool bb_bool rfl) pa_nil)))) (pw_or1 (pt_not (pt_chain op_le op_lt pe_int (pe_ix ix_tup (pv 3) pe_int (fun _ _ => rfl)) (pe_callB call_len_seq rfl T.z_len PySem.boot_len (pa_cons (pe_ix ix_tup (pv 0) pe_int (fun _ _ => rfl)) pa_nil)))))))) (pss_one (ps_ret pe_non)) pss_nil)
    (pss_one (ps_ret (pe_callH h_law_walked hr (by omega) rfl (pa_cons (pe_ix ix_tup (pe_ix ix_tup (pv 0) pe_int (fun _ _ => rfl)) (pe_ix ix_tup (pv 3) pe_int (fun _ _ => rfl)) (fun _ _ => rfl)) (pa_cons (pv 1) (pa_cons (pv 2) (pa_cons (pe_ix ix_tup (pv 3) pe_int (fun _ _ => rfl)) pa_nil)))))))) pss_nil)
    (pss_cons (ps_if (pt_not (pt_val (pe_callB call_isi rfl T.z_isinstance bb_isinstance (pa_cons (pe_ix ix_tup (pv 3) pe_int (fun _ _ => rfl)) (pa_cons (pe_bltn (v := .ty "tuple") rfl T.z_tuple bb_tuple rfl) pa_nil))))) (pss_one (ps_ret pe_non)) pss_nil)
    (pss_cons (ps_set (i := 6) sc_law_walked.nd rfl (Or.inl rfl) (pe_callTy call_list_of rfl T.z_list bb_list (pa_cons (pe_ix ix_tup (pv 0) pe_int (fun _ _ => rfl)) pa_nil)))
    (pss_cons (ps_if (pt_cmpR op_eq (pv 4) pe_str (nomark _)) (pss_cons (ps_if (PW.pt (pw_or (pt_cmpR op_lt (pe_callB call_len_seq rfl T.z_len PySem.boot_len (pa_cons (pe_ix ix_tup (pv 3) pe_int (fun _ _ => rfl)) pa_nil)) (pe_ix ix_tup (pv 0) pe_int (fun _ _ => rfl)) (nomark _)) (pw_or1 (PW.pt (pw_and (pt_cmpR op_notN (pe_ix ix_tup (pv 0) pe_int (fun _ _ => rfl)) pe_non (nomark _)) (pw_and1 (pt_cmpR op_gt (pe_callB call_len_seq rfl T.z_len PySem.boot_len (pa_cons (pe_ix ix_tup (pv 3) pe_int (fun _ _ => rfl)) pa_nil)) (pe_ix ix_tup (pv 0) pe_int (fun _ _ => rfl)) (nomark _)))))))) (pss_one (ps_ret pe_non)) pss_nil)
    (pss_one (ps_setLc (i := 6) (own := [("_law_one", 7)]) rfl sc_law_walked.nd rfl rfl (sw_true rfl rfl rfl (by decide +kernel)) (pi_tup (pe_ix ix_tup (pv 3) pe_int (fun _ _ => rfl))) (blkOk_by (N := N_law_walked) (sc := defScope s_law_walked) (by decide +kernel)) (fun _ _ _ _ _ => pg_name (i := 7) sc_law_walked.nd rfl (Or.inl rfl)) (fun _ _ _ _ _ => pts_nil) (fun _ _ _ _ _ => (pe_ix (ix_tupK (K := K) rfl) (pv 0) pe_int (fun _ _ => rfl)))))) pss_nil)
    (pss_cons (ps_if (pt_cmpR op_ne (pe_callB call_len_seq rfl T.z_len PySem.boot_len (pa_cons (pv 6) pa_nil)) (pe_callB call_len_seq rfl T.z_len PySem.boot_len (pa_cons (pe_ix ix_tup (pv 3) pe_int (fun _ _ => rfl)) pa_nil)) (nomark _)) (pss_one (ps_ret pe_non)) pss_nil)
    (pss_cons (ps_set (i := 5) sc_law_walked.nd rfl (Or.inl rfl) (pe_callH h_law_many_walked hr (by omega) rfl (pa_cons (pv 6) (pa_cons (pv 1) (pa_cons (pv 2) (pa_cons (pe_ix ix_tup (pv 3) pe_int (fun _ _ => rfl)) pa_nil))))))
    (pss_cons (ps_if (pt_cmpR op_isN (pv 5) pe_non (nomark _)) (pss_one (ps_ret pe_non)) pss_nil)
    (pss_one (ps_ret (pe_ix ix_list (pv 5) (pe_un un_neg pe_int) (fun _ _ => rfl)))))))))))))))), ?_⟩
  have htx := tx_len z
  have l0 : (0 : Nat) ≤ sizeLine := small_le (by decide)
  have l3 : (3 : Nat) ≤ sizeLine := small_le (by decide)
  have line : (sizeLine : Nat) < 2 ^ 62 := by rw [sizeLine_eq]; decide
  obtain ⟨a0, us0, rfl, hT0⟩ := hp.word
  refine ⟨_, rfl, a0, _, _, _, rfl, rfl, hT0, at0, ?_⟩
  refine ⟨_, rfl, _, _, _, _, _, rfl, .ty _, hd.tyx, kit_ty (kit_tup d), _, rfl, ite2b (fun c => ?_) fun c => ?_⟩
  · have e : isTup d = false := by cases e : isTup d <;> rw [e] at c <;> first | rfl | cases c
    have q1 := q H (Same.refl H)
    rw [walk_not (ne_tup_of e)] at q1
    exact q1
  obtain ⟨ds, rfl⟩ : ∃ ds, d = .tuple ds := by
    cases d with
    | tuple ds => exact ⟨ds, rfl⟩
    | _ => cases c
  clear c
  refine ⟨_, rfl, l0, fun t nt => ⟨.tuple ds, .tuple [], (Kp.new nt _).dp hd, .tupI upd_same .nil, hsh.shaped, shaped_tup_nil, _, rfl, ?_⟩⟩
  have sA := same_new nt (.tup [])
  obtain ⟨HA, eHA⟩ : ∃ HA, HA = upd H t (.tup []) := ⟨_, rfl⟩
  rw [← eHA] at sA ⊢
  clear eHA
  rw [eqv_tup_nil]
  have kA := Kp.of sA
  refine ite2b (fun cl => ?_) fun cl => ?_
  · have q1 := q HA sA
    rw [of_decide_eq_true cl, walk_empty] at q1
    exact q1
  obtain ⟨b, ys, rfl, hT, hA⟩ := hd.tupE
  obtain ⟨d0, dr, rfl⟩ : ∃ d0 dr, ds = d0 :: dr := by
    cases ds with
    | nil => exact absurd rfl (of_decide_eq_false cl)
    | cons d0 dr => exact ⟨d0, dr, rfl⟩
  clear cl
  obtain ⟨v0, vr, rfl, hd0, hdr⟩ : ∃ v0 vr, ys = v0 :: vr ∧ Dp K H v0 d0 ∧ DpAll K H vr dr := by
    cases hA with
    | cons h1 h2 => exact ⟨_, _, rfl, h1, h2⟩
  refine ⟨_, rfl, b, _, _, _, rfl, rfl, kA.tup hT, at0, _, _, _, _, _, rfl, .ty _, (kA.dp hd0).tyx, kit_ty (kit_str d0), _, rfl, ite2b (fun c => ?_) fun c => ?_⟩
  · have e : isStr d0 = false := by cases e : isStr d0 <;> rw [e] at c <;> first | rfl | cases c
    have q1 := q HA sA
    rw [walk_head (fun w e2 => by rw [e2] at e; cases e)] at q1
    exact q1
  obtain ⟨w0, rfl⟩ : ∃ w0, d0 = .str w0 := by
    cases d0 with
    | str w0 => exact ⟨w0, rfl⟩
    | _ => cases c
  clear c
  obtain rfl := hd0.strE
  have ldr : vr.length = dr.length := hdr.len
  refine ⟨_, rfl, l3, fun L nL => ⟨L, _, rfl, .inl (SqL.of upd_same), rfl, rfl, _, rfl, ?_⟩⟩
  have sB := same_add sA nL (.lst [V.str "row", V.str "or", V.str "repeat"])
  obtain ⟨HB, eHB⟩ : ∃ HB, HB = upd HA L (.lst [V.str "row", V.str "or", V.str "repeat"]) := ⟨_, rfl⟩
  rw [← eHB] at sB ⊢
  clear eHB nL sA kA nt
  have kB := Kp.of sB
  replace hT := kB.tup hT
  replace hdr := kB.dpAll hdr
  replace hp : PtV K HB (.ref a0) p := kB.dp hp
  replace hT0 := kB.tup hT0
  have qB : ∀ H', Same HB H' → Q (oi (walk (tx z) p s (.tuple (.str w0 :: dr)))) H' := fun H' s => q H' (sB.trans s)
  have qB0 := qB HB (Same.refl HB)
  have shr : ∀ d ∈ dr, Shp 64 d := fun d hd => hsh.mem (List.mem_cons_of_mem _ hd)
  clear q hd hd0 hA hsh
  cases p with
  | leaf l =>
    refine iteTb (in3_leaf l) ?_
    refine ⟨_, rfl, _, rfl, _, rfl, .ref a0, .leaf l, z, s, rfl, hp, hw, by rw [dep]; exact hDe, hz, hs, fun b1 H3 s3 nb hb => ?_⟩
    rw [lends_leaf] at hb
    have k3 := Kp.of s3
    have q3 := qB H3 s3
    refine ⟨_, rfl, b, _, rfl, .inr (k3.tup hT), rfl, _, rfl, ite2b (fun c => ?_) fun c => ?_⟩
    · rw [walk_leaf_none (.inr fun e => by
        rw [e] at ldr
        have c2 : (!decide (V.int ((vr.length + 1 : Nat) : Int) = V.int 1)) = true := c
        rw [ldr] at c2
        cases c2)] at q3
      exact q3
    have e0 : dr = [] := by
      have c2 : (!decide (V.int ((vr.length + 1 : Nat) : Int) = V.int 1)) = false := c
      refine List.eq_nil_of_length_eq_zero (Classical.byContradiction fun g => ?_)
      rw [nvi_t (by omega)] at c2
      cases c2
    subst e0
    refine ⟨_, rfl, b, _, _, _, rfl, rfl, k3.tup hT, at0, rfl, _, rfl, ite2b (fun c => ?_) fun c => ?_⟩
    · rw [walk_leaf_none (.inl fun e => by rw [nvs_f e] at c; cases c)] at q3
      exact q3
    have e1 : w0 = "one" := Classical.byContradiction fun e => by rw [nvs_t e] at c; cases c
    subst e1
    refine ⟨_, rfl, l0, fun L2 nL2 => ?_⟩
    have s4 := same_new nL2 (.lst [])
    have q4 := qB _ (s3.trans s4)
    rw [walk_leaf_one] at q4
    cases e : leafEnd (tx z) l s with
    | none =>
      rw [e] at hb q4
      exact ⟨.list (nds []), .list [], .lstI (s4 _ _ hb) (dp_nv _), .lstI upd_same .nil, shaped_nds _, shaped_nil, _, rfl, iteTb (eqv_nds_nil []) q4⟩
    | some y =>
      rw [e] at hb q4
      exact ⟨.list (nds [y]), .list [], .lstI (s4 _ _ hb) (dp_nv _), .lstI upd_same .nil, shaped_nds _, shaped_nil, _, rfl, iteFb (eqv_nds_nil [y]) ⟨_, rfl, b1, _, _, _, rfl, rfl, SqL.of (s4 _ _ hb), at0, q4⟩⟩
  | row ps =>
    obtain ⟨a, c0, xs, ea, hsq, hcT, hxs⟩ := hp.row
    cases ea
    rw [Wf] at hw
    rw [dep] at hdp
    refine iteFb in3_row ?_
    refine ⟨_, rfl, b, _, _, _, rfl, rfl, hT, at0, _, rfl, rfl, _, rfl, ite2b (fun c => ?_) fun c => ?_⟩
    · have c1 : (!decide (V.str w0 = V.str ("row" : Str))) = true := c
      rw [walk_row_none (.inl fun e => by rw [nvs_f e] at c1; cases c1)] at qB0
      exact qB0
    have c1 : (!decide (V.str w0 = V.str ("row" : Str))) = false := c
    have e1 : w0 = "row" := Classical.byContradiction fun e => by rw [nvs_t e] at c1; cases c1
    clear c1
    subst e1
    clear c
    refine ⟨_, rfl, b, _, rfl, .inr hT, _, rfl, rfl, .inr ⟨_, rfl, _, _, rfl, rfl, rfl, _, rfl, ite2b (fun c => ?_) fun c => ?_⟩⟩
    · have c2 : (!decide (V.int ((vr.length + 1 : Nat) : Int) = V.int (2 + (if decide (V.str ("row" : Str) = V.str "or") = true then 1 else 0)))) = true := c
      rw [(vne ne_row_or : decide (V.str ("row" : Str) = V.str "or") = false)] at c2
      rw [walk_row_none (.inr fun es e => by
        rw [e] at ldr
        rw [ldr] at c2
        cases c2)] at qB0
      exact qB0
    have c2 : (!decide (V.int ((vr.length + 1 : Nat) : Int) = V.int (2 + (if decide (V.str ("row" : Str) = V.str "or") = true then 1 else 0)))) = false := c
    rw [(vne ne_row_or : decide (V.str ("row" : Str) = V.str "or") = false)] at c2
    clear c
    obtain ⟨d1, rfl⟩ : ∃ d1, dr = [d1] := by
      refine List.length_eq_one_iff.mp (Classical.byContradiction fun g => ?_)
      rw [nvi_t (show ((vr.length + 1 : Nat) : Int) ≠ 2 + (if false = true then 1 else 0) by rw [if_neg Bool.false_ne_true]; omega)] at c2
      cases c2
    clear c2
    obtain ⟨v1, rfl, hd1⟩ : ∃ v1, vr = [v1] ∧ Dp K HB v1 d1 := by
      cases hdr with
      | cons h1 h2 => cases h2; exact ⟨_, rfl, h1⟩
    refine ⟨_, rfl, rfl, _, rfl, iteFb (vne ne_row_or) ?_⟩
    refine ⟨_, rfl, b, _, _, _, rfl, rfl, hT, at1, _, _, _, _, _, rfl, .ty _, hd1.tyx, kit_ty (kit_tup d1), _, rfl, ite2b (fun c => ?_) fun c => ?_⟩
    · have e : isTup d1 = false := by cases e : isTup d1 <;> rw [e] at c <;> first | rfl | cases c
      rw [walk_row_none (.inr fun es e2 => ne_tup_of e es (List.cons.inj e2).1)] at qB0
      exact qB0
    obtain ⟨es, rfl⟩ : ∃ es, d1 = .tuple es := by
      cases d1 with
      | tuple ds => exact ⟨ds, rfl⟩
      | _ => cases c
    clear c
    have she : Shp 64 (.tuple es) := shr _ List.mem_cons_self
    obtain ⟨b1, zs, rfl, hT1, hA1⟩ := hd1.tupE
    have l1 : zs.length = es.length := hA1.len
    have lxs : xs.length = ps.length := by
      have := hxs.len
      rw [List.length_map] at this
      exact this
    refine ⟨_, rfl, a0, _, _, _, rfl, rfl, hsq, at1, c0, xs, rfl, .inr hcT, fun L nL => ?_⟩
    have sC := same_new nL (.lst xs)
    have kC := Kp.of sC
    have hLC : SqL K (upd HB L (.lst xs)) L xs := SqL.of upd_same
    refine ⟨_, rfl, rfl, _, rfl, iteFb (vne ne_row_repeat) ?_⟩
    refine ⟨_, rfl, L, xs, rfl, .inl hLC, _, rfl, b, _, _, _, rfl, rfl, kC.tup hT, at1, b1, zs, rfl, .inr (kC.tup hT1), rfl, _, rfl, ite2b (fun c => ?_) fun c => ?_⟩
    · have ne : ps.length ≠ es.length := fun e => by rw [nvi_f (by omega)] at c; cases c
      have q1 := qB _ sC
      rw [walk_row_is, rowWalk_len _ _ _ ne] at q1
      exact q1
    have el : ps.length = es.length := Classical.byContradiction fun e => by rw [nvi_t (by omega)] at c; cases c
    refine ⟨_, rfl, _, rfl, _, rfl, _, rfl, b, _, _, _, rfl, rfl, kC.tup hT, at1, ?_⟩
    refine ⟨L, b1, xs, zs, ps, es, z, s, rfl, hLC, kC.dpAll hxs, kC.tup hT1, kC.dpAll hA1, el, by have := she.len; omega, fun p hp => ⟨wfs_mem hw.1 hp, by have := deps_mem hp; omega⟩, fun d hd => she.mem hd, hz, hs, fun hn H3 s3 => ?_, fun us c H3 hst s3 hc => ?_⟩
    · have q1 := qB H3 (sC.trans s3)
      rw [walk_row_is, hn] at q1
      exact ⟨_, rfl, rfl, _, rfl, iteTb rfl q1⟩
    · obtain ⟨e, e1, e2⟩ := rowSteps_last _ _ _ _ hst
      have q1 := qB H3 (sC.trans s3)
      rw [walk_row_is, e2] at q1
      exact ⟨_, rfl, rfl, _, rfl, iteFb rfl ⟨_, rfl, _, rfl, c, _, _, _, rfl, rfl, SqL.of hc, atI_end (k := us.length) (nv_at e1) (by rw [nv_len]; rfl), q1⟩⟩
  | alt ps =>
    obtain ⟨a, c0, xs, ea, hsq, hcT, hxs⟩ := hp.alt
    cases ea
    rw [Wf] at hw
    rw [dep] at hdp
    refine iteFb in3_or ?_
    refine ⟨_, rfl, b, _, _, _, rfl, rfl, hT, at0, _, rfl, rfl, _, rfl, ite2b (fun c => ?_) fun c => ?_⟩
    · have c1 : (!decide (V.str w0 = V.str ("or" : Str))) = true := c
      rw [walk_alt_none (.inl fun e => by rw [nvs_f e] at c1; cases c1)] at qB0
      exact qB0
    have c1 : (!decide (V.str w0 = V.str ("or" : Str))) = false := c
    have e1 : w0 = "or" := Classical.byContradiction fun e => by rw [nvs_t e] at c1; cases c1
    clear c1
    subst e1
    clear c
    refine ⟨_, rfl, b, _, rfl, .inr hT, _, rfl, rfl, .inr ⟨_, rfl, _, _, rfl, rfl, rfl, _, rfl, ite2b (fun c => ?_) fun c => ?_⟩⟩
    · have c2 : (!decide (V.int ((vr.length + 1 : Nat) : Int) = V.int (2 + (if decide (V.str ("or" : Str) = V.str "or") = true then 1 else 0)))) = true := c
      rw [(veq rfl : decide (V.str ("or" : Str) = V.str "or") = true)] at c2
      rw [walk_alt_none (.inr fun k x e => by
        rw [e] at ldr
        rw [ldr] at c2
        cases c2)] at qB0
      exact qB0
    have c2 : (!decide (V.int ((vr.length + 1 : Nat) : Int) = V.int (2 + (if decide (V.str ("or" : Str) = V.str "or") = true then 1 else 0)))) = false := c
    rw [(veq rfl : decide (V.str ("or" : Str) = V.str "or") = true)] at c2
    clear c
    obtain ⟨d1, d2, rfl⟩ : ∃ d1 d2, dr = [d1, d2] := by
      have l2 : dr.length = 2 := Classical.byContradiction fun g => by
        rw [nvi_t (show ((vr.length + 1 : Nat) : Int) ≠ 2 + (if true = true then 1 else 0) by rw [if_pos rfl]; omega)] at c2
        cases c2
      match dr, l2 with
      | [d1, d2], _ => exact ⟨d1, d2, rfl⟩
    clear c2
    obtain ⟨v1, v2, rfl, hd1, hd2⟩ : ∃ v1 v2, vr = [v1, v2] ∧ Dp K HB v1 d1 ∧ Dp K HB v2 d2 := by
      cases hdr with
      | cons h1 h2 =>
        cases h2 with
        | cons h2 h3 => cases h3; exact ⟨_, _, rfl, h1, h2⟩
    have l2 : xs.length = ps.length := by
      have := hxs.len
      rw [List.length_map] at this
      exact this
    refine ⟨_, rfl, rfl, _, rfl, iteTb (veq rfl) ?_⟩
    refine ⟨_, rfl, b, _, _, _, rfl, rfl, hT, at1, _, _, _, _, _, rfl, .ty _, hd1.tyx, kit_ty (kit_int d1), _, rfl, ite2b (fun c => ?_) fun c => ?_⟩
    · rw [walk_alt_none (.inr fun k x e => by cases e; cases c)] at qB0
      exact qB0
    refine ⟨_, rfl, b, _, _, _, rfl, rfl, hT, at1, _, _, _, _, _, rfl, .ty _, hd1.tyx, kit_ty (kit_bool d1), _, rfl, ite2b (fun c2 => ?_) fun c2 => ?_⟩
    · rw [walk_alt_none (.inr fun k x e => by cases e; cases c2)] at qB0
      exact qB0
    obtain ⟨i, rfl⟩ : ∃ i, d1 = .int i := by
      cases d1 with
      | int i => exact ⟨i, rfl⟩
      | bool b => cases c2
      | _ => cases c
    clear c c2
    obtain rfl := hd1.intE
    rw [walk_alt_is] at qB0 qB
    refine ⟨_, rfl, b, _, _, _, rfl, rfl, hT, at1, _, _, rfl, rfl, _, rfl, ite2b (fun c => ?_) fun c => ?_⟩
    rotate_left
    · have g : ¬ 0 ≤ i := of_decide_eq_false c
      rw [if_neg g] at qB0
      exact ⟨_, rfl, iteTb rfl qB0⟩
    have g : 0 ≤ i := of_decide_eq_true c
    rw [if_pos g] at qB0 qB
    obtain ⟨j, rfl⟩ := Int.eq_ofNat_of_zero_le g
    rw [Int.toNat_natCast] at qB0 qB
    refine ⟨_, rfl, a0, _, _, _, rfl, rfl, hsq, at1, c0, _, rfl, .inr hcT, _, _, rfl, rfl, _, rfl, ite2b (fun c2 => ?_) fun c2 => ?_⟩
    · have c3 : (!decide ((j : Int) < (xs.length : Int))) = true := c2
      have g2 : ¬ (j : Int) < (xs.length : Int) := fun h => by rw [decide_eq_true h] at c3; cases c3
      rw [altWalk_out _ _ (by omega)] at qB0
      exact qB0
    have c3 : (!decide ((j : Int) < (xs.length : Int))) = false := c2
    have hi : j < ps.length := by
      have : (j : Int) < (xs.length : Int) := Classical.byContradiction fun h => by rw [decide_eq_false h] at c3; cases c3
      omega
    have hpi : ps[j]? = some ps[j] := List.getElem?_eq_getElem hi
    obtain ⟨u, hu1, hu2⟩ := hxs.at (i := j) (d := enc ps[j]) (by rw [List.getElem?_map, hpi]; rfl)
    rw [altWalk_at ps j _ hpi] at qB
    have dm := deps_mem (List.mem_of_getElem? hpi)
    refine ⟨_, rfl, a0, _, _, _, rfl, rfl, hsq, at1, _, rfl, b, _, _, _, rfl, rfl, hT, at1, c0, _, _, _, rfl, rfl, hcT, atI_nat hu1, _, rfl, _, rfl, _, rfl, b, _, _, _, rfl, rfl, hT, at2, ?_⟩
    exact ⟨u, v2, ps[j], d2, z, s, rfl, hu2, wfs_mem hw.1 (List.mem_of_getElem? hpi), by omega, hd2, shr d2 (List.mem_cons_of_mem _ List.mem_cons_self), hz, hs, qB⟩
  | rep p l mo =>
    obtain ⟨a, u, ea, hsq, hu⟩ := hp.rep
    cases ea
    rw [Wf] at hw
    rw [dep] at hdp
    refine iteFb in3_rep ?_
    refine ⟨_, rfl, b, _, _, _, rfl, rfl, hT, at0, _, rfl, rfl, _, rfl, ite2b (fun c => ?_) fun c => ?_⟩
    · have c1 : (!decide (V.str w0 = V.str ("repeat" : Str))) = true := c
      rw [walk_rep_none (.inl fun e => by rw [nvs_f e] at c1; cases c1)] at qB0
      exact qB0
    have c1 : (!decide (V.str w0 = V.str ("repeat" : Str))) = false := c
    have e1 : w0 = "repeat" := Classical.byContradiction fun e => by rw [nvs_t e] at c1; cases c1
    clear c1
    subst e1
    clear c
    refine ⟨_, rfl, b, _, rfl, .inr hT, _, rfl, rfl, .inr ⟨_, rfl, _, _, rfl, rfl, rfl, _, rfl, ite2b (fun c => ?_) fun c => ?_⟩⟩
    · have c2 : (!decide (V.int ((vr.length + 1 : Nat) : Int) = V.int (2 + (if decide (V.str ("repeat" : Str) = V.str "or") = true then 1 else 0)))) = true := c
      rw [(vne ne_repeat_or : decide (V.str ("repeat" : Str) = V.str "or") = false)] at c2
      rw [walk_rep_none (.inr fun es e => by
        rw [e] at ldr
        rw [ldr] at c2
        cases c2)] at qB0
      exact qB0
    have c2 : (!decide (V.int ((vr.length + 1 : Nat) : Int) = V.int (2 + (if decide (V.str ("repeat" : Str) = V.str "or") = true then 1 else 0)))) = false := c
    rw [(vne ne_repeat_or : decide (V.str ("repeat" : Str) = V.str "or") = false)] at c2
    clear c
    obtain ⟨d1, rfl⟩ : ∃ d1, dr = [d1] := by
      refine List.length_eq_one_iff.mp (Classical.byContradiction fun g => ?_)
      rw [nvi_t (show ((vr.length + 1 : Nat) : Int) ≠ 2 + (if false = true then 1 else 0) by rw [if_neg Bool.false_ne_true]; omega)] at c2
      cases c2
    clear c2
    obtain ⟨v1, rfl, hd1⟩ : ∃ v1, vr = [v1] ∧ Dp K HB v1 d1 := by
      cases hdr with
      | cons h1 h2 => cases h2; exact ⟨_, rfl, h1⟩
    refine ⟨_, rfl, rfl, _, rfl, iteFb (vne ne_repeat_or) ?_⟩
    refine ⟨_, rfl, b, _, _, _, rfl, rfl, hT, at1, _, _, _, _, _, rfl, .ty _, hd1.tyx, kit_ty (kit_tup d1), _, rfl, ite2b (fun c => ?_) fun c => ?_⟩
    · have e : isTup d1 = false := by cases e : isTup d1 <;> rw [e] at c <;> first | rfl | cases c
      rw [walk_rep_none (.inr fun es e2 => ne_tup_of e es (List.cons.inj e2).1)] at qB0
      exact qB0
    obtain ⟨es, rfl⟩ : ∃ es, d1 = .tuple es := by
      cases d1 with
      | tuple ds => exact ⟨ds, rfl⟩
      | _ => cases c
    clear c
    have she : Shp 64 (.tuple es) := shr _ List.mem_cons_self
    obtain ⟨b1, zs, rfl, hT1, hA1⟩ := hd1.tupE
    have l1 : zs.length = es.length := hA1.len
    obtain ⟨ua, uus, eu, hTu⟩ := hu.word
    refine ⟨_, rfl, a0, _, _, _, rfl, rfl, hsq, at1, ?_⟩
    subst eu
    refine ⟨ua, _, rfl, .inr hTu, fun L nL => ?_⟩
    have sC := same_new nL (.lst (V.str (wd p) :: uus))
    obtain ⟨HC, eHC⟩ : ∃ HC, HC = upd HB L (.lst (V.str (wd p) :: uus)) := ⟨_, rfl⟩
    rw [← eHC] at sC ⊢
    clear eHC
    have kC := Kp.of sC
    have qC := qB HC sC
    rw [walk_rep_is] at qC
    refine ⟨_, rfl, rfl, _, rfl, iteTb (veq rfl) ?_⟩
    refine ⟨_, rfl, b, _, _, _, rfl, rfl, kC.tup hT, at1, b1, zs, rfl, .inr (kC.tup hT1), _, rfl, a0, _, _, _, rfl, rfl, kC.tup hsq, at2, _, _, rfl, rfl, _, rfl, ite2b (fun c => ?_) fun c => ?_⟩
    · rw [if_neg (fun g => by
        have := of_decide_eq_true c
        omega)] at qC
      exact qC
    have gl : l ≤ es.length := by
      have := of_decide_eq_false c
      omega
    clear c
    by_cases g : ∀ x, mo = some x → es.length ≤ x
    rotate_left
    · obtain ⟨x, rfl⟩ : ∃ x, mo = some x := by
        cases mo with
        | none => exact absurd (fun x e => nomatch e) g
        | some x => exact ⟨x, rfl⟩
      have gx : x < es.length := Classical.byContradiction fun h => g fun y e => by
        have := Option.some.inj e
        omega
      rw [if_neg (fun h => g h.2)] at qC
      exact ⟨_, rfl, a0, _, _, _, rfl, rfl, kC.tup hsq, at3, rfl, _, rfl, iteTb rfl ⟨_, rfl, b, _, _, _, rfl, rfl, kC.tup hT, at1, b1, zs, rfl, .inr (kC.tup hT1), _, rfl, a0, _, _, _, rfl, rfl, kC.tup hsq, at3, _, _, rfl, rfl, _, rfl, iteTb (decide_eq_true (by omega)) qC⟩⟩
    have isr := fun H' (s : Same HB H') => qB H' s
    rw [walk_rep_is, if_pos ⟨gl, g⟩] at qB
    refine ⟨_, rfl, a0, _, _, _, rfl, rfl, kC.tup hsq, at3, rfl, _, rfl, iteElse ?fin fun e B => ?_⟩
    rotate_left
    · obtain ⟨x, rfl⟩ : ∃ x, mo = some x := by
        cases mo with
        | none => cases e
        | some x => exact ⟨x, rfl⟩
      refine ⟨_, rfl, b, _, _, _, rfl, rfl, kC.tup hT, at1, b1, zs, rfl, .inr (kC.tup hT1), _, rfl, a0, _, _, _, rfl, rfl, kC.tup hsq, at3, _, _, rfl, rfl, _, rfl, iteFb (decide_eq_false ?_) B⟩
      have := g x rfl
      omega
    have l2000 := she.len
    refine ⟨_, rfl, b, _, _, _, rfl, rfl, kC.tup hT, at1, b1, rfl, ⟨zs, kC.tup hT1⟩, fun G nG => ?_⟩
    refine walk_tup (xs := zs) (fun i H' => Same HC H' ∧ H' G = some (.lst (List.replicate i (V.ref ua)))) ⟨same_new nG _, upd_same⟩ (fun i H' _ h => (Kp.of h.1).tup (kC.tup hT1)) (fun i y H' hy h => ?_) fun H2 h => ?_
    · obtain ⟨h1, h3⟩ := h
      have k4 := kC.trans (Kp.of h1)
      have li := (List.getElem?_eq_some_iff.mp hy).1
      refine ⟨rfl, _, rfl, a0, _, _, _, rfl, rfl, k4.tup hsq, at1, List.replicate i (V.ref ua), h3, ?_, same_over h1 nG _, ?_⟩
      · rw [List.length_replicate]
        exact small_line (by omega)
      · rw [upd_same, List.replicate_succ']
    obtain ⟨h1, h3⟩ := h
    replace sC := sC.trans h1
    replace kC := Kp.of sC
    have hLC : SqL K H2 G (List.replicate zs.length (V.ref ua)) := SqL.of h3
    have lre : (List.replicate zs.length (V.ref ua)).length = zs.length := List.length_replicate
    refine ⟨_, rfl, G, _, rfl, .inl hLC, _, rfl, b, _, _, _, rfl, rfl, kC.tup hT, at1, b1, zs, rfl, .inr (kC.tup hT1), rfl, _, rfl, iteFb (nvi_f (by rw [lre])) ?_⟩
    refine ⟨_, rfl, _, rfl, _, rfl, _, rfl, b, _, _, _, rfl, rfl, kC.tup hT, at1, ?_⟩
    refine ⟨G, b1, (List.replicate zs.length (V.ref ua)), zs, (List.replicate es.length p), es, z, s, rfl, hLC, (by rw [l1]; exact dp_rep (kC.dp hu) _), kC.tup hT1, kC.dpAll hA1, List.length_replicate, by rw [List.length_replicate]; exact she.len, fun p' hp' => by rw [List.eq_of_mem_replicate hp']; exact ⟨hw.1, by omega⟩, fun d hd => she.mem hd, hz, hs, fun hn H3 s3 => ?_, fun us c H3 hst s3 hc => ?_⟩
    · have q1 := qB H3 (sC.trans s3)
      rw [hn] at q1
      exact ⟨_, rfl, rfl, _, rfl, iteTb rfl q1⟩
    · obtain ⟨e, e1, e2⟩ := rowSteps_last _ _ _ _ hst
      have q1 := qB H3 (sC.trans s3)
      rw [e2] at q1
      exact ⟨_, rfl, rfl, _, rfl, iteFb rfl ⟨_, rfl, _, rfl, c, _, _, _, rfl, rfl, SqL.of hc, atI_end (k := us.length) (nv_at e1) (by rw [nv_len]; rfl), q1⟩⟩
end
end Pd
set_option Elab.async false
set_option linter.all false
set_option maxRecDepth 100000
set_option maxHeartbeats 4000000
namespace Pd
open PySem PySem.Spec PyProof.Rows L2
section
variable {P : Program} {w : World} {K : PySem.W.Frag} {mg : Str → Option Value} {base : Heap} {f : Addr} {fd : FuncData}
theorem in2l (l : Leaf) : (!inV (.str (leafWord l)) [.str "row", .str "repeat"]) = true := by
  match l with
  | .beg => decide +kernel
  | .fin => decide +kernel
  | .any => decide +kernel
  | .sgn false _ => exact (by decide +kernel : (!inV (.str "sign") [.str "row", .str "repeat"]) = true)
  | .sgn true _ => exact (by decide +kernel : (!inV (.str "class") [.str "row", .str "repeat"]) = true)
theorem in2_row : (!inV (.str "row") [.str "row", .str "repeat"]) = false := by decide +kernel
theorem in2_rep : (!inV (.str "repeat") [.str "row", .str "repeat"]) = false := by decide +kernel
abbrev N_law_is_lean : List Str := ["_law_tree_here", "_law_text_here", "_law_start", "_law_value", "_law_word", "_law_parts", "_law_ends_here", "_law_k", "_law_one"]
theorem sc_law_is_lean : FnScope N_law_is_lean ["_law_tree_here", "_law_text_here", "_law_start", "_law_value"] (defScope s_law_is_lean) := ⟨rfl, rfl, rfl, by decide +kernel, rfl, by decide +kernel, by decide +kernel⟩
theorem ok_law_is_lean {gM gL : Addr} {D k jl : Nat} (T : Txt K mg) (F : FnP K "_law_is_lean" "_law_is_lean" s_law_is_lean f fd) (hj : jl ≤ k) (h_law_many_walked : Has P w K mg base "_law_many_walked" gM ["_law_parts", "_law_text_here", "_law_start", "_law_values"] k (spLawMany K D))
    (h_law_is_lean : Has P w K mg base "_law_is_lean" gL ["_law_tree_here", "_law_text_here", "_law_start", "_law_value"] jl (spLawLean K D)) :
    FnOk P w K mg base CX0 (k + 1) f fd ["_law_tree_here", "_law_text_here", "_law_start", "_law_value"] (spLawLean K (D + 1)) := by
  refine F.ok sc_law_is_lean (fun vs H Q E h => ?_) (fun cdv A outer s0 H vs Q E hr h => ?_)
  · obtain ⟨v, u, p, d, z, s, e, rfl, _⟩ := h
    rfl
  obtain ⟨v, u, p, d, z, s, e, rfl, hp, hw, hdp, hd, hsh, hz, hs, hwk, q⟩ := h
  refine ⟨_, PSs.nox ((pss_cons (ps_set (i := 4) sc_law_is_lean.nd rfl (Or.inl rfl) (pe_ix ix_tup (pv 0) pe_int (fun _ _ => rfl)))
    (pss_cons (ps_if (pt_cmpR op_eq (pv 4) pe_str (nomark _)) (pss_one (ps_ret (pe_callH h_law_is_lean hr (by omega) rfl (pa_cons (pe_ix ix_tup (pe_ix ix_tup (pv 0) pe_int (fun _ _ => rfl)) (pe_ix ix_tup (pv 3) pe_int (fun _ _ => rfl)) (fun _ _ => rfl)) (pa_cons (pv 1) (pa_cons (pv 2) (pa_cons (pe_ix ix_tup (pv 3) pe_int (fun _ _ => rfl)) pa_nil))))))) pss_nil)
    (pss_cons (ps_if (pt_cmpR op_notIn_seq (pv 4) (pe_lst (pa_cons pe_str (pa_cons pe_str pa_nil))) rfl) (pss_one (ps_ret pe_bl)) pss_nil)
    (pss_cons (ps_set (i := 5) sc_law_is_lean.nd rfl (Or.inl rfl) (pe_callTy call_list_of rfl T.z_list bb_list (pa_cons (pe_ix ix_tup (pv 0) pe_int (fun _ _ => rfl)) pa_nil)))
    (pss_cons (ps_if (pt_cmpR op_eq (pv 4) pe_str (nomark _)) (pss_one (ps_setLc (i := 5) (own := [("_law_one", 8)]) rfl sc_law_is_lean.nd rfl rfl (sw_true rfl rfl rfl (by decide +kernel)) (pi_tup (pe_ix ix_tup (pv 3) pe_int (fun _ _ => rfl))) (blkOk_by (N := N_law_is_lean) (sc := defScope s_law_is_lean) (by decide +kernel)) (fun _ _ _ _ _ => pg_name (i := 8) sc_law_is_lean.nd rfl (Or.inl rfl)) (fun _ _ _ _ _ => pts_nil) (fun _ _ _ _ _ => (pe_ix (ix_tupK (K := K) rfl) (pv 0) pe_int (fun _ _ => rfl))))) pss_nil)
    (pss_cons (ps_set (i := 6) sc_law_is_lean.nd rfl (Or.inl rfl) (pe_callH h_law_many_walked hr (by omega) rfl (pa_cons (pv 5) (pa_cons (pv 1) (pa_cons (pv 2) (pa_cons (pe_ix ix_tup (pv 3) pe_int (fun _ _ => rfl)) pa_nil))))))
    (pss_cons (ps_for PassesOwn.never rfl (pi_range1 rfl T.z_range (pa_cons (pe_callB call_len_seq rfl T.z_len PySem.boot_len (pa_cons (pv 5) pa_nil)) pa_nil)) (pg_name (i := 7) sc_law_is_lean.nd rfl (Or.inl rfl)) (pss_cons (ps_if (PW.pt (pw_and (pt_cmpR op_eq (pv 4) pe_str (nomark _)) (pw_and (pt_cmpR op_ge (pv 7) (pe_ix ix_tup (pv 0) pe_int (fun _ _ => rfl)) (nomark _)) (pw_and1 (pt_cmpR op_eq (pe_ix ix_list (pv 6) (pv 7) (fun _ _ => rfl)) (pe_ix ix_list (pv 6) (pe_op op_add (pv 7) pe_int) (fun _ _ => rfl)) (nomark _)))))) (pss_one (ps_ret pe_bl)) pss_nil)
    (pss_one (ps_if (pt_not (pt_val (pe_callH h_law_is_lean hr (by omega) rfl (pa_cons (pe_ix ix_list (pv 5) (pv 7) (fun _ _ => rfl)) (pa_cons (pv 1) (pa_cons (pe_ix ix_list (pv 6) (pv 7) (fun _ _ => rfl)) (pa_cons (pe_ix ix_tup (pe_ix ix_tup (pv 3) pe_int (fun _ _ => rfl)) (pv 7) (fun _ _ => rfl)) pa_nil))))))) (pss_one (ps_ret pe_bl)) pss_nil))))
    (pss_one (ps_ret pe_bl)))))))))), ?_⟩
  have htx := tx_len z
  have l2 : (2 : Nat) ≤ sizeLine := small_le (by decide)
  have line : (sizeLine : Nat) < 2 ^ 62 := by rw [sizeLine_eq]; decide
  cases p with
  | leaf l =>
    obtain ⟨a0, us0, rfl, hT0, _⟩ := leafV hp.leafD
    rw [lean_leaf] at q
    refine ⟨_, rfl, a0, _, _, _, rfl, rfl, hT0, at0, ?_⟩
    refine ⟨_, rfl, rfl, _, rfl, iteFb (vne (leafWord_ne l).2.1) ?_⟩
    exact ⟨_, rfl, l2, fun L nL => ⟨L, _, rfl, .inl (SqL.of upd_same), rfl, rfl, _, rfl, iteTb (in2l l) (q _ (same_new nL _))⟩⟩
  | alt ps =>
    obtain ⟨a0, c0, xs, rfl, hsq, hcT, hxs⟩ := hp.alt
    rw [Wf] at hw
    rw [dep] at hdp
    obtain ⟨i, x, p, rfl, hpi, hwx⟩ := walk_alt_inv hwk
    rw [lean_alt_is hpi] at q
    obtain ⟨b, ys, rfl, hT, hA⟩ := hd.tupE
    obtain ⟨v2, rfl, hd2⟩ : ∃ v2, ys = [.str "or", .int (i : Int), v2] ∧ Dp K H v2 x := by
      cases hA with
      | cons h1 h2 =>
        cases h2 with
        | cons h2 h3 =>
          cases h3 with
          | cons h3 h4 =>
            cases h4
            obtain rfl := h1.strE
            obtain rfl := h2.intE
            exact ⟨_, rfl, h3⟩
    obtain ⟨u, hu1, hu2⟩ := hxs.at (i := i) (d := enc p) (by rw [List.getElem?_map, hpi]; rfl)
    have dm := deps_mem (List.mem_of_getElem? hpi)
    refine ⟨_, rfl, a0, _, _, _, rfl, rfl, hsq, at0, ?_⟩
    refine ⟨_, rfl, rfl, _, rfl, iteTb (veq rfl) ?_⟩
    refine ⟨_, rfl, a0, _, _, _, rfl, rfl, hsq, at1, _, rfl, b, _, _, _, rfl, rfl, hT, at1, c0, _, _, _, rfl, rfl, hcT, atI_nat hu1, _, rfl, _, rfl, _, rfl, b, _, _, _, rfl, rfl, hT, at2, ?_⟩
    exact ⟨u, v2, p, x, z, s, e, rfl, hu2, wfs_mem hw.1 (List.mem_of_getElem? hpi), by omega, hd2, hsh.mem (List.mem_cons_of_mem _ (List.mem_cons_of_mem _ List.mem_cons_self)), hz, hs, hwx, q⟩
  | row ps =>
    obtain ⟨a0, c0, xs, rfl, hsq, hcT, hxs⟩ := hp.row
    rw [Wf] at hw
    rw [dep] at hdp
    obtain ⟨es, rfl, hwx⟩ := walk_row_inv hwk
    replace hwk := hwx
    have she : Shp 64 (.tuple es) := hsh.mem (List.mem_cons_of_mem _ List.mem_cons_self)
    have l2000 := she.len
    obtain ⟨b, ys, rfl, hT, hA⟩ := hd.tupE
    obtain ⟨v1, rfl, hd1⟩ : ∃ v1, ys = [.str "row", v1] ∧ Dp K H v1 (.tuple es) := by
      cases hA with
      | cons h1 h2 =>
        cases h2 with
        | cons h2 h3 =>
          cases h3
          obtain rfl := h1.strE
          exact ⟨_, rfl, h2⟩
    obtain ⟨b1, zs, rfl, hT1, hA1⟩ := hd1.tupE
    have l1 : zs.length = es.length := hA1.len
    obtain ⟨total, htot⟩ : ∃ total, total = rowLean (tx z) ps s es := ⟨_, rfl⟩
    rw [lean_row_is, ← htot] at q
    refine ⟨_, rfl, a0, _, _, _, rfl, rfl, hsq, at0, ?_⟩
    refine ⟨_, rfl, rfl, _, rfl, iteFb (vne ne_row_or) ?_⟩
    refine ⟨_, rfl, l2, fun L nL => ⟨L, _, rfl, .inl (SqL.of upd_same), rfl, rfl, _, rfl, iteFb in2_row ?_⟩⟩
    have sB := same_new nL (.lst [V.str "row", V.str "repeat"])
    have kB := Kp.of sB
    refine ⟨_, rfl, a0, _, _, _, rfl, rfl, kB.tup hsq, at1, c0, xs, rfl, .inr (kB.tup hcT), fun LP nP => ?_⟩
    have sC := same_add sB nP (.lst xs)
    have kC := Kp.of sC
    have hLC : SqL K (upd (upd H L (.lst [V.str "row", V.str "repeat"])) LP (.lst xs)) LP xs := SqL.of upd_same
    have hxsC := kC.dpAll hxs
    refine ⟨_, rfl, rfl, _, rfl, iteFb (vne ne_row_repeat) ?_⟩
    have lpe : ps.length = es.length := Classical.byContradiction fun ne => by
      rw [rowWalk_len _ _ _ ne] at hwk
      cases hwk
    have lp2 : ps.length ≤ 2000 := by omega
    have hpsC : ∀ p ∈ ps, Wf p ∧ dep p ≤ D := fun p hp => ⟨wfs_mem hw.1 hp, by have := deps_mem hp; omega⟩
    refine ⟨_, rfl, _, rfl, _, rfl, _, rfl, b, _, _, _, rfl, rfl, kC.tup hT, at1, ?_⟩
    refine ⟨LP, b1, xs, zs, ps, es, z, s, rfl, hLC, hxsC, kC.tup hT1, kC.dpAll hA1, lpe, lp2, hpsC, fun d hd => she.mem hd, hz, hs, fun hn H3 s3 => ?_, fun us c H3 hst s3 hc => ?_⟩
    · rw [hn] at hwk
      cases hwk
    obtain ⟨g1, g2, g3⟩ := rowSteps_at _ _ _ _ hst
    have gle := rowSteps_le _ _ _ _ (by omega) hst
    have sD := sC.trans s3
    have lX : (xs).length = (ps).length := by
      have := hxsC.len
      rw [List.length_map] at this
      exact this
    have kD := Kp.of s3
    refine ⟨_, rfl, LP, xs, rfl, .inl (s3.seq hLC), (((xs).length : Nat) : Int), rfl, by omega, by omega, for_range (fun i σ H' => ∃ (v7 : Option V) (cur : Nat), σ = [some (.ref a0), some (.str z), some (.int (s : Int)), some (.ref b), some (.str "row"), some (.ref LP), some (.ref c), v7, none] ∧ Same H3 H' ∧ (s :: us)[i]? = some cur ∧ rowLean (tx z) ps s es = rowLean (tx z) (ps.drop i) cur (es.drop i))
      ⟨none, s, rfl, Same.refl H3, rfl, by rw [List.drop_zero, List.drop_zero]⟩ (fun i σ H4 hi h => ?_) fun σ H4 h => ?_⟩
    · obtain ⟨v7, cur, rfl, s4, hcur, heq⟩ := h
      have hiX : i < (xs).length := by omega
      have kE := kC.trans (Kp.of (s3.trans s4))
      have hxi := List.getElem?_eq_getElem hiX
      have hpi : (ps)[i]? = some (ps)[i] := List.getElem?_eq_getElem (by omega)
      have hei : es[i]? = some es[i] := List.getElem?_eq_getElem (by omega)
      have hzi : zs[i]? = some zs[i] := List.getElem?_eq_getElem (by omega)
      obtain ⟨a, m, ha, hm, hwm⟩ := g3 i _ _ hpi hei
      obtain rfl : cur = a := Option.some.inj (hcur.symm.trans ha)
      obtain ⟨pd, hp1, hp2⟩ := hxsC.atV hxi
      rw [List.getElem?_map, hpi] at hp1
      obtain rfl := Option.some.inj hp1
      obtain ⟨d', hd1, hd2⟩ := hA1.atV hzi
      obtain rfl : es[i] = d' := Option.some.inj (hei.symm.trans hd1)
      have cl : cur ≤ z.length := by
        rcases List.mem_cons.mp (List.mem_of_getElem? hcur) with e | h
        · omega
        · have := gle cur h
          omega
      have a1 : atI (xs) (0 + (i : Int)) = some (xs)[i] := by rw [Int.zero_add]; exact atI_nat hxi
      have a2 : atI zs (0 + (i : Int)) = some zs[i] := by rw [Int.zero_add]; exact atI_nat hzi
      have a3 : atI (nv (s :: us)) (0 + (i : Int)) = some (.int (cur : Int)) := by rw [Int.zero_add]; exact atI_nat (nv_at hcur)
      have a4 : atI (nv (s :: us)) (0 + (i : Int) + 1) = some (.int (m : Int)) := by rw [Int.zero_add]; exact atI_nat (j := i + 1) (nv_at (by rw [List.getElem?_cons_succ]; exact hm))
      have hcE := s4 _ _ hc
      have de : es.drop i = es[i] :: es.drop (i + 1) := List.drop_eq_getElem_cons (by omega)
      have hpw := hpsC _ (List.mem_of_getElem? hpi)
      have hLE : SqL K H4 LP (xs) := (s3.trans s4).seq hLC
      have QF : total = false → Q (.bl false) H4 := fun e => by
        have q1 := q H4 (sD.trans s4)
        rw [e] at q1
        exact q1
      have dp : ps.drop i = ps[i] :: ps.drop (i + 1) := List.drop_eq_getElem_cons (by omega)
      rw [dp, de, rowLean_cons, hwm] at heq
      replace heq : rowLean (tx z) ps s es = (lean (tx z) ps[i] cur es[i] && rowLean (tx z) (ps.drop (i + 1)) m (es.drop (i + 1))) := heq
      refine ⟨_, rfl, rfl, _, rfl, iteFb (vne ne_row_repeat) ?_⟩
      refine ⟨_, rfl, _, rfl, LP, _, _, _, rfl, rfl, hLE, a1, _, rfl, _, rfl, _, rfl, c, _, _, _, rfl, rfl, SqL.of hcE, a3, _, rfl, b, _, _, _, rfl, rfl, kE.tup hT, at1, _, rfl, b1, _, _, _, rfl, rfl, kE.tup hT1, a2, ?_⟩
      refine ⟨_, _, _, es[i], z, cur, m, rfl, (kD.trans (Kp.of s4)).dp hp2, hpw.1, hpw.2, kE.dp hd2, she.mem (List.mem_of_getElem? hei), hz, cl, hwm, fun H5 s5 => ?_⟩
      refine ⟨_, rfl, ite2b (fun c5 => ?_) fun c5 => ?_⟩
      · have f1 : lean (tx z) (ps)[i] cur es[i] = false := by
          cases e : lean (tx z) (ps)[i] cur es[i] with
          | false => rfl
          | true => rw [e] at c5; cases c5
        have q1 := q H5 ((sD.trans s4).trans s5)
        rw [htot, heq] at q1
        rw [f1] at q1
        exact q1
      · have f1 : lean (tx z) (ps)[i] cur es[i] = true := by
          cases e : lean (tx z) (ps)[i] cur es[i] with
          | true => rfl
          | false => rw [e] at c5; cases c5
        refine ⟨_, m, rfl, s4.trans s5, by rw [List.getElem?_cons_succ]; exact hm, ?_⟩
        rw [heq, f1, Bool.true_and]
    · obtain ⟨v7, cur, rfl, s4, hcur, heq⟩ := h
      have q1 := q H4 (sD.trans s4)
      rw [Int.toNat_natCast, List.drop_eq_nil_of_le (show es.length ≤ (xs).length by omega)] at heq
      rw [List.drop_eq_nil_of_le (show ps.length ≤ xs.length by omega), rowLean_nil] at heq
      rw [htot, heq] at q1
      exact q1
  | rep p l mo =>
    obtain ⟨a0, u, rfl, hsq, hu⟩ := hp.rep
    rw [Wf] at hw
    rw [dep] at hdp
    obtain ⟨es, rfl, _, _, hwx⟩ := walk_rep_inv hwk
    replace hwk := hwx
    rw [← rowWalk_same] at hwk
    have she : Shp 64 (.tuple es) := hsh.mem (List.mem_cons_of_mem _ List.mem_cons_self)
    have l2000 := she.len
    obtain ⟨b, ys, rfl, hT, hA⟩ := hd.tupE
    obtain ⟨v1, rfl, hd1⟩ : ∃ v1, ys = [.str "repeat", v1] ∧ Dp K H v1 (.tuple es) := by
      cases hA with
      | cons h1 h2 =>
        cases h2 with
        | cons h2 h3 =>
          cases h3
          obtain rfl := h1.strE
          exact ⟨_, rfl, h2⟩
    obtain ⟨b1, zs, rfl, hT1, hA1⟩ := hd1.tupE
    have l1 : zs.length = es.length := hA1.len
    obtain ⟨total, htot⟩ : ∃ total, total = repLean (walk (tx z) p) (lean (tx z) p) l 0 s es := ⟨_, rfl⟩
    rw [lean_rep_is, ← htot] at q
    obtain ⟨ua, uus, eu, hTu⟩ := PtV.word hu
    subst eu
    refine ⟨_, rfl, a0, _, _, _, rfl, rfl, hsq, at0, ?_⟩
    refine ⟨_, rfl, rfl, _, rfl, iteFb (vne ne_repeat_or) ?_⟩
    refine ⟨_, rfl, l2, fun L nL => ⟨L, _, rfl, .inl (SqL.of upd_same), rfl, rfl, _, rfl, iteFb in2_rep ?_⟩⟩
    have sB := same_new nL (.lst [V.str "row", V.str "repeat"])
    have kB := Kp.of sB
    refine ⟨_, rfl, a0, _, _, _, rfl, rfl, kB.tup hsq, at1, ua, _, rfl, .inr (kB.tup hTu), fun L2 n2 => ?_⟩
    have sC := same_add sB n2 (.lst (V.str (wd p) :: uus))
    obtain ⟨HC, eHC⟩ : ∃ HC, HC = upd (upd H L (.lst [V.str "row", V.str "repeat"])) L2 (.lst (V.str (wd p) :: uus)) := ⟨_, rfl⟩
    rw [← eHC] at sC ⊢
    clear eHC
    have kC := Kp.of sC
    refine ⟨_, rfl, rfl, _, rfl, iteTb (veq rfl) ?_⟩
    refine ⟨_, rfl, b, _, _, _, rfl, rfl, kC.tup hT, at1, b1, rfl, ⟨zs, kC.tup hT1⟩, fun LP nP => ?_⟩
    refine walk_tup (xs := zs) (fun i H' => Same HC H' ∧ H' LP = some (.lst (List.replicate i (V.ref ua)))) ⟨same_new nP _, upd_same⟩ (fun i H' _ h => (Kp.of h.1).tup (kC.tup hT1)) (fun i y H' hy h => ?_) fun H2 h => ?_
    · obtain ⟨h1, h3⟩ := h
      have k4 := kC.trans (Kp.of h1)
      have li := (List.getElem?_eq_some_iff.mp hy).1
      refine ⟨rfl, _, rfl, a0, _, _, _, rfl, rfl, k4.tup hsq, at1, List.replicate i (V.ref ua), h3, ?_, same_over h1 nP _, ?_⟩
      · rw [List.length_replicate]
        exact small_line (by omega)
      · rw [upd_same, List.replicate_succ']
    obtain ⟨h1, h3⟩ := h
    replace sC := sC.trans h1
    replace kC := Kp.of sC
    have hLC : SqL K H2 LP (List.replicate zs.length (V.ref ua)) := SqL.of h3
    have hxsC : DpAll K H2 (List.replicate zs.length (V.ref ua)) ((List.replicate es.length p).map enc) := by
      rw [l1]
      exact dp_rep (kC.dp hu) _
    have lre : (List.replicate es.length p).length = es.length := List.length_replicate
    have lpe : (List.replicate es.length p).length = es.length := lre
    have lp2 : (List.replicate es.length p).length ≤ 2000 := by omega
    have hpsC : ∀ p' ∈ List.replicate es.length p, Wf p' ∧ dep p' ≤ D := fun p' hp' => by rw [List.eq_of_mem_replicate hp']; exact ⟨hw.1, by omega⟩
    refine ⟨_, rfl, _, rfl, _, rfl, _, rfl, b, _, _, _, rfl, rfl, kC.tup hT, at1, ?_⟩
    refine ⟨LP, b1, (List.replicate zs.length (V.ref ua)), zs, (List.replicate es.length p), es, z, s, rfl, hLC, hxsC, kC.tup hT1, kC.dpAll hA1, lpe, lp2, hpsC, fun d hd => she.mem hd, hz, hs, fun hn H3 s3 => ?_, fun us c H3 hst s3 hc => ?_⟩
    · rw [hn] at hwk
      cases hwk
    obtain ⟨g1, g2, g3⟩ := rowSteps_at _ _ _ _ hst
    have gle := rowSteps_le _ _ _ _ (by omega) hst
    have sD := sC.trans s3
    have lX : (List.replicate zs.length (V.ref ua)).length = (List.replicate es.length p).length := by
      have := hxsC.len
      rw [List.length_map] at this
      exact this
    have kD := Kp.of s3
    refine ⟨_, rfl, LP, (List.replicate zs.length (V.ref ua)), rfl, .inl (s3.seq hLC), (((List.replicate zs.length (V.ref ua)).length : Nat) : Int), rfl, by omega, by omega, for_range (fun i σ H' => ∃ (v7 : Option V) (cur : Nat), σ = [some (.ref a0), some (.str z), some (.int (s : Int)), some (.ref b), some (.str "repeat"), some (.ref LP), some (.ref c), v7, none] ∧ Same H3 H' ∧ (s :: us)[i]? = some cur ∧ repLean (walk (tx z) p) (lean (tx z) p) l 0 s es = repLean (walk (tx z) p) (lean (tx z) p) l i cur (es.drop i))
      ⟨none, s, rfl, Same.refl H3, rfl, by rw [List.drop_zero]⟩ (fun i σ H4 hi h => ?_) fun σ H4 h => ?_⟩
    · obtain ⟨v7, cur, rfl, s4, hcur, heq⟩ := h
      have hiX : i < (List.replicate zs.length (V.ref ua)).length := by omega
      have kE := kC.trans (Kp.of (s3.trans s4))
      have hxi := List.getElem?_eq_getElem hiX
      have hpi : (List.replicate es.length p)[i]? = some (List.replicate es.length p)[i] := List.getElem?_eq_getElem (by omega)
      have hei : es[i]? = some es[i] := List.getElem?_eq_getElem (by omega)
      have hzi : zs[i]? = some zs[i] := List.getElem?_eq_getElem (by omega)
      obtain ⟨a, m, ha, hm, hwm⟩ := g3 i _ _ hpi hei
      obtain rfl : cur = a := Option.some.inj (hcur.symm.trans ha)
      obtain ⟨pd, hp1, hp2⟩ := hxsC.atV hxi
      rw [List.getElem?_map, hpi] at hp1
      obtain rfl := Option.some.inj hp1
      obtain ⟨d', hd1, hd2⟩ := hA1.atV hzi
      obtain rfl : es[i] = d' := Option.some.inj (hei.symm.trans hd1)
      have cl : cur ≤ z.length := by
        rcases List.mem_cons.mp (List.mem_of_getElem? hcur) with e | h
        · omega
        · have := gle cur h
          omega
      have a1 : atI (List.replicate zs.length (V.ref ua)) (0 + (i : Int)) = some (List.replicate zs.length (V.ref ua))[i] := by rw [Int.zero_add]; exact atI_nat hxi
      have a2 : atI zs (0 + (i : Int)) = some zs[i] := by rw [Int.zero_add]; exact atI_nat hzi
      have a3 : atI (nv (s :: us)) (0 + (i : Int)) = some (.int (cur : Int)) := by rw [Int.zero_add]; exact atI_nat (nv_at hcur)
      have a4 : atI (nv (s :: us)) (0 + (i : Int) + 1) = some (.int (m : Int)) := by rw [Int.zero_add]; exact atI_nat (j := i + 1) (nv_at (by rw [List.getElem?_cons_succ]; exact hm))
      have hcE := s4 _ _ hc
      have de : es.drop i = es[i] :: es.drop (i + 1) := List.drop_eq_getElem_cons (by omega)
      have hpw := hpsC _ (List.mem_of_getElem? hpi)
      have hLE : SqL K H4 LP (List.replicate zs.length (V.ref ua)) := (s3.trans s4).seq hLC
      have QF : total = false → Q (.bl false) H4 := fun e => by
        have q1 := q H4 (sD.trans s4)
        rw [e] at q1
        exact q1
      have pe : (List.replicate es.length p)[i] = p := List.getElem_replicate ..
      rw [pe] at hwm
      rw [de, repLean_cons hwm] at heq
      rw [pe] at hpw hp2
      by_cases bad : l ≤ i ∧ cur = m
      · have f0 : repLean (walk (tx z) p) (lean (tx z) p) l 0 s es = false := by
          rw [heq, decide_eq_false (show ¬ i < l by omega), decide_eq_false (fun h => h bad.2)]
          rfl
        exact ⟨_, rfl, rfl, _, rfl, iteTb (veq rfl) ⟨_, rfl, _, rfl, a0, _, _, _, rfl, rfl, kE.tup hsq, at2, _, _, rfl, rfl, _, rfl, iteTb (decide_eq_true (by omega)) ⟨_, rfl, _, rfl, c, _, _, _, rfl, rfl, SqL.of hcE, a3, _, rfl, _, rfl, _, _, rfl, rfl, c, _, _, _, rfl, rfl, SqL.of hcE, a4, rfl, _, rfl, iteTb (vi_t (by rw [bad.2])) (QF (htot.trans f0))⟩⟩⟩
      have good : (decide (i < l) || decide (cur ≠ m)) = true := by
        by_cases h1 : i < l
        · rw [decide_eq_true h1]; rfl
        · rw [decide_eq_true (show cur ≠ m from fun e => bad ⟨by omega, e⟩), Bool.or_true]
      rw [good, Bool.true_and] at heq
      refine ⟨_, rfl, rfl, _, rfl, iteTb (veq rfl) ⟨_, rfl, _, rfl, a0, _, _, _, rfl, rfl, kE.tup hsq, at2, _, _, rfl, rfl, _, rfl, iteElse ?fin fun e1 B => ⟨_, rfl, _, rfl, c, _, _, _, rfl, rfl, SqL.of hcE, a3, _, rfl, _, rfl, _, _, rfl, rfl, c, _, _, _, rfl, rfl, SqL.of hcE, a4, rfl, _, rfl, iteFb (vi_f fun e2 => ?_) B⟩⟩⟩
      rotate_left
      · have := of_decide_eq_true e1
        exact bad ⟨by omega, by omega⟩
      refine ⟨_, rfl, _, rfl, LP, _, _, _, rfl, rfl, hLE, a1, _, rfl, _, rfl, _, rfl, c, _, _, _, rfl, rfl, SqL.of hcE, a3, _, rfl, b, _, _, _, rfl, rfl, kE.tup hT, at1, _, rfl, b1, _, _, _, rfl, rfl, kE.tup hT1, a2, ?_⟩
      refine ⟨_, _, _, es[i], z, cur, m, rfl, (kD.trans (Kp.of s4)).dp hp2, hpw.1, hpw.2, kE.dp hd2, she.mem (List.mem_of_getElem? hei), hz, cl, hwm, fun H5 s5 => ?_⟩
      refine ⟨_, rfl, ite2b (fun c5 => ?_) fun c5 => ?_⟩
      · have f1 : lean (tx z) p cur es[i] = false := by
          cases e : lean (tx z) p cur es[i] with
          | false => rfl
          | true => rw [e] at c5; cases c5
        have q1 := q H5 ((sD.trans s4).trans s5)
        rw [htot, heq] at q1
        rw [f1] at q1
        exact q1
      · have f1 : lean (tx z) p cur es[i] = true := by
          cases e : lean (tx z) p cur es[i] with
          | true => rfl
          | false => rw [e] at c5; cases c5
        refine ⟨_, m, rfl, s4.trans s5, by rw [List.getElem?_cons_succ]; exact hm, ?_⟩
        rw [heq, f1, Bool.true_and]
    · obtain ⟨v7, cur, rfl, s4, hcur, heq⟩ := h
      have q1 := q H4 (sD.trans s4)
      rw [Int.toNat_natCast, List.drop_eq_nil_of_le (show es.length ≤ (List.replicate zs.length (V.ref ua)).length by omega)] at heq
      rw [repLean_nil] at heq
      rw [htot, heq] at q1
      exact q1
end
end Pd
set_option Elab.async false
set_option linter.all false
set_option maxRecDepth 100000
set_option maxHeartbeats 4000000
namespace Pd
open PySem PySem.Spec PyProof.Rows L2
section
variable {P : Program} {w : World} {K : PySem.W.Frag} {mg : Str → Option Value} {base : Heap} {f : Addr} {fd : FuncData}
theorem IsDer.lay {d : PyData} (h : IsDer d) : d.canLay0 = true := by
  induction h with
  | one => decide +kernel
  | row h ih =>
    rw [lay_tup]
    refine all_cons (by decide +kernel) (all_cons ?_ all_nil)
    rw [lay_tup]
    exact ih
  | rep h ih =>
    rw [lay_tup]
    refine all_cons (by decide +kernel) (all_cons ?_ all_nil)
    rw [lay_tup]
    exact ih
  | alt h ih =>
    rw [lay_tup]
    exact all_cons (by decide +kernel) (all_cons rfl (all_cons ih all_nil))
mutual
theorem wid_mono {a b : Nat} (h : a ≤ b) : ∀ {d : PyData}, Wid a d → Wid b d
  | .tuple ds, w => by
    rw [Wid] at w ⊢
    exact ⟨Nat.le_trans w.1 h, wids_mono h w.2⟩
  | .list ds, w => by
    rw [Wid] at w ⊢
    exact ⟨Nat.le_trans w.1 h, wids_mono h w.2⟩
  | .none, _ => Shp.non (n := 0) |>.2.2 |> fun _ => by rw [Wid] <;> intros <;> first | exact True.intro | contradiction
  | .int _, _ => by rw [Wid] <;> intros <;> first | exact True.intro | contradiction
  | .bool _, _ => by rw [Wid] <;> intros <;> first | exact True.intro | contradiction
  | .str _, _ => by rw [Wid] <;> intros <;> first | exact True.intro | contradiction
  | .dict _, _ => by rw [Wid] <;> intros <;> first | exact True.intro | contradiction
theorem wids_mono {a b : Nat} (h : a ≤ b) : ∀ {ds : List PyData}, Wids a ds → Wids b ds
  | [], _ => by rw [Wids]; exact True.intro
  | d :: ds, w => by
    rw [Wids] at w ⊢
    exact ⟨wid_mono h w.1, wids_mono h w.2⟩
end
theorem IsDer.shp {d : PyData} (h : IsDer d) (w : Wid 1900 d) : Shp d.depth d := ⟨h.lay, Nat.le_refl _, wid_mono (by decide) w⟩
theorem shaped_tupN : SeqAt.shaped (.tuple []) = true := by decide +kernel
theorem ok_one : PyData.strOk "one" = true := by decide +kernel
theorem ok_row : PyData.strOk "row" = true := by decide +kernel
theorem ok_repeat : PyData.strOk "repeat" = true := by decide +kernel
theorem ok_or : PyData.strOk "or" = true := by decide +kernel
theorem ok_ab : PyData.strOk "ab" = true := by decide +kernel
theorem ok_0 : PyData.strOk "0" = true := by decide +kernel
def lastD : List PyData := [.none, .tuple [], .tuple [.str "one"], .str "one", .list [.str "one"], .tuple [.str "row", .tuple []], .tuple [.str "one", .int 0], .tuple [.str "repeat", .tuple []], .int 1]
theorem lastD_shp (N : Nat) (h : 2 ≤ N) : ∀ e ∈ lastD, Shp N e := by
  obtain ⟨n, rfl⟩ : ∃ n, N = n + 1 + 1 := ⟨N - 2, by omega⟩
  have t0 : Shp (n + 1) (.tuple []) := .tup all_nil (Nat.zero_le _)
  exact all_cons .non (all_cons (t0.mono (Nat.le_succ _)) (all_cons (.tup (all_cons (.str ok_one) all_nil) (by decide)) (all_cons (.str ok_one) (all_cons (.lst (all_cons (.str ok_one) all_nil) (by decide)) (all_cons (.tup (all_cons (.str ok_row) (all_cons t0 all_nil)) (by decide)) (all_cons (.tup (all_cons (.str ok_one) (all_cons .int all_nil)) (by decide)) (all_cons (.tup (all_cons (.str ok_repeat) (all_cons t0 all_nil)) (by decide)) (all_cons .int all_nil))))))))
theorem twoD_shp {N : Nat} {dv g1 g2 g5 : List PyData} {w0 : Str} {dlast : PyData} (hdv : ∀ d ∈ dv, Shp N d) (hw : PyData.strOk w0 = true) (l : dv.length ≤ 3) (hl : dlast ∈ dv) (m1 : ∀ d ∈ g1, d ∈ dv) (u1 : g1.length ≤ dv.length) (m2 : ∀ d ∈ g2, d ∈ dv) (u2 : g2.length ≤ dv.length) (m5 : ∀ d ∈ g5, d ∈ dv) (u5 : g5.length ≤ dv.length) :
    ∀ e ∈ [PyData.tuple g1, .tuple g2, .tuple (dv ++ [.int 0]), .tuple [.str w0, .none], .tuple [.str w0, .int 3], .tuple [.str w0, .str "ab"], .tuple [.str "or", .none, dlast], .tuple [.str "or", .str "0", dlast], .tuple [.str "or", .tuple [.int 0], dlast], .tuple ([.tuple [.str w0]] ++ g5)], Shp (N + 8) e := by
  have up : ∀ {e}, Shp (N + 1) e → Shp (N + 8) e := fun h => h.mono (by omega)
  have up2 : ∀ {e}, Shp (N + 1 + 1) e → Shp (N + 8) e := fun h => h.mono (by omega)
  have hd := hdv dlast hl
  refine all_cons (up (.tup (fun d h => hdv d (m1 d h)) (by omega))) (all_cons (up (.tup (fun d h => hdv d (m2 d h)) (by omega))) (all_cons (up (.tup (all_app hdv (all_cons .int all_nil)) (by rw [List.length_append]; show dv.length + 1 ≤ 2000; omega))) (all_cons (up (.tup (all_cons (.str hw) (all_cons .non all_nil)) (Nat.le_of_ble_eq_true rfl))) (all_cons (up (.tup (all_cons (.str hw) (all_cons .int all_nil)) (Nat.le_of_ble_eq_true rfl))) (all_cons (up (.tup (all_cons (.str hw) (all_cons (.str ok_ab) all_nil)) (Nat.le_of_ble_eq_true rfl))) ?_)))))
  refine all_cons (up (.tup (all_cons (.str ok_or) (all_cons .non (all_cons hd all_nil))) (Nat.le_of_ble_eq_true rfl))) (all_cons (up (.tup (all_cons (.str ok_or) (all_cons (.str ok_0) (all_cons hd all_nil))) (Nat.le_of_ble_eq_true rfl))) (all_cons (up2 (.tup (all_cons (.str ok_or) (all_cons (.tup (all_cons .int all_nil) (Nat.le_of_ble_eq_true rfl)) (all_cons (hd.mono (Nat.le_succ _)) all_nil))) (Nat.le_of_ble_eq_true rfl))) (all_cons (up2 (.tup (all_app (all_cons (.tup (all_cons (.str hw) all_nil) (Nat.le_of_ble_eq_true rfl)) all_nil) fun d h => (hdv d (m5 d h)).mono (Nat.le_succ _)) (by rw [List.length_append]; show 1 + g5.length ≤ 2000; omega))) all_nil)))
abbrev N_law_bent : List Str := ["_law_value", "_law_drops_here", "_law_way", "_law_inner", "_law_at", "_law_last", "_law_things", "_law_number"]
theorem sc_law_bent : FnScope N_law_bent ["_law_value", "_law_drops_here"] (defScope s_law_bent) := ⟨rfl, rfl, rfl, by decide +kernel, rfl, by decide +kernel, by decide +kernel⟩
theorem ok_law_bent {gB : Addr} {D k : Nat} (T : Txt K mg) (F : FnP K "_law_bent" "_law_bent" s_law_bent f fd) (h_law_bent : Has P w K mg base "_law_bent" gB ["_law_value", "_law_drops_here"] k (spLawBent K D)) : FnOk P w K mg base CX0 (k + 1) f fd ["_law_value", "_law_drops_here"] (spLawBent K (D + 1)) := by
  refine F.ok sc_law_bent (fun vs H Q E h => ?_) (fun cdv A outer s H vs Q E hr h => ?_)
  · obtain ⟨v, d, a, ns, rfl, _⟩ := h
    rfl
  obtain ⟨v, d, a, ns, rfl, hd, hder, hdep, hD, hwid, hsq, hdr, hn0, hn80, q⟩ := h
  refine ⟨_, PSs.nox ((pss_cons (ps_set (i := 2) sc_law_bent.nd rfl (Or.inl rfl) (pe_op op_mod (pe_callTy call_int1 rfl T.z_int bb_int (pa_cons (pe_ix ix_list (pv 1) pe_int (fun _ _ => rfl)) pa_nil)) pe_int))
    (pss_cons (ps_if (PW.pt (pw_and (pt_val (pe_callB call_isi rfl T.z_isinstance bb_isinstance (pa_cons (pv 0) (pa_cons (pe_bltn (v := .ty "tuple") rfl T.z_tuple bb_tuple rfl) pa_nil)))) (pw_and (pt_cmpR op_gt (pe_callB call_len_seq rfl T.z_len PySem.boot_len (pa_cons (pv 0) pa_nil)) pe_int (nomark _)) (pw_and (pt_cmpR op_gt (pv 2) pe_int (nomark _)) (pw_and1 (pt_cmpR op_gt (pe_callB call_len_seq rfl T.z_len PySem.boot_len (pa_cons (pv 1) pa_nil)) pe_int (nomark _))))))) (pss_cons (ps_set (i := 3) sc_law_bent.nd rfl (Or.inl rfl) (pe_ix ix_tup (pv 0) (pe_un un_neg pe_int) (fun _ _ => rfl)))
    (pss_cons (ps_if (pt_cmpR op_eq (pe_ix ix_tup (pv 0) pe_int (fun _ _ => rfl)) pe_str (nomark _)) (pss_one (ps_ret (pe_op op_catB (pe_slice sl_tupB (pv 0) po_none (po_some pe_int)) (pe_tup (pa_cons (pe_callH h_law_bent hr (by omega) rfl (pa_cons (pv 3) (pa_cons (pe_slice sl_list (pv 1) (po_some pe_int) po_none) pa_nil))) pa_nil))))) pss_nil)
    (pss_one (ps_if (pt_cmpR (op_neD hr.units) (pv 3) (pe_tup pa_nil) (nomark _)) (pss_cons (ps_set (i := 4) sc_law_bent.nd rfl (Or.inl rfl) (pe_op op_mod (pe_callTy call_int1 rfl T.z_int bb_int (pa_cons (pe_op op_fdiv (pe_ix ix_list (pv 1) pe_int (fun _ _ => rfl)) pe_int) pa_nil)) (pe_callB call_len_seq rfl T.z_len PySem.boot_len (pa_cons (pv 3) pa_nil))))
    (pss_one (ps_ret (pe_tup (pa_cons (pe_ix ix_tup (pv 0) pe_int (fun _ _ => rfl)) (pa_cons (pe_op op_catB (pe_op op_catB (pe_slice sl_tupB (pv 3) po_none (po_some (pv 4))) (pe_tup (pa_cons (pe_callH h_law_bent hr (by omega) rfl (pa_cons (pe_ix ix_tup (pv 3) (pv 4) (fun _ _ => rfl)) (pa_cons (pe_slice sl_list (pv 1) (po_some pe_int) po_none) pa_nil))) pa_nil))) (pe_slice sl_tupB (pv 3) (po_some (pe_op op_add (pv 4) pe_int)) po_none)) pa_nil)))))) pss_nil)))) pss_nil)
    (pss_cons (ps_if (pt_cmpR op_eq (pv 2) pe_int (nomark _)) (pss_cons (ps_set (i := 5) sc_law_bent.nd rfl (Or.inl rfl) (pe_ix ix_tup (pv 0) (pe_un un_neg pe_int) (fun _ _ => rfl)))
    (pss_cons (ps_set (i := 6) sc_law_bent.nd rfl (Or.inl rfl) (pe_lst (pa_cons (pe_slice sl_tupB (pv 0) po_none (po_some pe_int)) (pa_cons (pe_slice sl_tupB (pv 0) po_none (po_some (pe_un un_neg pe_int))) (pa_cons (pe_op op_catB (pv 0) (pe_tup (pa_cons pe_int pa_nil))) (pa_cons (pe_tup (pa_cons (pe_ix ix_tup (pv 0) pe_int (fun _ _ => rfl)) (pa_cons pe_non pa_nil))) (pa_cons (pe_tup (pa_cons (pe_ix ix_tup (pv 0) pe_int (fun _ _ => rfl)) (pa_cons pe_int pa_nil))) (pa_cons (pe_tup (pa_cons (pe_ix ix_tup (pv 0) pe_int (fun _ _ => rfl)) (pa_cons pe_str pa_nil))) pa_nil))))))))
    (pss_cons (ps_set (i := 6) sc_law_bent.nd rfl (Or.inl rfl) (pe_op op_cat (pv 6) (pe_lst (pa_cons (pe_tup (pa_cons pe_str (pa_cons pe_non (pa_cons (pv 5) pa_nil)))) (pa_cons (pe_tup (pa_cons pe_str (pa_cons pe_str (pa_cons (pv 5) pa_nil)))) (pa_cons (pe_tup (pa_cons pe_str (pa_cons (pe_tup (pa_cons pe_int pa_nil)) (pa_cons (pv 5) pa_nil)))) (pa_cons (pe_op op_catB (pe_tup (pa_cons (pe_tup (pa_cons (pe_ix ix_tup (pv 0) pe_int (fun _ _ => rfl)) pa_nil)) pa_nil)) (pe_slice sl_tupB (pv 0) (po_some pe_int) po_none)) pa_nil)))))))
    (pss_one (ps_ret (pe_ix ix_list (pv 6) (pe_op op_mod (pe_callTy call_int1 rfl T.z_int bb_int (pa_cons (pe_op op_fdiv (pe_ix ix_list (pv 1) pe_int (fun _ _ => rfl)) pe_int) pa_nil)) pe_int) (fun _ _ => rfl))))))) pss_nil)
    (pss_cons (ps_if (PW.pt (pw_and (pt_cmpR op_lt (pv 2) pe_int (nomark _)) (pw_and (pt_val (pe_callB call_isi rfl T.z_isinstance bb_isinstance (pa_cons (pv 0) (pa_cons (pe_bltn (v := .ty "tuple") rfl T.z_tuple bb_tuple rfl) pa_nil)))) (pw_and1 (pt_cmpR op_eq (pe_callB call_len_seq rfl T.z_len PySem.boot_len (pa_cons (pv 0) pa_nil)) pe_int (nomark _)))))) (pss_cons (ps_set (i := 3) sc_law_bent.nd rfl (Or.inl rfl) (pe_ix ix_tup (pv 0) pe_int (fun _ _ => rfl)))
    (pss_cons (ps_if (pt_cmpR op_eq (pe_op op_mod (pe_callTy call_int1 rfl T.z_int bb_int (pa_cons (pe_op op_fdiv (pe_ix ix_list (pv 1) pe_int (fun _ _ => rfl)) pe_int) pa_nil)) pe_int) pe_int (nomark _)) (pss_one (ps_ret (pe_tup (pa_cons (pe_ix ix_tup (pv 0) pe_int (fun _ _ => rfl)) (pa_cons (pe_callTy call_list_of rfl T.z_list bb_list (pa_cons (pv 3) pa_nil)) pa_nil))))) pss_nil)
    (pss_one (ps_ret (pe_ix ix_list (pe_lst (pa_cons (pe_tup (pa_cons (pe_ix ix_tup (pv 0) pe_int (fun _ _ => rfl)) (pa_cons (pe_slice sl_tupB (pv 3) (po_some pe_int) po_none) pa_nil))) (pa_cons (pe_tup (pa_cons (pe_ix ix_tup (pv 0) pe_int (fun _ _ => rfl)) (pa_cons (pe_op op_catB (pv 3) (pe_slice sl_tupB (pv 3) po_none (po_some pe_int))) pa_nil))) pa_nil))) (pv 2) (fun _ _ => rfl)))))) pss_nil)
    (pss_cons (ps_if (PW.pt (pw_and (pt_cmpR op_lt (pv 2) pe_int (nomark _)) (pw_and (pt_val (pe_callB call_isi rfl T.z_isinstance bb_isinstance (pa_cons (pv 0) (pa_cons (pe_bltn (v := .ty "tuple") rfl T.z_tuple bb_tuple rfl) pa_nil)))) (pw_and1 (pt_cmpR op_eq (pe_callB call_len_seq rfl T.z_len PySem.boot_len (pa_cons (pv 0) pa_nil)) pe_int (nomark _)))))) (pss_cons (ps_set (i := 7) sc_law_bent.nd rfl (Or.inl rfl) (pe_ix ix_list (pe_lst (pa_cons (pe_op op_add (pe_ix ix_tup (pv 0) pe_int (fun _ _ => rfl)) pe_int) (pa_cons (pe_op op_sub (pe_ix ix_tup (pv 0) pe_int (fun _ _ => rfl)) pe_int) (pa_cons pe_bl (pa_cons (pe_op op_add (pe_callB call_len_seq rfl T.z_len PySem.boot_len (pa_cons (pe_slice sl_tupB (pv 0) (po_some pe_int) po_none) pa_nil)) pe_int) pa_nil))))) (pe_op op_mod (pe_callTy call_int1 rfl T.z_int bb_int (pa_cons (pe_op op_fdiv (pe_ix ix_list (pv 1) pe_int (fun _ _ => rfl)) pe_int) pa_nil)) pe_int) (fun _ _ => rfl)))
    (pss_one (ps_ret (pe_tup (pa_cons pe_str (pa_cons (pv 7) (pa_cons (pe_ix ix_tup (pv 0) pe_int (fun _ _ => rfl)) pa_nil))))))) pss_nil)
    (pss_one (ps_ret (pe_ix ix_list (pe_lst (pa_cons pe_non (pa_cons (pe_tup pa_nil) (pa_cons (pe_tup (pa_cons pe_str pa_nil)) (pa_cons pe_str (pa_cons (pe_lst (pa_cons pe_str pa_nil)) (pa_cons (pe_tup (pa_cons pe_str (pa_cons (pe_tup pa_nil) pa_nil))) (pa_cons (pe_tup (pa_cons pe_str (pa_cons pe_int pa_nil))) (pa_cons (pe_tup (pa_cons pe_str (pa_cons (pe_tup pa_nil) pa_nil))) (pa_cons pe_int pa_nil)))))))))) (pe_op op_mod (pe_callTy call_int1 rfl T.z_int bb_int (pa_cons (pe_op op_fdiv (pe_ix ix_list (pv 1) pe_int (fun _ _ => rfl)) pe_int) pa_nil)) pe_int) (fun _ _ => rfl)))))))))), ?_⟩
  have l0 : (0 : Nat) ≤ sizeLine := small_le (by decide)
  have l1 : (1 : Nat) ≤ sizeLine := small_le (by decide)
  have l2 : (2 : Nat) ≤ sizeLine := small_le (by decide)
  have l3 : (3 : Nat) ≤ sizeLine := small_le (by decide)
  have l4 : (4 : Nat) ≤ sizeLine := small_le (by decide)
  have l6 : (6 : Nat) ≤ sizeLine := small_le (by decide)
  have l9 : (9 : Nat) ≤ sizeLine := small_le (by decide)
  have l10 : (6 + 4 : Nat) ≤ sizeLine := small_le (by decide)
  have p2 : (0 : Int) < 2 := by decide
  have p3 : (0 : Int) < 3 := by decide
  have p4 : (0 : Int) < 4 := by decide
  have p9 : (0 : Int) < 9 := by decide
  have p10 : (0 : Int) < 10 := by decide
  have p12 : (0 : Int) < 12 := by decide
  obtain ⟨x0, hx0, x0a, x0b⟩ := at_drawn (K := K) (H := H) hdr hn0
  have c12 : CDiv x0 12 := ⟨by decide, by decide⟩
  have hshp := hder.shp hwid
  have kr := Same.refl H
  have w12 : 0 ≤ x0 % 12 ∧ x0 % 12 < 12 := ⟨Int.emod_nonneg _ (by decide), Int.emod_lt_of_pos _ (by decide)⟩
  refine ⟨_, rfl, a, _, _, _, rfl, rfl, hsq, hx0, .inl ⟨_, rfl, _, _, rfl, rfl, p12, ?_⟩⟩
  have hd0 : 2 ≤ d.depth + 8 := by omega
  obtain ⟨dv, w0, dr, rfl, edv, hw0, ldv, form⟩ : ∃ dv w0 dr, d = .tuple dv ∧ dv = .str w0 :: dr ∧ PyData.strOk w0 = true ∧ dv.length ≤ 3 ∧ ((dr = [] ∧ w0 ≠ "or") ∨ (∃ ds, dr = [.tuple ds] ∧ w0 ≠ "or" ∧ ∀ e ∈ ds, IsDer e) ∨ (∃ k x, dr = [.int k, x] ∧ w0 = "or" ∧ IsDer x)) := by
    cases hder with
    | one => exact ⟨_, _, _, rfl, rfl, ok_one, by decide, .inl ⟨rfl, by decide +kernel⟩⟩
    | row h => exact ⟨_, _, _, rfl, rfl, ok_row, Nat.le_of_ble_eq_true rfl, .inr (.inl ⟨_, rfl, ne_row_or, h⟩)⟩
    | rep h => exact ⟨_, _, _, rfl, rfl, ok_repeat, Nat.le_of_ble_eq_true rfl, .inr (.inl ⟨_, rfl, ne_repeat_or, h⟩)⟩
    | alt h => exact ⟨_, _, _, rfl, rfl, ok_or, Nat.le_of_ble_eq_true rfl, .inr (.inr ⟨_, _, rfl, rfl, h⟩)⟩
  obtain ⟨d, ed⟩ : ∃ d, d = PyData.tuple dv := ⟨_, rfl⟩
  rw [← ed] at hshp hdep
  have hdv : ∀ e ∈ dv, Shp d.depth e := fun e he => by rw [ed] at hshp ⊢; exact hshp.mem he
  have hwv := (wid_tup.mp hwid).2
  have hdl : ∀ e ∈ dv, e.depth + 1 ≤ d.depth := fun e he => by
    rw [ed, PyData.depth]
    exact Nat.succ_le_succ (depthAll_iff.mp (Nat.le_refl _) e he)
  obtain ⟨va, vs, rfl, hT, hA⟩ := hd.tupE
  obtain ⟨vr, rfl⟩ : ∃ vr, vs = .str w0 :: vr := by
    rw [edv] at hA
    cases hA with
    | cons h1 h2 =>
      obtain rfl := h1.strE
      exact ⟨_, rfl⟩
  have lA : (V.str w0 :: vr).length = dv.length := hA.len
  have hat0 : atI (V.str w0 :: vr) 0 = some (.str w0) := at0
  obtain ⟨vlast, dlast, hlast, hdlast, hmlast⟩ := last_of hA (by simp)
  have lv1 : (V.str w0 :: vr).length + [V.int 0].length ≤ sizeLine := small_le (by rw [lA]; show dv.length + 1 ≤ _; omega)
  have lv2 : ∀ {t : Addr}, [V.ref t].length + (cutV (V.str w0 :: vr) (some 1) none).length ≤ sizeLine := fun {t} => small_le (by have := cutV_length (V.str w0 :: vr) (some 1) none; show 1 + _ ≤ _; omega)
  rw [← ed] at q
  have form2 : dv.length = 2 → ∃ ds c xs, vr = [.ref c] ∧ dv = [.str w0, .tuple ds] ∧ (∀ e ∈ ds, IsDer e) ∧ SqT K H c xs ∧ DpAll K H xs ds := fun l => by
    rcases form with ⟨rfl, _⟩ | ⟨ds, rfl, _, h⟩ | ⟨k, x, rfl, _, _⟩
    · rw [edv] at l; cases l
    · rw [edv] at hA
      cases hA with
      | cons h1 h2 =>
        cases h2 with
        | cons h2 h3 =>
          cases h3
          obtain ⟨c, xs, rfl, g1, g2⟩ := h2.tupE
          exact ⟨ds, c, xs, rfl, edv, h, g1, g2⟩
    · rw [edv] at l; cases l
  have form3 : dv.length = 3 → ∃ k x vx, vr = [.int k, vx] ∧ dv = [.str w0, .int k, x] ∧ w0 = "or" ∧ IsDer x ∧ Dp K H vx x := fun l => by
    rcases form with ⟨rfl, _⟩ | ⟨ds, rfl, _, h⟩ | ⟨k, x, rfl, e, h⟩
    · rw [edv] at l; cases l
    · rw [edv] at l; cases l
    · rw [edv] at hA
      cases hA with
      | cons h1 h2 =>
        cases h2 with
        | cons h2 h3 =>
          cases h3 with
          | cons h3 h4 =>
            cases h4
            obtain rfl := h2.intE
            exact ⟨k, x, _, rfl, edv, e, h, h3⟩
  have slL : ∀ {A : Hp} {L : Addr}, SqL K (upd A L (.lst (cutV (ns.map V.int) (some 1) none))) L ((ns.drop 1).map V.int) := fun {A L} => SqL.of (by rw [upd_same, ← cut_ints_from (k := 1)]; rfl)
  have dn1 : Drawn (ns.drop 1) := drawn_drop 1 hdr
  refine ⟨_, rfl, _, _, _, _, _, rfl, .ty _, hd.tyx, kit_ty (kit_tup _), _, rfl, iteTb rfl ?_⟩
  refine ⟨_, rfl, va, _, rfl, .inr hT, _, _, rfl, rfl, _, rfl, ?_⟩
  refine iteElse ?F fun e1 B => ?_
  · refine ⟨_, rfl, rfl, _, rfl, ite2b (fun c2 => ?_) fun c2 => ?_⟩
    ·
      refine ⟨_, rfl, _, rfl, va, _, _, _, rfl, rfl, (Kp.of kr).tup hT, hlast, ?_⟩
      refine ⟨_, rfl, (1 : Int), rfl, va, _, rfl, (Kp.of kr).tup hT, fun ty1 Ay1 sAy1 iAy1 => ?_⟩
      have zy1 := kr.trans sAy1
      refine ⟨_, rfl, _, rfl, _, rfl, va, _, rfl, (Kp.of zy1).tup hT, fun ty2 Ay2 sAy2 iAy2 => ?_⟩
      have zy2 := zy1.trans sAy2
      refine ⟨_, rfl, ?_⟩
      refine ⟨l1, fun ty3 ny3 => ?_⟩
      obtain ⟨Ay3, eAy3, sAy3, iAy3⟩ := new_any (K := K) [V.int 0] ny3
      rw [← eAy3]
      have zy3 := zy2.trans sAy3
      refine ⟨va, _, _, _, rfl, rfl, (Kp.of zy3).tup hT, iAy3, lv1, fun ty4 Ay4 sAy4 iAy4 => ?_⟩
      have zy4 := zy3.trans sAy4
      refine ⟨_, rfl, va, _, _, _, rfl, rfl, (Kp.of zy4).tup hT, hat0, ?_⟩
      refine ⟨l2, fun ty5 ny5 => ?_⟩
      obtain ⟨Ay5, eAy5, sAy5, iAy5⟩ := new_any (K := K) [V.str w0, V.non] ny5
      rw [← eAy5]
      have zy5 := zy4.trans sAy5
      refine ⟨_, rfl, va, _, _, _, rfl, rfl, (Kp.of zy5).tup hT, hat0, ?_⟩
      refine ⟨l2, fun ty6 ny6 => ?_⟩
      obtain ⟨Ay6, eAy6, sAy6, iAy6⟩ := new_any (K := K) [V.str w0, V.int 3] ny6
      rw [← eAy6]
      have zy6 := zy5.trans sAy6
      refine ⟨_, rfl, va, _, _, _, rfl, rfl, (Kp.of zy6).tup hT, hat0, ?_⟩
      refine ⟨l2, fun ty7 ny7 => ?_⟩
      obtain ⟨Ay7, eAy7, sAy7, iAy7⟩ := new_any (K := K) [V.str w0, V.str "ab"] ny7
      rw [← eAy7]
      have zy7 := zy6.trans sAy7
      refine ⟨l6, fun ty8 ny8 => ?_⟩
      obtain ⟨Ay8, eAy8, sAy8, iAy8⟩ := newL_any (K := K) [V.ref ty1, V.ref ty2, V.ref ty4, V.ref ty5, V.ref ty6, V.ref ty7] ny8
      rw [← eAy8]
      have zy8 := zy7.trans sAy8
      refine ⟨_, rfl, ?_⟩
      refine ⟨_, rfl, ?_⟩
      refine ⟨l3, fun ty9 ny9 => ?_⟩
      obtain ⟨Ay9, eAy9, sAy9, iAy9⟩ := new_any (K := K) [V.str "or", V.non, vlast] ny9
      rw [← eAy9]
      have zy9 := zy8.trans sAy9
      refine ⟨_, rfl, ?_⟩
      refine ⟨l3, fun ty10 ny10 => ?_⟩
      obtain ⟨Ay10, eAy10, sAy10, iAy10⟩ := new_any (K := K) [V.str "or", V.str "0", vlast] ny10
      rw [← eAy10]
      have zy10 := zy9.trans sAy10
      refine ⟨l1, fun ty11 ny11 => ?_⟩
      obtain ⟨Ay11, eAy11, sAy11, iAy11⟩ := new_any (K := K) [V.int 0] ny11
      rw [← eAy11]
      have zy11 := zy10.trans sAy11
      refine ⟨_, rfl, ?_⟩
      refine ⟨l3, fun ty12 ny12 => ?_⟩
      obtain ⟨Ay12, eAy12, sAy12, iAy12⟩ := new_any (K := K) [V.str "or", V.ref ty11, vlast] ny12
      rw [← eAy12]
      have zy12 := zy11.trans sAy12
      refine ⟨_, rfl, va, _, _, _, rfl, rfl, (Kp.of zy12).tup hT, hat0, ?_⟩
      refine ⟨l1, fun ty13 ny13 => ?_⟩
      obtain ⟨Ay13, eAy13, sAy13, iAy13⟩ := new_any (K := K) [V.str w0] ny13
      rw [← eAy13]
      have zy13 := zy12.trans sAy13
      refine ⟨l1, fun ty14 ny14 => ?_⟩
      obtain ⟨Ay14, eAy14, sAy14, iAy14⟩ := new_any (K := K) [V.ref ty13] ny14
      rw [← eAy14]
      have zy14 := zy13.trans sAy14
      refine ⟨_, rfl, (1 : Int), rfl, va, _, rfl, (Kp.of zy14).tup hT, fun ty15 Ay15 sAy15 iAy15 => ?_⟩
      have zy15 := zy14.trans sAy15
      refine ⟨ty14, ty15, _, _, rfl, rfl, ((Kp.of sAy15).tup iAy14), iAy15, lv2, fun ty16 Ay16 sAy16 iAy16 => ?_⟩
      have zy16 := zy15.trans sAy16
      refine ⟨l4, fun ty17 ny17 => ?_⟩
      obtain ⟨Ay17, eAy17, sAy17, iAy17⟩ := newL_any (K := K) [V.ref ty9, V.ref ty10, V.ref ty12, V.ref ty16] ny17
      rw [← eAy17]
      have zy17 := zy16.trans sAy17
      refine ⟨ty8, ty17, _, _, rfl, rfl, (((((((((sAy9.trans sAy10).trans sAy11).trans sAy12).trans sAy13).trans sAy14).trans sAy15).trans sAy16).trans sAy17) _ _ iAy8), iAy17, l10, fun tyR nyR => ?_⟩
      obtain ⟨AyR, eAyR, sAyR, iAyR⟩ := newL_any (K := K) ([V.ref ty1, V.ref ty2, V.ref ty4, V.ref ty5, V.ref ty6, V.ref ty7] ++ [V.ref ty9, V.ref ty10, V.ref ty12, V.ref ty16]) nyR
      rw [← eAyR]
      have zyR := zy17.trans sAyR
      have kdv := (Kp.of zyR).dpAll hA
      obtain ⟨g1, G1, m1, u1⟩ := dp_cut kdv none (some 1)
      obtain ⟨g2, G2, m2, u2⟩ := dp_cut kdv none (some (-1))
      obtain ⟨g5, G5, m5, u5⟩ := dp_cut kdv (some 1) none
      have klast := (Kp.of zyR).dp hdlast
      have hall : DpAll K AyR ([V.ref ty1, V.ref ty2, V.ref ty4, V.ref ty5, V.ref ty6, V.ref ty7] ++ [V.ref ty9, V.ref ty10, V.ref ty12, V.ref ty16]) [.tuple g1, .tuple g2, .tuple (dv ++ [.int 0]), .tuple [.str w0, .none], .tuple [.str w0, .int 3], .tuple [.str w0, .str "ab"], .tuple [.str "or", .none, dlast], .tuple [.str "or", .str "0", dlast], .tuple [.str "or", .tuple [.int 0], dlast], .tuple ([.tuple [.str w0]] ++ g5)] :=
        .cons (.tup ((Kp.of ((((((((((((((((sAy2.trans sAy3).trans sAy4).trans sAy5).trans sAy6).trans sAy7).trans sAy8).trans sAy9).trans sAy10).trans sAy11).trans sAy12).trans sAy13).trans sAy14).trans sAy15).trans sAy16).trans sAy17).trans sAyR)).tup iAy1) G1) (.cons (.tup ((Kp.of (((((((((((((((sAy3.trans sAy4).trans sAy5).trans sAy6).trans sAy7).trans sAy8).trans sAy9).trans sAy10).trans sAy11).trans sAy12).trans sAy13).trans sAy14).trans sAy15).trans sAy16).trans sAy17).trans sAyR)).tup iAy2) G2) (.cons (.tup ((Kp.of (((((((((((((sAy5.trans sAy6).trans sAy7).trans sAy8).trans sAy9).trans sAy10).trans sAy11).trans sAy12).trans sAy13).trans sAy14).trans sAy15).trans sAy16).trans sAy17).trans sAyR)).tup iAy4) (kdv.append (.cons (.int _) .nil))) (.cons (.tup ((Kp.of ((((((((((((sAy6.trans sAy7).trans sAy8).trans sAy9).trans sAy10).trans sAy11).trans sAy12).trans sAy13).trans sAy14).trans sAy15).trans sAy16).trans sAy17).trans sAyR)).tup iAy5) (.cons (.str _) (.cons .non .nil))) (.cons (.tup ((Kp.of (((((((((((sAy7.trans sAy8).trans sAy9).trans sAy10).trans sAy11).trans sAy12).trans sAy13).trans sAy14).trans sAy15).trans sAy16).trans sAy17).trans sAyR)).tup iAy6) (.cons (.str _) (.cons (.int _) .nil))) (.cons (.tup ((Kp.of ((((((((((sAy8.trans sAy9).trans sAy10).trans sAy11).trans sAy12).trans sAy13).trans sAy14).trans sAy15).trans sAy16).trans sAy17).trans sAyR)).tup iAy7) (.cons (.str _) (.cons (.str _) .nil))) (.cons (.tup ((Kp.of ((((((((sAy10.trans sAy11).trans sAy12).trans sAy13).trans sAy14).trans sAy15).trans sAy16).trans sAy17).trans sAyR)).tup iAy9) (.cons (.str _) (.cons .non (.cons klast .nil)))) (.cons (.tup ((Kp.of (((((((sAy11.trans sAy12).trans sAy13).trans sAy14).trans sAy15).trans sAy16).trans sAy17).trans sAyR)).tup iAy10) (.cons (.str _) (.cons (.str _) (.cons klast .nil)))) (.cons (.tup ((Kp.of (((((sAy13.trans sAy14).trans sAy15).trans sAy16).trans sAy17).trans sAyR)).tup iAy12) (.cons (.str _) (.cons (.tup ((Kp.of ((((((sAy12.trans sAy13).trans sAy14).trans sAy15).trans sAy16).trans sAy17).trans sAyR)).tup iAy11) (.cons (.int _) .nil)) (.cons klast .nil)))) (.cons (.tup ((Kp.of (sAy17.trans sAyR)).tup iAy16) (DpAll.append (.cons (.tup ((Kp.of ((((sAy14.trans sAy15).trans sAy16).trans sAy17).trans sAyR)).tup iAy13) (.cons (.str _) .nil)) .nil) G5)) .nil)))))))))
      obtain ⟨vL, dL, heL, hdL, hsL⟩ := at_emodD (i := x0 / 12) (n := 10) hall (twoD_shp hdv hw0 ldv hmlast m1 u1 m2 u2 m5 u5) rfl (by decide)
      exact ⟨_, rfl, _, rfl, a, _, _, _, rfl, rfl, zyR.seq hsq, hx0, _, _, rfl, rfl, c12, .inl ⟨_, rfl, _, _, rfl, rfl, p10, tyR, _, _, _, rfl, rfl, SqL.of iAyR, heL, q vL dL _ zyR hdL hsL⟩⟩

    refine ⟨_, rfl, _, _, rfl, rfl, _, rfl, iteElse ?G fun e3 B => ⟨_, rfl, _, _, _, _, _, rfl, .ty _, hd.tyx, kit_ty (kit_tup _), _, rfl, iteTb rfl ⟨_, rfl, va, _, rfl, .inr hT, rfl, _, rfl, ite2b (fun c => ?_) fun _ => B⟩⟩⟩
    rotate_left
    · have l2d : dv.length = 2 := by
        have := V.int.inj (of_decide_eq_true c)
        omega
      have w3 : x0 % 12 < 3 := of_decide_eq_true e3
      have w2 : x0 % 12 ≠ 2 := fun e => by
        have h2 : decide (V.int (x0 % 12) = V.int 2) = false := c2
        rw [vi_t e] at h2
        cases h2
      obtain ⟨ds, c0, xs, rfl, edv2, hds, hcT, hxs⟩ := form2 l2d
      have mds : PyData.tuple ds ∈ dv := by rw [edv2]; exact List.mem_cons_of_mem _ List.mem_cons_self
      have shds := hdv _ mds
      have she : ∀ e ∈ ds, Shp d.depth e := fun e he => shds.mem he
      have l1900 : ds.length ≤ 1900 := (wid_tup.mp (hwv _ mds)).1
      have lxs : xs.length = ds.length := hxs.len
      refine ⟨_, rfl, va, _, _, _, rfl, rfl, hT, at1, ?_⟩
      refine ⟨_, rfl, a, _, _, _, rfl, rfl, hsq, hx0, _, _, rfl, rfl, c12, .inl ⟨_, rfl, _, _, rfl, rfl, p3, rfl, _, rfl, ite2b (fun c4 => ?_) fun c4 => ?_⟩⟩
      · refine ⟨_, rfl, va, _, _, _, rfl, rfl, hT, hat0, _, rfl, c0, xs, rfl, .inr hcT, fun L nL => ⟨l2, fun t n => ?_⟩⟩
        have s1 := same_new nL (.lst xs)
        have s2 := same_add s1 n (.tup [V.str w0, .ref L])
        have iL : SqL K (upd (upd H L (.lst xs)) t (.tup [V.str w0, .ref L])) L xs := SqL.of (same_new n _ _ _ upd_same)
        refine q _ (.tuple [.str w0, .list ds]) _ s2 (.tup (SqT.of upd_same) (.cons (.str _) (.cons (.lst iL ((Kp.of s2).dpAll hxs)) .nil))) ?_
        exact (Shp.tup (n := d.depth + 1) (all_cons (.str hw0) (all_cons (.lst she (by omega)) all_nil)) (Nat.le_of_ble_eq_true rfl)).mono (by omega)
      · refine ⟨_, rfl, va, _, _, _, rfl, rfl, hT, hat0, _, rfl, (1 : Int), rfl, c0, xs, rfl, hcT, fun p1 A1 s1 i1 => ⟨l2, fun t2 n2 => ?_⟩⟩
        obtain ⟨A2, eA2, s2, i2⟩ := new_any (K := K) [V.str w0, .ref p1] n2
        rw [← eA2]
        have z2 := s1.trans s2
        refine ⟨_, rfl, va, _, _, _, rfl, rfl, (Kp.of z2).tup hT, hat0, _, rfl, _, rfl, (1 : Int), rfl, c0, xs, rfl, (Kp.of z2).tup hcT, fun p3 A3 s3 i3 => ?_⟩
        have z3 := z2.trans s3
        refine ⟨c0, p3, _, _, rfl, rfl, (Kp.of z3).tup hcT, i3, small_le (by have := cutV_length xs none (some 1); omega), fun p4 A4 s4 i4 => ⟨l2, fun t5 n5 => ?_⟩⟩
        obtain ⟨A5, eA5, s5, i5⟩ := new_any (K := K) [V.str w0, .ref p4] n5
        rw [← eA5]
        refine ⟨l2, fun R nR => ?_⟩
        obtain ⟨A6, eA6, s6, i6⟩ := newL_any (K := K) [V.ref t2, V.ref t5] nR
        rw [← eA6]
        have z36 := (s4.trans s5).trans s6
        have z6 := z3.trans z36
        have z26 := s3.trans z36
        have z16 := s2.trans z26
        have k6 := (Kp.of z6).dpAll hxs
        obtain ⟨g1, G1, m1, u1⟩ := dp_cut k6 (some 1) none
        obtain ⟨g2, G2, m2, u2⟩ := dp_cut k6 none (some 1)
        have g2l : g2.length ≤ 1 := by
          have h := G2.len
          rw [show cutV xs none (some 1) = xs.take 1 from cut_to (k := 1), List.length_take] at h
          omega
        have hall : DpAll K A6 [V.ref t2, V.ref t5] [.tuple [.str w0, .tuple g1], .tuple [.str w0, .tuple (ds ++ g2)]] :=
          .cons (.tup ((Kp.of z26).tup i2) (.cons (.str _) (.cons (.tup ((Kp.of z16).tup i1) G1) .nil))) (.cons (.tup ((Kp.of s6).tup i5) (.cons (.str _) (.cons (.tup ((Kp.of (s5.trans s6)).tup i4) (k6.append G2)) .nil))) .nil)
        obtain ⟨vL, dL, heL, hdL, hsL⟩ := at_emodD (i := x0 % 12) (n := 2) (N := d.depth + 8) hall (all_cons ((Shp.tup (n := d.depth + 1) (all_cons (.str hw0) (all_cons (.tup (fun e h => she e (m1 e h)) (by omega)) all_nil)) (Nat.le_of_ble_eq_true rfl)).mono (by omega)) (all_cons ((Shp.tup (n := d.depth + 1) (all_cons (.str hw0) (all_cons (.tup (all_app she fun e h => she e (m2 e h)) (by rw [List.length_append]; omega)) all_nil)) (Nat.le_of_ble_eq_true rfl)).mono (by omega)) all_nil)) rfl (by decide)
        rw [show x0 % 12 % 2 = x0 % 12 by omega] at heL
        exact ⟨_, rfl, R, _, _, _, rfl, rfl, SqL.of i6, heL, q vL dL _ z6 hdL hsL⟩
    refine ⟨_, rfl, _, _, rfl, rfl, _, rfl, iteElse ?L fun e3 B => ⟨_, rfl, _, _, _, _, _, rfl, .ty _, hd.tyx, kit_ty (kit_tup _), _, rfl, iteTb rfl ⟨_, rfl, va, _, rfl, .inr hT, rfl, _, rfl, ite2b (fun c => ?_) fun _ => B⟩⟩⟩
    rotate_left
    · have l3d : dv.length = 3 := by
        have := V.int.inj (of_decide_eq_true c)
        omega
      obtain ⟨k', x, vx, rfl, edv3, rfl, hx, hvx⟩ := form3 l3d
      have shx := hdv x (by rw [edv3]; exact List.mem_cons_of_mem _ (List.mem_cons_of_mem _ List.mem_cons_self))
      refine ⟨_, rfl, va, _, _, _, rfl, rfl, hT, at1, _, _, rfl, rfl, _, rfl, va, _, _, _, rfl, rfl, hT, at1, _, _, rfl, rfl, _, rfl, (1 : Int), rfl, va, _, rfl, hT, fun p1 A1 s1 i1 => ?_⟩
      refine ⟨p1, _, rfl, .inr i1, _, _, rfl, rfl, l4, fun R nR => ?_⟩
      obtain ⟨W, eW⟩ : ∃ W : List V, W = [V.int (k' + 1), V.int (k' - 1), V.bl true, V.int (((cutV [V.str "or", V.int k', vx] (some 1) none).length : Nat) + 7)] := ⟨_, rfl⟩
      obtain ⟨A2, eA2, s2, i2⟩ := newL_any (K := K) W nR
      have hall : DpAll K A2 W [.int (k' + 1), .int (k' - 1), .bool true, .int (((cutV [V.str "or", V.int k', vx] (some 1) none).length : Nat) + 7)] := by
        rw [eW]
        exact .cons (.int _) (.cons (.int _) (.cons (.bl _) (.cons (.int _) .nil)))
      obtain ⟨vL, dL, heL, hdL, hsL⟩ := at_emodD (i := x0 / 12) (n := 4) (N := d.depth) hall (all_cons .int (all_cons .int (all_cons .bool (all_cons .int all_nil)))) (by rw [eW]; rfl) (by decide)
      have z2 := s1.trans s2
      subst eA2
      subst eW
      refine ⟨_, rfl, a, _, _, _, rfl, rfl, z2.seq hsq, hx0, _, _, rfl, rfl, c12, .inl ⟨_, rfl, _, _, rfl, rfl, p4, R, _, _, _, rfl, rfl, SqL.of i2, heL, ?_⟩⟩
      refine ⟨_, rfl, _, rfl, va, _, _, _, rfl, rfl, (Kp.of z2).tup hT, at2, l3, fun t n => ?_⟩
      have s3 := same_new n (.tup [V.str "or", vL, vx])
      refine q _ (.tuple [.str "or", dL, x]) _ (z2.trans s3) (.tup (SqT.of upd_same) (.cons (.str _) (.cons ((Kp.of s3).dp hdL) (.cons ((Kp.of (z2.trans s3)).dp hvx) .nil)))) ?_
      exact (Shp.tup (n := d.depth) (all_cons (.str ok_or) (all_cons hsL (all_cons shx all_nil))) (Nat.le_of_ble_eq_true rfl)).mono (by omega)
    refine ⟨l0, fun tx1 nx1 => ?_⟩
    obtain ⟨Ax1, eAx1, sAx1, iAx1⟩ := new_any (K := K) [] nx1
    rw [← eAx1]
    have zx1 := kr.trans sAx1
    refine ⟨l1, fun tx2 nx2 => ?_⟩
    obtain ⟨Ax2, eAx2, sAx2, iAx2⟩ := new_any (K := K) [V.str "one"] nx2
    rw [← eAx2]
    have zx2 := zx1.trans sAx2
    refine ⟨l1, fun tx3 nx3 => ?_⟩
    obtain ⟨Ax3, eAx3, sAx3, iAx3⟩ := newL_any (K := K) [V.str "one"] nx3
    rw [← eAx3]
    have zx3 := zx2.trans sAx3
    refine ⟨l0, fun tx4 nx4 => ?_⟩
    obtain ⟨Ax4, eAx4, sAx4, iAx4⟩ := new_any (K := K) [] nx4
    rw [← eAx4]
    have zx4 := zx3.trans sAx4
    refine ⟨l2, fun tx5 nx5 => ?_⟩
    obtain ⟨Ax5, eAx5, sAx5, iAx5⟩ := new_any (K := K) [V.str "row", V.ref tx4] nx5
    rw [← eAx5]
    have zx5 := zx4.trans sAx5
    refine ⟨l2, fun tx6 nx6 => ?_⟩
    obtain ⟨Ax6, eAx6, sAx6, iAx6⟩ := new_any (K := K) [V.str "one", V.int 0] nx6
    rw [← eAx6]
    have zx6 := zx5.trans sAx6
    refine ⟨l0, fun tx7 nx7 => ?_⟩
    obtain ⟨Ax7, eAx7, sAx7, iAx7⟩ := new_any (K := K) [] nx7
    rw [← eAx7]
    have zx7 := zx6.trans sAx7
    refine ⟨l2, fun tx8 nx8 => ?_⟩
    obtain ⟨Ax8, eAx8, sAx8, iAx8⟩ := new_any (K := K) [V.str "repeat", V.ref tx7] nx8
    rw [← eAx8]
    have zx8 := zx7.trans sAx8
    refine ⟨l9, fun tx9 nx9 => ?_⟩
    obtain ⟨Ax9, eAx9, sAx9, iAx9⟩ := newL_any (K := K) [V.non, V.ref tx1, V.ref tx2, V.str "one", V.ref tx3, V.ref tx5, V.ref tx6, V.ref tx8, V.int 1] nx9
    rw [← eAx9]
    have zx9 := zx8.trans sAx9
    have hall : DpAll K Ax9 [V.non, V.ref tx1, V.ref tx2, V.str "one", V.ref tx3, V.ref tx5, V.ref tx6, V.ref tx8, V.int 1] lastD := .cons .non (.cons (.tup ((Kp.of (((((((sAx2.trans sAx3).trans sAx4).trans sAx5).trans sAx6).trans sAx7).trans sAx8).trans sAx9)).tup iAx1) .nil) (.cons (.tup ((Kp.of ((((((sAx3.trans sAx4).trans sAx5).trans sAx6).trans sAx7).trans sAx8).trans sAx9)).tup iAx2) (.cons (.str _) .nil)) (.cons (.str _) (.cons (.lst (SqL.of ((((((sAx4.trans sAx5).trans sAx6).trans sAx7).trans sAx8).trans sAx9) _ _ iAx3)) (.cons (.str _) .nil)) (.cons (.tup ((Kp.of (((sAx6.trans sAx7).trans sAx8).trans sAx9)).tup iAx5) (.cons (.str _) (.cons (.tup ((Kp.of ((((sAx5.trans sAx6).trans sAx7).trans sAx8).trans sAx9)).tup iAx4) .nil) .nil))) (.cons (.tup ((Kp.of ((sAx7.trans sAx8).trans sAx9)).tup iAx6) (.cons (.str _) (.cons (.int _) .nil))) (.cons (.tup ((Kp.of sAx9).tup iAx8) (.cons (.str _) (.cons (.tup ((Kp.of (sAx8.trans sAx9)).tup iAx7) .nil) .nil))) (.cons (.int _) .nil))))))))
    obtain ⟨vL, dL, heL, hdL, hsL⟩ := at_emodD (i := x0 / 12) (n := 9) hall (lastD_shp (d.depth + 8) (by omega)) rfl (by decide)
    exact ⟨_, rfl, a, _, _, _, rfl, rfl, zx9.seq hsq, hx0, _, _, rfl, rfl, c12, .inl ⟨_, rfl, _, _, rfl, rfl, p9, tx9, _, _, _, rfl, rfl, SqL.of iAx9, heL, q vL dL _ zx9 hdL hsL⟩⟩

  · refine ⟨_, rfl, _, _, rfl, rfl, _, rfl, ite2b (fun c3 => ⟨_, rfl, a, _, rfl, .inl hsq, _, _, rfl, rfl, _, rfl, ite2b (fun c4 => ?_) fun _ => B⟩) fun _ => B⟩
    have w5 : 4 < x0 % 12 := of_decide_eq_true c3
    have ln1 : 1 < ns.length := by
      have h : (1 : Int) < ((ns.map V.int).length : Nat) := of_decide_eq_true c4
      rw [List.length_map] at h
      omega
    have ld1 : 0 < (ns.drop 1).length := by rw [List.length_drop]; omega
    have ld2 : (ns.drop 1).length ≤ 80 := by rw [List.length_drop]; omega
    have lt1 : 1 < dv.length := by
      have h : (1 : Int) < ((V.str w0 :: vr).length : Nat) := of_decide_eq_true e1
      omega
    refine ⟨_, rfl, _, rfl, va, _, _, _, rfl, rfl, hT, hlast, ?_⟩
    refine ⟨_, rfl, va, _, _, _, rfl, rfl, hT, hat0, rfl, _, rfl, ite2b (fun c5 => ?_) fun c5 => ?_⟩
    · have e5 : w0 = "or" := V.str.inj (of_decide_eq_true c5)
      have l3d : dv.length = 3 := by
        rcases form with ⟨_, h⟩ | ⟨_, _, h, _⟩ | ⟨k', x, h, _, _⟩
        · exact absurd e5 h
        · exact absurd e5 h
        · rw [edv, h]; rfl
      obtain ⟨k', x, vx, rfl, edv3, rfl, hx, hvx⟩ := form3 l3d
      have mx : x ∈ dv := by rw [edv3]; exact List.mem_cons_of_mem _ (List.mem_cons_of_mem _ List.mem_cons_self)
      have dx := hdl x mx
      obtain rfl : vx = vlast := by
        have h : atI [V.str "or", V.int k', vx] (-1) = some vx := atI_end (k := 2) rfl rfl
        exact Option.some.inj (h.symm.trans hlast)
      refine ⟨_, rfl, (2 : Int), rfl, va, _, rfl, hT, fun p1 A1 s1 i1 => ?_⟩
      refine ⟨_, rfl, _, rfl, (1 : Int), rfl, a, _, rfl, s1.seq hsq, fun L nL => ?_⟩
      have sL := same_new nL (.lst (cutV (ns.map V.int) (some 1) none))
      have zL := s1.trans sL
      refine ⟨vx, x, L, ns.drop 1, rfl, (Kp.of zL).dp hvx, hx, by omega, by omega, hwv x mx, slL, dn1, ld1, ld2, fun u e A3 s3 hu he => ⟨l1, fun t4 n4 => ?_⟩⟩
      obtain ⟨A4, eA4, s4, i4⟩ := new_any (K := K) [u] n4
      rw [← eA4]
      have z4 := (zL.trans s3).trans s4
      have z14 := (sL.trans s3).trans s4
      refine ⟨p1, t4, _, _, rfl, rfl, (Kp.of z14).tup i1, i4, small_le (by have := cutV_length [V.str "or", V.int k', vx] none (some 2); show _ + 1 ≤ _; omega), fun p5 A5 s5 i5 => ?_⟩
      have k5 := (Kp.of (z4.trans s5)).dpAll hA
      obtain ⟨g1, G1, m1, u1⟩ := dp_cut k5 none (some 2)
      refine q _ (.tuple (g1 ++ [e])) _ (z4.trans s5) (.tup i5 (G1.append (.cons ((Kp.of (s4.trans s5)).dp hu) .nil))) ?_
      exact Shp.tup (n := d.depth + 7) (all_app (fun y hy => (hdv y (m1 y hy)).mono (by omega)) (all_cons (he.mono (by omega)) all_nil)) (by rw [List.length_append]; show g1.length + 1 ≤ _; omega)
    · have e5 : w0 ≠ "or" := fun e => by
        have h : decide (V.str w0 = V.str ("or" : Str)) = false := c5
        rw [veq e] at h
        cases h
      have l2d : dv.length = 2 := by
        rcases form with ⟨h, _⟩ | ⟨_, h, _⟩ | ⟨_, _, _, h, _⟩
        · rw [edv, h] at lt1
          exact absurd lt1 (Nat.lt_irrefl 1)
        · rw [edv, h]; rfl
        · exact absurd h e5
      obtain ⟨ds, c0, xs, rfl, edv2, hds, hcT, hxs⟩ := form2 l2d
      have mds : PyData.tuple ds ∈ dv := by rw [edv2]; exact List.mem_cons_of_mem _ List.mem_cons_self
      have shds := hdv _ mds
      have she : ∀ e ∈ ds, Shp d.depth e := fun e he => shds.mem he
      have l1900 : ds.length ≤ 1900 := (wid_tup.mp (hwv _ mds)).1
      have lxs : xs.length = ds.length := hxs.len
      obtain rfl : V.ref c0 = vlast := by
        have h : atI [V.str w0, V.ref c0] (-1) = some (V.ref c0) := atI_end (k := 1) rfl rfl
        exact Option.some.inj (h.symm.trans hlast)
      have d64 : d.depth ≤ 64 := by omega
      refine ⟨_, rfl, l0, fun t0 n0 => ⟨.tuple ds, .tuple [], .tup ((Kp.new n0 _).tup hcT) ((Kp.new n0 _).dpAll hxs), .tup (SqT.of upd_same) .nil, (shds.mono d64).shaped, shaped_tupN, _, rfl, ?_⟩⟩
      rw [eqv_tup_nil]
      have sT := same_new n0 (.tup [])
      obtain ⟨HT0, eHT⟩ : ∃ HT0, HT0 = upd H t0 (.tup []) := ⟨_, rfl⟩
      rw [← eHT] at sT ⊢
      clear eHT
      refine ite2b (fun c6 => ?_) fun c6 => ?_
      · have ne : ds ≠ [] := fun e => by rw [decide_eq_true e] at c6; cases c6
        have n0 : 0 < xs.length := by
          rw [lxs]
          exact List.length_pos_iff.mpr ne
        have pl : (fun _ j : Int => 0 < j) (x0 / 12) ((xs.length : Nat) : Int) := by show (0 : Int) < ((xs.length : Nat) : Int); omega
        obtain ⟨j, hj⟩ := Int.eq_ofNat_of_zero_le (Int.emod_nonneg (x0 / 12) (show ((xs.length : Nat) : Int) ≠ 0 by omega))
        have lj : j < xs.length := by
          have := Int.emod_lt_of_pos (x0 / 12) (show (0 : Int) < ((xs.length : Nat) : Int) by omega)
          omega
        have hxj : xs[j]? = some xs[j] := List.getElem?_eq_getElem lj
        obtain ⟨y, hy1, hy2⟩ := hxs.atV hxj
        have hyi := hds y (List.mem_of_getElem? hy1)
        have dy : y.depth + 2 ≤ d.depth := by
          have h1 := hdl _ mds
          have h2 : y.depth + 1 ≤ (PyData.tuple ds).depth := by
            rw [PyData.depth]
            exact Nat.succ_le_succ (depthAll_iff.mp (Nat.le_refl _) y (List.mem_of_getElem? hy1))
          omega
        have wy := (wid_tup.mp (hwv _ mds)).2 y (List.mem_of_getElem? hy1)
        have haj : atI xs (x0 / 12 % ((xs.length : Nat) : Int)) = some xs[j] := by rw [hj]; exact atI_nat hxj
        refine ⟨_, rfl, a, _, _, _, rfl, rfl, sT.seq hsq, hx0, _, _, rfl, rfl, c12, .inl ⟨_, rfl, _, rfl, c0, xs, rfl, .inr ((Kp.of sT).tup hcT), _, _, rfl, rfl, pl, ?_⟩⟩
        refine ⟨_, rfl, va, _, _, _, rfl, rfl, (Kp.of sT).tup hT, hat0, ?_⟩
        refine ⟨_, rfl, _, rfl, _, rfl, c0, xs, rfl, (Kp.of sT).tup hcT, fun p1 A1 s1 i1 => ?_⟩
        have z1 := sT.trans s1
        refine ⟨_, rfl, _, rfl, c0, _, _, _, rfl, rfl, (Kp.of z1).tup hcT, haj, _, rfl, (1 : Int), rfl, a, _, rfl, z1.seq hsq, fun L nL => ?_⟩
        have sL := same_new nL (.lst (cutV (ns.map V.int) (some 1) none))
        have zL := z1.trans sL
        refine ⟨xs[j], y, L, ns.drop 1, rfl, (Kp.of zL).dp hy2, hyi, by omega, by omega, wy, slL, dn1, ld1, ld2, fun u e A3 s3 hu he => ⟨l1, fun t4 n4 => ?_⟩⟩
        obtain ⟨A4, eA4, s4, i4⟩ := new_any (K := K) [u] n4
        rw [← eA4]
        have z4 := (zL.trans s3).trans s4
        have z14 := (sL.trans s3).trans s4
        refine ⟨p1, t4, _, _, rfl, rfl, (Kp.of z14).tup i1, i4, small_le (by have := cutV_length xs none (some (x0 / 12 % ((xs.length : Nat) : Int))); show (cutV xs none (some (x0 / 12 % ((xs.length : Nat) : Int)))).length + 1 ≤ _; omega), fun p5 A5 s5 i5 => ?_⟩
        have z5 := z4.trans s5
        refine ⟨_, rfl, _, rfl, _, _, rfl, rfl, _, rfl, c0, xs, rfl, (Kp.of z5).tup hcT, fun p6 A6 s6 i6 => ?_⟩
        have e5' : SqT K A5 p5 (xs.take j ++ [u]) := by
          rw [← cut_to, ← hj]
          exact i5
        have e6' : SqT K A6 p6 (xs.drop (j + 1)) := by
          rw [← cut_from, show ((j + 1 : Nat) : Int) = (j : Int) + 1 from rfl, ← hj]
          exact i6
        refine ⟨p5, p6, _, _, rfl, rfl, (Kp.of s6).tup e5', e6', small_le (by rw [List.length_append, List.length_take, List.length_drop]; show min j xs.length + 1 + _ ≤ _; omega), fun p7 A7 s7 i7 => ⟨l2, fun t8 n8 => ?_⟩⟩
        obtain ⟨A8, eA8, s8, i8⟩ := new_any (K := K) [V.str w0, .ref p7] n8
        rw [← eA8]
        have z8 := ((z5.trans s6).trans s7).trans s8
        have k8 := (Kp.of z8).dpAll hxs
        refine q _ (.tuple [.str w0, .tuple (ds.take j ++ [e] ++ ds.drop (j + 1))]) _ z8 (.tup i8 (.cons (.str _) (.cons (.tup ((Kp.of s8).tup i7) (((k8.take j).append (.cons ((Kp.of ((((s4.trans s5).trans s6).trans s7).trans s8)).dp hu) .nil)).append (k8.drop (j + 1)))) .nil))) ?_
        refine Shp.tup (n := d.depth + 7) (all_cons (.str hw0) (all_cons ?_ all_nil)) (Nat.le_of_ble_eq_true rfl)
        refine Shp.tup (n := d.depth + 6) (all_app (all_app (fun y hy => (she y (List.mem_of_mem_take hy)).mono (by omega)) (all_cons (he.mono (by omega)) all_nil)) fun y hy => (she y (List.mem_of_mem_drop hy)).mono (by omega)) ?_
        rw [List.length_append, List.length_append, List.length_take, List.length_drop]
        show min j ds.length + 1 + _ ≤ _
        omega
      · refine ⟨_, rfl, rfl, _, rfl, iteFb (vi_f (by omega)) ⟨_, rfl, _, _, rfl, rfl, _, rfl, iteFb (decide_eq_false (by omega)) ⟨_, rfl, _, _, rfl, rfl, _, rfl, iteFb (decide_eq_false (by omega)) ?_⟩⟩⟩
        refine ⟨l0, fun tu1 nu1 => ?_⟩
        obtain ⟨Au1, eAu1, sAu1, iAu1⟩ := new_any (K := K) [] nu1
        rw [← eAu1]
        have zu1 := sT.trans sAu1
        refine ⟨l1, fun tu2 nu2 => ?_⟩
        obtain ⟨Au2, eAu2, sAu2, iAu2⟩ := new_any (K := K) [V.str "one"] nu2
        rw [← eAu2]
        have zu2 := zu1.trans sAu2
        refine ⟨l1, fun tu3 nu3 => ?_⟩
        obtain ⟨Au3, eAu3, sAu3, iAu3⟩ := newL_any (K := K) [V.str "one"] nu3
        rw [← eAu3]
        have zu3 := zu2.trans sAu3
        refine ⟨l0, fun tu4 nu4 => ?_⟩
        obtain ⟨Au4, eAu4, sAu4, iAu4⟩ := new_any (K := K) [] nu4
        rw [← eAu4]
        have zu4 := zu3.trans sAu4
        refine ⟨l2, fun tu5 nu5 => ?_⟩
        obtain ⟨Au5, eAu5, sAu5, iAu5⟩ := new_any (K := K) [V.str "row", V.ref tu4] nu5
        rw [← eAu5]
        have zu5 := zu4.trans sAu5
        refine ⟨l2, fun tu6 nu6 => ?_⟩
        obtain ⟨Au6, eAu6, sAu6, iAu6⟩ := new_any (K := K) [V.str "one", V.int 0] nu6
        rw [← eAu6]
        have zu6 := zu5.trans sAu6
        refine ⟨l0, fun tu7 nu7 => ?_⟩
        obtain ⟨Au7, eAu7, sAu7, iAu7⟩ := new_any (K := K) [] nu7
        rw [← eAu7]
        have zu7 := zu6.trans sAu7
        refine ⟨l2, fun tu8 nu8 => ?_⟩
        obtain ⟨Au8, eAu8, sAu8, iAu8⟩ := new_any (K := K) [V.str "repeat", V.ref tu7] nu8
        rw [← eAu8]
        have zu8 := zu7.trans sAu8
        refine ⟨l9, fun tu9 nu9 => ?_⟩
        obtain ⟨Au9, eAu9, sAu9, iAu9⟩ := newL_any (K := K) [V.non, V.ref tu1, V.ref tu2, V.str "one", V.ref tu3, V.ref tu5, V.ref tu6, V.ref tu8, V.int 1] nu9
        rw [← eAu9]
        have zu9 := zu8.trans sAu9
        have hall : DpAll K Au9 [V.non, V.ref tu1, V.ref tu2, V.str "one", V.ref tu3, V.ref tu5, V.ref tu6, V.ref tu8, V.int 1] lastD := .cons .non (.cons (.tup ((Kp.of (((((((sAu2.trans sAu3).trans sAu4).trans sAu5).trans sAu6).trans sAu7).trans sAu8).trans sAu9)).tup iAu1) .nil) (.cons (.tup ((Kp.of ((((((sAu3.trans sAu4).trans sAu5).trans sAu6).trans sAu7).trans sAu8).trans sAu9)).tup iAu2) (.cons (.str _) .nil)) (.cons (.str _) (.cons (.lst (SqL.of ((((((sAu4.trans sAu5).trans sAu6).trans sAu7).trans sAu8).trans sAu9) _ _ iAu3)) (.cons (.str _) .nil)) (.cons (.tup ((Kp.of (((sAu6.trans sAu7).trans sAu8).trans sAu9)).tup iAu5) (.cons (.str _) (.cons (.tup ((Kp.of ((((sAu5.trans sAu6).trans sAu7).trans sAu8).trans sAu9)).tup iAu4) .nil) .nil))) (.cons (.tup ((Kp.of ((sAu7.trans sAu8).trans sAu9)).tup iAu6) (.cons (.str _) (.cons (.int _) .nil))) (.cons (.tup ((Kp.of sAu9).tup iAu8) (.cons (.str _) (.cons (.tup ((Kp.of (sAu8.trans sAu9)).tup iAu7) .nil) .nil))) (.cons (.int _) .nil))))))))
        obtain ⟨vL, dL, heL, hdL, hsL⟩ := at_emodD (i := x0 / 12) (n := 9) hall (lastD_shp (d.depth + 8) (by omega)) rfl (by decide)
        exact ⟨_, rfl, a, _, _, _, rfl, rfl, zu9.seq hsq, hx0, _, _, rfl, rfl, c12, .inl ⟨_, rfl, _, _, rfl, rfl, p9, tu9, _, _, _, rfl, rfl, SqL.of iAu9, heL, q vL dL _ zu9 hdL hsL⟩⟩

end
end Pd
set_option Elab.async false
set_option linter.all false
set_option maxRecDepth 100000
set_option maxHeartbeats 4000000
namespace Pd
open PySem PySem.Spec PyProof.Rows L2
section
variable {P : Program} {w : World} {K : PySem.W.Frag} {mg : Str → Option Value} {base : Heap} {f : Addr} {fd : FuncData}
theorem oi_eq (w : Option Nat) (e : Nat) : decide (oi w = V.int (e : Int)) = decide (w = some e) := by
  cases w with
  | none =>
    rw [decide_eq_false (show ¬ ((none : Option Nat) = some e) from fun h => nomatch h)]
    exact decide_eq_false fun h => nomatch h
  | some x =>
    refine decide_eq_decide.mpr ⟨fun h => ?_, fun h => ?_⟩
    · have h2 : (x : Int) = (e : Int) := V.int.inj h
      rw [show x = e by omega]
    · rw [Option.some.inj h]
theorem oi_scal (w : Option Nat) (e : Nat) : scal (oi w) (V.int (e : Int)) = true := by
  cases w <;> rfl
abbrev N_law_stretch_right : List Str := ["_law_tree_here", "_law_text_here", "_law_spots", "_law_drops_here", "_law_start", "_law_end", "_law_taken", "_law_found", "_law_bent_here", "_law_value", "_law_to", "_law_due", "_law_other"]
theorem sc_law_stretch_right : FnScope N_law_stretch_right ["_law_tree_here", "_law_text_here", "_law_spots", "_law_drops_here"] (defScope s_law_stretch_right) := ⟨rfl, rfl, rfl, by decide +kernel, rfl, by decide +kernel, by decide +kernel⟩
theorem ok_law_stretch_right {gD gI gW gL gS gB : Addr} {k : Nat} (T : Txt K mg) (F : FnP K "_law_stretch_right" "_law_stretch_right" s_law_stretch_right f fd)
    (h_derivation : Has P w K mg base "derivation" gD ["pattern", "text", "start", "end"] k (spDerivation K)) (hk_derivation : HasK P w K mg base "derivation" gD ["pattern", "text", "start", "end"] k (spDerivation K))
    (h_is_derivation : Has P w K mg base "is_derivation" gI ["pattern", "text", "start", "end", "value"] k (spIsDerivation K)) (hk_is_derivation : HasK P w K mg base "is_derivation" gI ["pattern", "text", "start", "end", "value"] k (spIsDerivation K))
    (h_law_walked : Has P w K mg base "_law_walked" gW ["_law_tree_here", "_law_text_here", "_law_start", "_law_value"] k (spLawWalked K 8)) (h_law_is_lean : Has P w K mg base "_law_is_lean" gL ["_law_tree_here", "_law_text_here", "_law_start", "_law_value"] k (spLawLean K 8))
    (h_law_says : Has P w K mg base "_law_says" gS ["_law_found", "_law_due"] k spLawSays) (h_law_bent : Has P w K mg base "_law_bent" gB ["_law_value", "_law_drops_here"] k (spLawBent K 16)) :
    FnOk P w K mg base CX0 (k + 1) f fd ["_law_tree_here", "_law_text_here", "_law_spots", "_law_drops_here"] (spLawStretch K) := by
  refine F.ok sc_law_stretch_right (fun vs H Q E h => ?_) (fun cdv A outer s0 H vs Q E hr h => ?_)
  · obtain ⟨v, p, z, a, b, s, e, ns, rfl, _⟩ := h
    rfl
  obtain ⟨v, p, z, a, b, s, e, ns, rfl, hp, hw, hdp, hnd, hz, hse, he, hb, hsq, hdr, l6, q⟩ := h
  refine ⟨_, PSs.nox ((pss_cons (ps_asg (pv 2) (pg_tup rfl (pgs_cons (pg_name (i := 4) sc_law_stretch_right.nd rfl (Or.inl rfl)) (pgs_cons (pg_name (i := 5) sc_law_stretch_right.nd rfl (Or.inl rfl)) (pgs_cons (pg_name (i := 6) sc_law_stretch_right.nd rfl (Or.inl rfl)) pgs_nil)))))
    (pss_cons (ps_set (i := 7) sc_law_stretch_right.nd rfl (Or.inl rfl) (pe_callH h_derivation hr (by omega) rfl (pa_cons (pv 0) (pa_cons (pv 1) (pa_cons (pv 4) (pa_cons (pv 5) pa_nil))))))
    (pss_cons (ps_if (pt_not (pt_val (pv 6))) (pss_one (ps_ret (pe_cmpR op_isN (pv 7) pe_non (nomark _)))) pss_nil)
    (pss_cons (ps_if (PW.pt (pw_or (pt_cmpR op_ne (pe_callH h_law_walked hr (by omega) rfl (pa_cons (pv 0) (pa_cons (pv 1) (pa_cons (pv 4) (pa_cons (pv 7) pa_nil))))) (pv 5) (nomark _)) (pw_or1 (pt_not (pt_val (pe_callH h_law_is_lean hr (by omega) rfl (pa_cons (pv 0) (pa_cons (pv 1) (pa_cons (pv 4) (pa_cons (pv 7) pa_nil)))))))))) (pss_one (ps_ret pe_bl)) pss_nil)
    (pss_cons (ps_if (pt_not (pt_val (pe_callH h_law_says hr (by omega) rfl (pa_cons (pe_callKO hk_is_derivation hr (by omega) rfl (pk_cons (pv 0) (pk_cons (pv 1) (pk_cons (pv 4) (pk_cons (pv 5) (pk_cons (pv 7) pk_nil)))))) (pa_cons pe_bl pa_nil))))) (pss_one (ps_ret pe_bl)) pss_nil)
    (pss_cons (ps_set (i := 8) sc_law_stretch_right.nd rfl (Or.inl rfl) (pe_callH h_law_bent hr (by omega) rfl (pa_cons (pv 7) (pa_cons (pv 3) pa_nil))))
    (pss_cons (ps_for PassesOwn.never rfl (pi_list (pe_lst (pa_cons (pe_tup (pa_cons (pv 8) (pa_cons (pv 5) pa_nil))) (pa_cons (pe_tup (pa_cons (pv 7) (pa_cons (pe_callB (call_max2 rfl) rfl T.z_max bb_max (pa_cons (pv 4) (pa_cons (pe_op op_sub (pv 5) pe_int) pa_nil))) pa_nil))) (pa_cons (pe_tup (pa_cons (pv 8) (pa_cons (pv 4) pa_nil))) pa_nil))))) (pg_tup rfl (pgs_cons (pg_name (i := 9) sc_law_stretch_right.nd rfl (Or.inl rfl)) (pgs_cons (pg_name (i := 10) sc_law_stretch_right.nd rfl (Or.inl rfl)) pgs_nil))) (pss_cons (ps_set (i := 11) sc_law_stretch_right.nd rfl (Or.inl rfl) (pe_cmpR op_eq (pe_callH h_law_walked hr (by omega) rfl (pa_cons (pv 0) (pa_cons (pv 1) (pa_cons (pv 4) (pa_cons (pv 9) pa_nil))))) (pv 10) (nomark _)))
    (pss_one (ps_if (pt_not (pt_val (pe_callH h_law_says hr (by omega) rfl (pa_cons (pe_callH h_is_derivation hr (by omega) rfl (pa_cons (pv 0) (pa_cons (pv 1) (pa_cons (pv 4) (pa_cons (pv 10) (pa_cons (pv 9) pa_nil)))))) (pa_cons (pv 11) pa_nil))))) (pss_one (ps_ret pe_bl)) pss_nil))))
    (pss_cons (ps_set (i := 12) sc_law_stretch_right.nd rfl (Or.inl rfl) (pe_op op_mod (pe_callTy call_int1 rfl T.z_int bb_int (pa_cons (pe_ix ix_list (pv 3) pe_int (fun _ _ => rfl)) pa_nil)) (pe_op op_add (pe_callB call_len_str rfl T.z_len PySem.boot_len (pa_cons (pv 1) pa_nil)) pe_int)))
    (pss_cons (ps_set (i := 10) sc_law_stretch_right.nd rfl (Or.inl rfl) (pe_callB (call_min2 rfl) rfl T.z_min bb_min (pa_cons (pe_callB call_len_str rfl T.z_len PySem.boot_len (pa_cons (pv 1) pa_nil)) (pa_cons (pe_callB (call_max2 rfl) rfl T.z_max bb_max (pa_cons (pv 12) (pa_cons (pe_op op_sub (pe_op op_add (pv 12) (pv 5)) (pv 4)) pa_nil))) pa_nil))))
    (pss_cons (ps_if (pt_not (pt_val (pe_callH h_law_says hr (by omega) rfl (pa_cons (pe_callH h_is_derivation hr (by omega) rfl (pa_cons (pv 0) (pa_cons (pv 1) (pa_cons (pv 12) (pa_cons (pv 10) (pa_cons (pv 7) pa_nil)))))) (pa_cons (pe_cmpR op_eq (pe_callH h_law_walked hr (by omega) rfl (pa_cons (pv 0) (pa_cons (pv 1) (pa_cons (pv 12) (pa_cons (pv 7) pa_nil))))) (pv 10) (nomark _)) pa_nil))))) (pss_one (ps_ret pe_bl)) pss_nil)
    (pss_one (ps_ret (pe_cmpR (op_eqD hr.units) (pe_callKO hk_derivation hr (by omega) rfl (pk_cons (pv 0) (pk_cons (pv 1) (pk_cons (pv 4) (pk_cons (pv 5) pk_nil))))) (pv 7) (nomark _))))))))))))))), ?_⟩
  have htx := tx_len z
  have hs : s ≤ z.length := by omega
  have hst : s ≤ (tx z).length := by omega
  have z1000 : z.length ≤ 1000 := by omega
  have l2 : (2 : Nat) ≤ sizeLine := small_le (by decide)
  have l3 : (3 : Nat) ≤ sizeLine := small_le (by decide)
  have zl : z.length ≤ sizeLine := small_le (by omega)
  have hlend := mem_lends (tx z) p hw s e hst
  refine ⟨_, rfl, b, _, rfl, hb, rfl, _, _, rfl, _, _, rfl, _, _, rfl, rfl, ?_⟩
  refine ⟨_, rfl, _, rfl, _, rfl, _, rfl, v, p, z, s, e, rfl, hp, hw, hdp, hnd, z1000, hs, fun u H1 k1 hu => ?_⟩
  refine ⟨_, rfl, _, rfl, ite2b (fun c => ?_) fun c => ?_⟩
  · have ne : e ∉ ends (tx z) p s := fun h => by rw [decide_eq_true (hlend.mpr h)] at c; cases c
    rw [if_neg ne] at hu
    cases hu
    exact ⟨_, rfl, rfl, q H1 k1⟩
  have yes : e ∈ ends (tx z) p s := hlend.mp (Classical.byContradiction fun h => by rw [decide_eq_false h] at c; cases c)
  rw [if_pos yes] at hu
  obtain ⟨d, ed⟩ : ∃ d, d = der (tx z) p s e := ⟨_, rfl⟩
  obtain ⟨hwk, hln⟩ := der_walk (tx z) p s e hw hst yes
  have hder := der_isDer (tx z) p s e
  have hdd := der_depth (tx z) p s e
  have hwd := der_wid (tx z) (by omega) p s e hw
  rw [← ed] at hu hwk hln hder hdd hwd
  have hshp : Shp 64 d := ⟨hder.lay, by omega, wid_mono (by decide) hwd⟩
  refine ⟨_, rfl, _, rfl, _, rfl, _, rfl, v, u, p, d, z, s, rfl, k1.dp hp, hw, hdp, hu, hshp, hz, hs, fun H2 s2 => ?_⟩
  rw [hwk]
  have k2 := k1.trans (Kp.of s2)
  have hu2 := (Kp.of s2).dp hu
  refine ⟨_, rfl, oi_scal (some e) e, _, rfl, iteFb (nvi_f rfl) ?_⟩
  refine ⟨_, rfl, _, rfl, _, rfl, _, rfl, v, u, p, d, z, s, e, rfl, k2.dp hp, hw, hdp, hu2, hshp, hz, hs, hwk, fun H3 s3 => ?_⟩
  rw [hln]
  have k3 := k2.trans (Kp.of s3)
  have hu3 := (Kp.of s3).dp hu2
  refine ⟨_, rfl, iteFb rfl ?_⟩
  refine ⟨_, rfl, _, rfl, _, rfl, _, rfl, _, rfl, v, u, p, d, z, s, e, rfl, k3.dp hp, hw, hdp, hu3, z1000, hs, fun H4 k34 => ?_⟩
  have k4 := k3.trans k34
  have hu4 := k34.dp hu3
  refine ⟨true, true, by rw [decide_eq_true hwk]; rfl, _, rfl, iteFb rfl ?_⟩
  refine ⟨_, rfl, _, rfl, u, d, a, ns, rfl, hu4, hder, by omega, by omega, hwd, k4.seq hsq, hdr, by omega, by omega, fun ub db H5 s5 hub hsb => ?_⟩
  have k5 := k4.trans (Kp.of s5)
  have hu5 := (Kp.of s5).dp hu4
  have hsb2 : Shp 64 db := hsb.mono (by omega)
  have hp5 : PtV K H5 v p := k5.dp hp
  have l1 : ∀ x : Int, (if (e : Int) - 1 > (s : Int) then (e : Int) - 1 else (s : Int)) = x → True := fun _ _ => True.intro
  obtain ⟨m, hm, ml⟩ : ∃ m : Nat, (if (e : Int) - 1 > (s : Int) then (e : Int) - 1 else (s : Int)) = (m : Int) ∧ m ≤ z.length := by
    split
    · exact ⟨e - 1, by omega, by omega⟩
    · exact ⟨s, rfl, hs⟩
  refine ⟨_, rfl, _, rfl, l2, fun t1 n1 => ?_⟩
  obtain ⟨H6, e6, s6, i6⟩ := new_any (K := K) [ub, V.int (e : Int)] n1
  rw [← e6]
  refine ⟨_, rfl, _, rfl, _, rfl, _, _, rfl, rfl, _, _, rfl, l2, fun t2 n2 => ?_⟩
  obtain ⟨H7, e7, s7, i7⟩ := new_any (K := K) [u, V.int (if (e : Int) - 1 > (s : Int) then (e : Int) - 1 else (s : Int))] n2
  rw [← e7]
  rw [hm] at i7
  refine ⟨_, rfl, _, rfl, l2, fun t3 n3 => ?_⟩
  obtain ⟨H8, e8, s8, i8⟩ := new_any (K := K) [ub, V.int (s : Int)] n3
  rw [← e8]
  refine ⟨l3, fun R nR => ?_⟩
  obtain ⟨H9, e9, s9, i9⟩ := newL_any (K := K) [V.ref t1, V.ref t2, V.ref t3] nR
  rw [← e9]
  have s59 := ((s6.trans s7).trans s8).trans s9
  have k9 := k5.trans (Kp.of s59)
  have pairs : ∀ x ∈ [V.ref t1, V.ref t2, V.ref t3], ∃ (t : Addr) (v' : V) (d' : PyData) (to : Nat), x = .ref t ∧ SqT K H9 t [v', .int (to : Int)] ∧ Dp K H9 v' d' ∧ Shp 64 d' := by
    refine all_cons ⟨t1, ub, db, e, rfl, (Kp.of ((s7.trans s8).trans s9)).tup i6, (Kp.of s59).dp hub, hsb2⟩ (all_cons ⟨t2, u, d, m, rfl, (Kp.of (s8.trans s9)).tup i7, (Kp.of s59).dp hu5, hshp⟩ (all_cons ⟨t3, ub, db, s, rfl, (Kp.of s9).tup i8, (Kp.of s59).dp hub, hsb2⟩ all_nil))
  refine ⟨R, rfl, ⟨_, SqL.of i9⟩, for_list (xs := [V.ref t1, V.ref t2, V.ref t3]) (fun i σ H' => ∃ v9 v10 v11 : Option V, σ = [some v, some (.str z), some (.ref b), some (.ref a), some (.int (s : Int)), some (.int (e : Int)), some (.bl (decide (e ∈ lends (tx z) p s))), some u, some ub, v9, v10, v11, none] ∧ Kp H9 H') ⟨none, none, none, rfl, Kp.refl _⟩ (fun i σ H' _ h => ?_) (fun i x σ H' hx h => ?_) fun σ H' h => ?_⟩
  · obtain ⟨_, _, _, _, h⟩ := h
    exact h.seq (SqL.of i9)
  · obtain ⟨v9, v10, v11, rfl, kk⟩ := h
    obtain ⟨t, v', d', to, rfl, hT, hd', hs'⟩ := pairs x (List.mem_of_getElem? hx)
    have kk2 := k9.trans kk
    refine ⟨t, _, rfl, kk.tup hT, rfl, _, _, rfl, _, _, rfl, rfl, ?_⟩
    refine ⟨_, rfl, _, rfl, _, rfl, _, rfl, v, v', p, d', z, s, rfl, kk2.dp hp, hw, hdp, kk.dp hd', hs', hz, hs, fun HA sA => ?_⟩
    have kA := kk.trans (Kp.of sA)
    have kA2 := k9.trans kA
    refine ⟨_, rfl, oi_scal _ to, ?_⟩
    refine ⟨_, rfl, _, rfl, _, rfl, _, rfl, _, rfl, v, v', p, d', z, s, to, rfl, kA2.dp hp, hw, hdp, kA.dp hd', z1000, hs, fun HB kAB => ?_⟩
    refine ⟨_, rfl, _, _, rfl, _, rfl, ?_⟩
    rw [oi_eq, decide_eq_true (rfl : decide (walk (tx z) p s d' = some to) = _)]
    exact iteFb rfl ⟨_, _, _, rfl, kA.trans kAB⟩
  · obtain ⟨v9, v10, v11, rfl, kk⟩ := h
    have kk2 := k9.trans kk
    obtain ⟨x1, hx1, x1a, x1b⟩ := at_drawn (K := K) (H := H) (i := 1) hdr (by omega)
    have pz : (fun _ j : Int => 0 < j) x1 ((z.length : Int) + 1) := by show (0 : Int) < (z.length : Int) + 1; omega
    have g1 := Int.emod_nonneg x1 (show ((z.length : Nat) : Int) + 1 ≠ 0 by omega)
    have g2 := Int.emod_lt_of_pos x1 (show (0 : Int) < ((z.length : Nat) : Int) + 1 by omega)
    obtain ⟨o, ho⟩ := Int.eq_ofNat_of_zero_le g1
    have ol : o ≤ z.length := by omega
    have hto0 : ∀ y : Int, y = (o : Int) → ∃ to : Nat, (if (if y + (e : Int) - (s : Int) > y then y + (e : Int) - (s : Int) else y) < (z.length : Int) then (if y + (e : Int) - (s : Int) > y then y + (e : Int) - (s : Int) else y) else (z.length : Int)) = (to : Int) := fun y hy => by
      refine ⟨(if (if y + (e : Int) - (s : Int) > y then y + (e : Int) - (s : Int) else y) < (z.length : Int) then (if y + (e : Int) - (s : Int) > y then y + (e : Int) - (s : Int) else y) else (z.length : Int)).toNat, ?_⟩
      rw [Int.toNat_of_nonneg]
      split
      · split <;> omega
      · omega
    obtain ⟨to, hto⟩ := hto0 _ ho
    refine ⟨_, rfl, a, _, _, _, rfl, rfl, kk2.seq hsq, hx1, .inl ⟨_, rfl, _, rfl, z, rfl, zl, _, _, rfl, rfl, _, _, rfl, rfl, pz, ?_⟩⟩
    refine ⟨_, rfl, z, rfl, zl, _, rfl, _, rfl, _, rfl, _, _, rfl, rfl, _, rfl, _, _, rfl, rfl, _, _, rfl, _, _, rfl, ?_⟩
    have hu9 := (Kp.of s59).dp hu5
    refine ⟨_, rfl, _, rfl, _, rfl, _, rfl, _, rfl, v, u, p, d, z, o, to, by rw [← hto, ← ho]; rfl, kk2.dp hp, hw, hdp, kk.dp hu9, z1000, ol, fun HA kA => ?_⟩
    have kA2 := kk2.trans kA
    refine ⟨_, rfl, _, rfl, _, rfl, _, rfl, v, u, p, d, z, o, by rw [← ho]; rfl, kA2.dp hp, hw, hdp, (kk.trans kA).dp hu9, hshp, hz, ol, fun HB sB => ?_⟩
    have kB2 := kA2.trans (Kp.of sB)
    have hueq : decide (oi (walk (tx z) p o d) = V.int (if (if x1 % ((z.length : Int) + 1) + (e : Int) - (s : Int) > x1 % ((z.length : Int) + 1) then x1 % ((z.length : Int) + 1) + (e : Int) - (s : Int) else x1 % ((z.length : Int) + 1)) < (z.length : Int) then (if x1 % ((z.length : Int) + 1) + (e : Int) - (s : Int) > x1 % ((z.length : Int) + 1) then x1 % ((z.length : Int) + 1) + (e : Int) - (s : Int) else x1 % ((z.length : Int) + 1)) else (z.length : Int))) = decide (walk (tx z) p o d = some to) := by
      rw [hto, oi_eq]
    refine ⟨_, rfl, by rw [hto]; exact oi_scal _ to, ?_⟩
    rw [hueq]
    refine ⟨_, _, rfl, _, rfl, iteFb (by rw [decide_eq_true (rfl : decide (walk (tx z) p o d = some to) = _)]; rfl) ?_⟩
    refine ⟨_, rfl, _, rfl, _, rfl, _, rfl, v, p, z, s, e, rfl, kB2.dp hp, hw, hdp, hnd, z1000, hs, fun u2 HC kC hu2' => ?_⟩
    rw [if_pos yes, ← ed] at hu2'
    have kC2 := kB2.trans kC
    refine ⟨_, rfl, d, d, hu2', (((kk.trans kA).trans (Kp.of sB)).trans kC).dp hu9, hshp.shaped, hshp.shaped, ?_⟩
    rw [eqv_refl d hder.noL]
    exact q HC kC2
end
end Pd
set_option Elab.async false
set_option linter.all false
set_option maxRecDepth 100000
set_option maxHeartbeats 4000000
namespace Pd
open PySem PySem.Spec PyProof.Rows L2
section
variable {P : Program} {w : World} {K : PySem.W.Frag} {mg : Str → Option Value} {base : Heap} {f : Addr} {fd : FuncData}
theorem op_catL {X : Cx} : OpR X (binaryOp .Add) (rCatL X.K) := by
  intro pins s σ H x y v u Q I rx ry h
  obtain ⟨a, b, xs, zs, rfl, rfl, ha, hb, hz, q⟩ := h
  cases rx
  cases ry
  obtain ⟨its, r, ⟨⟨cls, dd, data, sl⟩, n, ho, hc, hd0, hd⟩, z⟩ := I.list ha
  obtain ⟨its2, r2, ⟨⟨cls2, dd2, data2, sl2⟩, n2, ho2, hc2, hd02, hd2⟩, z2⟩ := I.list hb
  simp only at hc hd hc2 hd2
  subst hc hd hc2 hd2
  have l1 := r.length
  have l2 := r2.length
  have e : its.toArray ++ its2.toArray = (its ++ its2).toArray := by simp
  refine concat_meets ⟨_, ho, rfl⟩ ⟨_, ho2, rfl⟩ noFill_list_add seq_list_add PySem.F.slot_list_add PySem.F.entry_list_add (PySem.F.args_list_add_2 _ _) (list_addW a b its.toArray its2.toArray n n2 dd dd2 sl sl2 (by rw [List.size_toArray, List.size_toArray]; omega)) ⟨ho, ho2, ?_⟩
  rw [e]
  exact ⟨.ref _, _, I.lnew (t' := s.toks) (r.append r2) (by rw [List.length_append]; omega), rfl, q _ I.fresh⟩
/-- a tree of any depth up to 3 -/
def spTreeAny (K : PySem.W.Frag) : Sp := fun vs H Q E => ∃ d, d ≤ 3 ∧ spLawTree K d vs H Q E
abbrev N_law_pattern_right : List Str := ["_law_cell", "_law_drops_here", "_law_tree_here", "_law_text_here", "_law_start", "_law_ends_here", "_law_end", "_law_shift"]
theorem sc_law_pattern_right : FnScope N_law_pattern_right ["_law_cell"] (defScope s_law_pattern_right) := ⟨rfl, rfl, rfl, by decide +kernel, rfl, by decide +kernel, by decide +kernel⟩
theorem ok_law_pattern_right {gD gT gX gE gS gL : Addr} {k : Nat} (T : Txt K mg) (F : FnP K "_law_pattern_right" "_law_pattern_right" s_law_pattern_right f fd) (h_law_drops : Has P w K mg base "_law_drops" gD ["_law_cell", "_law_many"] k spLawDrops)
    (h_law_tree : Has P w K mg base "_law_tree" gT ["_law_drops_here", "_law_spot", "_law_room", "_law_deep"] k (spTreeAny K)) (h_law_text : Has P w K mg base "_law_text" gX ["_law_drops_here", "_law_many"] k (spLawText K))
    (h_law_ends : Has P w K mg base "_law_ends" gE ["_law_tree_here", "_law_text_here", "_law_start"] k (spLawEnds K 8)) (h_law_stretch_right : Has P w K mg base "_law_stretch_right" gS ["_law_tree_here", "_law_text_here", "_law_spots", "_law_drops_here"] k (spLawStretch K))
    (h_law_long_right : Has P w K mg base "_law_long_right" gL ["_law_drops_here"] k (spLawLong K)) : FnOk P w K mg base CX0 (k + 1) f fd ["_law_cell"] spLawPattern := by
  refine F.ok sc_law_pattern_right (fun vs H Q E h => ?_) (fun cdv A outer s0 H vs Q E hr h => ?_)
  · obtain ⟨i, rfl, _⟩ := h
    rfl
  obtain ⟨i, rfl, q⟩ := h
  refine ⟨_, PSs.nox ((pss_cons (ps_set (i := 1) sc_law_pattern_right.nd rfl (Or.inl rfl) (pe_callH h_law_drops hr (by omega) rfl (pa_cons (pv 0) (pa_cons pe_int pa_nil))))
    (pss_cons (ps_set (i := 2) sc_law_pattern_right.nd rfl (Or.inl rfl) (pe_callH h_law_tree hr (by omega) rfl (pa_cons (pv 1) (pa_cons (pe_lst (pa_cons pe_int pa_nil)) (pa_cons (pe_op op_add pe_int (pe_op op_mod (pe_callTy call_int1 rfl T.z_int bb_int (pa_cons (pe_ix ix_list (pv 1) pe_int (fun _ _ => rfl)) pa_nil)) pe_int)) (pa_cons (pe_op op_add pe_int (pe_op op_mod (pe_callTy call_int1 rfl T.z_int bb_int (pa_cons (pe_op op_fdiv (pe_ix ix_list (pv 1) pe_int (fun _ _ => rfl)) pe_int) pa_nil)) pe_int)) pa_nil))))))
    (pss_cons (ps_set (i := 3) sc_law_pattern_right.nd rfl (Or.inl rfl) (pe_callH h_law_text hr (by omega) rfl (pa_cons (pe_slice sl_list (pv 1) (po_some pe_int) po_none) (pa_cons (pe_op op_mod (pe_callTy call_int1 rfl T.z_int bb_int (pa_cons (pe_ix ix_list (pv 1) pe_int (fun _ _ => rfl)) pa_nil)) pe_int) pa_nil))))
    (pss_cons (ps_for PassesOwn.never rfl (pi_range1 rfl T.z_range (pa_cons (pe_op op_add (pe_callB call_len_str rfl T.z_len PySem.boot_len (pa_cons (pv 3) pa_nil)) pe_int) pa_nil)) (pg_name (i := 4) sc_law_pattern_right.nd rfl (Or.inl rfl)) (pss_cons (ps_set (i := 5) sc_law_pattern_right.nd rfl (Or.inl rfl) (pe_callH h_law_ends hr (by omega) rfl (pa_cons (pv 2) (pa_cons (pv 3) (pa_cons (pv 4) pa_nil)))))
    (pss_one (ps_for PassesOwn.never rfl (pi_range2 rfl T.z_range (pa_cons (pv 4) (pa_cons (pe_op op_add (pe_callB call_len_str rfl T.z_len PySem.boot_len (pa_cons (pv 3) pa_nil)) pe_int) pa_nil))) (pg_name (i := 6) sc_law_pattern_right.nd rfl (Or.inl rfl)) (pss_cons (ps_set (i := 7) sc_law_pattern_right.nd rfl (Or.inl rfl) (pe_op op_add pe_int (pe_op op_mod (pe_callTy call_int1 rfl T.z_int bb_int (pa_cons (pe_op op_add (pe_op op_mul (pv 4) pe_int) (pv 6)) pa_nil)) pe_int)))
    (pss_one (ps_if (pt_not (pt_val (pe_callH h_law_stretch_right hr (by omega) rfl (pa_cons (pv 2) (pa_cons (pv 3) (pa_cons (pe_tup (pa_cons (pv 4) (pa_cons (pv 6) (pa_cons (pe_cmpR op_in_seq (pv 6) (pv 5) rfl) pa_nil)))) (pa_cons (pe_slice sl_list (pv 1) (po_some (pv 7)) (po_some (pe_op op_add (pv 7) pe_int))) pa_nil))))))) (pss_one (ps_ret pe_bl)) pss_nil)))))))
    (pss_one (ps_ret (pe_callH h_law_long_right hr (by omega) rfl (pa_cons (pe_slice sl_list (pv 1) (po_some pe_int) po_none) pa_nil))))))))), ?_⟩
  have l1 : (1 : Nat) ≤ sizeLine := small_le (by decide)
  have l3 : (3 : Nat) ≤ sizeLine := small_le (by decide)
  have p8 : (0 : Int) < 8 := by decide
  have p3 : (0 : Int) < 3 := by decide
  have p7 : (0 : Int) < 7 := by decide
  have p30 : (0 : Int) < 30 := by decide
  refine ⟨_, rfl, i, rfl, fun a ns H1 s1 ha l80 hd => ?_⟩
  obtain ⟨x0, hx0, x0a, x0b⟩ := at_drawn (K := K) (H := H) (i := 0) hd (by omega)
  obtain ⟨x1, hx1, x1a, x1b⟩ := at_drawn (K := K) (H := H) (i := 1) hd (by omega)
  obtain ⟨x2, hx2, x2a, x2b⟩ := at_drawn (K := K) (H := H) (i := 2) hd (by omega)
  have c8 : CDiv x0 8 := ⟨by decide, by decide⟩
  refine ⟨_, rfl, l1, fun b nb => ?_⟩
  have s2 := same_new nb (.lst [V.int 8])
  have ha2 := s2 _ _ ha
  have nab : a ≠ b := ne_of_none ha nb
  have m8 : 0 ≤ x1 % 8 ∧ x1 % 8 < 8 := ⟨Int.emod_nonneg _ (by decide), Int.emod_lt_of_pos _ (by decide)⟩
  obtain ⟨dd, hdd, ddl⟩ : ∃ dd : Nat, 1 + x0 / 8 % 3 = (dd : Int) ∧ dd ≤ 3 := by
    have h1 := Int.emod_nonneg (x0 / 8) (show (3 : Int) ≠ 0 by decide)
    have h2 := Int.emod_lt_of_pos (x0 / 8) (show (0 : Int) < 3 by decide)
    exact ⟨(1 + x0 / 8 % 3).toNat, by omega, by omega⟩
  refine ⟨_, rfl, a, _, _, _, rfl, rfl, SqL.of ha2, hx1, .inl ⟨_, rfl, _, _, rfl, rfl, p8, _, _, rfl, rfl, _, rfl, a, _, _, _, rfl, rfl, SqL.of ha2, hx0, _, _, rfl, rfl, c8, .inl ⟨_, rfl, _, _, rfl, rfl, p3, _, _, rfl, rfl, ?_⟩⟩⟩
  refine ⟨dd, ddl, a, b, ns, 1 + x1 % 8, 8, by rw [← hdd]; rfl, SqL.of ha2, nab, hd, l80, upd_same, by omega, by omega, ddl, fun v p spot' H3 hk3 hb3 hp hw hdp hnd => ?_⟩
  have ha3 := hk3 _ _ ha2 nab
  have kp0 : Kp H (upd H1 b (.lst [V.int 8])) := (Kp.of s1).add nb _
  have fb : H b = none := s1.free nb
  have kp3 : Kp H H3 := ⟨fun c o h n => hk3 c o (kp0 c o h n) (ne_of_none h fb), fun c kv h => by
    obtain ⟨kv', h'⟩ := kp0.dt c kv h
    exact ⟨kv', hk3 c _ h' (ne_of_none h fb)⟩⟩
  have n4 : (nodes p).length ≤ 900 := by
    have : 4 ^ (dd + 1) ≤ 4 ^ 4 := Nat.pow_le_pow_right (by decide) (by omega)
    exact Nat.le_trans hnd (Nat.le_trans this (by decide))
  refine ⟨_, rfl, (30 : Int), rfl, a, _, rfl, SqL.of ha3, fun L nL => ?_⟩
  have s4 := same_new nL (.lst (cutV (ns.map V.int) (some 30) none))
  have hL : SqL K (upd H3 L (.lst (cutV (ns.map V.int) (some 30) none))) L ((ns.drop 30).map V.int) := SqL.of (by rw [upd_same, ← cut_ints_from (k := 30)]; rfl)
  obtain ⟨n7, hn7, n7l⟩ : ∃ n7 : Nat, x2 % 7 = (n7 : Int) ∧ n7 ≤ 6 := by
    have h1 := Int.emod_nonneg x2 (show (7 : Int) ≠ 0 by decide)
    have h2 := Int.emod_lt_of_pos x2 (show (0 : Int) < 7 by decide)
    exact ⟨(x2 % 7).toNat, by omega, by omega⟩
  refine ⟨_, rfl, a, _, _, _, rfl, rfl, SqL.of (s4 _ _ ha3), hx2, .inl ⟨_, rfl, _, _, rfl, rfl, p7, ?_⟩⟩
  refine ⟨L, ns.drop 30, n7, by rw [← hn7]; rfl, hL, drawn_drop 30 hd, by rw [List.length_drop]; omega, by rw [List.length_drop]; omega, n7l, fun z H5 s5 hz => ?_⟩
  have k35 := (Kp.of s4).trans (Kp.of s5)
  have kp5 := kp3.trans k35
  have ha5 := s5 _ _ (s4 _ _ ha3)
  have hp5 : PtV K H5 v p := k35.dp hp
  have zl : z.length ≤ sizeLine := small_le (by omega)
  have htx := tx_len z
  have ez : ((z.length : Int) + 1).toNat = z.length + 1 := by omega
  refine ⟨_, rfl, z, rfl, zl, _, _, rfl, rfl, (z.length : Int) + 1, rfl, by omega, by omega, for_range (fun i' σ H' => ∃ v4 v5 v6 v7 : Option V, σ = [some (.int i), some (.ref a), some v, some (.str z), v4, v5, v6, v7] ∧ Kp H5 H') ⟨none, none, none, none, rfl, Kp.refl _⟩ (fun j σ H' hj h => ?_) fun σ H' h => ?_⟩
  · obtain ⟨v4, v5, v6, v7, rfl, kk⟩ := h
    have hj2 : j ≤ z.length := by omega
    refine ⟨_, rfl, _, rfl, _, rfl, v, p, z, j, by rw [Int.zero_add]; rfl, kk.dp hp5, hw, by omega, hz, hj2, fun e H6 s6 ne6 he6 => ?_⟩
    have kk6 := kk.trans (Kp.of s6)
    have ez2 : ((z.length : Int) + 1 - (0 + (j : Int))).toNat = z.length + 1 - j := by omega
    refine ⟨_, rfl, _, rfl, z, rfl, zl, _, _, rfl, rfl, 0 + (j : Int), (z.length : Int) + 1, rfl, ⟨by omega, by omega, by omega, by omega⟩, ?_⟩
    refine for_range (fun i' σ H' => ∃ v6 v7 : Option V, σ = [some (.int i), some (.ref a), some v, some (.str z), some (.int (0 + (j : Int))), some (.ref e), v6, v7] ∧ Kp H6 H') ⟨v6, v7, rfl, Kp.refl _⟩ (fun m σ H' hm h => ?_) fun σ H' h => ?_
    · obtain ⟨v6, v7, rfl, kk'⟩ := h
      have hm2 : j + m ≤ z.length := by omega
      have kT := kk6.trans kk'
      have sum : (0 + (j : Int)) * 7 + (0 + (j : Int) + (m : Int)) = ((j * 7 + (j + m) : Nat) : Int) := by omega
      obtain ⟨sh, hsh, shl⟩ : ∃ sh : Nat, 40 + ((0 + (j : Int)) * 7 + (0 + (j : Int) + (m : Int))) % 30 = (sh : Int) ∧ sh ≤ 69 := by
        have h1 := Int.emod_nonneg ((0 + (j : Int)) * 7 + (0 + (j : Int) + (m : Int))) (show (30 : Int) ≠ 0 by decide)
        have h2 := Int.emod_lt_of_pos ((0 + (j : Int)) * 7 + (0 + (j : Int) + (m : Int))) (show (0 : Int) < 30 by decide)
        exact ⟨(40 + ((0 + (j : Int)) * 7 + (0 + (j : Int) + (m : Int))) % 30).toNat, by omega, by omega⟩
      refine ⟨_, rfl, _, _, rfl, rfl, .inr ⟨by decide, by decide⟩, _, rfl, _, _, rfl, rfl, .inl ⟨_, rfl, _, _, rfl, rfl, p30, _, _, rfl, rfl, ?_⟩⟩
      refine ⟨_, rfl, _, rfl, _, rfl, _, rfl, _, rfl, _, rfl, e, _, rfl, .inl (SqL.of (kk' _ _ he6 rfl)), rfl, nv_flat _, l3, fun t nt => ?_⟩
      have eN : inV (V.int (0 + (j : Int) + (m : Int))) (nv (lends (tx z) p j)) = decide (j + m ∈ lends (tx z) p j) := by
        rw [show (0 + (j : Int) + (m : Int)) = ((j + m : Nat) : Int) by omega]
        exact nv_in (j + m) _
      obtain ⟨H8, e8, s8, i8⟩ := new_any (K := K) [V.int (0 + (j : Int)), V.int (0 + (j : Int) + (m : Int)), V.bl (inV (V.int (0 + (j : Int) + (m : Int))) (nv (lends (tx z) p j)))] nt
      rw [eN, show (0 + (j : Int)) = ((j : Nat) : Int) by omega, show ((j : Nat) : Int) + (m : Int) = ((j + m : Nat) : Int) by omega] at i8
      subst e8
      have kT8 := kT.trans (Kp.of s8)
      have ha8 := kT8 _ _ ha5 rfl
      refine ⟨_, rfl, _, rfl, _, rfl, _, rfl, _, _, rfl, rfl, _, rfl, a, _, rfl, SqL.of ha8, fun M nM => ?_⟩
      have s9 := same_new nM (.lst (cutV (ns.map V.int) (some (40 + ((0 + (j : Int)) * 7 + (0 + (j : Int) + (m : Int))) % 30)) (some (40 + ((0 + (j : Int)) * 7 + (0 + (j : Int) + (m : Int))) % 30 + 6))))
      have hM : cutV (ns.map V.int) (some (40 + ((0 + (j : Int)) * 7 + (0 + (j : Int) + (m : Int))) % 30)) (some (40 + ((0 + (j : Int)) * 7 + (0 + (j : Int) + (m : Int))) % 30 + 6)) = ((ns.drop sh).take 6).map V.int := by
        rw [hsh, show (sh : Int) + 6 = ((sh + 6 : Nat) : Int) from rfl, cut_two, List.map_take, List.map_drop, show sh + 6 - sh = 6 by omega]
      refine ⟨v, p, z, M, t, j, j + m, (ns.drop sh).take 6, rfl, (kT8.trans (Kp.of s9)).dp hp5, hw, by omega, n4, hz, by omega, hm2, (Kp.of s9).tup i8, SqL.of (by rw [← hM]; exact upd_same), drawn_take 6 (drawn_drop sh hd), by rw [List.length_take, List.length_drop]; omega, fun H9 k9 => ?_⟩
      exact ⟨_, rfl, iteFb rfl ⟨_, _, rfl, ((kk'.trans (Kp.of s8)).trans (Kp.of s9)).trans k9⟩⟩
    · obtain ⟨v6, v7, rfl, kk'⟩ := h
      exact ⟨_, _, _, _, rfl, kk6.trans kk'⟩
  · obtain ⟨v4, v5, v6, v7, rfl, kk⟩ := h
    have kpE := kp5.trans kk
    have haE := kk _ _ ha5 rfl
    refine ⟨_, rfl, (70 : Int), rfl, a, _, rfl, SqL.of haE, fun L nL => ?_⟩
    refine ⟨L, ns.drop 70, rfl, SqL.of (by rw [upd_same, ← cut_ints_from (k := 70)]; rfl), drawn_drop 70 hd, by rw [List.length_drop]; omega, fun H9 k9 => q H9 ((kpE.trans (Kp.new nL _)).trans k9)⟩
abbrev N_law : List Str := ["_law_script", "_law_cell"]
theorem sc_law : FnScope N_law ["_law_script"] (defScope s_law) := ⟨rfl, rfl, rfl, by decide +kernel, rfl, by decide +kernel, by decide +kernel⟩
theorem ok_law {gP : Addr} {k : Nat} (T : Txt K mg) (F : FnP K "law" "law" s_law f fd) (h_law_pattern_right : Has P w K mg base "_law_pattern_right" gP ["_law_cell"] k spLawPattern) : FnOk P w K mg base CX0 (k + 1) f fd ["_law_script"] (spLaw K) := by
  refine F.ok sc_law (fun vs H Q E h => ?_) (fun cdv A outer s0 H vs Q E hr h => ?_)
  · obtain ⟨a, ns, rfl, _⟩ := h
    rfl
  obtain ⟨a, ns, rfl, hsq, l63, q⟩ := h
  refine ⟨_, PSs.nox ((pss_cons (ps_for PassesOwn.never rfl (pi_list (pe_slice sl_list (pe_op op_catL (pv 0) (pe_lst (pa_cons pe_int pa_nil))) po_none (po_some pe_int))) (pg_name (i := 1) sc_law.nd rfl (Or.inl rfl)) (pss_one (ps_if (pt_not (pt_val (pe_callH h_law_pattern_right hr (by omega) rfl (pa_cons (pv 1) pa_nil)))) (pss_one (ps_ret pe_bl)) pss_nil)))
    (pss_one (ps_ret pe_bl)))), ?_⟩
  have l1 : (1 : Nat) ≤ sizeLine := small_le (by decide)
  refine ⟨_, rfl, l1, fun b nb => ?_⟩
  have s1 := same_new nb (.lst [V.int 0])
  refine ⟨a, b, _, _, rfl, rfl, s1.seq hsq, SqL.of upd_same, small_le (by rw [List.length_map]; show ns.length + 1 ≤ _; omega), fun c nc => ?_⟩
  refine ⟨(3 : Int), rfl, c, _, rfl, SqL.of upd_same, fun e ne => ?_⟩
  have hints : ∀ x ∈ cutV (ns.map V.int ++ [V.int 0]) none (some 3), ∃ i : Int, x = .int i := fun x hx => by
    unfold cutV at hx
    rcases List.mem_append.mp (List.mem_of_mem_drop (List.mem_of_mem_take hx)) with h | h
    · obtain ⟨i, _, rfl⟩ := List.mem_map.mp h
      exact ⟨i, rfl⟩
    · exact ⟨0, List.mem_singleton.mp h⟩
  refine ⟨e, rfl, ⟨_, SqL.of upd_same⟩, for_list (xs := cutV (ns.map V.int ++ [V.int 0]) none (some 3)) (fun i σ H' => ∃ v1 : Option V, σ = [some (.ref a), v1] ∧ H' e = some (.lst (cutV (ns.map V.int ++ [V.int 0]) none (some 3)))) ⟨none, rfl, upd_same⟩ (fun i σ H' _ h => ?_) (fun i x σ H' hx h => ?_) fun σ H' h => ?_⟩
  · obtain ⟨_, _, h⟩ := h
    exact SqL.of h
  · obtain ⟨v1, rfl, he⟩ := h
    obtain ⟨y, rfl⟩ := hints x (List.mem_of_getElem? hx)
    exact ⟨_, rfl, y, rfl, fun H2 k2 => ⟨_, rfl, iteFb rfl ⟨_, rfl, k2 _ _ he rfl⟩⟩⟩
  · exact q H'
end
end Pd
set_option Elab.async false
set_option linter.all false
set_option maxRecDepth 100000
set_option maxHeartbeats 4000000
namespace Pd
open PySem PySem.Spec PyProof.Rows L2
section
variable {P : Program} {w : World} {K : PySem.W.Frag} {mg : Str → Option Value} {base : Heap} {f : Addr} {fd : FuncData}
theorem ok_a1 : ("a" : Str).length = 1 := by decide +kernel
theorem ok_b1 : ("b" : Str).length = 1 := by decide +kernel
theorem ok_c1 : ("c" : Str).length = 1 := by decide +kernel
theorem c_list : ("c" : Str).cps.toList = [99] := by decide +kernel
theorem tx_app (x y : Str) : tx (x ++ y) = tx x ++ tx y := TL.tl_append x y
theorem len_app (x y : Str) : (x ++ y).length = x.length + y.length := by rw [← tx_len, tx_app, List.length_append, tx_len, tx_len]
theorem tx_long (c x : Nat) : tx (Txt.mul "a" (c : Int) ++ "b" ++ Txt.mul "c" (x : Int)) = List.replicate c 97 ++ [98] ++ List.replicate x 99 := by
  rw [tx_app, tx_app, tx_mul_a, show tx (Txt.mul "c" (x : Int)) = List.replicate x 99 from mul_sign c_list x, show tx "b" = [98] from b_list]
theorem rep_noL (i : Nat) : noLs (List.replicate i one) = true := noLs_of fun d hd => by rw [List.eq_of_mem_replicate hd]; decide +kernel
theorem mod_to {i j v : Int} {H : Hp} {Q : VK} (hg : i % j = v) (hc : 0 < j) (q : Q (.int v) H) : rI (fun _ j => 0 < j) (fun i j => .int (i % j)) (.int i) (.int j) H Q := ⟨i, j, rfl, rfl, hc, by rw [← hg] at q; exact q⟩
theorem mod_c {i j v : Int} {H : Hp} {Q : VK} (hg : i % j = v) (hc : 0 < j) (q : Q (.int v) H) : tC (.int j) [] H fun y H2 => rI (fun _ j => 0 < j) (fun i j => .int (i % j)) (.int i) y H2 Q := ⟨i, j, rfl, rfl, hc, by rw [← hg] at q; exact q⟩
theorem add_to {i j v : Int} {H : Hp} {Q : VK} (hg : i + j = v) (q : Q (.int v) H) : rI0 (fun i j => .int (i + j)) (.int i) (.int j) H Q := ⟨i, j, rfl, rfl, by rw [← hg] at q; exact q⟩
abbrev N_law_long_right : List Str := ["_law_drops_here", "_law_way", "_law_part", "_law_least", "_law_many", "_law_most", "_law_copies", "_law_text_here", "_law_tree_here", "_law_due", "_law_found", "_law_more", "_law_k"]
theorem sc_law_long_right : FnScope N_law_long_right ["_law_drops_here"] (defScope s_law_long_right) := ⟨rfl, rfl, rfl, by decide +kernel, rfl, by decide +kernel, by decide +kernel⟩
/-- from the found derivation on -/
theorem long_c {gD gI gS : Addr} {k : Nat} {cdv : Value} {A : Around} {outer : List Env} {s0 : Shared} {H0 : Hp} {E : XK} (hr : Room k (cxOf CX0 P w K mg base N_law_long_right "_law_long_right" (defScope s_law_long_right) f cdv A outer s0 H0 E).A) (T : Txt K mg) (h_derivation : Has P w K mg base "derivation" gD ["pattern", "text", "start", "end"] k (spDerivation K))
    (h_is_derivation : Has P w K mg base "is_derivation" gI ["pattern", "text", "start", "end", "value"] k (spIsDerivation K)) (h_law_says : Has P w K mg base "_law_says" gS ["_law_found", "_law_due"] k spLawSays) :
    ∃ t, PSs (cxOf CX0 P w K mg base N_law_long_right "_law_long_right" (defScope s_law_long_right) f cdv A outer s0 H0 E).nox ((defBody s_law_long_right).drop 11) t ∧ ∀ (D : Ends) (H HE : Hp) (C x L : Nat) (mo : Option Nat) (l : Leaf) (z : Str) (t8 te : Addr) (v0 v1 v2 v3 v4 v5 : Option V), LongT (tx z) C l → Wf (longP l L mo) → L ≤ C → C ≤ 500 → x ≤ 2 →
      (∀ y, mo = some y → C ≤ y) → z.length = C + 1 + x → PtV K HE (.ref t8) (longP l L mo) → Dp K HE (.ref te) (due C) → Kp H HE → (∀ H', Kp H H' → D.rt (.bl true) H') →
      t D [v0, v1, v2, v3, v4, v5, some (.int (C : Int)), some (.str z), some (.ref t8), some (.ref te), none, none, none] HE := by
  refine ⟨_, ((pss_cons (ps_set (i := 10) sc_law_long_right.nd rfl (Or.inl rfl) (pe_callH h_derivation hr (by omega) rfl (pa_cons (pv 8) (pa_cons (pv 7) (pa_cons pe_int (pa_cons (pe_op op_add (pv 6) pe_int) pa_nil))))))
    (pss_cons (ps_if (PW.pt (pw_or (pt_cmpR (op_neD hr.units) (pv 10) (pv 9) (nomark _)) (pw_or1 (pt_not (pt_val (pe_callH h_law_says hr (by omega) rfl (pa_cons (pe_callH h_is_derivation hr (by omega) rfl (pa_cons (pv 8) (pa_cons (pv 7) (pa_cons pe_int (pa_cons (pe_op op_add (pv 6) pe_int) (pa_cons (pv 10) pa_nil)))))) (pa_cons pe_bl pa_nil)))))))) (pss_one (ps_ret pe_bl)) pss_nil)
    (pss_cons (ps_set (i := 11) sc_law_long_right.nd rfl (Or.inl rfl) (pe_tup (pa_cons pe_str (pa_cons (pe_tup (pa_cons (pe_tup (pa_cons pe_str (pa_cons (pe_callTy call_tuple_of rfl T.z_tuple bb_tuple (pa_cons (pe_lc (own := [("_law_k", 12)]) rfl sc_law_long_right.nd (pi_range1 rfl T.z_range (pa_cons (pe_op op_add (pv 6) pe_int) pa_nil)) (blkOk_by (N := N_law_long_right) (sc := defScope s_law_long_right) (by decide +kernel)) (fun _ _ _ _ _ => pg_name (i := 12) sc_law_long_right.nd rfl (Or.inl rfl)) (fun _ _ _ _ _ => pts_nil) (fun _ _ _ _ _ => (pe_tup (pa_cons pe_str pa_nil)))) pa_nil)) pa_nil))) (pa_cons (pe_tup (pa_cons pe_str pa_nil)) pa_nil))) pa_nil))))
    (pss_cons (ps_if (pt_not (pt_val (pe_callH h_law_says hr (by omega) rfl (pa_cons (pe_callH h_is_derivation hr (by omega) rfl (pa_cons (pv 8) (pa_cons (pv 7) (pa_cons pe_int (pa_cons (pe_op op_add (pv 6) pe_int) (pa_cons (pv 11) pa_nil)))))) (pa_cons pe_bl pa_nil))))) (pss_one (ps_ret pe_bl)) pss_nil)
    (pss_one (ps_ret (pe_cmpR op_isN (pe_callH h_derivation hr (by omega) rfl (pa_cons (pv 8) (pa_cons (pv 7) (pa_cons pe_int (pa_cons (pv 6) pa_nil))))) pe_non (nomark _))))))))), fun D H HE0 C x L mo l z t8 te0 v0 v1 v2 v3 v4 v5 LT wf hLC C500 xl hmo2 zlen hpE hdue0 kE q => ?_⟩
  have l1 : (1 : Nat) ≤ sizeLine := small_le (by decide)
  have l2 : (2 : Nat) ≤ sizeLine := small_le (by decide)
  have inn := long_in LT hLC hmo2
  have c1 : ((C : Nat) : Int) + 1 = ((C + 1 : Nat) : Int) := rfl
  refine ⟨_, rfl, _, rfl, _, rfl, _, _, rfl, rfl, .ref t8, longP l L mo, z, 0, C + 1, rfl, hpE, wf, by rw [longP_dep]; decide, by rw [longP_nodes]; decide, by omega, Nat.zero_le _, fun u HF kF hu => ?_⟩
  rw [if_pos inn, long_der LT wf hLC hmo2] at hu
  have shd : Shp 64 (due C) := (due_shp (by omega)).mono (by decide)
  refine ⟨_, rfl, _, rfl, due C, due C, hu, kF.dp hdue0, shd.shaped, shd.shaped, _, rfl, iteFb (by rw [eqv_refl _ (due_noL _)]; rfl) ?_⟩
  have wkd : walk (tx z) (longP l L mo) 0 (due C) = some (C + 1) := by
    rw [← long_der LT wf hLC hmo2]
    exact (der_walk _ _ 0 _ wf (Nat.zero_le _) inn).1
  refine ⟨_, rfl, _, rfl, _, rfl, _, _, rfl, rfl, _, rfl, .ref t8, u, longP l L mo, due C, z, 0, C + 1, rfl, kF.dp hpE, wf, by rw [longP_dep]; decide, hu, by omega, Nat.zero_le _, fun HG kG => ?_⟩
  refine ⟨true, true, by rw [decide_eq_true wkd]; rfl, _, rfl, iteFb rfl ?_⟩
  have kFG := kF.trans kG
  have kG2 := kE.trans kFG
  have hpG : PtV K HG (.ref t8) (longP l L mo) := kFG.dp hpE
  refine ⟨_, rfl, _, _, rfl, rfl, ((C : Nat) : Int) + 1, rfl, by omega, by omega, fun G nG => walk_range (fun i H' => ∃ us : List V, Same HG H' ∧ H' G = some (.lst us) ∧ DpAll K H' us (List.replicate i one) ∧ us.length = i) ⟨[], same_new nG _, upd_same, .nil, rfl⟩ (fun i H' hi h => ?_) fun H9 h => ?_⟩
  · obtain ⟨us, h1, h2, h3, h4⟩ := h
    refine ⟨rfl, l1, fun t n => ?_⟩
    obtain ⟨HA, eA, sA, iA⟩ := new_any (K := K) [V.str "one"] n
    subst eA
    have hG := sA _ _ h2
    have kt := Kt.lst (ys := us ++ [V.ref t]) hG
    refine ⟨us, hG, small_line (by omega), us ++ [V.ref t], same_over (h1.trans sA) nG _, upd_same, ?_, by rw [List.length_append, h4]; rfl⟩
    rw [List.replicate_succ']
    exact (kt.dpAll (rep_noL i) ((Kp.of sA).dpAll h3)).append (.one (kt.dp (by decide +kernel) (.tup iA (.cons (.str _) .nil))))
  obtain ⟨us, h1, h2, h3, h4⟩ := h
  rw [show (((C : Nat) : Int) + 1).toNat = C + 1 from rfl] at h3 h4
  refine ⟨G, us, rfl, .inl ⟨SqL.of h2, fun ta na => ?_⟩⟩
  obtain ⟨HA, eA, sA, iA⟩ := new_any (K := K) us na
  rw [← eA]
  refine ⟨l2, fun tb nb => ?_⟩
  obtain ⟨HB, eB, sB, iB⟩ := new_any (K := K) [V.str "repeat", V.ref ta] nb
  rw [← eB]
  refine ⟨l1, fun tc nc => ?_⟩
  obtain ⟨HC, eC, sC, iC⟩ := new_any (K := K) [V.str "one"] nc
  rw [← eC]
  refine ⟨l2, fun td nd => ?_⟩
  obtain ⟨HD, eD, sD, iD⟩ := new_any (K := K) [V.ref tb, V.ref tc] nd
  rw [← eD]
  refine ⟨l2, fun te ne => ?_⟩
  obtain ⟨HE, eE, sE, iE⟩ := new_any (K := K) [V.str "row", V.ref td] ne
  rw [← eE]
  have sCE := sD.trans sE
  have sBE := sC.trans sCE
  have sAE := sB.trans sBE
  have hdue : Dp K HE (.ref te) (due (C + 1)) := .tup iE (.cons (.str _) (.cons (.tup ((Kp.of sE).tup iD) (.cons (.tup ((Kp.of sBE).tup iB) (.cons (.str _) (.cons (.tup ((Kp.of sAE).tup iA) ((Kp.of (sA.trans sAE)).dpAll h3)) .nil))) (.cons (.tup ((Kp.of sCE).tup iC) (.cons (.str _) .nil)) .nil))) .nil))
  have s8E := (h1.trans sA).trans sAE
  clear eA eB eC eD eE na nb nc nd ne iA iB iC iD iE sA sB sC sD sE sCE sBE sAE
  have hpE' : PtV K HE (.ref t8) (longP l L mo) := (Kp.of s8E).dp hpG
  refine ⟨_, rfl, _, rfl, _, rfl, _, _, rfl, rfl, _, rfl, .ref t8, _, longP l L mo, due (C + 1), z, 0, C + 1, rfl, hpE', wf, by rw [longP_dep]; decide, hdue, by omega, Nat.zero_le _, fun HH kH => ?_⟩
  refine ⟨false, false, by rw [decide_eq_false (long_more LT)]; rfl, _, rfl, iteFb rfl ?_⟩
  have kH2 := (kG2.trans (Kp.of s8E)).trans kH
  refine ⟨_, rfl, _, rfl, _, rfl, .ref t8, longP l L mo, z, 0, C, rfl, kH.dp hpE', wf, by rw [longP_dep]; decide, by rw [longP_nodes]; decide, by omega, Nat.zero_le _, fun u2 HI kI hu2 => ?_⟩
  rw [if_neg (long_out LT wf)] at hu2
  cases hu2
  exact ⟨rfl, q HI (kH2.trans kI)⟩
/-- from the text on -/
theorem long_b {gD gI gS : Addr} {k : Nat} {cdv : Value} {A : Around} {outer : List Env} {s0 : Shared} {H0 : Hp} {E : XK} (hr : Room k (cxOf CX0 P w K mg base N_law_long_right "_law_long_right" (defScope s_law_long_right) f cdv A outer s0 H0 E).A) (T : Txt K mg) (h_derivation : Has P w K mg base "derivation" gD ["pattern", "text", "start", "end"] k (spDerivation K))
    (h_is_derivation : Has P w K mg base "is_derivation" gI ["pattern", "text", "start", "end", "value"] k (spIsDerivation K)) (h_law_says : Has P w K mg base "_law_says" gS ["_law_found", "_law_due"] k spLawSays) :
    ∃ t, PSs (cxOf CX0 P w K mg base N_law_long_right "_law_long_right" (defScope s_law_long_right) f cdv A outer s0 H0 E).nox ((defBody s_law_long_right).drop 8) t ∧ ∀ (D : Ends) (H HP : Hp) (a tp : Addr) (ns : List Int) (x5 : Int) (C x L : Nat) (mo : Option Nat) (l : Leaf) (v1 v4 : Option V), SqL K HP a (ns.map V.int) → atI (ns.map V.int) (5 : Int) = some (.int x5) → x5 % 3 = (x : Int) → x ≤ 2 →
      Dp K HP (.ref tp) l.enc → (l = .any ∨ l = .sgn true "ac" ∨ l = .sgn false "a") → L ≤ C → C ≤ 500 → (∀ y, mo = some y → L ≤ y ∧ y ≤ 1000) → (∀ y, mo = some y → C ≤ y) → Kp H HP → (∀ H', Kp H H' → D.rt (.bl true) H') →
      t D [some (.ref a), v1, some (.ref tp), some (.int (L : Int)), v4, some (om mo), some (.int (C : Int)), none, none, none, none, none, none] HP := by
  obtain ⟨tc, hc, qc⟩ := long_c (f := f) (cdv := cdv) (A := A) (outer := outer) (s0 := s0) (H0 := H0) (E := E) hr T h_derivation h_is_derivation h_law_says
  refine ⟨_, ((pss_cons (ps_set (i := 7) sc_law_long_right.nd rfl (Or.inl rfl) (pe_op op_add_str (pe_op op_add_str (pe_op op_mulS pe_str (pv 6)) pe_str) (pe_op op_mulS pe_str (pe_op op_mod (pe_callTy call_int1 rfl T.z_int bb_int (pa_cons (pe_ix ix_list (pv 0) pe_int (fun _ _ => rfl)) pa_nil)) pe_int))))
    (pss_cons (ps_set (i := 8) sc_law_long_right.nd rfl (Or.inl rfl) (pe_tup (pa_cons pe_str (pa_cons (pe_tup (pa_cons (pe_tup (pa_cons pe_str (pa_cons (pv 2) (pa_cons (pv 3) (pa_cons (pv 5) pa_nil))))) (pa_cons (pe_tup (pa_cons pe_str (pa_cons pe_str pa_nil))) pa_nil))) pa_nil))))
    (pss_cons (ps_set (i := 9) sc_law_long_right.nd rfl (Or.inl rfl) (pe_tup (pa_cons pe_str (pa_cons (pe_tup (pa_cons (pe_tup (pa_cons pe_str (pa_cons (pe_callTy call_tuple_of rfl T.z_tuple bb_tuple (pa_cons (pe_lc (own := [("_law_k", 12)]) rfl sc_law_long_right.nd (pi_range1 rfl T.z_range (pa_cons (pv 6) pa_nil)) (blkOk_by (N := N_law_long_right) (sc := defScope s_law_long_right) (by decide +kernel)) (fun _ _ _ _ _ => pg_name (i := 12) sc_law_long_right.nd rfl (Or.inl rfl)) (fun _ _ _ _ _ => pts_nil) (fun _ _ _ _ _ => (pe_tup (pa_cons pe_str pa_nil)))) pa_nil)) pa_nil))) (pa_cons (pe_tup (pa_cons pe_str pa_nil)) pa_nil))) pa_nil))))
    hc)))), fun D H HP a tp ns x5 C x L mo l v1 v4 hsq hx5 hx xl hpt hl hLC C500 hmo1 hmo2 kP q => ?_⟩
  have l1 : (1 : Nat) ≤ sizeLine := small_le (by decide)
  have l2 : (2 : Nat) ≤ sizeLine := small_le (by decide)
  have l4 : (4 : Nat) ≤ sizeLine := small_le (by decide)
  have p3 : (0 : Int) < 3 := by decide
  have la1 := len_of_tx (tx_mul_a C ▸ List.length_replicate : (tx (Txt.mul "a" ((C : Nat) : Int))).length = C)
  have lb1 : ("b" : Str).length = 1 := ok_b1
  have lc1 := len_of_tx (show (tx (Txt.mul "c" (x : Int))).length = x by rw [show tx (Txt.mul "c" (x : Int)) = List.replicate x 99 from mul_sign c_list x]; exact List.length_replicate)
  have lab : (Txt.mul "a" ((C : Nat) : Int) ++ "b" : Str).length = C + 1 := by rw [len_app, la1, lb1]
  refine ⟨_, rfl, "a", ((C : Nat) : Int), rfl, rfl, ok_a1, by omega, by omega, _, _, rfl, rfl, small_le (by rw [la1, lb1]; omega), ?_⟩
  refine ⟨_, rfl, a, _, _, _, rfl, rfl, hsq, hx5, .inl ⟨_, rfl, mod_c hx p3 ⟨"c", (x : Int), rfl, rfl, ok_c1, by omega, by omega, _, _, rfl, rfl, small_le (by rw [lab, lc1]; omega), ?_⟩⟩⟩
  obtain ⟨z, hz⟩ : ∃ z, z = Txt.mul "a" ((C : Nat) : Int) ++ "b" ++ Txt.mul "c" (x : Int) := ⟨_, rfl⟩
  have tz : tx z = List.replicate C 97 ++ [98] ++ List.replicate x 99 := by rw [hz]; exact tx_long _ _
  have zlen : z.length = C + 1 + x := by rw [← tx_len, tz, List.length_append, List.length_append, List.length_replicate, List.length_replicate]; rfl
  rw [← hz]
  clear hz
  have LT : LongT (tx z) C l := by rw [tz]; exact longT_of hl
  have wf : Wf (longP l L mo) := longP_wf (by omega) hmo1
  refine ⟨_, rfl, _, rfl, _, rfl, l4, fun t5 n5 => ?_⟩
  obtain ⟨H5, e5, s5, i5⟩ := new_any (K := K) [V.str "repeat", V.ref tp, V.int (L : Int), om mo] n5
  rw [← e5]
  refine ⟨l2, fun t6 n6 => ?_⟩
  obtain ⟨H6, e6, s6, i6⟩ := new_any (K := K) [V.str "sign", V.str "b"] n6
  rw [← e6]
  refine ⟨l2, fun t7 n7 => ?_⟩
  obtain ⟨H7, e7, s7, i7⟩ := new_any (K := K) [V.ref t5, V.ref t6] n7
  rw [← e7]
  refine ⟨l2, fun t8 n8 => ?_⟩
  obtain ⟨H8, e8, s8, i8⟩ := new_any (K := K) [V.str "row", V.ref t7] n8
  rw [← e8]
  have s58 := (s6.trans s7).trans s8
  have s48 := s5.trans s58
  have hpat : PtV K H8 (.ref t8) (longP l L mo) := .mkRow i8 ((Kp.of s8).tup i7) (.cons (PtV.mkRep ((Kp.of s58).tup i5) (PtV.mkLeaf ((Kp.of s48).dp hpt))) (.cons (PtV.mkLeaf (.tup ((Kp.of (s7.trans s8)).tup i6) (.cons (.str _) (.cons (.str _) .nil)))) .nil))
  have k8 := kP.trans (Kp.of s48)
  clear e5 e6 e7 e8 n5 n6 n7 n8 i5 i6 i7 i8 s5 s6 s7 s8 s58 s48 hpt
  refine ⟨_, rfl, ((C : Nat) : Int), rfl, by omega, by omega, fun G nG => walk_range (fun i H' => ∃ us : List V, Same H8 H' ∧ H' G = some (.lst us) ∧ DpAll K H' us (List.replicate i one) ∧ us.length = i) ⟨[], same_new nG _, upd_same, .nil, rfl⟩ (fun i H' hi h => ?_) fun H9 h => ?_⟩
  · obtain ⟨us, h1, h2, h3, h4⟩ := h
    refine ⟨rfl, l1, fun t n => ?_⟩
    obtain ⟨HA, eA, sA, iA⟩ := new_any (K := K) [V.str "one"] n
    subst eA
    have hG := sA _ _ h2
    have kt := Kt.lst (ys := us ++ [V.ref t]) hG
    refine ⟨us, hG, small_line (by omega), us ++ [V.ref t], same_over (h1.trans sA) nG _, upd_same, ?_, by rw [List.length_append, h4]; rfl⟩
    rw [List.replicate_succ']
    exact (kt.dpAll (rep_noL i) ((Kp.of sA).dpAll h3)).append (.one (kt.dp (by decide +kernel) (.tup iA (.cons (.str _) .nil))))
  obtain ⟨us, h1, h2, h3, h4⟩ := h
  rw [Int.toNat_natCast] at h3 h4
  refine ⟨G, us, rfl, .inl ⟨SqL.of h2, fun ta na => ?_⟩⟩
  obtain ⟨HA, eA, sA, iA⟩ := new_any (K := K) us na
  rw [← eA]
  refine ⟨l2, fun tb nb => ?_⟩
  obtain ⟨HB, eB, sB, iB⟩ := new_any (K := K) [V.str "repeat", V.ref ta] nb
  rw [← eB]
  refine ⟨l1, fun tc nc => ?_⟩
  obtain ⟨HC, eC, sC, iC⟩ := new_any (K := K) [V.str "one"] nc
  rw [← eC]
  refine ⟨l2, fun td nd => ?_⟩
  obtain ⟨HD, eD, sD, iD⟩ := new_any (K := K) [V.ref tb, V.ref tc] nd
  rw [← eD]
  refine ⟨l2, fun te ne => ?_⟩
  obtain ⟨HE, eE, sE, iE⟩ := new_any (K := K) [V.str "row", V.ref td] ne
  rw [← eE]
  have sCE := sD.trans sE
  have sBE := sC.trans sCE
  have sAE := sB.trans sBE
  have hdue : Dp K HE (.ref te) (due (C)) := .tup iE (.cons (.str _) (.cons (.tup ((Kp.of sE).tup iD) (.cons (.tup ((Kp.of sBE).tup iB) (.cons (.str _) (.cons (.tup ((Kp.of sAE).tup iA) ((Kp.of (sA.trans sAE)).dpAll h3)) .nil))) (.cons (.tup ((Kp.of sCE).tup iC) (.cons (.str _) .nil)) .nil))) .nil))
  have s8E := (h1.trans sA).trans sAE
  clear eA eB eC eD eE na nb nc nd ne iA iB iC iD iE sA sB sC sD sE sCE sBE sAE
  exact qc D H HE C x L mo l z t8 te _ _ _ _ _ _ LT wf hLC C500 xl hmo2 zlen ((Kp.of s8E).dp hpat) hdue (k8.trans (Kp.of s8E)) q
theorem ok_law_long_right {gD gI gS : Addr} {k : Nat} (F : FnP K "_law_long_right" "_law_long_right" s_law_long_right f fd) (T : Txt K mg) (h_derivation : Has P w K mg base "derivation" gD ["pattern", "text", "start", "end"] k (spDerivation K))
    (h_is_derivation : Has P w K mg base "is_derivation" gI ["pattern", "text", "start", "end", "value"] k (spIsDerivation K)) (h_law_says : Has P w K mg base "_law_says" gS ["_law_found", "_law_due"] k spLawSays) :
    FnOk P w K mg base CX0 (k + 1) f fd ["_law_drops_here"] (spLawLong K) := by
  refine F.ok sc_law_long_right (fun vs H Q E h => ?_) (fun cdv A outer s0 H vs Q E hr h => ?_)
  · obtain ⟨a, ns, rfl, _⟩ := h
    rfl
  obtain ⟨a, ns, rfl, hsq, hd, l10, q⟩ := h
  obtain ⟨tb, hb, qb⟩ := long_b (f := f) (cdv := cdv) (A := A) (outer := outer) (s0 := s0) (H0 := H) (E := E) hr T h_derivation h_is_derivation h_law_says
  refine ⟨_, PSs.nox ((pss_cons (ps_set (i := 1) sc_law_long_right.nd rfl (Or.inl rfl) (pe_op op_mod (pe_callTy call_int1 rfl T.z_int bb_int (pa_cons (pe_ix ix_list (pv 0) pe_int (fun _ _ => rfl)) pa_nil)) pe_int))
    (pss_cons (ps_set (i := 2) sc_law_long_right.nd rfl (Or.inl rfl) (pe_ix ix_list (pe_lst (pa_cons (pe_tup (pa_cons pe_str pa_nil)) (pa_cons (pe_tup (pa_cons pe_str (pa_cons pe_str pa_nil))) (pa_cons (pe_tup (pa_cons pe_str (pa_cons pe_str pa_nil))) pa_nil)))) (pv 1) (fun _ _ => rfl)))
    (pss_cons (ps_set (i := 3) sc_law_long_right.nd rfl (Or.inl rfl) (pe_op op_mod (pe_callTy call_int1 rfl T.z_int bb_int (pa_cons (pe_ix ix_list (pv 0) pe_int (fun _ _ => rfl)) pa_nil)) pe_int))
    (pss_cons (ps_set (i := 4) sc_law_long_right.nd rfl (Or.inl rfl) (pe_op op_add pe_int (pe_op op_mod (pe_callTy call_int1 rfl T.z_int bb_int (pa_cons (pe_ix ix_list (pv 0) pe_int (fun _ _ => rfl)) pa_nil)) pe_int)))
    (pss_cons (ps_if (pt_cmpR op_eq (pe_op op_mod (pe_callTy call_int1 rfl T.z_int bb_int (pa_cons (pe_op op_fdiv (pe_ix ix_list (pv 0) pe_int (fun _ _ => rfl)) pe_int) pa_nil)) pe_int) pe_int (nomark _)) (pss_cons (ps_set (i := 3) sc_law_long_right.nd rfl (Or.inl rfl) (pe_op op_mod (pe_callTy call_int1 rfl T.z_int bb_int (pa_cons (pv 3) pa_nil)) pe_int))
    (pss_one (ps_set (i := 4) sc_law_long_right.nd rfl (Or.inl rfl) (pe_op op_add pe_int (pe_op op_fdiv (pv 4) pe_int))))) pss_nil)
    (pss_cons (ps_set (i := 5) sc_law_long_right.nd rfl (Or.inl rfl) pe_non)
    (pss_cons (ps_set (i := 6) sc_law_long_right.nd rfl (Or.inl rfl) (pv 4))
    (pss_cons (ps_if (pt_cmpR op_eq (pv 1) pe_int (nomark _)) (pss_cons (ps_set (i := 5) sc_law_long_right.nd rfl (Or.inl rfl) (pe_op op_add (pv 3) (pe_op op_mod (pe_callTy call_int1 rfl T.z_int bb_int (pa_cons (pe_ix ix_list (pv 0) pe_int (fun _ _ => rfl)) pa_nil)) (pe_op op_sub pe_int (pv 3)))))
    (pss_one (ps_set (i := 6) sc_law_long_right.nd rfl (Or.inl rfl) (pe_op op_add (pv 3) (pe_op op_mod (pe_callTy call_int1 rfl T.z_int bb_int (pa_cons (pe_ix ix_list (pv 0) pe_int (fun _ _ => rfl)) pa_nil)) (pe_op op_add (pe_op op_sub (pv 5) (pv 3)) pe_int)))))) pss_nil)
    hb))))))))), ?_⟩
  have l1 : (1 : Nat) ≤ sizeLine := small_le (by decide)
  have l2 : (2 : Nat) ≤ sizeLine := small_le (by decide)
  have l3 : (3 : Nat) ≤ sizeLine := small_le (by decide)
  have p2 : (0 : Int) < 2 := by decide
  have p3 : (0 : Int) < 3 := by decide
  have p31 : (0 : Int) < 31 := by decide
  have p80 : (0 : Int) < 80 := by decide
  obtain ⟨x0, hx0, x0a, x0b⟩ := at_drawn (K := K) (H := H) (i := 0) hd (by omega)
  obtain ⟨x1, hx1, x1a, x1b⟩ := at_drawn (K := K) (H := H) (i := 1) hd (by omega)
  obtain ⟨x2, hx2, x2a, x2b⟩ := at_drawn (K := K) (H := H) (i := 2) hd (by omega)
  obtain ⟨x3, hx3, x3a, x3b⟩ := at_drawn (K := K) (H := H) (i := 3) hd (by omega)
  obtain ⟨x4, hx4, x4a, x4b⟩ := at_drawn (K := K) (H := H) (i := 4) hd (by omega)
  obtain ⟨x5, hx5, x5a, x5b⟩ := at_drawn (K := K) (H := H) (i := 5) hd (by omega)
  have c80 : CDiv x0 80 := ⟨by decide, by decide⟩
  obtain ⟨x, hx, xl⟩ : ∃ x : Nat, x5 % 3 = (x : Int) ∧ x ≤ 2 := by
    have h1 := Int.emod_nonneg x5 (show (3 : Int) ≠ 0 by decide)
    have h2 := Int.emod_lt_of_pos x5 p3
    exact ⟨(x5 % 3).toNat, by omega, by omega⟩
  obtain ⟨L0, eL0, lL0⟩ : ∃ L0 : Nat, x2 % 31 = (L0 : Int) ∧ L0 ≤ 30 := by
    have h1 := Int.emod_nonneg x2 (show (31 : Int) ≠ 0 by decide)
    have h2 := Int.emod_lt_of_pos x2 p31
    exact ⟨(x2 % 31).toNat, by omega, by omega⟩
  obtain ⟨M0, eM0, lM0, lM0'⟩ : ∃ M0 : Nat, 31 + x0 % 80 = (M0 : Int) ∧ 31 ≤ M0 ∧ M0 ≤ 110 := by
    have h1 := Int.emod_nonneg x0 (show (80 : Int) ≠ 0 by decide)
    have h2 := Int.emod_lt_of_pos x0 p80
    exact ⟨(31 + x0 % 80).toNat, by omega, by omega, by omega⟩
  refine ⟨_, rfl, a, _, _, _, rfl, rfl, hsq, hx1, .inl ⟨_, rfl, _, _, rfl, rfl, p3, ?_⟩⟩
  refine ⟨l1, fun t1 n1 => ?_⟩
  obtain ⟨H1, e1, s1, i1⟩ := new_any (K := K) [V.str "any"] n1
  rw [← e1]
  refine ⟨l2, fun t2 n2 => ?_⟩
  obtain ⟨H2, e2, s2, i2⟩ := new_any (K := K) [V.str "class", V.str "ac"] n2
  rw [← e2]
  refine ⟨l2, fun t3 n3 => ?_⟩
  obtain ⟨H3, e3, s3, i3⟩ := new_any (K := K) [V.str "sign", V.str "a"] n3
  rw [← e3]
  refine ⟨l3, fun R nR => ?_⟩
  obtain ⟨HP, eP, sP, iP⟩ := newL_any (K := K) [V.ref t1, V.ref t2, V.ref t3] nR
  rw [← eP]
  have kP : Kp H HP := Kp.of (((s1.trans s2).trans s3).trans sP)
  have hsqP := kP.seq hsq
  obtain ⟨tp, l, hpart, hpt, hl⟩ : ∃ (tp : Addr) (l : Leaf), atI [V.ref t1, V.ref t2, V.ref t3] (x1 % 3) = some (.ref tp) ∧ Dp K HP (.ref tp) l.enc ∧ (l = .any ∨ l = .sgn true "ac" ∨ l = .sgn false "a") := by
    have h1 := Int.emod_nonneg x1 (show (3 : Int) ≠ 0 by decide)
    have h2 := Int.emod_lt_of_pos x1 p3
    have cs : x1 % 3 = 0 ∨ x1 % 3 = 1 ∨ x1 % 3 = 2 := by omega
    rcases cs with h | h | h
    · exact ⟨t1, .any, by rw [h]; exact at0, .tup ((Kp.of ((s2.trans s3).trans sP)).tup i1) (.cons (.str _) .nil), .inl rfl⟩
    · exact ⟨t2, .sgn true "ac", by rw [h]; exact at1, .tup ((Kp.of (s3.trans sP)).tup i2) (.cons (.str _) (.cons (.str _) .nil)), .inr (.inl rfl)⟩
    · exact ⟨t3, .sgn false "a", by rw [h]; exact at2, .tup ((Kp.of sP).tup i3) (.cons (.str _) (.cons (.str _) .nil)), .inr (.inr rfl)⟩
  have iP2 := SqL.of (K := K) iP
  clear e1 e2 e3 eP n1 n2 n3 nR s1 s2 s3 sP i1 i2 i3 iP
  refine ⟨_, rfl, R, _, _, _, rfl, rfl, iP2, hpart, ?_⟩
  refine ⟨_, rfl, a, _, _, _, rfl, rfl, hsqP, hx2, .inl ⟨_, rfl, mod_c eL0 p31 ?_⟩⟩
  refine ⟨_, rfl, a, _, _, _, rfl, rfl, hsqP, hx0, .inl ⟨_, rfl, mod_c rfl p80 (add_to eM0 ?_)⟩⟩
  refine ⟨_, rfl, a, _, _, _, rfl, rfl, hsqP, hx0, _, _, rfl, rfl, c80, .inl ⟨_, rfl, _, _, rfl, rfl, p2, rfl, _, rfl, ite2b (fun c0 => ?_) fun c0 => ?_⟩⟩
  · obtain ⟨L, eL, lL⟩ : ∃ L : Nat, (L0 : Int) % 2 = (L : Int) ∧ L ≤ 30 := ⟨L0 % 2, by omega, by omega⟩
    obtain ⟨M, eM, lM1, lM2⟩ : ∃ M : Nat, 350 + (M0 : Int) / 2 = (M : Int) ∧ 31 ≤ M ∧ M ≤ 500 := ⟨350 + M0 / 2, by omega, by omega, by omega⟩
    refine ⟨_, rfl, .inl ⟨_, rfl, mod_c eL p2 ?_⟩⟩
    refine ⟨_, rfl, _, _, rfl, rfl, ⟨by decide, by decide⟩, add_to eM ?_⟩
    refine ⟨_, rfl, _, rfl, rfl, _, rfl, ite2b (fun c => ?_) fun c => ?_⟩
    · have e2 : x1 % 3 = 2 := V.int.inj (of_decide_eq_true c)
      have pos1 : (0 : Int) < 31 - (L : Int) := by omega
      have g1 := Int.emod_nonneg x3 (show (31 - (L : Int)) ≠ 0 by omega)
      have g2 := Int.emod_lt_of_pos x3 (show (0 : Int) < 31 - (L : Int) by omega)
      obtain ⟨m, hm⟩ : ∃ m : Nat, (L : Int) + x3 % (31 - (L : Int)) = (m : Int) := ⟨((L : Int) + x3 % (31 - (L : Int))).toNat, by omega⟩
      have pos2 : (0 : Int) < (m : Int) - (L : Int) + 1 := by omega
      have g3 := Int.emod_nonneg x4 (show ((m : Int) - (L : Int) + 1) ≠ 0 by omega)
      have g4 := Int.emod_lt_of_pos x4 (show (0 : Int) < (m : Int) - (L : Int) + 1 by omega)
      obtain ⟨C, hC⟩ : ∃ C : Nat, (L : Int) + x4 % ((m : Int) - (L : Int) + 1) = (C : Int) := ⟨((L : Int) + x4 % ((m : Int) - (L : Int) + 1)).toNat, by omega⟩
      refine ⟨_, rfl, _, rfl, a, _, _, _, rfl, rfl, hsqP, hx3, .inl ⟨_, rfl, _, rfl, _, _, rfl, rfl, mod_to rfl pos1 (add_to hm ?_)⟩⟩
      refine ⟨_, rfl, _, rfl, a, _, _, _, rfl, rfl, hsqP, hx4, .inl ⟨_, rfl, _, rfl, _, rfl, _, _, rfl, rfl, _, _, rfl, rfl, mod_to rfl pos2 (add_to hC ?_)⟩⟩
      exact qb _ H HP a tp ns x5 C x L (some m) l _ _ hsqP hx5 hx xl hpt hl (by omega) (by omega) (fun y hy => by have := Option.some.inj hy; omega) (fun y hy => by have := Option.some.inj hy; omega) kP q
    · exact qb _ H HP a tp ns x5 M x L none l _ _ hsqP hx5 hx xl hpt hl (by omega) (by omega) (fun y hy => nomatch hy) (fun y hy => nomatch hy) kP q
  · obtain ⟨L, eL, lL⟩ : ∃ L : Nat, L = L0 ∧ L ≤ 30 := ⟨L0, rfl, by omega⟩
    obtain ⟨M, eM, lM1, lM2⟩ : ∃ M : Nat, M = M0 ∧ 31 ≤ M ∧ M ≤ 500 := ⟨M0, rfl, by omega, by omega⟩
    subst eL
    subst eM
    refine ⟨_, rfl, _, rfl, rfl, _, rfl, ite2b (fun c => ?_) fun c => ?_⟩
    · have e2 : x1 % 3 = 2 := V.int.inj (of_decide_eq_true c)
      have pos1 : (0 : Int) < 31 - (L : Int) := by omega
      have g1 := Int.emod_nonneg x3 (show (31 - (L : Int)) ≠ 0 by omega)
      have g2 := Int.emod_lt_of_pos x3 (show (0 : Int) < 31 - (L : Int) by omega)
      obtain ⟨m, hm⟩ : ∃ m : Nat, (L : Int) + x3 % (31 - (L : Int)) = (m : Int) := ⟨((L : Int) + x3 % (31 - (L : Int))).toNat, by omega⟩
      have pos2 : (0 : Int) < (m : Int) - (L : Int) + 1 := by omega
      have g3 := Int.emod_nonneg x4 (show ((m : Int) - (L : Int) + 1) ≠ 0 by omega)
      have g4 := Int.emod_lt_of_pos x4 (show (0 : Int) < (m : Int) - (L : Int) + 1 by omega)
      obtain ⟨C, hC⟩ : ∃ C : Nat, (L : Int) + x4 % ((m : Int) - (L : Int) + 1) = (C : Int) := ⟨((L : Int) + x4 % ((m : Int) - (L : Int) + 1)).toNat, by omega⟩
      refine ⟨_, rfl, _, rfl, a, _, _, _, rfl, rfl, hsqP, hx3, .inl ⟨_, rfl, _, rfl, _, _, rfl, rfl, mod_to rfl pos1 (add_to hm ?_)⟩⟩
      refine ⟨_, rfl, _, rfl, a, _, _, _, rfl, rfl, hsqP, hx4, .inl ⟨_, rfl, _, rfl, _, rfl, _, _, rfl, rfl, _, _, rfl, rfl, mod_to rfl pos2 (add_to hC ?_)⟩⟩
      exact qb _ H HP a tp ns x5 C x L (some m) l _ _ hsqP hx5 hx xl hpt hl (by omega) (by omega) (fun y hy => by have := Option.some.inj hy; omega) (fun y hy => by have := Option.some.inj hy; omega) kP q
    · exact qb _ H HP a tp ns x5 M x L none l _ _ hsqP hx5 hx xl hpt hl (by omega) (by omega) (fun y hy => nomatch hy) (fun y hy => nomatch hy) kP q
end
end Pd
set_option Elab.async false
set_option linter.all false
set_option maxRecDepth 100000
set_option maxHeartbeats 0
namespace Pd
open PySem PySem.Spec PyProof.Rows L2
abbrev R : PySem.W.OpenRow := PySem.W.OpenLaw.row PySem.Challenge.rw_patterndeeds_k17_whole_derivations
abbrev hk : PySem.W.Hook := He.hookD 6 fa fn
def ob (s : PySem.W.SharedT) : He.AlD := He.obsDG 6 fa fn (HandSHeadRun.getT s)
theorem ob_eq (s : PySem.W.SharedT) : ob s = hk.obs s.abs := He.obsDG_eq (HandSHeadRun.getT_eq s)
def loose : List PySem.Str := ["is_integer", "is_between", "is_index_of", "parts_under", "leaf_end", "ascending", "Splitter", "several_end", "derived_end", "derivation", "is_derivation", "_law_drops", "_law_signs", "_law_letter", "_law_class", "_law_leaf", "_law_flat", "_law_tree", "_law_onward", "_law_ends", "_law_copied", "_law_says", "_law_text", "_law_many_walked", "_law_walked", "_law_is_lean", "_law_bent", "_law_stretch_right", "_law_long_right", "_law_pattern_right"]
theorem run (w : World) : HandSHeadRun.RunEq R (PySem.W.view R.prog [35]) hk ob 3000 loose w := by
  intro os
  kernel_rfl
end Pd
set_option Elab.async false
set_option linter.all false
set_option maxRecDepth 100000
set_option maxHeartbeats 4000000
namespace Pd
open PySem PySem.Spec PyProof.Rows L2
section
variable {P : Program} {w : World} {K : PySem.W.Frag} {mg : Str → Option Value} {base : Heap} {C f : Addr} {x m qual : Str} {st : Stmt} {ps : List Str} {i j : Nat} {sp sp' : Sp} {fd : FuncData}
theorem Has.mono (h : Has P w K mg base x f ps i sp) (e : i ≤ j) : Has P w K mg base x f ps j sp := let ⟨⟨fd, o, b⟩, k, g⟩ := h; ⟨⟨fd, o.mono e, b⟩, k, g⟩
theorem HasM.mono (h : HasM P w K mg base C m f ps i sp) (e : i ≤ j) : HasM P w K mg base C m f ps j sp := let ⟨⟨fd, o, b⟩, k, g⟩ := h; ⟨⟨fd, o.mono e, b⟩, k, g⟩
theorem HasI.mono (h : HasI P w K mg base f ps i sp) (e : i ≤ j) : HasI P w K mg base f ps j sp := let ⟨⟨fd, o, b⟩⟩ := h; ⟨⟨fd, o.mono e, b⟩⟩
/-- a def that nobody calls so -/
theorem FnOk.never (h : ∀ vs H Q E, ¬ sp vs H Q E) : FnOk P w K mg base CX0 i f fd ps sp := ⟨fun vs H Q E q => absurd q (h vs H Q E), fun A outer s H args us vs Q E _ _ _ _ q => absurd q (h vs H Q E)⟩
/-- a def as the head left it -/
def Fu (K : PySem.W.Frag) (x qual : Str) (st : Stmt) (f : Addr) (ps : List Str) : Prop := ∃ fd, FnP K x qual st f fd ∧ Binds K fd ps []
theorem Fu.has (h : Fu K x x st f ps) (g : mg x = some (.ref f)) (o : ∀ fd, FnP K x x st f fd → FnOk P w K mg base CX0 i f fd ps sp) : Has P w K mg base x f ps i sp := let ⟨fd, F, b⟩ := h; ⟨⟨fd, o fd F, b⟩, F.kp, g⟩
theorem Fu.hasM (h : Fu K m qual st f ps) (g : Meth K C m f) (c : Cls K C) (o : ∀ fd, FnP K m qual st f fd → FnOk P w K mg base CX0 i f fd ps sp) : HasM P w K mg base C m f ps i sp := let ⟨fd, F, b⟩ := h; ⟨⟨fd, o fd F, b⟩, g, c⟩
theorem Fu.hasI (h : Fu K m qual st f ps) (o : ∀ fd, FnP K m qual st f fd → FnOk P w K mg base CX0 i f fd ps sp) : HasI P w K mg base f ps i sp := let ⟨fd, F, b⟩ := h; ⟨⟨fd, o fd F, b⟩⟩
end

structure Al (K : PySem.W.Frag) (mg : Str → Option Value) : Prop where
  T : Txt K mg
  u_is_integer : Fu K "is_integer" "is_integer" s_is_integer (He.ga K "is_integer") ["thing"]
  g_is_integer : mg "is_integer" = some (.ref (He.ga K "is_integer"))
  u_is_between : Fu K "is_between" "is_between" s_is_between (He.ga K "is_between") ["low", "thing", "high"]
  g_is_between : mg "is_between" = some (.ref (He.ga K "is_between"))
  u_is_index_of : Fu K "is_index_of" "is_index_of" s_is_index_of (He.ga K "is_index_of") ["many", "thing"]
  g_is_index_of : mg "is_index_of" = some (.ref (He.ga K "is_index_of"))
  u_parts_under : Fu K "parts_under" "parts_under" s_parts_under (He.ga K "parts_under") ["pattern"]
  g_parts_under : mg "parts_under" = some (.ref (He.ga K "parts_under"))
  u_leaf_end : Fu K "leaf_end" "leaf_end" s_leaf_end (He.ga K "leaf_end") ["pattern", "text", "at"]
  g_leaf_end : mg "leaf_end" = some (.ref (He.ga K "leaf_end"))
  u_ascending : Fu K "ascending" "ascending" s_ascending (He.ga K "ascending") ["numbers"]
  g_ascending : mg "ascending" = some (.ref (He.ga K "ascending"))
  u_init : Fu K "__init__" "Splitter.__init__" s_init (He.ma K (Cs K) "__init__") ["self", "pattern", "text"]
  u_number_tree : Fu K "number_tree" "Splitter.number_tree" s_number_tree (He.ma K (Cs K) "number_tree") ["self", "tree"]
  m_number_tree : Meth K (Cs K) "number_tree" (He.ma K (Cs K) "number_tree")
  u_ends : Fu K "ends" "Splitter.ends" s_ends (He.ma K (Cs K) "ends") ["self", "number", "start"]
  m_ends : Meth K (Cs K) "ends" (He.ma K (Cs K) "ends")
  u_find_ends : Fu K "find_ends" "Splitter.find_ends" s_find_ends (He.ma K (Cs K) "find_ends") ["self", "number", "start"]
  m_find_ends : Meth K (Cs K) "find_ends" (He.ma K (Cs K) "find_ends")
  u_row_reach : Fu K "row_reach" "Splitter.row_reach" s_row_reach (He.ma K (Cs K) "row_reach") ["self", "number", "start"]
  m_row_reach : Meth K (Cs K) "row_reach" (He.ma K (Cs K) "row_reach")
  u_layers : Fu K "layers" "Splitter.layers" s_layers (He.ma K (Cs K) "layers") ["self", "number", "start"]
  m_layers : Meth K (Cs K) "layers" (He.ma K (Cs K) "layers")
  u_derive : Fu K "derive" "Splitter.derive" s_derive (He.ma K (Cs K) "derive") ["self", "number", "start", "end"]
  m_derive : Meth K (Cs K) "derive" (He.ma K (Cs K) "derive")
  u_row_derivations : Fu K "row_derivations" "Splitter.row_derivations" s_row_derivations (He.ma K (Cs K) "row_derivations") ["self", "number", "start", "end"]
  m_row_derivations : Meth K (Cs K) "row_derivations" (He.ma K (Cs K) "row_derivations")
  u_copy_derivations : Fu K "copy_derivations" "Splitter.copy_derivations" s_copy_derivations (He.ma K (Cs K) "copy_derivations") ["self", "number", "start", "end"]
  m_copy_derivations : Meth K (Cs K) "copy_derivations" (He.ma K (Cs K) "copy_derivations")
  u_several_end : Fu K "several_end" "several_end" s_several_end (He.ga K "several_end") ["parts", "text", "at", "value"]
  g_several_end : mg "several_end" = some (.ref (He.ga K "several_end"))
  u_derived_end : Fu K "derived_end" "derived_end" s_derived_end (He.ga K "derived_end") ["pattern", "text", "at", "value"]
  g_derived_end : mg "derived_end" = some (.ref (He.ga K "derived_end"))
  u_derivation : Fu K "derivation" "derivation" s_derivation (He.ga K "derivation") ["pattern", "text", "start", "end"]
  g_derivation : mg "derivation" = some (.ref (He.ga K "derivation"))
  u_is_derivation : Fu K "is_derivation" "is_derivation" s_is_derivation (He.ga K "is_derivation") ["pattern", "text", "start", "end", "value"]
  g_is_derivation : mg "is_derivation" = some (.ref (He.ga K "is_derivation"))
  u_law_drops : Fu K "_law_drops" "_law_drops" s_law_drops (He.ga K "_law_drops") ["_law_cell", "_law_many"]
  g_law_drops : mg "_law_drops" = some (.ref (He.ga K "_law_drops"))
  u_law_signs : Fu K "_law_signs" "_law_signs" s_law_signs (He.ga K "_law_signs") []
  g_law_signs : mg "_law_signs" = some (.ref (He.ga K "_law_signs"))
  u_law_letter : Fu K "_law_letter" "_law_letter" s_law_letter (He.ga K "_law_letter") ["_law_drop"]
  g_law_letter : mg "_law_letter" = some (.ref (He.ga K "_law_letter"))
  u_law_class : Fu K "_law_class" "_law_class" s_law_class (He.ga K "_law_class") ["_law_drop"]
  g_law_class : mg "_law_class" = some (.ref (He.ga K "_law_class"))
  u_law_leaf : Fu K "_law_leaf" "_law_leaf" s_law_leaf (He.ga K "_law_leaf") ["_law_drop"]
  g_law_leaf : mg "_law_leaf" = some (.ref (He.ga K "_law_leaf"))
  u_law_flat : Fu K "_law_flat" "_law_flat" s_law_flat (He.ga K "_law_flat") ["_law_word", "_law_parts"]
  g_law_flat : mg "_law_flat" = some (.ref (He.ga K "_law_flat"))
  u_law_tree : Fu K "_law_tree" "_law_tree" s_law_tree (He.ga K "_law_tree") ["_law_drops_here", "_law_spot", "_law_room", "_law_deep"]
  g_law_tree : mg "_law_tree" = some (.ref (He.ga K "_law_tree"))
  u_law_onward : Fu K "_law_onward" "_law_onward" s_law_onward (He.ga K "_law_onward") ["_law_part", "_law_text_here", "_law_starts"]
  g_law_onward : mg "_law_onward" = some (.ref (He.ga K "_law_onward"))
  u_law_ends : Fu K "_law_ends" "_law_ends" s_law_ends (He.ga K "_law_ends") ["_law_tree_here", "_law_text_here", "_law_start"]
  g_law_ends : mg "_law_ends" = some (.ref (He.ga K "_law_ends"))
  u_law_copied : Fu K "_law_copied" "_law_copied" s_law_copied (He.ga K "_law_copied") ["_law_tree_here", "_law_text_here", "_law_start"]
  g_law_copied : mg "_law_copied" = some (.ref (He.ga K "_law_copied"))
  u_law_says : Fu K "_law_says" "_law_says" s_law_says (He.ga K "_law_says") ["_law_found", "_law_due"]
  g_law_says : mg "_law_says" = some (.ref (He.ga K "_law_says"))
  u_law_text : Fu K "_law_text" "_law_text" s_law_text (He.ga K "_law_text") ["_law_drops_here", "_law_many"]
  g_law_text : mg "_law_text" = some (.ref (He.ga K "_law_text"))
  u_law_many_walked : Fu K "_law_many_walked" "_law_many_walked" s_law_many_walked (He.ga K "_law_many_walked") ["_law_parts", "_law_text_here", "_law_start", "_law_values"]
  g_law_many_walked : mg "_law_many_walked" = some (.ref (He.ga K "_law_many_walked"))
  u_law_walked : Fu K "_law_walked" "_law_walked" s_law_walked (He.ga K "_law_walked") ["_law_tree_here", "_law_text_here", "_law_start", "_law_value"]
  g_law_walked : mg "_law_walked" = some (.ref (He.ga K "_law_walked"))
  u_law_is_lean : Fu K "_law_is_lean" "_law_is_lean" s_law_is_lean (He.ga K "_law_is_lean") ["_law_tree_here", "_law_text_here", "_law_start", "_law_value"]
  g_law_is_lean : mg "_law_is_lean" = some (.ref (He.ga K "_law_is_lean"))
  u_law_bent : Fu K "_law_bent" "_law_bent" s_law_bent (He.ga K "_law_bent") ["_law_value", "_law_drops_here"]
  g_law_bent : mg "_law_bent" = some (.ref (He.ga K "_law_bent"))
  u_law_stretch_right : Fu K "_law_stretch_right" "_law_stretch_right" s_law_stretch_right (He.ga K "_law_stretch_right") ["_law_tree_here", "_law_text_here", "_law_spots", "_law_drops_here"]
  g_law_stretch_right : mg "_law_stretch_right" = some (.ref (He.ga K "_law_stretch_right"))
  u_law_long_right : Fu K "_law_long_right" "_law_long_right" s_law_long_right (He.ga K "_law_long_right") ["_law_drops_here"]
  g_law_long_right : mg "_law_long_right" = some (.ref (He.ga K "_law_long_right"))
  u_law_pattern_right : Fu K "_law_pattern_right" "_law_pattern_right" s_law_pattern_right (He.ga K "_law_pattern_right") ["_law_cell"]
  g_law_pattern_right : mg "_law_pattern_right" = some (.ref (He.ga K "_law_pattern_right"))
  u_law : Fu K "law" "law" s_law (He.ga K "law") ["_law_script"]
  g_law : mg "law" = some (.ref (He.ga K "law"))
  k_derivation : ∃ fd, FnP K "derivation" "derivation" s_derivation (He.ga K "derivation") fd ∧ KBinds K fd ["pattern", "text", "start", "end"] ["pattern", "text", "start", "end"] kgo kgo
  k_is_derivation : ∃ fd, FnP K "is_derivation" "is_derivation" s_is_derivation (He.ga K "is_derivation") fd ∧ KBinds K fd ["pattern", "text", "start", "end", "value"] ["pattern", "text", "start", "end", "value"] kgo kgo
theorem al {K : PySem.W.Frag} {h : Heap} {mg : Str → Option Value} (X : K.In h) (G : h.Ns mainGlobals mg) (c : He.SaysD fa fn K) : Al K mg where
  T := {
    z_len := He.free_ok X G (c.fact 31 (f := .free "len") rfl)
    z_isinstance := He.free_ok X G (c.fact 32 (f := .free "isinstance") rfl)
    z_int := He.free_ok X G (c.fact 33 (f := .free "int") rfl)
    z_bool := He.free_ok X G (c.fact 34 (f := .free "bool") rfl)
    z_str := He.free_ok X G (c.fact 35 (f := .free "str") rfl)
    z_tuple := He.free_ok X G (c.fact 36 (f := .free "tuple") rfl)
    z_list := He.free_ok X G (c.fact 37 (f := .free "list") rfl)
    z_range := He.free_ok X G (c.fact 38 (f := .free "range") rfl)
    z_sorted := He.free_ok X G (c.fact 39 (f := .free "sorted") rfl)
    z_set := He.free_ok X G (c.fact 40 (f := .free "set") rfl)
    z_enumerate := He.free_ok X G (c.fact 41 (f := .free "enumerate") rfl)
    z_zip := He.free_ok X G (c.fact 42 (f := .free "zip") rfl)
    z_abs := He.free_ok X G (c.fact 43 (f := .free "abs") rfl)
    z_min := He.free_ok X G (c.fact 44 (f := .free "min") rfl)
    z_max := He.free_ok X G (c.fact 45 (f := .free "max") rfl)
    gC := He.glo_ok X G (c.fact 6 (f := .glo "Splitter") rfl)
    cl := He.cls_ok (c.fact 46 (f := .cls "Splitter") rfl)
    mkr := He.mkr_ok (c.fact 47 (f := .mkr "Splitter") rfl)
    n_text := He.noat_ok (c.fact 48 (f := .noat "Splitter" "text") rfl)
    n_trees := He.noat_ok (c.fact 49 (f := .noat "Splitter" "trees") rfl)
    n_under := He.noat_ok (c.fact 50 (f := .noat "Splitter" "under") rfl)
    n_known := He.noat_ok (c.fact 51 (f := .noat "Splitter" "known_ends") rfl)
  }
  u_is_integer := let ⟨fd, F⟩ := c.def_ 0 (d := d_is_integer) rfl; ⟨fd, F, F.bindsN (ps := ["thing"]) fun _ _ _ _ _ _ us hl => match us, hl with | [_], _ => rfl⟩
  g_is_integer := He.glo_ok X G (c.fact 0 (f := .glo "is_integer") rfl)
  u_is_between := let ⟨fd, F⟩ := c.def_ 1 (d := d_is_between) rfl; ⟨fd, F, F.bindsN (ps := ["low", "thing", "high"]) fun _ _ _ _ _ _ us hl => match us, hl with | [_, _, _], _ => rfl⟩
  g_is_between := He.glo_ok X G (c.fact 1 (f := .glo "is_between") rfl)
  u_is_index_of := let ⟨fd, F⟩ := c.def_ 2 (d := d_is_index_of) rfl; ⟨fd, F, F.bindsN (ps := ["many", "thing"]) fun _ _ _ _ _ _ us hl => match us, hl with | [_, _], _ => rfl⟩
  g_is_index_of := He.glo_ok X G (c.fact 2 (f := .glo "is_index_of") rfl)
  u_parts_under := let ⟨fd, F⟩ := c.def_ 3 (d := d_parts_under) rfl; ⟨fd, F, F.bindsN (ps := ["pattern"]) fun _ _ _ _ _ _ us hl => match us, hl with | [_], _ => rfl⟩
  g_parts_under := He.glo_ok X G (c.fact 3 (f := .glo "parts_under") rfl)
  u_leaf_end := let ⟨fd, F⟩ := c.def_ 4 (d := d_leaf_end) rfl; ⟨fd, F, F.bindsN (ps := ["pattern", "text", "at"]) fun _ _ _ _ _ _ us hl => match us, hl with | [_, _, _], _ => rfl⟩
  g_leaf_end := He.glo_ok X G (c.fact 4 (f := .glo "leaf_end") rfl)
  u_ascending := let ⟨fd, F⟩ := c.def_ 5 (d := d_ascending) rfl; ⟨fd, F, F.bindsN (ps := ["numbers"]) fun _ _ _ _ _ _ us hl => match us, hl with | [_], _ => rfl⟩
  g_ascending := He.glo_ok X G (c.fact 5 (f := .glo "ascending") rfl)
  u_init := let ⟨fd, F⟩ := c.def_ 6 (d := d_init) rfl; ⟨fd, F, F.bindsN (ps := ["self", "pattern", "text"]) fun _ _ _ _ _ _ us hl => match us, hl with | [_, _, _], _ => rfl⟩
  u_number_tree := let ⟨fd, F⟩ := c.def_ 7 (d := d_number_tree) rfl; ⟨fd, F, F.bindsN (ps := ["self", "tree"]) fun _ _ _ _ _ _ us hl => match us, hl with | [_, _], _ => rfl⟩
  m_number_tree := He.meth_ok (c.fact 52 (f := .meth "Splitter" "number_tree") rfl)
  u_ends := let ⟨fd, F⟩ := c.def_ 8 (d := d_ends) rfl; ⟨fd, F, F.bindsN (ps := ["self", "number", "start"]) fun _ _ _ _ _ _ us hl => match us, hl with | [_, _, _], _ => rfl⟩
  m_ends := He.meth_ok (c.fact 53 (f := .meth "Splitter" "ends") rfl)
  u_find_ends := let ⟨fd, F⟩ := c.def_ 9 (d := d_find_ends) rfl; ⟨fd, F, F.bindsN (ps := ["self", "number", "start"]) fun _ _ _ _ _ _ us hl => match us, hl with | [_, _, _], _ => rfl⟩
  m_find_ends := He.meth_ok (c.fact 54 (f := .meth "Splitter" "find_ends") rfl)
  u_row_reach := let ⟨fd, F⟩ := c.def_ 10 (d := d_row_reach) rfl; ⟨fd, F, F.bindsN (ps := ["self", "number", "start"]) fun _ _ _ _ _ _ us hl => match us, hl with | [_, _, _], _ => rfl⟩
  m_row_reach := He.meth_ok (c.fact 55 (f := .meth "Splitter" "row_reach") rfl)
  u_layers := let ⟨fd, F⟩ := c.def_ 11 (d := d_layers) rfl; ⟨fd, F, F.bindsN (ps := ["self", "number", "start"]) fun _ _ _ _ _ _ us hl => match us, hl with | [_, _, _], _ => rfl⟩
  m_layers := He.meth_ok (c.fact 56 (f := .meth "Splitter" "layers") rfl)
  u_derive := let ⟨fd, F⟩ := c.def_ 12 (d := d_derive) rfl; ⟨fd, F, F.bindsN (ps := ["self", "number", "start", "end"]) fun _ _ _ _ _ _ us hl => match us, hl with | [_, _, _, _], _ => rfl⟩
  m_derive := He.meth_ok (c.fact 57 (f := .meth "Splitter" "derive") rfl)
  u_row_derivations := let ⟨fd, F⟩ := c.def_ 13 (d := d_row_derivations) rfl; ⟨fd, F, F.bindsN (ps := ["self", "number", "start", "end"]) fun _ _ _ _ _ _ us hl => match us, hl with | [_, _, _, _], _ => rfl⟩
  m_row_derivations := He.meth_ok (c.fact 58 (f := .meth "Splitter" "row_derivations") rfl)
  u_copy_derivations := let ⟨fd, F⟩ := c.def_ 14 (d := d_copy_derivations) rfl; ⟨fd, F, F.bindsN (ps := ["self", "number", "start", "end"]) fun _ _ _ _ _ _ us hl => match us, hl with | [_, _, _, _], _ => rfl⟩
  m_copy_derivations := He.meth_ok (c.fact 59 (f := .meth "Splitter" "copy_derivations") rfl)
  u_several_end := let ⟨fd, F⟩ := c.def_ 15 (d := d_several_end) rfl; ⟨fd, F, F.bindsN (ps := ["parts", "text", "at", "value"]) fun _ _ _ _ _ _ us hl => match us, hl with | [_, _, _, _], _ => rfl⟩
  g_several_end := He.glo_ok X G (c.fact 7 (f := .glo "several_end") rfl)
  u_derived_end := let ⟨fd, F⟩ := c.def_ 16 (d := d_derived_end) rfl; ⟨fd, F, F.bindsN (ps := ["pattern", "text", "at", "value"]) fun _ _ _ _ _ _ us hl => match us, hl with | [_, _, _, _], _ => rfl⟩
  g_derived_end := He.glo_ok X G (c.fact 8 (f := .glo "derived_end") rfl)
  u_derivation := let ⟨fd, F⟩ := c.def_ 17 (d := d_derivation) rfl; ⟨fd, F, F.bindsN (ps := ["pattern", "text", "start", "end"]) fun _ _ _ _ _ _ us hl => match us, hl with | [_, _, _, _], _ => rfl⟩
  g_derivation := He.glo_ok X G (c.fact 9 (f := .glo "derivation") rfl)
  u_is_derivation := let ⟨fd, F⟩ := c.def_ 18 (d := d_is_derivation) rfl; ⟨fd, F, F.bindsN (ps := ["pattern", "text", "start", "end", "value"]) fun _ _ _ _ _ _ us hl => match us, hl with | [_, _, _, _, _], _ => rfl⟩
  g_is_derivation := He.glo_ok X G (c.fact 10 (f := .glo "is_derivation") rfl)
  u_law_drops := let ⟨fd, F⟩ := c.def_ 19 (d := d_law_drops) rfl; ⟨fd, F, F.bindsN (ps := ["_law_cell", "_law_many"]) fun _ _ _ _ _ _ us hl => match us, hl with | [_, _], _ => rfl⟩
  g_law_drops := He.glo_ok X G (c.fact 11 (f := .glo "_law_drops") rfl)
  u_law_signs := let ⟨fd, F⟩ := c.def_ 20 (d := d_law_signs) rfl; ⟨fd, F, F.bindsN (ps := []) fun _ _ _ _ _ _ us hl => match us, hl with | [], _ => rfl⟩
  g_law_signs := He.glo_ok X G (c.fact 12 (f := .glo "_law_signs") rfl)
  u_law_letter := let ⟨fd, F⟩ := c.def_ 21 (d := d_law_letter) rfl; ⟨fd, F, F.bindsN (ps := ["_law_drop"]) fun _ _ _ _ _ _ us hl => match us, hl with | [_], _ => rfl⟩
  g_law_letter := He.glo_ok X G (c.fact 13 (f := .glo "_law_letter") rfl)
  u_law_class := let ⟨fd, F⟩ := c.def_ 22 (d := d_law_class) rfl; ⟨fd, F, F.bindsN (ps := ["_law_drop"]) fun _ _ _ _ _ _ us hl => match us, hl with | [_], _ => rfl⟩
  g_law_class := He.glo_ok X G (c.fact 14 (f := .glo "_law_class") rfl)
  u_law_leaf := let ⟨fd, F⟩ := c.def_ 23 (d := d_law_leaf) rfl; ⟨fd, F, F.bindsN (ps := ["_law_drop"]) fun _ _ _ _ _ _ us hl => match us, hl with | [_], _ => rfl⟩
  g_law_leaf := He.glo_ok X G (c.fact 15 (f := .glo "_law_leaf") rfl)
  u_law_flat := let ⟨fd, F⟩ := c.def_ 24 (d := d_law_flat) rfl; ⟨fd, F, F.bindsN (ps := ["_law_word", "_law_parts"]) fun _ _ _ _ _ _ us hl => match us, hl with | [_, _], _ => rfl⟩
  g_law_flat := He.glo_ok X G (c.fact 16 (f := .glo "_law_flat") rfl)
  u_law_tree := let ⟨fd, F⟩ := c.def_ 25 (d := d_law_tree) rfl; ⟨fd, F, F.bindsN (ps := ["_law_drops_here", "_law_spot", "_law_room", "_law_deep"]) fun _ _ _ _ _ _ us hl => match us, hl with | [_, _, _, _], _ => rfl⟩
  g_law_tree := He.glo_ok X G (c.fact 17 (f := .glo "_law_tree") rfl)
  u_law_onward := let ⟨fd, F⟩ := c.def_ 26 (d := d_law_onward) rfl; ⟨fd, F, F.bindsN (ps := ["_law_part", "_law_text_here", "_law_starts"]) fun _ _ _ _ _ _ us hl => match us, hl with | [_, _, _], _ => rfl⟩
  g_law_onward := He.glo_ok X G (c.fact 18 (f := .glo "_law_onward") rfl)
  u_law_ends := let ⟨fd, F⟩ := c.def_ 27 (d := d_law_ends) rfl; ⟨fd, F, F.bindsN (ps := ["_law_tree_here", "_law_text_here", "_law_start"]) fun _ _ _ _ _ _ us hl => match us, hl with | [_, _, _], _ => rfl⟩
  g_law_ends := He.glo_ok X G (c.fact 19 (f := .glo "_law_ends") rfl)
  u_law_copied := let ⟨fd, F⟩ := c.def_ 28 (d := d_law_copied) rfl; ⟨fd, F, F.bindsN (ps := ["_law_tree_here", "_law_text_here", "_law_start"]) fun _ _ _ _ _ _ us hl => match us, hl with | [_, _, _], _ => rfl⟩
  g_law_copied := He.glo_ok X G (c.fact 20 (f := .glo "_law_copied") rfl)
  u_law_says := let ⟨fd, F⟩ := c.def_ 29 (d := d_law_says) rfl; ⟨fd, F, F.bindsN (ps := ["_law_found", "_law_due"]) fun _ _ _ _ _ _ us hl => match us, hl with | [_, _], _ => rfl⟩
  g_law_says := He.glo_ok X G (c.fact 21 (f := .glo "_law_says") rfl)
  u_law_text := let ⟨fd, F⟩ := c.def_ 30 (d := d_law_text) rfl; ⟨fd, F, F.bindsN (ps := ["_law_drops_here", "_law_many"]) fun _ _ _ _ _ _ us hl => match us, hl with | [_, _], _ => rfl⟩
  g_law_text := He.glo_ok X G (c.fact 22 (f := .glo "_law_text") rfl)
  u_law_many_walked := let ⟨fd, F⟩ := c.def_ 31 (d := d_law_many_walked) rfl; ⟨fd, F, F.bindsN (ps := ["_law_parts", "_law_text_here", "_law_start", "_law_values"]) fun _ _ _ _ _ _ us hl => match us, hl with | [_, _, _, _], _ => rfl⟩
  g_law_many_walked := He.glo_ok X G (c.fact 23 (f := .glo "_law_many_walked") rfl)
  u_law_walked := let ⟨fd, F⟩ := c.def_ 32 (d := d_law_walked) rfl; ⟨fd, F, F.bindsN (ps := ["_law_tree_here", "_law_text_here", "_law_start", "_law_value"]) fun _ _ _ _ _ _ us hl => match us, hl with | [_, _, _, _], _ => rfl⟩
  g_law_walked := He.glo_ok X G (c.fact 24 (f := .glo "_law_walked") rfl)
  u_law_is_lean := let ⟨fd, F⟩ := c.def_ 33 (d := d_law_is_lean) rfl; ⟨fd, F, F.bindsN (ps := ["_law_tree_here", "_law_text_here", "_law_start", "_law_value"]) fun _ _ _ _ _ _ us hl => match us, hl with | [_, _, _, _], _ => rfl⟩
  g_law_is_lean := He.glo_ok X G (c.fact 25 (f := .glo "_law_is_lean") rfl)
  u_law_bent := let ⟨fd, F⟩ := c.def_ 34 (d := d_law_bent) rfl; ⟨fd, F, F.bindsN (ps := ["_law_value", "_law_drops_here"]) fun _ _ _ _ _ _ us hl => match us, hl with | [_, _], _ => rfl⟩
  g_law_bent := He.glo_ok X G (c.fact 26 (f := .glo "_law_bent") rfl)
  u_law_stretch_right := let ⟨fd, F⟩ := c.def_ 35 (d := d_law_stretch_right) rfl; ⟨fd, F, F.bindsN (ps := ["_law_tree_here", "_law_text_here", "_law_spots", "_law_drops_here"]) fun _ _ _ _ _ _ us hl => match us, hl with | [_, _, _, _], _ => rfl⟩
  g_law_stretch_right := He.glo_ok X G (c.fact 27 (f := .glo "_law_stretch_right") rfl)
  u_law_long_right := let ⟨fd, F⟩ := c.def_ 36 (d := d_law_long_right) rfl; ⟨fd, F, F.bindsN (ps := ["_law_drops_here"]) fun _ _ _ _ _ _ us hl => match us, hl with | [_], _ => rfl⟩
  g_law_long_right := He.glo_ok X G (c.fact 28 (f := .glo "_law_long_right") rfl)
  u_law_pattern_right := let ⟨fd, F⟩ := c.def_ 37 (d := d_law_pattern_right) rfl; ⟨fd, F, F.bindsN (ps := ["_law_cell"]) fun _ _ _ _ _ _ us hl => match us, hl with | [_], _ => rfl⟩
  g_law_pattern_right := He.glo_ok X G (c.fact 29 (f := .glo "_law_pattern_right") rfl)
  u_law := let ⟨fd, F⟩ := c.def_ 38 (d := d_law) rfl; ⟨fd, F, F.bindsN (ps := ["_law_script"]) fun _ _ _ _ _ _ us hl => match us, hl with | [_], _ => rfl⟩
  g_law := He.glo_ok X G (c.fact 30 (f := .glo "law") rfl)
  k_derivation := let ⟨fd, F⟩ := c.def_ 17 (d := d_derivation) rfl; ⟨fd, F, kbinds_of F (by decide) fun _ _ _ _ _ _ ws hl => match ws, hl with | [_, _, _, _], _ => rfl⟩
  k_is_derivation := let ⟨fd, F⟩ := c.def_ 18 (d := d_is_derivation) rfl; ⟨fd, F, kbinds_of F (by decide) fun _ _ _ _ _ _ ws hl => match ws, hl with | [_, _, _, _, _], _ => rfl⟩
section
variable {P : Program} {w : World} {K : PySem.W.Frag} {mg : Str → Option Value} {base : Heap}
theorem a_is_integer (A : Al K mg) : Has P w K mg base "is_integer" (He.ga K "is_integer") ["thing"] (1) (spIsInteger K) := A.u_is_integer.has A.g_is_integer fun _ F => ok_is_integer A.T F
theorem a_is_between (A : Al K mg) : Has P w K mg base "is_between" (He.ga K "is_between") ["low", "thing", "high"] (2) (spIsBetween K) := A.u_is_between.has A.g_is_between fun _ F => ok_is_between A.T F (a_is_integer A)
theorem a_is_index_of (A : Al K mg) : Has P w K mg base "is_index_of" (He.ga K "is_index_of") ["many", "thing"] (3) (spIsIndexOf K) := A.u_is_index_of.has A.g_is_index_of fun _ F => ok_is_index_of A.T F (a_is_between A)
theorem a_parts_under (A : Al K mg) : Has P w K mg base "parts_under" (He.ga K "parts_under") ["pattern"] (1) (spPartsUnder K) := A.u_parts_under.has A.g_parts_under fun _ F => ok_parts_under A.T F
theorem a_leaf_end (A : Al K mg) : Has P w K mg base "leaf_end" (He.ga K "leaf_end") ["pattern", "text", "at"] (1) (spLeafEnd K) := A.u_leaf_end.has A.g_leaf_end fun _ F => ok_leaf_end A.T F
theorem a_ascending (A : Al K mg) : Has P w K mg base "ascending" (He.ga K "ascending") ["numbers"] (1) (spAscending K) := A.u_ascending.has A.g_ascending fun _ F => ok_ascending A.T F
theorem a_ends (A : Al K mg) : ∀ D, HasM P w K mg base (Cs K) "ends" (He.ma K (Cs K) "ends") ["self", "number", "start"] (5 + 3 * D) (spEnds K D)
  | 0 => A.u_ends.hasM A.m_ends A.T.cl fun _ F => FnOk.never fun vs H Q E h => by
    obtain ⟨S, n, s, p, _, _, _, hp, _⟩ := h
    exact absurd (dep_pos p) (by omega)
  | D + 1 => by
    have e := a_ends A D
    have r : HasM P w K mg base (Cs K) "row_reach" (He.ma K (Cs K) "row_reach") ["self", "number", "start"] (5 + 3 * D + 1) (spReach K D) := A.u_row_reach.hasM A.m_row_reach A.T.cl fun _ F => ok_row_reach A.T F (by omega) (a_ascending A) e
    have y : HasM P w K mg base (Cs K) "layers" (He.ma K (Cs K) "layers") ["self", "number", "start"] (5 + 3 * D + 1) (spLayers K D) := A.u_layers.hasM A.m_layers A.T.cl fun _ F => ok_layers A.T F (by omega) (a_ascending A) e
    have fi : HasM P w K mg base (Cs K) "find_ends" (He.ma K (Cs K) "find_ends") ["self", "number", "start"] (5 + 3 * D + 1 + 1) (spFind K (D + 1)) := A.u_find_ends.hasM A.m_find_ends A.T.cl fun _ F => ok_find_ends A.T F (by omega) (a_leaf_end A) (a_ascending A) (e.mono (Nat.le_succ _)) r y
    exact A.u_ends.hasM A.m_ends A.T.cl fun _ F => ok_ends A.T F fi
theorem a_row_reach (A : Al K mg) (D : Nat) : HasM P w K mg base (Cs K) "row_reach" (He.ma K (Cs K) "row_reach") ["self", "number", "start"] (5 + 3 * D + 1) (spReach K D) := A.u_row_reach.hasM A.m_row_reach A.T.cl fun _ F => ok_row_reach A.T F (by omega) (a_ascending A) (a_ends A D)
theorem a_layers (A : Al K mg) (D : Nat) : HasM P w K mg base (Cs K) "layers" (He.ma K (Cs K) "layers") ["self", "number", "start"] (5 + 3 * D + 1) (spLayers K D) := A.u_layers.hasM A.m_layers A.T.cl fun _ F => ok_layers A.T F (by omega) (a_ascending A) (a_ends A D)
theorem a_derive (A : Al K mg) : ∀ D, HasM P w K mg base (Cs K) "derive" (He.ma K (Cs K) "derive") ["self", "number", "start", "end"] (9 + 3 * D) (spDerive K D)
  | 0 => A.u_derive.hasM A.m_derive A.T.cl fun _ F => FnOk.never fun vs H Q E h => by
    obtain ⟨S, n, s, e, p, _, _, _, hp, _⟩ := h
    exact absurd (dep_pos p) (by omega)
  | D + 1 => by
    have d := a_derive A D
    have e := (a_ends (P := P) (w := w) (base := base) A D).mono (show 5 + 3 * D ≤ 9 + 3 * D by omega)
    have e1 := (a_ends (P := P) (w := w) (base := base) A (D + 1)).mono (show 5 + 3 * (D + 1) ≤ 9 + 3 * D + 1 by omega)
    have r : HasM P w K mg base (Cs K) "row_derivations" (He.ma K (Cs K) "row_derivations") ["self", "number", "start", "end"] (9 + 3 * D + 1) (spRowDer K D) := A.u_row_derivations.hasM A.m_row_derivations A.T.cl fun _ F => ok_row_derivations A.T F (by omega) e ((a_row_reach A D).mono (by omega)) d
    have y : HasM P w K mg base (Cs K) "copy_derivations" (He.ma K (Cs K) "copy_derivations") ["self", "number", "start", "end"] (9 + 3 * D + 1) (spCopyDer K D) := A.u_copy_derivations.hasM A.m_copy_derivations A.T.cl fun _ F => ok_copy_derivations A.T F (by omega) e ((a_layers A D).mono (by omega)) d
    have z : HasM P w K mg base (Cs K) "derive" (He.ma K (Cs K) "derive") ["self", "number", "start", "end"] (9 + 3 * D + 1 + 1) (spDerive K (D + 1)) := A.u_derive.hasM A.m_derive A.T.cl fun _ F => ok_derive A.T F (by omega) e1 r y (d.mono (by omega))
    exact z.mono (by omega)
theorem a_number_tree (A : Al K mg) : ∀ D, HasM P w K mg base (Cs K) "number_tree" (He.ma K (Cs K) "number_tree") ["self", "tree"] (5 + D) (spNumberTree K D)
  | 0 => A.u_number_tree.hasM A.m_number_tree A.T.cl fun _ F => FnOk.never fun vs H Q E h => by
    obtain ⟨x, dx, tl, ul, d, z, v, p, tv, ua, _, _, _, _, hp, _⟩ := h
    exact absurd (dep_pos p) (by omega)
  | D + 1 => A.u_number_tree.hasM A.m_number_tree A.T.cl fun _ F => ok_number_tree A.T F (Nat.le_add_right 5 _) (a_parts_under A) (a_number_tree A D)
theorem a_init (A : Al K mg) : HasI P w K mg base (mI K) ["self", "pattern", "text"] (14) (spInit K) := A.u_init.hasI fun _ F => ok_init A.T F (a_number_tree A 8)
theorem a_derivation (A : Al K mg) : Has P w K mg base "derivation" (He.ga K "derivation") ["pattern", "text", "start", "end"] (34) (spDerivation K) := A.u_derivation.has A.g_derivation fun _ F => ok_derivation A.T F (by omega) ((a_init A).mono (by omega)) (a_derive A 8)
theorem a_derived_end (A : Al K mg) : ∀ D, Has P w K mg base "derived_end" (He.ga K "derived_end") ["pattern", "text", "at", "value"] (5 + 2 * D) (spDerivedEnd K D)
  | 0 => A.u_derived_end.has A.g_derived_end fun _ F => FnOk.never fun vs H Q E h => by
    obtain ⟨v, u, p, d, z, s, _, _, _, hp, _⟩ := h
    exact absurd (dep_pos p) (by omega)
  | D + 1 => by
    have d := a_derived_end A D
    have s : Has P w K mg base "several_end" (He.ga K "several_end") ["parts", "text", "at", "value"] (5 + 2 * D + 1) (spSeveralEnd K D) := A.u_several_end.has A.g_several_end fun _ F => ok_several_end A.T F (by omega) d
    exact A.u_derived_end.has A.g_derived_end fun _ F => ok_derived_end A.T F (Nat.le_trans (Nat.le_add_right 5 (2 * D)) (Nat.le_succ _)) (a_is_index_of A) (a_leaf_end A) s (d.mono (Nat.le_succ _))
theorem a_is_derivation (A : Al K mg) : Has P w K mg base "is_derivation" (He.ga K "is_derivation") ["pattern", "text", "start", "end", "value"] (22) (spIsDerivation K) := A.u_is_derivation.has A.g_is_derivation fun _ F => ok_is_derivation A.T F (by omega) (a_derived_end A 8)
theorem a_law_drops (A : Al K mg) : Has P w K mg base "_law_drops" (He.ga K "_law_drops") ["_law_cell", "_law_many"] (1) (spLawDrops) := A.u_law_drops.has A.g_law_drops fun _ F => ok_law_drops A.T F
theorem a_law_signs (A : Al K mg) : Has P w K mg base "_law_signs" (He.ga K "_law_signs") [] (1) (spLawSigns) := A.u_law_signs.has A.g_law_signs fun _ F => ok_law_signs F
theorem a_law_letter (A : Al K mg) : Has P w K mg base "_law_letter" (He.ga K "_law_letter") ["_law_drop"] (2) (spLawLetter) := A.u_law_letter.has A.g_law_letter fun _ F => ok_law_letter A.T F (a_law_signs A)
theorem a_law_class (A : Al K mg) : Has P w K mg base "_law_class" (He.ga K "_law_class") ["_law_drop"] (2) (spLawClass K) := A.u_law_class.has A.g_law_class fun _ F => ok_law_class A.T F (a_law_signs A)
theorem a_law_leaf (A : Al K mg) : Has P w K mg base "_law_leaf" (He.ga K "_law_leaf") ["_law_drop"] (3) (spLawLeaf K) := A.u_law_leaf.has A.g_law_leaf fun _ F => ok_law_leaf A.T F (a_law_letter A) (a_law_class A)
theorem a_law_flat (A : Al K mg) : Has P w K mg base "_law_flat" (He.ga K "_law_flat") ["_law_word", "_law_parts"] (1) (spLawFlat K) := A.u_law_flat.has A.g_law_flat fun _ F => ok_law_flat A.T F
theorem a_law_says (A : Al K mg) : Has P w K mg base "_law_says" (He.ga K "_law_says") ["_law_found", "_law_due"] (1) (spLawSays) := A.u_law_says.has A.g_law_says fun _ F => ok_law_says A.T F
theorem a_law_text (A : Al K mg) : Has P w K mg base "_law_text" (He.ga K "_law_text") ["_law_drops_here", "_law_many"] (3) (spLawText K) := A.u_law_text.has A.g_law_text fun _ F => ok_law_text A.T F (a_law_letter A)
theorem a_law_tree (A : Al K mg) : ∀ d, Has P w K mg base "_law_tree" (He.ga K "_law_tree") ["_law_drops_here", "_law_spot", "_law_room", "_law_deep"] (4 + d) (spT K d)
  | 0 => A.u_law_tree.has A.g_law_tree fun _ F => FnOk.never fun vs H Q E h => h
  | d + 1 => A.u_law_tree.has A.g_law_tree fun _ F => ok_law_tree A.T F (Nat.le_add_right 4 _) (a_law_leaf A) (a_law_flat A) (a_law_tree A d)
theorem FnOk.any {f : Addr} {fd : FuncData} {ps : List Str} {i : Nat} (h : ∀ d, d ≤ 3 → FnOk P w K mg base CX0 i f fd ps (spLawTree K d)) : FnOk P w K mg base CX0 i f fd ps (spTreeAny K) := ⟨fun vs H Q E q => let ⟨d, l, q⟩ := q; (h d l).len vs H Q E q, fun A outer s H args us vs Q E hr he hb hv q => let ⟨d, l, q⟩ := q; (h d l).run A outer s H args us vs Q E hr he hb hv q⟩
theorem a_tree_any (A : Al K mg) : Has P w K mg base "_law_tree" (He.ga K "_law_tree") ["_law_drops_here", "_law_spot", "_law_room", "_law_deep"] (9) (spTreeAny K) := A.u_law_tree.has A.g_law_tree fun _ F => FnOk.any fun d l => (ok_law_tree A.T F (by omega) (a_law_leaf A) (a_law_flat A) (a_law_tree A d)).mono (show 4 + d + 1 ≤ 9 by omega)
theorem a_law_ends (A : Al K mg) : ∀ D, Has P w K mg base "_law_ends" (He.ga K "_law_ends") ["_law_tree_here", "_law_text_here", "_law_start"] (1 + 3 * D) (spLawEnds K D)
  | 0 => A.u_law_ends.has A.g_law_ends fun _ F => FnOk.never fun vs H Q E h => by
    obtain ⟨v, p, z, s, _, _, _, hp, _⟩ := h
    exact absurd (dep_pos p) (by omega)
  | D + 1 => by
    have e := a_law_ends A D
    have o : Has P w K mg base "_law_onward" (He.ga K "_law_onward") ["_law_part", "_law_text_here", "_law_starts"] (1 + 3 * D + 1) (spLawOnward K D) := A.u_law_onward.has A.g_law_onward fun _ F => ok_law_onward A.T F e
    have c : Has P w K mg base "_law_copied" (He.ga K "_law_copied") ["_law_tree_here", "_law_text_here", "_law_start"] (1 + 3 * D + 1 + 1) (spLawCopied K D) := A.u_law_copied.has A.g_law_copied fun _ F => ok_law_copied A.T F o
    exact A.u_law_ends.has A.g_law_ends fun _ F => ok_law_ends A.T F (show 1 + 3 * D ≤ 1 + 3 * D + 1 + 1 by omega) e (o.mono (Nat.le_succ _)) c
theorem a_law_walked (A : Al K mg) : ∀ D, Has P w K mg base "_law_walked" (He.ga K "_law_walked") ["_law_tree_here", "_law_text_here", "_law_start", "_law_value"] (4 + 2 * D) (spLawWalked K D)
  | 0 => A.u_law_walked.has A.g_law_walked fun _ F => FnOk.never fun vs H Q E h => by
    obtain ⟨v, u, p, d, z, s, _, _, _, hp, _⟩ := h
    exact absurd (dep_pos p) (by omega)
  | D + 1 => by
    have e := a_law_walked A D
    have m : Has P w K mg base "_law_many_walked" (He.ga K "_law_many_walked") ["_law_parts", "_law_text_here", "_law_start", "_law_values"] (4 + 2 * D + 1) (spLawMany K D) := A.u_law_many_walked.has A.g_law_many_walked fun _ F => ok_law_many_walked A.T F e
    exact A.u_law_walked.has A.g_law_walked fun _ F => ok_law_walked A.T F (show 1 + 3 * 1 ≤ 4 + 2 * D + 1 by omega) (Nat.le_succ _) (Nat.le_refl 1) (a_law_ends A 1) m e
theorem a_law_many_walked (A : Al K mg) (D : Nat) : Has P w K mg base "_law_many_walked" (He.ga K "_law_many_walked") ["_law_parts", "_law_text_here", "_law_start", "_law_values"] (4 + 2 * D + 1) (spLawMany K D) := A.u_law_many_walked.has A.g_law_many_walked fun _ F => ok_law_many_walked A.T F (a_law_walked A D)
theorem a_law_is_lean (A : Al K mg) : ∀ D, Has P w K mg base "_law_is_lean" (He.ga K "_law_is_lean") ["_law_tree_here", "_law_text_here", "_law_start", "_law_value"] (6 + 2 * D) (spLawLean K D)
  | 0 => A.u_law_is_lean.has A.g_law_is_lean fun _ F => FnOk.never fun vs H Q E h => by
    obtain ⟨v, u, p, d, z, s, e, _, _, _, hp, _⟩ := h
    exact absurd (dep_pos p) (by omega)
  | D + 1 => by
    have z : Has P w K mg base "_law_is_lean" (He.ga K "_law_is_lean") ["_law_tree_here", "_law_text_here", "_law_start", "_law_value"] (6 + 2 * D + 1) (spLawLean K (D + 1)) := A.u_law_is_lean.has A.g_law_is_lean fun _ F => ok_law_is_lean A.T F (Nat.le_refl _) ((a_law_many_walked A D).mono (by omega)) (a_law_is_lean A D)
    exact z.mono (by omega)
theorem a_law_bent (A : Al K mg) : ∀ D, Has P w K mg base "_law_bent" (He.ga K "_law_bent") ["_law_value", "_law_drops_here"] (1 + D) (spLawBent K D)
  | 0 => A.u_law_bent.has A.g_law_bent fun _ F => FnOk.never fun vs H Q E h => by
    obtain ⟨v, d, a, ns, _, _, hd, hp, _⟩ := h
    cases hd <;> (first | (rw [PyData.depth] at hp; exact absurd hp (Nat.not_succ_le_zero _)) | (rw [one, PyData.depth] at hp; exact absurd hp (Nat.not_succ_le_zero _)))
  | D + 1 => A.u_law_bent.has A.g_law_bent fun _ F => ok_law_bent A.T F (a_law_bent A D)
theorem a_kderivation (A : Al K mg) : HasK P w K mg base "derivation" (He.ga K "derivation") ["pattern", "text", "start", "end"] 40 (spDerivation K) := let ⟨fd, F, b⟩ := A.k_derivation; ⟨⟨fd, FnOk.mono (ok_derivation (k := 33) A.T F (by omega) ((a_init A).mono (by omega)) (a_derive A 8)) (by omega), b⟩, F.kp, A.g_derivation⟩
theorem a_kis_derivation (A : Al K mg) : HasK P w K mg base "is_derivation" (He.ga K "is_derivation") ["pattern", "text", "start", "end", "value"] 40 (spIsDerivation K) := let ⟨fd, F, b⟩ := A.k_is_derivation; ⟨⟨fd, FnOk.mono (ok_is_derivation (k := 21) A.T F (by omega) (a_derived_end A 8)) (by omega), b⟩, F.kp, A.g_is_derivation⟩
theorem a_law_stretch_right (A : Al K mg) : Has P w K mg base "_law_stretch_right" (He.ga K "_law_stretch_right") ["_law_tree_here", "_law_text_here", "_law_spots", "_law_drops_here"] (41) (spLawStretch K) := A.u_law_stretch_right.has A.g_law_stretch_right fun _ F => ok_law_stretch_right A.T F ((a_derivation A).mono (by omega)) (a_kderivation A) ((a_is_derivation A).mono (by omega)) (a_kis_derivation A) ((a_law_walked A 8).mono (by omega)) ((a_law_is_lean A 8).mono (by omega)) ((a_law_says A).mono (by omega)) ((a_law_bent A 16).mono (by omega))
theorem a_law_long_right (A : Al K mg) : Has P w K mg base "_law_long_right" (He.ga K "_law_long_right") ["_law_drops_here"] (41) (spLawLong K) := A.u_law_long_right.has A.g_law_long_right fun _ F => ok_law_long_right F A.T ((a_derivation A).mono (by omega)) ((a_is_derivation A).mono (by omega)) ((a_law_says A).mono (by omega))
theorem a_law_pattern_right (A : Al K mg) : Has P w K mg base "_law_pattern_right" (He.ga K "_law_pattern_right") ["_law_cell"] (42) (spLawPattern) := A.u_law_pattern_right.has A.g_law_pattern_right fun _ F => ok_law_pattern_right A.T F ((a_law_drops A).mono (by omega)) ((a_tree_any A).mono (by omega)) ((a_law_text A).mono (by omega)) ((a_law_ends A 8).mono (by omega)) (a_law_stretch_right A) (a_law_long_right A)
end
theorem facts {P : Program} {w : World} {K : PySem.W.Frag} {h : Heap} {mg : Str → Option Value} {f : Addr} (X : K.In h) (G : h.Ns mainGlobals mg) (hfa : mg ("law" : Str) = some (.ref f)) (c : He.SaysD fa fn K) :
    ∃ fd : FuncData, (∀ (s : Shared) (v : Value), BindsTo s fd ⟨[v], []⟩ [("_law_script", v)]) ∧ ∀ base : Heap, K.In base → base.Ns mainGlobals mg → FnOk P w K mg base CX0 43 f fd ["_law_script"] (spLaw K) := by
  have A := al X G c
  obtain ⟨fd, F⟩ := c.def_ 38 (d := d_law) rfl
  have e := hfa.symm.trans A.g_law
  cases e
  have b := FunD.bindsA (ps := ["_law_script"]) F fun _ _ _ _ _ _ us hl => match us, hl with | [_], _ => rfl
  exact ⟨fd, fun s v => b s [v] rfl, fun base _ _ => ok_law A.T F (a_law_pattern_right A)⟩
end Pd
open PySem PySem.W PySem.Calls PyProof.Rows
set_option maxHeartbeats 0 in
theorem PySem.Challenge.cw_patterndeeds_k17_whole_derivations_holds : PySem.Challenge.rw_patterndeeds_k17_whole_derivations.Holds := by
  w_on; o_law
  refine HandSHeadRun.head_any (r := OpenLaw.row PySem.Challenge.rw_patterndeeds_k17_whole_derivations) (q := view (OpenLaw.row PySem.Challenge.rw_patterndeeds_k17_whole_derivations).prog [35]) (H := Pd.hk) (ob := Pd.ob) (M := 3000) (loose := Pd.loose) (d := HandSHeadRun.topDef (OpenLaw.row PySem.Challenge.rw_patterndeeds_k17_whole_derivations).prog 35) (kwd := []) Pd.ob_eq
    (by kernel_rfl) (fun s => by kernel_rfl) Pd.run (by kernel_rfl) (by kernel_rfl) (by kernel_rfl) (by rfl) (by first | assumption | decide +kernel) (by decide +kernel) ⟨rfl, rfl, rfl, rfl, rfl, by decide +kernel⟩ ?hw ?hc
  case hw => w_witness2
  case hc =>
    refine L2.walk_ofE (l := PySem.Challenge.rw_patterndeeds_k17_whole_derivations) (n := 63) (k := 43) (x := "_law_script") (CX := L2.CX0) rfl (by decide) (by kernel_rfl) ⟨rfl, by decide, by decide⟩ ?F (fun _ _ _ _ z => z)
    intro w mg fa h Y G hmg0
    obtain ⟨K, KX, c⟩ := Y
    have hmg : mg ("law" : PySem.Str) = some (.ref fa) := by
      have e : (HandSHeadRun.topDef (OpenLaw.row PySem.Challenge.rw_patterndeeds_k17_whole_derivations).prog 35).name = ("law" : PySem.Str) := by kernel_rfl
      rw [← e]
      exact hmg0
    obtain ⟨fd, hb, hF⟩ := Pd.facts (P := (PySem.Challenge.rw_patterndeeds_k17_whole_derivations).prog) (w := w) KX G hmg c
    exact ⟨K, fd, Pd.spLaw K, KX, hb, fun H a ns hl _ hS => ⟨a, ns, rfl, hS, hl, fun _ => rfl⟩, hF⟩
