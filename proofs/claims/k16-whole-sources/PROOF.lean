import PyProof.Rows.All
import Wide.All
import OpenK.AllK
import Wide.FinOn
import KE.KStateDown
import KE.GoesEnum
import KE.GoesMore
import Lean
import HandS.ForMost
import HandS.Flow
import HandS.IsInst
import HandS.Style
import HandS.Walk
import HandS.TupAny
import HandS.More
import HandS.WordsExc
import HandS.Defaults
import HandS.Head0
import HandS.Head1
import HandS.Head2
import HandS.HeadEnd
import HandS.HeadHook1
import HandS.HeadHook2
import HandS.HeadHook3
import PySem.Challenge.RW_brimful_k16_whole_sources_in_full_memory
set_option Elab.async false
set_option linter.all false
set_option maxRecDepth 100000
set_option maxHeartbeats 4000000
/-! ## M -/
namespace Brim
/-! the plain mathematics of three-cell programs -/

inductive Nd where
  | const (c : Int) | input (k : Nat) | sum (i j : Nat) | prod (i j : Nat) | scaled (c : Int) (i : Nat) | choose (i j l : Nat)

/-- a node that may stand behind n others -/
def Nd.ok (n : Nat) : Nd → Prop
  | .const c => 0 ≤ c ∧ c < 1000000000
  | .input k => k < 60
  | .sum i j => i < n ∧ j < n
  | .prod i j => i < n ∧ j < n
  | .scaled c i => (0 ≤ c ∧ c < 1000000000) ∧ i < n
  | .choose i j l => i < n ∧ j < n ∧ l < n

def SrcOk (ns : List Nd) : Prop := ∀ (i : Nat) (nd : Nd), ns[i]? = some nd → nd.ok i

theorem SrcOk.nil : SrcOk [] := fun i nd h => by simp at h
theorem SrcOk.snoc {ns : List Nd} {nd : Nd} (h : SrcOk ns) (ok : nd.ok ns.length) : SrcOk (ns ++ [nd]) := fun i x e => by
  rcases Nat.lt_trichotomy i ns.length with q | q | q
  · rw [List.getElem?_append_left q] at e
    exact h i x e
  · subst q
    simp at e
    exact e ▸ ok
  · rw [List.getElem?_eq_none (by simp; omega)] at e
    cases e

/-! ### a table built node by node -/
section
variable {α : Type} (f : (Nat → α) → Nd → α) (d : α)
def bstep (xs : List α) (n : Nd) : List α := xs ++ [f (fun i => xs.getD i d) n]
def build (ns : List Nd) : List α := ns.foldl (bstep f d) []
def at_ (ns : List Nd) (i : Nat) : α := (build f d ns).getD i d
theorem build_snoc (ns : List Nd) (n : Nd) : build f d (ns ++ [n]) = build f d ns ++ [f (at_ f d ns) n] := by
  unfold build at_
  rw [List.foldl_append]
  rfl
theorem build_len (ns : List Nd) : (build f d ns).length = ns.length := by
  unfold build
  suffices h : ∀ (ns : List Nd) (xs : List α), (ns.foldl (bstep f d) xs).length = xs.length + ns.length by simpa using h ns []
  intro ns
  induction ns with
  | nil => intro xs; simp
  | cons a r ih =>
    intro xs
    rw [List.foldl_cons, ih]
    unfold bstep
    simp
    omega
theorem build_app (ns ms : List Nd) : ∃ ys, build f d (ns ++ ms) = build f d ns ++ ys := by
  suffices h : ∀ (ms : List Nd) (xs : List α), ∃ ys, ms.foldl (bstep f d) xs = xs ++ ys by
    unfold build
    rw [List.foldl_append]
    exact h ms _
  intro ms
  induction ms with
  | nil => intro xs; exact ⟨[], by simp⟩
  | cons a r ih =>
    intro xs
    obtain ⟨ys, e⟩ := ih (bstep f d xs a)
    refine ⟨f (fun i => xs.getD i d) a :: ys, ?_⟩
    rw [List.foldl_cons, e]
    unfold bstep
    simp
theorem build_take (ns : List Nd) (k : Nat) (hk : k ≤ ns.length) : build f d (ns.take k) = (build f d ns).take k := by
  obtain ⟨ys, e⟩ := build_app f d (ns.take k) (ns.drop k)
  rw [List.take_append_drop] at e
  have hl : (build f d (ns.take k)).length = k := by
    rw [build_len, List.length_take]
    omega
  rw [e, List.take_append_of_le_length (Nat.le_of_eq hl.symm), List.take_of_length_le (Nat.le_of_eq hl)]
theorem at_take (ns : List Nd) {k i : Nat} (hk : k ≤ ns.length) (hi : i < k) : at_ f d (ns.take k) i = at_ f d ns i := by
  unfold at_
  rw [build_take f d ns k hk, List.getD_eq_getElem?_getD, List.getD_eq_getElem?_getD, List.getElem?_take_of_lt hi]
/-- f asks only what stands before -/
def Local (f : (Nat → α) → Nd → α) : Prop := ∀ g g' n nd, Nd.ok n nd → (∀ i, i < n → g i = g' i) → f g nd = f g' nd
theorem at_eq (hf : Local f) {ns : List Nd} (ok : SrcOk ns) {i : Nat} {nd : Nd} (h : ns[i]? = some nd) : at_ f d ns i = f (at_ f d ns) nd := by
  obtain ⟨hl, e⟩ := List.getElem?_eq_some_iff.mp h
  have h1 : ns.take (i + 1) = ns.take i ++ [nd] := by
    rw [List.take_add_one, h]
    rfl
  have h2 : at_ f d ns i = at_ f d (ns.take (i + 1)) i := (at_take f d ns (by omega) (by omega)).symm
  rw [h2, h1]
  have h3 : (build f d (ns.take i)).length = i := by
    rw [build_len, List.length_take]
    omega
  show (build f d (ns.take i ++ [nd])).getD i d = _
  rw [build_snoc, List.getD_eq_getElem?_getD, List.getElem?_append_right (by omega), h3]
  simp
  exact hf _ _ i nd (ok i nd h) fun j hj => at_take f d ns (by omega) hj
theorem build_get {ns : List Nd} {i : Nat} (h : i < ns.length) : (build f d ns)[i]? = some (at_ f d ns i) := by
  unfold at_
  rw [List.getD_eq_getElem?_getD, List.getElem?_eq_getElem (by rw [build_len]; exact h)]
  rfl
end

/-! ### cost -/
def costF (c : Nat → Nat) : Nd → Nat
  | .const _ => 1
  | .input _ => 1
  | .sum i j => c i + c j
  | .prod i j => 2 * (c i + c j)
  | .scaled _ i => c i
  | .choose i j l => c l + 2 * (c i + c j + c l)
def costs (ns : List Nd) : List Nat := build costF 0 ns
def cost (ns : List Nd) (i : Nat) : Nat := at_ costF 0 ns i
theorem costF_local : Local costF := fun g g' n nd ok h => by
  cases nd with
  | const c => rfl
  | input k => rfl
  | sum i j => simp only [costF]; rw [h i ok.1, h j ok.2]
  | prod i j => simp only [costF]; rw [h i ok.1, h j ok.2]
  | scaled c i => simp only [costF]; rw [h i ok.2]
  | choose i j l => simp only [costF]; rw [h i ok.1, h j ok.2.1, h l ok.2.2]

theorem cost_at {ns : List Nd} (ok : SrcOk ns) {i : Nat} {nd : Nd} (h : ns[i]? = some nd) : cost ns i = costF (cost ns) nd := at_eq costF 0 costF_local ok h
theorem costs_snoc (ns : List Nd) (n : Nd) : costs (ns ++ [n]) = costs ns ++ [costF (cost ns) n] := build_snoc costF 0 ns n
theorem costs_len (ns : List Nd) : (costs ns).length = ns.length := build_len costF 0 ns
theorem costs_get {ns : List Nd} {i : Nat} (h : i < ns.length) : (costs ns)[i]? = some (cost ns i) := build_get costF 0 h
theorem cost_take (ns : List Nd) {k i : Nat} (hk : k ≤ ns.length) (hi : i < k) : cost (ns.take k) i = cost ns i := at_take costF 0 ns hk hi

/-! ### needs -/
def need1 (n : Nat) : Nd → Nat
  | .input k => max n (k + 1)
  | _ => n
def needs (ns : List Nd) : Nat := ns.foldl need1 0
theorem need1_ge (n : Nat) (nd : Nd) : n ≤ need1 n nd := by
  cases nd <;> simp only [need1] <;> omega
theorem needs_mono : ∀ (ns : List Nd) (n : Nat), n ≤ ns.foldl need1 n
  | [], _ => Nat.le_refl _
  | a :: r, n => Nat.le_trans (need1_ge n a) (needs_mono r _)
theorem needs_lt {k : Nat} : ∀ (ns : List Nd) (n : Nat), Nd.input k ∈ ns → k < ns.foldl need1 n
  | a :: r, n, h => by
    rcases List.mem_cons.mp h with e | e
    · subst e
      refine Nat.lt_of_lt_of_le ?_ (needs_mono r _)
      simp only [need1]
      omega
    · exact needs_lt r _ e
theorem needs_le {b : Nat} : ∀ (ns : List Nd) (n : Nat), n ≤ b → (∀ k, Nd.input k ∈ ns → k < b) → ns.foldl need1 n ≤ b
  | [], n, h, _ => h
  | a :: r, n, h, hk => by
    refine needs_le r _ ?_ fun k hm => hk k (List.mem_cons_of_mem _ hm)
    cases a with
    | input k => simp only [need1]; have := hk k (List.mem_cons_self ..); omega
    | _ => exact h
theorem SrcOk.input {ns : List Nd} (ok : SrcOk ns) {k : Nat} (h : Nd.input k ∈ ns) : k < 60 := by
  obtain ⟨i, hi, e⟩ := List.getElem_of_mem h
  exact ok i (.input k) (by rw [List.getElem?_eq_getElem hi, e])
theorem needs_60 {ns : List Nd} (ok : SrcOk ns) : needs ns ≤ 60 := needs_le ns 0 (Nat.zero_le _) fun k h => ok.input h

/-! ### values -/
def rawF (given : Nat → Int) (v : Nat → Int) : Nd → Int
  | .const c => c
  | .input k => given k
  | .sum i j => v i + v j
  | .prod i j => v i * v j
  | .scaled c i => c * v i
  | .choose i j l => v l + v i * (v j - v l)
def valF (m : Int) (given : Nat → Int) (v : Nat → Int) (nd : Nd) : Int := rawF given v nd % m
theorem rawF_local (given : Nat → Int) : Local (rawF given) := fun g g' n nd ok h => by
  cases nd with
  | const c => rfl
  | input k => rfl
  | sum i j => simp only [rawF]; rw [h i ok.1, h j ok.2]
  | prod i j => simp only [rawF]; rw [h i ok.1, h j ok.2]
  | scaled c i => simp only [rawF]; rw [h i ok.2]
  | choose i j l => simp only [rawF]; rw [h i ok.1, h j ok.2.1, h l ok.2.2]
theorem valF_local (m : Int) (given : Nat → Int) : Local (valF m given) := fun g g' n nd ok h => by
  unfold valF
  rw [rawF_local given g g' n nd ok h]
def vals (m : Int) (given : Nat → Int) (ns : List Nd) : List Int := build (valF m given) 0 ns
def val (m : Int) (given : Nat → Int) (ns : List Nd) (i : Nat) : Int := at_ (valF m given) 0 ns i
theorem val_at (m : Int) (given : Nat → Int) {ns : List Nd} (ok : SrcOk ns) {i : Nat} {nd : Nd} (h : ns[i]? = some nd) : val m given ns i = rawF given (val m given ns) nd % m := at_eq (valF m given) 0 (valF_local m given) ok h
theorem vals_snoc (m : Int) (given : Nat → Int) (ns : List Nd) (n : Nd) : vals m given (ns ++ [n]) = vals m given ns ++ [rawF given (val m given ns) n % m] := build_snoc (valF m given) 0 ns n
theorem vals_len (m : Int) (given : Nat → Int) (ns : List Nd) : (vals m given ns).length = ns.length := build_len (valF m given) 0 ns
theorem vals_get (m : Int) (given : Nat → Int) {ns : List Nd} {i : Nat} (h : i < ns.length) : (vals m given ns)[i]? = some (val m given ns i) := build_get (valF m given) 0 h
theorem val_take (m : Int) (given : Nat → Int) (ns : List Nd) {k i : Nat} (hk : k ≤ ns.length) (hi : i < k) : val m given (ns.take k) i = val m given ns i := at_take (valF m given) 0 ns hk hi

/-! ### tasks and steps -/
structure Tk where
  node : Nat
  tgt : Nat
  co : Int
  fac : Option Nat
  spare : Nat
inductive Fac where
  | cell (i : Nat) | input (k : Nat)
structure Stp where
  tgt : Nat
  co : Int
  fac : List Fac
def facs (o : Option Nat) : List Fac := o.toList.map Fac.cell
def used (t : Tk) : Nat := t.fac.getD (3 - t.tgt - t.spare)
def passTasks (m : Int) (sign : Int) (first second : List (Int × Nat)) (t : Tk) : List Tk :=
  first.map (fun p => ⟨p.2, t.tgt, sign * p.1 * t.co % m, some t.spare, used t⟩) ++ second.map (fun p => ⟨p.2, t.spare, -sign * p.1 % m, t.fac, t.tgt⟩)
def productTasks (m : Int) (first second : List (Int × Nat)) (t : Tk) : List Tk :=
  passTasks m (-1) first second t ++ passTasks m 1 first second t
def inner (m : Int) (t : Tk) : Nd → List Tk
  | .scaled c i => [⟨i, t.tgt, t.co * c % m, t.fac, t.spare⟩]
  | .sum i j => [⟨i, t.tgt, t.co, t.fac, t.spare⟩, ⟨j, t.tgt, t.co, t.fac, t.spare⟩]
  | .prod i j => productTasks m [(1, i)] [(1, j)] t
  | .choose i j l => ⟨l, t.tgt, t.co, t.fac, t.spare⟩ :: productTasks m [(1, i)] [(1, j), (-1, l)] t
  | _ => []
def leaf (m : Int) (t : Tk) : Nd → Stp
  | .const c => ⟨t.tgt, t.co * c % m, facs t.fac⟩
  | .input k => ⟨t.tgt, t.co, facs t.fac ++ [.input k]⟩
  | _ => ⟨0, 0, []⟩
def isLeaf : Nd → Bool
  | .const _ => true
  | .input _ => true
  | _ => false

structure TkOk (m : Int) (n : Nat) (t : Tk) : Prop where
  node : t.node < n
  tgt : t.tgt < 3
  spare : t.spare < 3
  ne : t.tgt ≠ t.spare
  lo : 0 ≤ t.co
  hi : t.co < m
  fac : ∀ f, t.fac = some f → f < 3 ∧ f ≠ t.tgt ∧ f ≠ t.spare
theorem used_ok {m : Int} {n : Nat} {t : Tk} (h : TkOk m n t) : used t < 3 ∧ used t ≠ t.tgt ∧ used t ≠ t.spare ∧ ∀ f, t.fac = some f → used t = f := by
  unfold used
  cases e : t.fac with
  | none =>
    have := h.tgt; have := h.spare; have := h.ne
    refine ⟨?_, ?_, ?_, fun f q => by cases q⟩ <;> simp only [Option.getD_none] <;> omega
  | some f =>
    obtain ⟨a, b, c⟩ := h.fac f e
    exact ⟨a, b, c, fun g q => by cases q; rfl⟩
theorem TkOk.mono {m : Int} {n n' : Nat} {t : Tk} (h : TkOk m n t) (hn : t.node < n') : TkOk m n' t := ⟨hn, h.tgt, h.spare, h.ne, h.lo, h.hi, h.fac⟩
theorem pass_ok {m : Int} (hm : 0 < m) {n n' : Nat} {t : Tk} (h : TkOk m n t) {first second : List (Int × Nat)} {sign : Int} (h1 : ∀ p ∈ first, p.2 < n') (h2 : ∀ p ∈ second, p.2 < n') :
    ∀ u ∈ passTasks m sign first second t, TkOk m n' u := by
  obtain ⟨u1, u2, u3, u4⟩ := used_ok h
  intro u hu
  unfold passTasks at hu
  rcases List.mem_append.mp hu with hu | hu
  · obtain ⟨p, hp, rfl⟩ := List.mem_map.mp hu
    refine ⟨h1 p hp, h.tgt, u1, fun e => u2 e.symm, Int.emod_nonneg _ (by omega), Int.emod_lt_of_pos _ hm, fun f e => ?_⟩
    cases e
    exact ⟨h.spare, fun e => h.ne e.symm, fun e => u3 e.symm⟩
  · obtain ⟨p, hp, rfl⟩ := List.mem_map.mp hu
    refine ⟨h2 p hp, h.spare, h.tgt, fun e => h.ne e.symm, Int.emod_nonneg _ (by omega), Int.emod_lt_of_pos _ hm, fun f e => ?_⟩
    obtain ⟨a, b, c⟩ := h.fac f e
    exact ⟨a, c, b⟩
theorem product_ok {m : Int} (hm : 0 < m) {n n' : Nat} {t : Tk} (h : TkOk m n t) {first second : List (Int × Nat)} (h1 : ∀ p ∈ first, p.2 < n') (h2 : ∀ p ∈ second, p.2 < n') :
    ∀ u ∈ productTasks m first second t, TkOk m n' u := by
  intro u hu
  unfold productTasks at hu
  rcases List.mem_append.mp hu with hu | hu
  · exact pass_ok hm h h1 h2 u hu
  · exact pass_ok hm h h1 h2 u hu
theorem inner_ok {m : Int} (hm : 0 < m) {n : Nat} {t : Tk} (h : TkOk m n t) {nd : Nd} (ok : nd.ok t.node) : ∀ u ∈ inner m t nd, TkOk m t.node u := by
  intro u hu
  cases nd with
  | const c => simp [inner] at hu
  | input k => simp [inner] at hu
  | scaled c i =>
    simp only [inner, List.mem_singleton] at hu
    subst hu
    exact ⟨ok.2, h.tgt, h.spare, h.ne, Int.emod_nonneg _ (by omega), Int.emod_lt_of_pos _ hm, h.fac⟩
  | sum i j =>
    simp only [inner, List.mem_cons, List.not_mem_nil, or_false] at hu
    rcases hu with rfl | rfl
    · exact ⟨ok.1, h.tgt, h.spare, h.ne, h.lo, h.hi, h.fac⟩
    · exact ⟨ok.2, h.tgt, h.spare, h.ne, h.lo, h.hi, h.fac⟩
  | prod i j =>
    refine product_ok hm h ?_ ?_ u hu
    · intro p hp
      rw [List.mem_singleton.mp hp]
      exact ok.1
    · intro p hp
      rw [List.mem_singleton.mp hp]
      exact ok.2
  | choose i j l =>
    obtain ⟨o1, o2, o3⟩ := ok
    simp only [inner, List.mem_cons] at hu
    rcases hu with rfl | hu
    · exact ⟨o3, h.tgt, h.spare, h.ne, h.lo, h.hi, h.fac⟩
    · refine product_ok hm h ?_ ?_ u hu
      · intro p hp
        rw [List.mem_singleton.mp hp]
        exact o1
      · intro p hp
        simp only [List.mem_cons, List.not_mem_nil, or_false] at hp
        rcases hp with rfl | rfl
        · exact o2
        · exact o3

/-! ### the compiler as a function -/
def comp (m : Int) (ns : List Nd) : Nat → Tk → List Stp
  | 0, _ => []
  | k + 1, t => match ns[t.node]? with
    | none => []
    | some nd => if isLeaf nd then [leaf m t nd] else (inner m t nd).flatMap (comp m ns k)
theorem comp_stable {m : Int} (hm : 0 < m) {ns : List Nd} (ok : SrcOk ns) : ∀ (k k' : Nat) (t : Tk), TkOk m ns.length t → t.node < k → t.node < k' → comp m ns k t = comp m ns k' t
  | 0, _, _, _, h, _ => absurd h (Nat.not_lt_zero _)
  | _ + 1, 0, _, _, _, h => absurd h (Nat.not_lt_zero _)
  | k + 1, k' + 1, t, ht, h, h' => by
    unfold comp
    cases e : ns[t.node]? with
    | none => rfl
    | some nd =>
      simp only
      split
      · rfl
      · have hin := inner_ok hm ht (ok _ _ e)
        have hl := ht.node
        rw [List.flatMap_def, List.flatMap_def]
        congr 1
        refine List.map_congr_left fun u hu => ?_
        have hu' := hin u hu
        have := hu'.node
        exact comp_stable hm ok k k' u (hu'.mono (by omega)) (by omega) (by omega)
def compile (m : Int) (ns : List Nd) (t : Tk) : List Stp := comp m ns (t.node + 1) t
theorem compile_leaf {m : Int} {ns : List Nd} {t : Tk} {nd : Nd} (e : ns[t.node]? = some nd) (hl : isLeaf nd = true) : compile m ns t = [leaf m t nd] := by
  unfold compile comp
  rw [e]
  simp only [hl, if_true]
theorem compile_inner {m : Int} (hm : 0 < m) {ns : List Nd} (ok : SrcOk ns) {t : Tk} (ht : TkOk m ns.length t) {nd : Nd} (e : ns[t.node]? = some nd) (hl : isLeaf nd = false) :
    compile m ns t = (inner m t nd).flatMap (compile m ns) := by
  have hin := inner_ok hm ht (ok _ _ e)
  have h1 := ht.node
  have h0 : compile m ns t = (inner m t nd).flatMap (comp m ns t.node) := by
    unfold compile comp
    rw [e]
    simp only [hl]
    rfl
  rw [h0, List.flatMap_def, List.flatMap_def]
  congr 1
  refine List.map_congr_left fun u hu => ?_
  have hu' := hin u hu
  have := hu'.node
  exact comp_stable hm ok _ _ u (hu'.mono (by omega)) (by omega) (by omega)

/-! ### the number of steps -/
theorem compile_len {m : Int} (hm : 0 < m) {ns : List Nd} (ok : SrcOk ns) : ∀ (k : Nat) (t : Tk), TkOk m ns.length t → t.node < k → (compile m ns t).length = cost ns t.node
  | 0, _, _, h => absurd h (Nat.not_lt_zero _)
  | k + 1, t, ht, h => by
    have hl := ht.node
    have e := List.getElem?_eq_getElem hl
    have ec := cost_at ok e
    have hin := inner_ok hm ht (ok _ _ e)
    have ih : ∀ u ∈ inner m t ns[t.node], (compile m ns u).length = cost ns u.node := fun u hu =>
      compile_len hm ok k u ((hin u hu).mono (by have := (hin u hu).node; omega)) (by have := (hin u hu).node; omega)
    cases hb : isLeaf ns[t.node] with
    | true =>
      rw [compile_leaf e hb]
      show 1 = cost ns t.node
      rw [ec]
      revert hb
      cases ns[t.node] <;> intro hb <;> first | rfl | cases hb
    | false =>
      rw [compile_inner hm ok ht e hb, List.length_flatMap]
      rw [ec]
      revert ih hb
      generalize ns[t.node] = nd
      intro ih hb
      have em : (inner m t nd).map (fun u => (compile m ns u).length) = (inner m t nd).map (fun u => cost ns u.node) := List.map_congr_left ih
      rw [em]
      cases nd with
      | const c => cases hb
      | input k => cases hb
      | sum i j => simp [inner, costF]
      | scaled c i => simp [inner, costF]
      | prod i j =>
        simp [inner, costF, productTasks, passTasks]
        omega
      | choose i j l =>
        simp [inner, costF, productTasks, passTasks]
        omega
theorem cost_pos {ns : List Nd} (ok : SrcOk ns) : ∀ (k i : Nat), i < k → i < ns.length → 1 ≤ cost ns i
  | 0, _, h, _ => absurd h (Nat.not_lt_zero _)
  | k + 1, i, h, hl => by
    have e := List.getElem?_eq_getElem hl
    have hok := ok _ _ e
    rw [cost_at ok e]
    revert hok
    cases ns[i] with
    | const c => intro _; exact Nat.le_refl _
    | input k => intro _; exact Nat.le_refl _
    | sum a b => intro o; have := cost_pos ok k a (by have := o.1; omega) (by have := o.1; omega); simp only [costF]; omega
    | scaled c a => intro o; have := cost_pos ok k a (by have := o.2; omega) (by have := o.2; omega); simp only [costF]; omega
    | prod a b => intro o; have := cost_pos ok k a (by have := o.1; omega) (by have := o.1; omega); simp only [costF]; omega
    | choose a b l => intro o; have := cost_pos ok k a (by have := o.1; omega) (by have := o.1; omega); simp only [costF]; omega

/-! ### how many turns the tasks take -/
def wt (l : List Tk) : Nat := (l.map fun t => 8 ^ t.node).sum
theorem wt_app (a b : List Tk) : wt (a ++ b) = wt a + wt b := by
  unfold wt
  rw [List.map_append, List.sum_append]
theorem wt_rev (a : List Tk) : wt a.reverse = wt a := by
  unfold wt
  rw [List.map_reverse, List.sum_reverse]
theorem wt_one (t : Tk) : wt [t] = 8 ^ t.node := by simp [wt]
theorem wt_lt8 {n : Nat} : ∀ (l : List Tk), (∀ u ∈ l, u.node < n) → wt l * 8 ≤ l.length * 8 ^ n
  | [], _ => by simp [wt]
  | a :: r, h => by
    have h1 := wt_lt8 r fun u hu => h u (List.mem_cons_of_mem _ hu)
    have h2 : 8 ^ a.node * 8 ≤ 8 ^ n := by
      rw [← Nat.pow_succ]
      exact Nat.pow_le_pow_right (by decide) (h a (List.mem_cons_self ..))
    have e : wt (a :: r) = 8 ^ a.node + wt r := by simp [wt]
    rw [e, List.length_cons, Nat.add_mul, Nat.add_mul]
    omega
theorem inner_len (m : Int) (t : Tk) (nd : Nd) : (inner m t nd).length ≤ 7 := by
  cases nd <;> simp [inner, productTasks, passTasks]
theorem wt_inner {m : Int} (hm : 0 < m) {n : Nat} {t : Tk} (h : TkOk m n t) {nd : Nd} (ok : nd.ok t.node) : wt (inner m t nd) < 8 ^ t.node := by
  have h1 := wt_lt8 (n := t.node) (inner m t nd) fun u hu => (inner_ok hm h ok u hu).node
  have h2 := inner_len m t nd
  have h3 : (inner m t nd).length * 8 ^ t.node ≤ 7 * 8 ^ t.node := Nat.mul_le_mul_right _ h2
  have h4 : 0 < 8 ^ t.node := Nat.pow_pos (by decide)
  omega

/-! ### what the steps do -/
def look (g M : Nat → Int) : Fac → Int
  | .cell i => M i
  | .input k => g k
def total (m : Int) (g M : Nat → Int) (s : Stp) : Int := s.fac.foldl (fun t f => t * look g M f % m) s.co
def add (m : Int) (c : Nat) (A : Int) (M : Nat → Int) : Nat → Int := fun x => if x = c then (M x + A) % m else M x
def exec (m : Int) (g : Nat → Int) (M : Nat → Int) (s : Stp) : Nat → Int := add m s.tgt (total m g M s) M
def execs (m : Int) (g : Nat → Int) (l : List Stp) (M : Nat → Int) : Nat → Int := l.foldl (exec m g) M
theorem execs_app (m : Int) (g : Nat → Int) (a b : List Stp) (M : Nat → Int) : execs m g (a ++ b) M = execs m g b (execs m g a M) := by
  unfold execs
  rw [List.foldl_append]
def Rng (m : Int) (M : Nat → Int) : Prop := ∀ x, 0 ≤ M x ∧ M x < m
def Cg (m a b : Int) : Prop := a % m = b % m
theorem Cg.rfl {m a : Int} : Cg m a a := Eq.refl _
theorem Cg.of {m a b : Int} (h : a = b) : Cg m a b := h ▸ Eq.refl _
theorem Cg.symm {m a b : Int} (h : Cg m a b) : Cg m b a := Eq.symm h
theorem Cg.trans {m a b c : Int} (h : Cg m a b) (h' : Cg m b c) : Cg m a c := Eq.trans h h'
theorem Cg.mod (m a : Int) : Cg m (a % m) a := Int.emod_emod_of_dvd _ (Int.dvd_refl m)
theorem Cg.add {m a b c d : Int} (h : Cg m a b) (h' : Cg m c d) : Cg m (a + c) (b + d) := by
  unfold Cg at *
  rw [Int.add_emod, h, h', ← Int.add_emod]
theorem Cg.mul {m a b c d : Int} (h : Cg m a b) (h' : Cg m c d) : Cg m (a * c) (b * d) := by
  unfold Cg at *
  rw [Int.mul_emod, h, h', ← Int.mul_emod]
theorem Rng.add {m : Int} (hm : 0 < m) {M : Nat → Int} (r : Rng m M) (c : Nat) (A : Int) : Rng m (add m c A M) := fun x => by
  unfold Brim.add
  split
  · exact ⟨Int.emod_nonneg _ (by omega), Int.emod_lt_of_pos _ hm⟩
  · exact r x
theorem add_cg {m A B : Int} (h : Cg m A B) (c : Nat) (M : Nat → Int) : add m c A M = add m c B M := by
  funext x
  unfold add
  split
  · exact Cg.add Cg.rfl h
  · rfl
theorem add_add (m A B : Int) (c : Nat) (M : Nat → Int) : add m c B (add m c A M) = add m c (A + B) M := by
  funext x
  unfold add
  by_cases h : x = c
  · rw [if_pos h, if_pos h, if_pos h]
    exact Cg.trans (Cg.add (Cg.mod _ _) Cg.rfl) (Cg.of (by omega))
  · rw [if_neg h, if_neg h, if_neg h]
theorem add_comm (m A B : Int) {c d : Nat} (h : c ≠ d) (M : Nat → Int) : add m c A (add m d B M) = add m d B (add m c A M) := by
  funext x
  unfold add
  by_cases h1 : x = c
  · subst h1
    rw [if_pos rfl, if_neg h, if_neg h, if_pos rfl]
  · rw [if_neg h1]
    by_cases h2 : x = d
    · rw [if_pos h2, if_pos h2, if_neg h1]
    · rw [if_neg h2, if_neg h2, if_neg h1]
theorem add_zero {m : Int} {M : Nat → Int} (r : Rng m M) (c : Nat) : add m c 0 M = M := by
  funext x
  unfold add
  split
  · rw [Int.add_zero]
    exact Int.emod_eq_of_lt (r x).1 (r x).2
  · rfl
theorem add_at (m : Int) (c : Nat) (A : Int) (M : Nat → Int) : add m c A M c = (M c + A) % m := by unfold add; rw [if_pos rfl]
theorem add_off (m : Int) {c d : Nat} (h : d ≠ c) (A : Int) (M : Nat → Int) : add m c A M d = M d := by unfold add; rw [if_neg h]

/-- the factor of a task, in a memory -/
def fv (M : Nat → Int) : Option Nat → Int
  | none => 1
  | some f => M f
theorem fv_add (m : Int) {c : Nat} {o : Option Nat} (h : ∀ f, o = some f → f ≠ c) (A : Int) (M : Nat → Int) : fv (add m c A M) o = fv M o := by
  cases o with
  | none => rfl
  | some f => exact add_off m (h f rfl) A M
section
variable {m : Int} {ns : List Nd} {g : Nat → Int}
/-- what a task does -/
def Does (m : Int) (ns : List Nd) (g : Nat → Int) (t : Tk) : Prop := ∀ M, Rng m M → execs m g (compile m ns t) M = add m t.tgt (t.co * val m g ns t.node * fv M t.fac) M
/-- a list of signed parts to one cell -/
def wsum (v : Nat → Int) : List (Int × Nat) → Int
  | [] => 0
  | p :: r => p.1 * v p.2 + wsum v r
theorem parts_do (hm : 0 < m) {c b : Nat} {o : Option Nat} (ho : ∀ f, o = some f → f ≠ c) (sg : Int) : ∀ (ps : List (Int × Nat)), (∀ p ∈ ps, Does m ns g ⟨p.2, c, sg * p.1 % m, o, b⟩) → ∀ M, Rng m M →
    execs m g ((ps.map fun p => (⟨p.2, c, sg * p.1 % m, o, b⟩ : Tk)).flatMap (compile m ns)) M = add m c (sg * wsum (val m g ns) ps * fv M o) M
  | [], _, M, r => by
    show M = add m c (sg * 0 * fv M o) M
    rw [Int.mul_zero, Int.zero_mul, add_zero r]
  | p :: ps, h, M, r => by
    rw [List.map_cons, List.flatMap_cons, execs_app, h p (List.mem_cons_self ..) M r]
    rw [parts_do hm ho sg ps (fun q hq => h q (List.mem_cons_of_mem _ hq)) _ (r.add hm _ _), add_add]
    refine add_cg ?_ c M
    show Cg m (sg * p.1 % m * val m g ns p.2 * fv M o + sg * wsum (val m g ns) ps * fv (add m c _ M) o) (sg * (p.1 * val m g ns p.2 + wsum (val m g ns) ps) * fv M o)
    rw [fv_add m ho]
    refine Cg.trans (Cg.add (Cg.mul (Cg.mul (Cg.mod _ _) Cg.rfl) Cg.rfl) Cg.rfl) (Cg.of ?_)
    grind
theorem first_do {c : Nat} (hm : 0 < m) {s b : Nat} (hs : s ≠ c) (sg co : Int) (ps : List (Int × Nat)) (h : ∀ p ∈ ps, Does m ns g ⟨p.2, c, sg * p.1 * co % m, some s, b⟩) : ∀ M, Rng m M →
    execs m g ((ps.map fun p => (⟨p.2, c, sg * p.1 * co % m, some s, b⟩ : Tk)).flatMap (compile m ns)) M = add m c (sg * co * wsum (val m g ns) ps * M s) M := by
  induction ps with
  | nil =>
    intro M r
    show M = add m c (sg * co * 0 * M s) M
    rw [Int.mul_zero, Int.zero_mul, add_zero r]
  | cons p ps ih =>
    intro M r
    rw [List.map_cons, List.flatMap_cons, execs_app, h p (List.mem_cons_self ..) M r]
    rw [ih (fun q hq => h q (List.mem_cons_of_mem _ hq)) _ (r.add hm _ _), add_add]
    refine add_cg ?_ c M
    show Cg m (sg * p.1 * co % m * val m g ns p.2 * M s + sg * co * wsum (val m g ns) ps * (add m c _ M s)) (sg * co * (p.1 * val m g ns p.2 + wsum (val m g ns) ps) * M s)
    rw [add_off m hs]
    refine Cg.trans (Cg.add (Cg.mul (Cg.mul (Cg.mod _ _) Cg.rfl) Cg.rfl) Cg.rfl) (Cg.of ?_)
    grind
theorem product_do (hm : 0 < m) {n : Nat} {t : Tk} (ht : TkOk m n t) {first second : List (Int × Nat)} (h : ∀ u ∈ productTasks m first second t, Does m ns g u) : ∀ M, Rng m M →
    execs m g ((productTasks m first second t).flatMap (compile m ns)) M = add m t.tgt (t.co * (wsum (val m g ns) first * wsum (val m g ns) second) * fv M t.fac) M := by
  intro M r
  obtain ⟨u1, u2, u3, u4⟩ := used_ok ht
  have f1 : ∀ f, t.fac = some f → f ≠ t.tgt := fun f e => (ht.fac f e).2.1
  have f2 : ∀ f, t.fac = some f → f ≠ t.spare := fun f e => (ht.fac f e).2.2
  have hA : ∀ sg : Int, (∀ u ∈ passTasks m sg first second t, Does m ns g u) → ∀ M, Rng m M → execs m g ((passTasks m sg first second t).flatMap (compile m ns)) M =
      add m t.spare (-sg * wsum (val m g ns) second * fv M t.fac) (add m t.tgt (sg * t.co * wsum (val m g ns) first * M t.spare) M) := by
    intro sg hu M r
    unfold passTasks at hu ⊢
    rw [List.flatMap_append, execs_app]
    rw [first_do hm (fun e => ht.ne e.symm) sg t.co first (fun p hp => hu _ (List.mem_append_left _ (List.mem_map.mpr ⟨p, hp, rfl⟩))) M r]
    rw [parts_do hm f2 (-sg) second (fun p hp => hu _ (List.mem_append_right _ (List.mem_map.mpr ⟨p, hp, rfl⟩))) _ (r.add hm _ _), fv_add m f1]
  unfold productTasks at h ⊢
  rw [List.flatMap_append, execs_app]
  rw [hA (-1) (fun u hu => h u (List.mem_append_left _ hu)) M r]
  rw [hA 1 (fun u hu => h u (List.mem_append_right _ hu)) _ ((r.add hm _ _).add hm _ _)]
  generalize wsum (val m g ns) first = V at *
  generalize wsum (val m g ns) second = W at *
  rw [fv_add m f2, fv_add m f1, add_at, add_off m (fun e => ht.ne e.symm)]
  rw [add_comm m _ _ ht.ne, add_add, add_add]
  rw [add_cg (show Cg m (- -1 * W * fv M t.fac + -1 * W * fv M t.fac) 0 from Cg.of (by grind)), add_zero ((r.add hm _ _))]
  refine add_cg ?_ _ M
  refine Cg.trans (Cg.add Cg.rfl (Cg.mul Cg.rfl (Cg.mod _ _))) (Cg.of ?_)
  grind
theorem does (hm : 0 < m) (ok : SrcOk ns) : ∀ (k : Nat) (t : Tk), TkOk m ns.length t → t.node < k → Does m ns g t
  | 0, _, _, h => absurd h (Nat.not_lt_zero _)
  | k + 1, t, ht, h => by
    intro M r
    have hl := ht.node
    have e := List.getElem?_eq_getElem hl
    have ev := val_at m g ok e
    have hin := inner_ok hm ht (ok _ _ e)
    have ih : ∀ u ∈ inner m t ns[t.node], Does m ns g u := fun u hu =>
      does hm ok k u ((hin u hu).mono (by have := (hin u hu).node; omega)) (by have := (hin u hu).node; omega)
    have ex : isLeaf ns[t.node] = true ∨ isLeaf ns[t.node] = false := by cases isLeaf ns[t.node] <;> simp
    rcases ex with hb | hb
    · rw [compile_leaf e hb, ev]
      show add m (leaf m t ns[t.node]).tgt (total m g M (leaf m t ns[t.node])) M = _
      revert hb
      generalize ns[t.node] = nd
      intro hb
      cases nd with
      | const c =>
        refine add_cg ?_ t.tgt M
        refine Cg.trans ?_ (Cg.mul (Cg.mul Cg.rfl (Cg.mod m c).symm) Cg.rfl)
        show Cg m ((facs t.fac).foldl (fun a f => a * look g M f % m) (t.co * c % m)) (t.co * c * fv M t.fac)
        cases t.fac with
        | none =>
          show Cg m (t.co * c % m) (t.co * c * 1)
          rw [Int.mul_one]
          exact Cg.mod _ _
        | some f =>
          show Cg m ((t.co * c % m) * M f % m) (t.co * c * M f)
          exact Cg.trans (Cg.mod _ _) (Cg.mul (Cg.mod _ _) Cg.rfl)
      | input k =>
        refine add_cg ?_ t.tgt M
        refine Cg.trans ?_ (Cg.mul (Cg.mul Cg.rfl (Cg.mod m (g k)).symm) Cg.rfl)
        show Cg m ((facs t.fac ++ [Fac.input k]).foldl (fun a f => a * look g M f % m) t.co) (t.co * g k * fv M t.fac)
        cases t.fac with
        | none =>
          show Cg m (t.co * g k % m) (t.co * g k * 1)
          rw [Int.mul_one]
          exact Cg.mod _ _
        | some f =>
          show Cg m ((t.co * M f % m) * g k % m) (t.co * g k * M f)
          refine Cg.trans (Cg.mod _ _) (Cg.trans (Cg.mul (Cg.mod _ _) Cg.rfl) (Cg.of ?_))
          grind
      | sum i j => cases hb
      | prod i j => cases hb
      | scaled c i => cases hb
      | choose i j l => cases hb
    · rw [compile_inner hm ok ht e hb, ev]
      revert ih hb
      generalize ns[t.node] = nd
      intro ih hb
      have f1 : ∀ f, t.fac = some f → f ≠ t.tgt := fun f e => (ht.fac f e).2.1
      have cgm : ∀ X : Int, Cg m (t.co * X * fv M t.fac) (t.co * (X % m) * fv M t.fac) := fun X => Cg.mul (Cg.mul Cg.rfl (Cg.mod m X).symm) Cg.rfl
      cases nd with
      | const c => cases hb
      | input k => cases hb
      | scaled c i =>
        show execs m g (compile m ns ⟨i, t.tgt, t.co * c % m, t.fac, t.spare⟩ ++ []) M = _
        rw [List.append_nil, ih _ (List.mem_singleton.mpr rfl) M r]
        refine add_cg (Cg.trans ?_ (cgm _)) t.tgt M
        refine Cg.trans (Cg.mul (Cg.mul (Cg.mod _ _) Cg.rfl) Cg.rfl) (Cg.of ?_)
        show t.co * c * val m g ns i * fv M t.fac = t.co * (c * val m g ns i) * fv M t.fac
        grind
      | sum i j =>
        show execs m g (compile m ns ⟨i, t.tgt, t.co, t.fac, t.spare⟩ ++ (compile m ns ⟨j, t.tgt, t.co, t.fac, t.spare⟩ ++ [])) M = _
        rw [List.append_nil, execs_app, ih _ (List.mem_cons_self ..) M r]
        rw [ih _ (List.mem_cons_of_mem _ (List.mem_singleton.mpr rfl)) _ (r.add hm _ _), add_add]
        show add m t.tgt (t.co * val m g ns i * fv M t.fac + t.co * val m g ns j * fv (add m t.tgt _ M) t.fac) M = _
        rw [fv_add m f1]
        refine add_cg (Cg.trans ?_ (cgm _)) t.tgt M
        refine Cg.of ?_
        show _ = t.co * (val m g ns i + val m g ns j) * fv M t.fac
        grind
      | prod i j =>
        show execs m g ((productTasks m [(1, i)] [(1, j)] t).flatMap (compile m ns)) M = _
        rw [product_do hm ht ih M r]
        refine add_cg (Cg.trans ?_ (cgm _)) t.tgt M
        refine Cg.of ?_
        show t.co * ((1 * val m g ns i + 0) * (1 * val m g ns j + 0)) * fv M t.fac = t.co * (val m g ns i * val m g ns j) * fv M t.fac
        grind
      | choose i j l =>
        show execs m g (compile m ns ⟨l, t.tgt, t.co, t.fac, t.spare⟩ ++ (productTasks m [(1, i)] [(1, j), (-1, l)] t).flatMap (compile m ns)) M = _
        rw [execs_app, ih _ (List.mem_cons_self ..) M r]
        rw [product_do hm ht (fun u hu => ih u (List.mem_cons_of_mem _ hu)) _ (r.add hm _ _), add_add]
        show add m t.tgt (t.co * val m g ns l * fv M t.fac + t.co * _ * fv (add m t.tgt _ M) t.fac) M = _
        rw [fv_add m f1]
        refine add_cg (Cg.trans ?_ (cgm _)) t.tgt M
        refine Cg.of ?_
        show t.co * val m g ns l * fv M t.fac + t.co * ((1 * val m g ns i + 0) * (1 * val m g ns j + (-1 * val m g ns l + 0))) * fv M t.fac = t.co * (val m g ns l + val m g ns i * (val m g ns j - val m g ns l)) * fv M t.fac
        grind
end

/-! ### the steps are steps -/
def FacOk (tgt q : Nat) : Fac → Prop
  | .cell i => i < 3 ∧ i ≠ tgt
  | .input k => k < q
structure StpOk (m : Int) (q : Nat) (s : Stp) : Prop where
  tgt : s.tgt < 3
  lo : 0 ≤ s.co
  hi : s.co < m
  len : s.fac.length ≤ 3
  fac : ∀ f ∈ s.fac, FacOk s.tgt q f
theorem facs_len (o : Option Nat) : (facs o).length ≤ 1 := by cases o <;> simp [facs]
theorem facs_ok {m : Int} {n : Nat} {t : Tk} (h : TkOk m n t) (q : Nat) : ∀ f ∈ facs t.fac, FacOk t.tgt q f := by
  intro f hf
  unfold facs at hf
  cases e : t.fac with
  | none => rw [e] at hf; simp at hf
  | some i =>
    rw [e] at hf
    simp at hf
    subst hf
    exact ⟨(h.fac i e).1, (h.fac i e).2.1⟩
theorem leaf_ok {m : Int} (hm : 0 < m) {n : Nat} {t : Tk} (h : TkOk m n t) {nd : Nd} (hl : isLeaf nd = true) {q : Nat} (hq : ∀ k, nd = .input k → k < q) : StpOk m q (leaf m t nd) := by
  have hf := facs_len t.fac
  cases nd with
  | const c => exact ⟨h.tgt, Int.emod_nonneg _ (by omega), Int.emod_lt_of_pos _ hm, Nat.le_trans hf (by decide), facs_ok h q⟩
  | input k =>
    refine ⟨h.tgt, h.lo, h.hi, ?_, ?_⟩
    · show (facs t.fac ++ [Fac.input k]).length ≤ 3
      rw [List.length_append, List.length_singleton]
      omega
    · intro f hf
      rcases List.mem_append.mp (show f ∈ facs t.fac ++ [Fac.input k] from hf) with z | z
      · exact facs_ok h q f z
      · rw [List.mem_singleton.mp z]
        exact hq k rfl
  | sum i j => cases hl
  | prod i j => cases hl
  | scaled c i => cases hl
  | choose i j l => cases hl
theorem leaf_at {m : Int} (hm : 0 < m) {ns : List Nd} {t : Tk} (h : TkOk m ns.length t) {nd : Nd} (e : ns[t.node]? = some nd) (hl : isLeaf nd = true) : StpOk m (needs ns) (leaf m t nd) :=
  leaf_ok hm h hl fun k z => needs_lt ns 0 (z ▸ List.mem_of_getElem? e)
end Brim
/-! ## B0 -/
namespace Brim
open PySem PySem.Spec PyProof.Rows L2
/-! ### the text by places -/
def topS (i : Nat) : Stmt := PySem.Challenge.pw_brimful_k16_whole_sources_in_full_memory.main.body.getD i (.Pass ⟨0, 0, 0, 0⟩)
abbrev sIsInteger : Stmt := topS 8
theorem scIsInteger : FnScope ["value"] ["value"] (defScope sIsInteger) := ⟨rfl, rfl, rfl, by decide +kernel, rfl, by decide +kernel, by decide +kernel⟩
abbrev sIsNumber : Stmt := topS 9
theorem scIsNumber : FnScope ["value", "modulus"] ["value", "modulus"] (defScope sIsNumber) := ⟨rfl, rfl, rfl, by decide +kernel, rfl, by decide +kernel, by decide +kernel⟩
abbrev sIsFactor : Stmt := topS 16
theorem scIsFactor : FnScope ["factor", "target", "cells", "inputs"] ["factor", "target", "cells", "inputs"] (defScope sIsFactor) := ⟨rfl, rfl, rfl, by decide +kernel, rfl, by decide +kernel, by decide +kernel⟩
abbrev sIsAdd : Stmt := topS 18
theorem scIsAdd : FnScope ["step", "modulus", "cells", "inputs", "_", "target", "coefficient", "factors", "factor"] ["step", "modulus", "cells", "inputs"] (defScope sIsAdd) := ⟨rfl, rfl, rfl, by decide +kernel, rfl, by decide +kernel, by decide +kernel⟩
abbrev sIsStep : Stmt := topS 20
theorem scIsStep : FnScope ["step", "modulus", "cells", "inputs"] ["step", "modulus", "cells", "inputs"] (defScope sIsStep) := ⟨rfl, rfl, rfl, by decide +kernel, rfl, by decide +kernel, by decide +kernel⟩
abbrev sPerform : Stmt := topS 22
theorem scPerform : FnScope ["step", "memory", "given", "modulus", "total", "kind", "index", "kept", "value"] ["step", "memory", "given", "modulus"] (defScope sPerform) := ⟨rfl, rfl, rfl, by decide +kernel, rfl, by decide +kernel, by decide +kernel⟩
abbrev sCheckSteps : Stmt := topS 23
theorem scCheckSteps : FnScope ["steps", "modulus", "cells", "inputs", "most", "looks", "step"] ["steps", "modulus", "cells", "inputs", "most"] (defScope sCheckSteps) := ⟨rfl, rfl, rfl, by decide +kernel, rfl, by decide +kernel, by decide +kernel⟩
abbrev sCheckNumbers : Stmt := topS 29
theorem scCheckNumbers : FnScope ["values", "many", "modulus", "value"] ["values", "many", "modulus"] (defScope sCheckNumbers) := ⟨rfl, rfl, rfl, by decide +kernel, rfl, by decide +kernel, by decide +kernel⟩
abbrev sPInit : Stmt := inClass (topS 30) 0
theorem scPInit : FnScope ["self", "modulus", "cells", "inputs", "steps"] ["self", "modulus", "cells", "inputs", "steps"] (defScope sPInit) := ⟨rfl, rfl, rfl, by decide +kernel, rfl, by decide +kernel, by decide +kernel⟩
abbrev sPLen : Stmt := inClass (topS 30) 1
theorem scPLen : FnScope ["self"] ["self"] (defScope sPLen) := ⟨rfl, rfl, rfl, by decide +kernel, rfl, by decide +kernel, by decide +kernel⟩
abbrev sPRun : Stmt := inClass (topS 30) 4
theorem scPRun : FnScope ["self", "memory", "given", "cells", "step"] ["self", "memory", "given"] (defScope sPRun) := ⟨rfl, rfl, rfl, by decide +kernel, rfl, by decide +kernel, by decide +kernel⟩
abbrev sIsNode : Stmt := topS 36
theorem scIsNode : FnScope ["node", "at", "index"] ["node", "at"] (defScope sIsNode) := ⟨rfl, rfl, rfl, by decide +kernel, rfl, by decide +kernel, by decide +kernel⟩
abbrev sCheckSource : Stmt := topS 37
theorem scCheckSource : FnScope ["source", "at", "node"] ["source"] (defScope sCheckSource) := ⟨rfl, rfl, rfl, by decide +kernel, rfl, by decide +kernel, by decide +kernel⟩
abbrev sNeeds : Stmt := topS 38
theorem scNeeds : FnScope ["source", "many", "node"] ["source"] (defScope sNeeds) := ⟨rfl, rfl, rfl, by decide +kernel, rfl, by decide +kernel, by decide +kernel⟩
abbrev sCost : Stmt := topS 39
theorem scCost : FnScope ["source", "costs", "node", "third"] ["source"] (defScope sCost) := ⟨rfl, rfl, rfl, by decide +kernel, rfl, by decide +kernel, by decide +kernel⟩
abbrev sLeafStep : Stmt := topS 42
theorem scLeafStep : FnScope ["node", "task", "modulus", "_", "target", "coefficient", "factors"] ["node", "task", "modulus"] (defScope sLeafStep) := ⟨rfl, rfl, rfl, by decide +kernel, rfl, by decide +kernel, by decide +kernel⟩
abbrev sProductTasks : Stmt := topS 43
theorem scProductTasks : FnScope ["first", "second", "task", "modulus", "_", "target", "coefficient", "factors", "spare", "used", "through", "tasks", "passes", "sign", "part", "node"] ["first", "second", "task", "modulus"] (defScope sProductTasks) := ⟨rfl, rfl, rfl, by decide +kernel, rfl, by decide +kernel, by decide +kernel⟩
abbrev sInnerTasks : Stmt := topS 44
theorem scInnerTasks : FnScope ["node", "task", "modulus", "_", "target", "coefficient", "factors", "spare", "alone", "both", "part"] ["node", "task", "modulus"] (defScope sInnerTasks) := ⟨rfl, rfl, rfl, by decide +kernel, rfl, by decide +kernel, by decide +kernel⟩
abbrev sCompileSource : Stmt := topS 45
theorem scCompileSource : FnScope ["source", "modulus", "total", "empty", "steps", "tasks", "task", "node"] ["source", "modulus"] (defScope sCompileSource) := ⟨rfl, rfl, rfl, by decide +kernel, rfl, by decide +kernel, by decide +kernel⟩
abbrev sLawMixed : Stmt := topS 47
theorem scLawMixed : FnScope ["_law_number_here", "_law_k", "_law_step"] ["_law_number_here", "_law_k"] (defScope sLawMixed) := ⟨rfl, rfl, rfl, by decide +kernel, rfl, by decide +kernel, by decide +kernel⟩
abbrev sLawNumbers : Stmt := topS 48
theorem scLawNumbers : FnScope ["_law_script", "_law_numbers_here", "_law_cell", "_law_rest", "_law_k"] ["_law_script"] (defScope sLawNumbers) := ⟨rfl, rfl, rfl, by decide +kernel, rfl, by decide +kernel, by decide +kernel⟩
abbrev sLawDraw : Stmt := topS 49
theorem scLawDraw : FnScope ["_law_draws", "_law_at", "_law_first"] ["_law_draws"] (defScope sLawDraw) := ⟨rfl, rfl, rfl, by decide +kernel, rfl, by decide +kernel, by decide +kernel⟩
abbrev sLawEqual : Stmt := topS 50
theorem scLawEqual : FnScope ["_law_actual", "_law_due"] ["_law_actual", "_law_due"] (defScope sLawEqual) := ⟨rfl, rfl, rfl, by decide +kernel, rfl, by decide +kernel, by decide +kernel⟩
abbrev sLawAllEqual : Stmt := topS 51
theorem scLawAllEqual : FnScope ["_law_actual", "_law_due", "_law_k"] ["_law_actual", "_law_due"] (defScope sLawAllEqual) := ⟨rfl, rfl, rfl, by decide +kernel, rfl, by decide +kernel, by decide +kernel⟩
abbrev sLawLarge : Stmt := topS 52
theorem scLawLarge : FnScope ["_law_draws", "_law_bound", "_law_number_here"] ["_law_draws", "_law_bound"] (defScope sLawLarge) := ⟨rfl, rfl, rfl, by decide +kernel, rfl, by decide +kernel, by decide +kernel⟩
abbrev sLawModulus : Stmt := topS 53
theorem scLawModulus : FnScope ["_law_draws", "_law_pick"] ["_law_draws"] (defScope sLawModulus) := ⟨rfl, rfl, rfl, by decide +kernel, rfl, by decide +kernel, by decide +kernel⟩
abbrev sLawNumber : Stmt := topS 54
theorem scLawNumber : FnScope ["_law_draws", "_law_modulus_here", "_law_pick"] ["_law_draws", "_law_modulus_here"] (defScope sLawNumber) := ⟨rfl, rfl, rfl, by decide +kernel, rfl, by decide +kernel, by decide +kernel⟩
abbrev sLawConstant : Stmt := topS 55
theorem scLawConstant : FnScope ["_law_draws", "_law_pick"] ["_law_draws"] (defScope sLawConstant) := ⟨rfl, rfl, rfl, by decide +kernel, rfl, by decide +kernel, by decide +kernel⟩
abbrev sLawLeaf : Stmt := topS 56
theorem scLawLeaf : FnScope ["_law_draws", "_law_number_here"] ["_law_draws"] (defScope sLawLeaf) := ⟨rfl, rfl, rfl, by decide +kernel, rfl, by decide +kernel, by decide +kernel⟩
abbrev sLawNode : Stmt := topS 57
theorem scLawNode : FnScope ["_law_draws", "_law_costs", "_law_most", "_law_many", "_law_pick", "_law_i", "_law_j", "_law_l", "_law_node_here", "_law_price"] ["_law_draws", "_law_costs", "_law_most"] (defScope sLawNode) := ⟨rfl, rfl, rfl, by decide +kernel, rfl, by decide +kernel, by decide +kernel⟩
abbrev sLawSource : Stmt := topS 58
theorem scLawSource : FnScope ["_law_draws", "_law_most", "_law_nodes", "_law_costs", "_law_many", "_law_k", "_law_pair"] ["_law_draws", "_law_most"] (defScope sLawSource) := ⟨rfl, rfl, rfl, by decide +kernel, rfl, by decide +kernel, by decide +kernel⟩
abbrev sLawNeeds : Stmt := topS 59
theorem scLawNeeds : FnScope ["_law_source_here", "_law_most", "_law_node_here"] ["_law_source_here"] (defScope sLawNeeds) := ⟨rfl, rfl, rfl, by decide +kernel, rfl, by decide +kernel, by decide +kernel⟩
abbrev sLawValues : Stmt := topS 60
theorem scLawValues : FnScope ["_law_source_here", "_law_modulus_here", "_law_given", "_law_values_here", "_law_node_here", "_law_value"] ["_law_source_here", "_law_modulus_here", "_law_given"] (defScope sLawValues) := ⟨rfl, rfl, rfl, by decide +kernel, rfl, by decide +kernel, by decide +kernel⟩
abbrev sLawMeaning : Stmt := topS 61
theorem scLawMeaning : FnScope ["_law_source_here", "_law_modulus_here", "_law_given"] ["_law_source_here", "_law_modulus_here", "_law_given"] (defScope sLawMeaning) := ⟨rfl, rfl, rfl, by decide +kernel, rfl, by decide +kernel, by decide +kernel⟩
abbrev sLawForm : Stmt := topS 62
theorem scLawForm : FnScope ["_law_program", "_law_modulus_here", "_law_many", "_law_price", "_law_step"] ["_law_program", "_law_modulus_here", "_law_many", "_law_price"] (defScope sLawForm) := ⟨rfl, rfl, rfl, by decide +kernel, rfl, by decide +kernel, by decide +kernel⟩
abbrev sLaw : Stmt := topS 63
theorem scLaw : FnScope ["_law_script", "_law_draws", "_law_most", "_law_pair", "_law_source_here", "_law_modulus_here", "_law_program", "_law_turn", "_law_given", "_law_memory", "_law_value", "_law_due", "_law_k"] ["_law_script"] (defScope sLaw) := ⟨rfl, rfl, rfl, by decide +kernel, rfl, by decide +kernel, by decide +kernel⟩
end Brim
/-! ## B1 -/
namespace Brim
open PySem PySem.Spec PyProof.Rows L2
/-! ### short words: a def that may be called -/
/-- a def of the text, under its name -/
structure Df (K : PySem.W.Frag) (mg : Str → Option Value) (x : Str) (st : Stmt) (ps : List Str) : Prop where
  ex : ∃ (f : Addr) (fd : FuncData), Fun K x x st f fd ∧ mg x = some (.ref f) ∧ Binds K fd ps []
/-- a def that keeps the promise sp -/
structure Cl (P : Program) (w : World) (K : PySem.W.Frag) (mg : Str → Option Value) (base : Heap) (k : Nat) (x : Str) (ps : List Str) (sp : Sp) : Prop where
  ex : ∃ (f : Addr) (fd : FuncData), FnOk P w K mg base CX0 k f fd ps sp ∧ mg x = some (.ref f) ∧ PySem.W.keepIn K (.ref f) = true ∧ Binds K fd ps []
section
variable {P : Program} {w : World} {K : PySem.W.Frag} {mg : Str → Option Value} {base : Heap}
theorem cl_mk {x : Str} {st : Stmt} {N ps : List Str} {k : Nat} {sp : Sp} (D : Df K mg x st ps) (S : FnScope N ps (defScope st)) (len : ∀ vs H Q E, sp vs H Q E → vs.length = ps.length)
    (hbody : ∀ (f : Addr) (cdv : Value) (A : Around) (outer : List Env) (s : Shared) (H : Hp) (vs : List V) (Q : VK) (E : XK), Room k (A.deeper (envOfC x (defScope st) s.heap.objs.size f cdv)) → sp vs H Q E →
      ∃ t, PSs (cxOf CX0 P w K mg base N x (defScope st) f cdv A outer s H E).nox (defBody st) t ∧ t { nx := fun _ H' => Q .non H', rt := Q } (start N vs) H) : Cl P w K mg base (k + 1) x ps sp := by
  obtain ⟨f, fd, F, m, b⟩ := D.ex
  exact ⟨f, fd, F.ok S len (hbody f), m, F.kp, b⟩
theorem Cl.imp {x : Str} {ps : List Str} {k : Nat} {sp sp' : Sp} (c : Cl P w K mg base k x ps sp) (h : ∀ vs H Q E, sp' vs H Q E → sp vs H Q E) : Cl P w K mg base k x ps sp' := by
  obtain ⟨f, fd, F, m, kp, b⟩ := c.ex
  exact ⟨f, fd, F.imp h, m, kp, b⟩
end
section
variable {X : Cx} {k j : Nat} {x : Str} {ps : List Str} {sp : Sp} {p pos apos : Pos} {e o : Expr} {es : List Expr} {ta te : TE} {t : TA}
theorem pe_cl (c : Cl X.prog X.w X.K X.mg X.base k x ps sp) (hr : Room j X.A) (ha : PA X (e :: es) t) (hk : k ≤ j := by decide) (hg : Gl X x := by rfl)
    (he : starEach (e :: es) X.env = (false, eval e X.env) :: starEach es X.env := by rfl) (hpl : (backTo pos (starEach es X.env)).any (·.1) = false := by rfl)
    (hdb : (x == ("__debug__" : Str)) = false := by decide) : PE X (.Call (.Name x p) (e :: es) [] pos) (tCall sp [] E0 t) := by
  obtain ⟨f, fd, F, hm, kp, b⟩ := c.ex
  exact pe_call F (hr.mono hk) hg hm kp b .nil pass0 ha hdb he hpl
/-- what is never reached -/
def tNvr : TE := fun _ _ _ => False
def tNvrT : TT := fun _ _ _ => False
theorem pe_nvr : PE X e tNvr := ⟨fun _ _ _ _ _ _ h => h.elim⟩
theorem pt_nvr : PT X e tNvrT := ⟨fun _ _ _ _ _ _ h => h.elim⟩
end

/-! ### len of an own instance -/
def rLenOwn (C : Addr) (sp : Sp) : List V → Hp → VK → Prop := fun xs H Q => ∃ (a dx : Addr) (fs : List (Str × V)), xs = [.ref a] ∧ H a = some (.ins C dx fs) ∧ sp [.ref a] H (fun v H' => ∃ n : Int, v = .int n ∧ 0 ≤ n ∧ n < 2 ^ 63 ∧ Q (.int n) H') E0
theorem call_lenOwn {X : Cx} {C f : Addr} {fd : FuncData} {k : Nat} {sp : Sp} (hm : Meth X.K C "__len__" f) (F : FnOk X.prog X.w X.K X.mg X.base CX0 k f fd ["self"] sp) (hr : Room (k + 1) X.A) (hb : Binds X.K fd ["self"] []) :
    CallR X (.builtin "len") (rLenOwn C sp) := by
  intro pins s σ H xs us Q I r h
  obtain ⟨a, dx, fs, rfl, ea, hsp⟩ := h
  obtain ⟨u, rfl, rx⟩ := vals1 r
  cases (show u = Value.ref a from rx)
  obtain ⟨mA, O, _⟩ := ins_get I.hok ea
  obtain ⟨od, J, _⟩ := O.look
  have run : wpAny (model X.prog X.w) X.A.in1 (call (.ref f) [.ref a]) (EP X pins σ fun v H' => ∃ n : Int, v = .int n ∧ 0 ≤ n ∧ n < 2 ^ 63 ∧ Q (.int n) H') X.xe s := by
    refine wpAny_call (codeAny_mono (F.run X.A.in1 X.stack s H ⟨[.ref a], []⟩ [.ref a] [.ref a] _ E0 hr.in1 I.env0.in1 (hb s [.ref a] I.kIn rfl) (.cons rfl .nil) hsp) fun r s' hq => ?_)
    cases r with
    | error e => exact hq.elim
    | ok fl =>
      cases fl with
      | ret u => exact I.after hq
      | next => exact False.elim hq
      | brk => exact False.elim hq
      | cont => exact False.elim hq
  -- len asks its argument's own __len__, then looks at the number's sign and size
  refine Calls.call_function_entry kind_len plain_len entry_len (args_len1 _) (wpAny_bind (m := oneArg "len" _) (wpAny_pure (wpAny_bind (m := callSpecial? (.ref a) (Str.ofString "__len__")) ?_)))
  refine PySem.W.special_fn I.kIn J hm.at_ (beq_iff_eq.mp hm.fn) (wpAny_mono run (fun r s' told => ?_) fun _ _ y => y)
  obtain ⟨v, H', I', rv, n, rfl, h0, h1, q⟩ := told
  obtain ⟨t, rfl⟩ := (show ∃ t, r = Value.int n t from rv)
  have n1 : ¬ n < 0 := by omega
  have n2 : ¬ n ≥ 2 ^ 63 := by omega
  refine wpAny_bind (wpAny_holding (wpAny_pure (wpAny_bind (wpAny_letGo ?_))))
  simp only [n1, n2, if_false]
  exact wpAny_bind (wpAny_mkInt (wpAny_pure ⟨_, rfl, ⟨.int n, H', I'.tok _, ⟨_, rfl⟩, q⟩⟩))

/-! ### d.get(k) of a written dict with text keys -/
def tKGet (K : PySem.W.Frag) (d : Addr) (td te : TE) : TE := fun σ H Q => td σ H fun x H1 => x = .ref d ∧ te σ H1 fun y H2 => ∃ (z : Str) (u : Value) (v : V), y = .str z ∧ PySem.W.nsIn K d z = some (some u) ∧ RelV v u ∧ Q v H2
theorem pe_kget {X : Cx} {o e : Expr} {apos cpos : Pos} {td te : TE} {d : Addr} {es : Array DictEntry} {n : Nat} (D : KDict X.K X.w d es n) (ho : PE X o td) (he : PE X e te) (m : M1 X o "get" apos e cpos) :
    PE X (.Call (.Attribute o "get" apos) [e] [] cpos) (tKGet X.K d td te) := by
  refine ⟨fun pins s σ H Q I h => ?_⟩
  refine wpAny_Call_method m.base m.few m.line PySem.F.plainAttrs_dict PySem.F.slot_dict_get PySem.F.type_dict_get (thn (ho.run pins s σ H _ I h) fun u s1 ⟨x, H1, I1, rx, ex, q1⟩ => ?_)
  subst ex
  obtain rfl : u = Value.ref d := rx
  have hm := PySem.W.mapOf_K (prog := X.prog) (w := X.w) I1.kIn D.at_ D.lit
  refine ⟨hm.typeIs, hm.noDict, ?_⟩
  rw [m.trees]
  refine Calls.callWith_builtin rfl (Calls.evalArgs_plain (Calls.spliced_cons (thn (he.run pins s1 σ H1 _ I1 q1) fun iv s2 ⟨y, H2, I2, ry, z, u0, v, ey, ev, rv, q2⟩ => Calls.spliced_nil ?_)))
  subst ey
  obtain ⟨t, rfl⟩ := (show ∃ t, iv = Value.str z t from ry)
  have hm2 := PySem.W.mapOf_K (prog := X.prog) (w := X.w) I2.kIn D.at_ D.lit
  refine call_meetsIn PySem.F.slot_dict_get hm2.typeIs PySem.F.entry_dict_get (PySem.F.args_dict_get_2 _ _) (meets_dict_get (strKind X.prog X.w) d (PySem.strKind_is X.prog X.w z t) D.low) ⟨_, hm2, ?_⟩
  rw [PySem.W.find_K D.at_ ev]
  exact ⟨v, H2, I2.tok _, rv, q2⟩

/-! ### enumerate(tuple): the library's walk of enumerate (WalksT.enumFrom) over what a tuple's iterator draws (Draws.tuple), told as the layer tells a walk -/
def IteT (K : PySem.W.Frag) (a : Addr) : It where
  go := fun i H => ∃ (xs : List V) (x : V), SqT K H a xs ∧ xs[i]? = some x
  yld := fun i H v H' => ∃ T x, v = .ref T ∧ H T = none ∧ H' = upd H T (.tup [.int (i : Nat), x]) ∧ ∀ xs, SqT K H a xs → xs[i]? = some x
  stop := fun i H => ∃ xs : List V, SqT K H a xs ∧ xs.length = i
/-- the state ahead of turn i: the tuple itself is told by what is tracked -/
def EnT (a e it : Addr) (i : Nat) (h : Heap) : Prop := (∃ old, IsEnum h e it (0 + (i : Int)) old) ∧ h.IsTupleIter it a i ∧ e ≠ it ∧ a ≠ it ∧ a ≠ e
theorem enT_walk {P : Program} {w : World} {A : Around} {a e it : Addr} {i : Nat} {h : Heap} (hh : A.handled = none) (st : EnT a e it i h) (items : Array Value) :
    WalksT P w A e (e :: [it, a]) [e, it] items.size (fun j vals => ∃ t x, items[j]? = some x ∧ vals = #[.int (0 + (j : Int)) t, x])
      (fun j g => (∃ old, IsEnum g e it (0 + (j : Int)) old) ∧ g.IsTupleIter it a j ∧ g.IsTuple a items)
      (fun j T g => (∃ x, IsEnumOut g e it (0 + (j : Int) + 1) x T) ∧ (g.IsTupleIter it a (j + 1) ∧ g.IsTuple a items) ∧ T ≠ e ∧ T ≠ it) :=
  have n1 := st.2.2.1
  have n2 := st.2.2.2.1
  have n3 := st.2.2.2.2
  WalksT.enumFrom 0 (Draws.tuple (A := A.in1) hh it a n2 items) e n1 (by simp [n1, Ne.symm n3]) (by simp)
theorem turn_enumT {P : Program} {w : World} {K : PySem.W.Frag} {elts : List Expr} {kk : Nat} {tpos : Pos} (a e it : Addr) : Turn P w K (.Tuple elts kk tpos) (IteT K a) [e, it] e (EnT a e it) where
  mem := List.mem_cons_self ..
  obj := fun i h st b hb => by
    obtain ⟨⟨old, h1⟩, ⟨oi, h2, _, h3⟩, _⟩ := st
    rcases List.mem_cons.mp hb with z | z
    · exact z ▸ ⟨_, h1, fun v q => nomatch q⟩
    · exact List.mem_singleton.mp z ▸ ⟨oi, h2, fun v q => nomatch h3.symm.trans q⟩
  keep := fun i h h' st k => by
    obtain ⟨⟨old, h1⟩, h2, n⟩ := st
    exact ⟨⟨old, k e (List.mem_cons_self ..) _ h1⟩, h2.at fun o q => k it (List.mem_cons_of_mem _ (List.mem_singleton.mpr rfl)) o q, n⟩
  item := by
    intro X eP ew eK calm i pins s σ H E I fp st ⟨xs, x, hx, hi⟩
    subst eP ew eK
    obtain ⟨its, vr, tup, _⟩ := I.tuple hx
    obtain ⟨u, hu, xu⟩ := vr.get hi
    have hlt : i < its.toArray.size := by
      have := (List.getElem?_eq_some_iff.mp hu).1
      simpa using this
    have W := enT_walk (P := X.prog) (w := X.w) (A := X.A) (I.ok.hd calm) st its.toArray
    refine W.item i s _ E hlt ⟨st.1, st.2.1, tup⟩ fun T vals h1 tk pv nT isT mid keep1 => ⟨.ref T, rfl, ?_⟩
    refine W.go elts kk tpos i T { s with heap := h1, toks := tk } _ E mid fun h2 st2 keep2 => ?_
    obtain ⟨t, y, hy, rfl⟩ := pv
    obtain rfl : u = y := by
      have q : its.toArray[i]? = some u := by simpa using hu
      exact Option.some.inj (q.symm.trans hy)
    have apart : T ∉ [e, it] := W.apart i T h1 mid
    have isT2 := isT.at fun o q => keep2 T o apart q
    have room : ∀ b ∈ [e, it], b < s.heap.objs.size := by
      intro b hb
      obtain ⟨⟨old, h1⟩, ⟨oi, h2, _⟩, _⟩ := st
      rcases List.mem_cons.mp hb with z | z
      · exact z ▸ Heap.lt_size h1
      · exact List.mem_singleton.mp z ▸ Heap.lt_size h2
    have new : ObjOk X.prog X.w (upd H T (.tup [.int (i : Nat), x])) h2 T (.tup [.int (i : Nat), x]) :=
      ⟨(show 2 ≤ sizeLine by decide), [.int (0 + (i : Int)) t, u], .cons ⟨t, congrArg (fun z => Value.int z t) (Int.zero_add _)⟩ (.cons xu .nil), isT2⟩
    have I2 := I.turnedNew (t' := tk) (ch := [e, it]) (fun b o hb q => keep2 b o hb (keep1 b o hb q)) fp nT new
    refine ⟨.ref T, _, I2, rfl, ⟨T, x, rfl, I.hok.fresh nT, rfl, fun ys hys => (I.tuple_inj hys hx).symm ▸ hi⟩, ⟨st2.1, st2.2.1, st.2.2⟩, fun b hb => ?_⟩
    exact (upd_ne (Nat.ne_of_lt (Nat.lt_of_lt_of_le (room b hb) nT))).trans (fp b hb).1
  done := by
    intro X eP ew eK calm i pins s σ H E I fp st ⟨xs, hx, hn⟩
    subst eP ew eK
    obtain ⟨its, vr, tup, _⟩ := I.tuple hx
    obtain ⟨⟨old, h1⟩, h2, _, n2, _⟩ := st
    have size : i = its.toArray.size := hn.symm.trans (vr.length.trans (by simp))
    rw [size] at h1 h2
    have fi := fp it (List.mem_cons_of_mem _ (List.mem_singleton.mpr rfl))
    exact wpAny_pyNext_enum_endD (Draws.tuple (A := X.A.in1) (I.ok.hd calm) it a n2 its.toArray) h1 ⟨h2, tup⟩ fun h' k => ⟨rfl, I.turned (t' := s.toks) k fi.1 fi.2.1 fi.2.2.2.1 fi.2.2.2.2.1 fi.2.2.2.2.2⟩
  self := fun A i s Q E st q => by
    obtain ⟨⟨old, h1⟩, _⟩ := st
    exact wpAny_pyIter_enum h1 q
/-- enumerate(v) makes the iterator of v, then its own cell -/
def enCell (N : Addr) : Obj := { cls := .type "enumerate", data := .fields #[.none, .bool false, .ref N, rawInt 0, .none, .none] }
theorem meets_enumerate_one {v : Value} {o : Obj} {Hh : Heap → Prop} (B : Begins v o Hh) :
    Meets (Builtin.«enumerate.__new__» ⟨[.type "enumerate", v], []⟩) (fun _ Rz s => Hh s.heap ∧ Rz (.ok (.ret (.ref (s.heap.push o).objs.size))) { s with heap := (s.heap.push o).push (enCell s.heap.objs.size) }) := by
  refine .of_wp fun P w A Rz st hq => ?_
  obtain ⟨hh, gg, dd, tt, oo⟩ := st
  obtain ⟨stands, wish⟩ := hq
  have sub := sub_enumerate
  have iter : ∀ {A2 : Around} {E2 : Value → Shared → Prop} {Q2 : Value → Shared → Prop}, Q2 (.ref hh.objs.size) ⟨hh.push o, gg, dd, tt, oo⟩ → wpAny (model P w) A2 (pyIter v) Q2 E2 ⟨hh, gg, dd, tt, oo⟩ := B.iter P w _ _ ⟨hh, gg, dd, tt, oo⟩ _ stands
  wp_walk using iter
  refine wpAny_stack_any fun frames => wpAny_pure ?_
  split
  · rename_i cls _ _ _ _ _
    cases (cls == Value.type "enumerate") <;> (wp_walk using iter; exact ⟨_, rfl, wish⟩)
  · wp_walk using iter
    exact ⟨_, rfl, wish⟩
def iEnumT (K : PySem.W.Frag) (ta : TA) : TI := fun σ H R => ta σ H fun vs H1 => ∃ a xs, vs = [.ref a] ∧ SqT K H1 a xs ∧ R (IteT K a) H1
theorem pi_enumT {X : Cx} {e : Expr} {ta : TA} {p pos tpos : Pos} {elts : List Expr} {kk : Nat} (hg : Gl X "enumerate") (hm : X.mg "enumerate" = none) (ha : PA X [e] ta) (hs : starEach [e] X.env = [(false, eval e X.env)] := by rfl) :
    PI X (.Tuple elts kk tpos) (.Call (.Name "enumerate" p) [e] [] pos) (iEnumT X.K ta) where
  run := by
    intro pins s σ H Rq I h
    refine Call_ (ld_blt I hg hm boot_enumerate (PyProof.Rows.callWith_type1 (thn (ha.run pos pins s σ H _ I h) fun us s1 told => ?_) hs rfl))
    obtain ⟨vs, H1, I1, vals, a, xs, rfl, hx, q⟩ := told
    obtain ⟨u, rfl, hu⟩ := vals1 vals
    obtain rfl : u = Value.ref a := hu
    obtain ⟨its, vr, tup, _⟩ := I1.tuple hx
    have old : a < s1.heap.objs.size := tup.lt
    have size : (s1.heap.push { cls := .type "tuple_iterator", data := .fields #[.ref a, .int 0 0] }).objs.size = s1.heap.objs.size + 1 := Heap.size_push ..
    refine callType_new F.called_enumerate (by decide) (F.typeCall_enumerate_1 _) (F.newCall_enumerate_1 _) (fun ob => F.args_object_init_2 ob _) F.entry_enumerate_new (meets_enumerate_one (begins_tuple a its.toArray)) ⟨tup, ?_⟩
    show _ ∧ _
    rw [size]
    have cell : ((s1.heap.push { cls := .type "tuple_iterator", data := .fields #[.ref a, .int 0 0] }).push (enCell s1.heap.objs.size)).get? (s1.heap.objs.size + 1) = some (enCell s1.heap.objs.size) :=
      (congrArg _ size.symm).trans (Heap.get?_push_size _ rfl)
    refine ⟨⟨_, cell, rfl⟩, wpAny_pyIter_enum cell ?_⟩
    have iter : ((s1.heap.push { cls := .type "tuple_iterator", data := .fields #[.ref a, .int 0 0] }).push (enCell s1.heap.objs.size)).IsTupleIter s1.heap.objs.size a 0 := ⟨_, Heap.get?_push_of_some _ (Heap.get?_push_size _ rfl), rfl, rfl⟩
    have I2 := I1.kept (t' := s1.toks) (h' := (s1.heap.push { cls := .type "tuple_iterator", data := .fields #[.ref a, .int 0 0] }).push (enCell s1.heap.objs.size)) fun b o z => Heap.get?_push_of_some _ (Heap.get?_push_of_some _ z)
    refine ⟨s1.heap.objs.size + 1, [s1.heap.objs.size + 1, s1.heap.objs.size], _, _, H1, rfl, I2, turn_enumT a _ _, ⟨⟨.none, cell⟩, iter, Nat.succ_ne_self _, Nat.ne_of_lt old, Nat.ne_of_lt (Nat.lt_succ_of_lt old)⟩, fun b hb => ?_, q⟩
    have young : s1.heap.objs.size ≤ b := by
      rcases List.mem_cons.mp hb with z | z
      · exact z ▸ Nat.le_succ _
      · exact List.mem_singleton.mp z ▸ Nat.le_refl _
    exact I1.fpOk young (I1.hok.fresh young)
end Brim
/-! ## B2 -/
namespace Brim
open PySem PySem.Spec PyProof.Rows L2
/-! ### lists of objects, told one by one -/
inductive RL {α : Type} (R : Addr → α → Prop) : List V → List α → Prop where
  | nil : RL R [] []
  | cons {a : Addr} {x : α} {vs : List V} {xs : List α} (r : R a x) (t : RL R vs xs) : RL R (.ref a :: vs) (x :: xs)
section
variable {α : Type} {R R' : Addr → α → Prop}
theorem RL.len : ∀ {vs : List V} {xs : List α}, RL R vs xs → vs.length = xs.length
  | _, _, .nil => rfl
  | _, _, .cons _ t => congrArg Nat.succ (RL.len t)
theorem RL.mono : ∀ {vs : List V} {xs : List α}, RL R vs xs → (∀ a x, R a x → R' a x) → RL R' vs xs
  | _, _, .nil, _ => .nil
  | _, _, .cons r t, h => .cons (h _ _ r) (RL.mono t h)
theorem RL.get : ∀ {vs : List V} {xs : List α} {i : Nat} {x : α}, RL R vs xs → xs[i]? = some x → ∃ a, vs[i]? = some (.ref a) ∧ R a x
  | _, _, i, x, .nil, h => by simp at h
  | _, _, 0, x, .cons r t, h => by
    have e := Option.some.inj h
    subst e
    exact ⟨_, rfl, r⟩
  | _, _, i + 1, x, .cons r t, h => RL.get (i := i) t h
theorem RL.getV : ∀ {vs : List V} {xs : List α} {i : Nat} {v : V}, RL R vs xs → vs[i]? = some v → ∃ a x, v = .ref a ∧ xs[i]? = some x ∧ R a x
  | _, _, i, v, .nil, h => by simp at h
  | _, _, 0, v, .cons r t, h => by
    have e := Option.some.inj h
    subst e
    exact ⟨_, _, rfl, rfl, r⟩
  | _, _, i + 1, v, .cons r t, h => RL.getV (i := i) t h
theorem RL.app : ∀ {vs ws : List V} {xs ys : List α}, RL R vs xs → RL R ws ys → RL R (vs ++ ws) (xs ++ ys)
  | _, _, _, _, .nil, h => h
  | _, _, _, _, .cons r t, h => .cons r (RL.app t h)
theorem RL.one {a : Addr} {x : α} (r : R a x) : RL R [.ref a] [x] := .cons r .nil
theorem RL.snoc {vs : List V} {xs : List α} {a : Addr} {x : α} (t : RL R vs xs) (r : R a x) : RL R (vs ++ [.ref a]) (xs ++ [x]) := t.app (.one r)
theorem RL.rev : ∀ {vs : List V} {xs : List α}, RL R vs xs → RL R vs.reverse xs.reverse
  | _, _, .nil => .nil
  | _, _, .cons r t => by
    rw [List.reverse_cons, List.reverse_cons]
    exact (RL.rev t).snoc r
theorem RL.dropLast : ∀ {vs : List V} {xs : List α}, RL R vs xs → RL R vs.dropLast xs.dropLast
  | _, _, .nil => .nil
  | _, _, .cons r .nil => .nil
  | _, _, .cons r (.cons r2 t) => .cons r (RL.dropLast (.cons r2 t))
theorem RL.take : ∀ {vs : List V} {xs : List α} (n : Nat), RL R vs xs → RL R (vs.take n) (xs.take n)
  | _, _, 0, _ => .nil
  | _, _, _ + 1, .nil => .nil
  | _, _, n + 1, .cons r t => .cons r (RL.take n t)
end
/-! ### heaps -/
/-- tuples stay -/
def Tps (H H' : Hp) : Prop := ∀ b xs, H b = some (.tup xs) → H' b = some (.tup xs)
theorem Tps.rfl {H : Hp} : Tps H H := fun _ _ h => h
theorem Tps.trans {H H1 H2 : Hp} (a : Tps H H1) (b : Tps H1 H2) : Tps H H2 := fun c x h => b c x (a c x h)
theorem tps_same {H H' : Hp} (s : Same H H') : Tps H H' := fun b xs h => s b _ h
theorem tps_new {H : Hp} {p : Addr} {o : HO} (h : H p = none) : Tps H (upd H p o) := fun b xs e => by
  rw [upd_ne (ne_of_none e h)]
  exact e
theorem tps_set {H : Hp} {p : Addr} {u o : HO} (h : H p = some u) (hu : ∀ xs, u ≠ .tup xs) : Tps H (upd H p o) := fun b xs e => by
  rw [upd_ne (ne_of e h fun z => hu xs z.symm)]
  exact e
theorem tps_lst {H : Hp} {p : Addr} {ys : List V} {o : HO} (h : H p = some (.lst ys)) : Tps H (upd H p o) := tps_set h fun _ z => nomatch z
theorem tps_ins {H : Hp} {p C dx : Addr} {fs : List (Str × V)} {o : HO} (h : H p = some (.ins C dx fs)) : Tps H (upd H p o) := tps_set h fun _ z => nomatch z
theorem same_new {H : Hp} {p : Addr} {o : HO} (h : H p = none) : Same H (upd H p o) := fun b x e => by
  rw [upd_ne (ne_of_none e h)]
  exact e
/-- a thing that is new since H0 is changed -/
theorem same_set {H0 H : Hp} {p : Addr} {o : HO} (s : Same H0 H) (h : H0 p = none) : Same H0 (upd H p o) := fun b x e => by
  rw [upd_ne (ne_of_none e h)]
  exact s b x e
/-- all but what stands at d is as it was -/
def Kp (d : Addr) (H H' : Hp) : Prop := ∀ b o, b ≠ d → H b = some o → H' b = some o
theorem Kp.rfl {d : Addr} {H : Hp} : Kp d H H := fun _ _ _ h => h
theorem Kp.trans {d : Addr} {H H1 H2 : Hp} (a : Kp d H H1) (b : Kp d H1 H2) : Kp d H H2 := fun c x n h => b c x n (a c x n h)
theorem kp_same {d : Addr} {H H' : Hp} (s : Same H H') : Kp d H H' := fun b o _ h => s b o h
theorem kp_new {d : Addr} {H : Hp} {p : Addr} {o : HO} (h : H p = none) : Kp d H (upd H p o) := kp_same (same_new h)
theorem kp_at {d : Addr} {H : Hp} {o : HO} : Kp d H (upd H d o) := fun b x n e => by
  rw [upd_ne n]
  exact e
theorem kp_set {d : Addr} {H0 H : Hp} {p : Addr} {o : HO} (s : Kp d H0 H) (h : H0 p = none) : Kp d H0 (upd H p o) := fun b x n e => by
  rw [upd_ne (ne_of_none e h)]
  exact s b x n e
theorem Kp.tps {d : Addr} {H H' : Hp} (k : Kp d H H') {u : HO} (h : H d = some u) (hu : ∀ xs, u ≠ .tup xs) : Tps H H' := fun b xs e => k b _ (ne_of e h fun z => hu xs z.symm) e
theorem Kp.tpl {d : Addr} {H H' : Hp} (k : Kp d H H') {ys : List V} (h : H d = some (.lst ys)) : Tps H H' := k.tps h fun _ z => nomatch z
theorem Kp.seq {K : PySem.W.Frag} {d : Addr} {H H' : Hp} (k : Kp d H H') {a : Addr} {xs : List V} (n : a ≠ d) (h : SqL K H a xs) : SqL K H' a xs := by
  rcases h with (h | ⟨o, h⟩) | h
  · exact .inl (.inl (k _ _ n h))
  · exact .inl (.inr ⟨o, k _ _ n h⟩)
  · exact .inr h
theorem Kp.free {d : Addr} {H H' : Hp} (k : Kp d H H') {p : Addr} {o : HO} (h : H' p = none) (hd : H' d = some o) : H p = none := by
  cases e : H p with
  | none => rfl
  | some u =>
    have n : p ≠ d := fun z => by
      rw [z, hd] at h
      cases h
    rw [k p u n e] at h
    cases h

/-! ### the data -/
def ndV : Nd → List V
  | .const c => [.str "const", .int c]
  | .input k => [.str "input", .int (k : Nat)]
  | .sum i j => [.str "sum", .int (i : Nat), .int (j : Nat)]
  | .prod i j => [.str "product", .int (i : Nat), .int (j : Nat)]
  | .scaled c i => [.str "scaled", .int c, .int (i : Nat)]
  | .choose i j l => [.str "choose", .int (i : Nat), .int (j : Nat), .int (l : Nat)]
def NdAt (H : Hp) (a : Addr) (nd : Nd) : Prop := H a = some (.tup (ndV nd))
def SrcAt (H : Hp) (t : Addr) (ns : List Nd) : Prop := ∃ vs, H t = some (.tup vs) ∧ RL (NdAt H) vs ns
def facV : Fac → List V
  | .cell i => [.str "cell", .int (i : Nat)]
  | .input k => [.str "input", .int (k : Nat)]
def FacAt (H : Hp) (a : Addr) (f : Fac) : Prop := H a = some (.tup (facV f))
def FacsAt (H : Hp) (a : Addr) (fs : List Fac) : Prop := ∃ vs, H a = some (.tup vs) ∧ RL (FacAt H) vs fs
def tkV (f : Addr) (t : Tk) : List V := [.int (t.node : Nat), .int (t.tgt : Nat), .int t.co, .ref f, .int (t.spare : Nat)]
def TkAt (H : Hp) (a : Addr) (t : Tk) : Prop := ∃ f, H a = some (.tup (tkV f t)) ∧ FacsAt H f (facs t.fac)
def stpV (f : Addr) (s : Stp) : List V := [.str "add", .int (s.tgt : Nat), .int s.co, .ref f]
def StpAt (H : Hp) (a : Addr) (s : Stp) : Prop := ∃ f, H a = some (.tup (stpV f s)) ∧ FacsAt H f s.fac
section
variable {H H' : Hp}
theorem NdAt.to {a : Addr} {nd : Nd} (h : NdAt H a nd) (t : Tps H H') : NdAt H' a nd := t _ _ h
theorem SrcAt.to {a : Addr} {ns : List Nd} (h : SrcAt H a ns) (t : Tps H H') : SrcAt H' a ns := by
  obtain ⟨vs, e, r⟩ := h
  exact ⟨vs, t _ _ e, r.mono fun a x q => q.to t⟩
theorem FacAt.to {a : Addr} {f : Fac} (h : FacAt H a f) (t : Tps H H') : FacAt H' a f := t _ _ h
theorem FacsAt.to {a : Addr} {fs : List Fac} (h : FacsAt H a fs) (t : Tps H H') : FacsAt H' a fs := by
  obtain ⟨vs, e, r⟩ := h
  exact ⟨vs, t _ _ e, r.mono fun a x q => q.to t⟩
theorem TkAt.to {a : Addr} {k : Tk} (h : TkAt H a k) (t : Tps H H') : TkAt H' a k := by
  obtain ⟨f, e, r⟩ := h
  exact ⟨f, t _ _ e, r.to t⟩
theorem StpAt.to {a : Addr} {s : Stp} (h : StpAt H a s) (t : Tps H H') : StpAt H' a s := by
  obtain ⟨f, e, r⟩ := h
  exact ⟨f, t _ _ e, r.to t⟩
theorem RL.toT {vs : List V} {ts : List Tk} (h : RL (TkAt H) vs ts) (t : Tps H H') : RL (TkAt H') vs ts := h.mono fun _ _ q => q.to t
theorem RL.toS {vs : List V} {ss : List Stp} (h : RL (StpAt H) vs ss) (t : Tps H H') : RL (StpAt H') vs ss := h.mono fun _ _ q => q.to t
theorem RL.toN {vs : List V} {ns : List Nd} (h : RL (NdAt H) vs ns) (t : Tps H H') : RL (NdAt H') vs ns := h.mono fun _ _ q => q.to t
end
/-! ### tests whose answer is known -/
theorem iteB {c : Bool} {A B : Prop} (hc : c = true) (h : A) : if c = true then A else B := by
  rw [if_pos hc]
  exact h
theorem iteN {c : Bool} {A B : Prop} (hc : c = false) (h : B) : if c = true then A else B := by
  rw [hc]
  exact iteF h
theorem iteD {c A B : Prop} [Decidable c] (hc : c) (h : A) : if decide c = true then A else B := iteB (decide_eq_true hc) h
theorem iteDN {c A B : Prop} [Decidable c] (hc : ¬ c) (h : B) : if decide c = true then A else B := iteN (decide_eq_false hc) h
theorem strNe {a b : Str} (h : a ≠ b) : ¬ (V.str a = V.str b) := fun e => h (V.str.inj e)
theorem map_at {ns : List Int} {i : Nat} {n : Int} (h : ns[i]? = some n) : (ns.map V.int)[i]? = some (.int n) := by
  rw [List.getElem?_map, h]
  rfl
theorem map_get {ns : List Int} {i : Nat} {v : V} (h : (ns.map V.int)[i]? = some v) : ∃ n, ns[i]? = some n ∧ v = .int n := by
  rw [List.getElem?_map] at h
  cases e : ns[i]? with
  | none =>
    rw [e] at h
    cases h
  | some n =>
    rw [e] at h
    exact ⟨n, rfl, (Option.some.inj h).symm⟩
theorem small4 {n : Nat} (h : n ≤ 100000) : n < sizeLine := Nat.lt_of_le_of_lt h (by decide)
theorem mod_range {a m : Int} (hm : 0 < m) : 0 ≤ a % m ∧ a % m < m := ⟨Int.emod_nonneg _ (by omega), Int.emod_lt_of_pos _ hm⟩
/-! ### what the top has left, for the walks -/
structure Tx (w : World) (K : PySem.W.Frag) (mg : Str → Option Value) (C L : Addr) : Prop where
  isinst : mg "isinstance" = none
  int : mg "int" = none
  bool : mg "bool" = none
  tuple : mg "tuple" = none
  len : mg "len" = none
  str : mg "str" = none
  list : mg "list" = none
  range : mg "range" = none
  max : mg "max" = none
  min : mg "min" = none
  enumerate : mg "enumerate" = none
  factors : ∃ t, mg "FACTORS" = some (.int 3 t)
  modulus : ∃ t, mg "MODULUS" = some (.int 1000000000 t)
  cells : ∃ t, mg "CELLS" = some (.int 60 t)
  inputsP : ∃ t, mg "INPUTS_programs" = some (.int 60 t)
  steps : ∃ t, mg "STEPS" = some (.int 20000 t)
  nodes : ∃ t, mg "NODES" = some (.int 200 t)
  constant : ∃ t, mg "CONSTANT" = some (.int 1000000000 t)
  inputsS : ∃ t, mg "INPUTS_sources" = some (.int 60 t)
  most : ∃ t, mg "MOST" = some (.int 20000 t)
  lengths : mg "LENGTHS" = some (.ref L)
  lenD : ∃ es n, KDict K w L es n
  lenV : ∀ q ∈ ([("const", .int 2), ("input", .int 2), ("sum", .int 3), ("product", .int 3), ("scaled", .int 3), ("choose", .int 4)] : List (Str × V)), ∃ u, PySem.W.nsIn K L q.1 = some (some u) ∧ RelV q.2 u
  program : mg "Program" = some (.ref C)
  cl : Cls K C
  nM : NoAttr K C "modulus"
  nC : NoAttr K C "cells"
  nI : NoAttr K C "inputs"
  nS : NoAttr K C "steps"
/-- a module's whole number -/
theorem pe_gi {X : Cx} {x : Str} {i : Int} {pos : Pos} (h : ∃ t, X.mg x = some (.int i t)) (hg : Gl X x := by rfl) (hd : (x == ("__debug__" : Str)) = false := by decide) : PE X (.Name x pos) (tC (.int i)) := by
  obtain ⟨t, e⟩ := h
  exact pe_glob hg e ⟨t, rfl⟩ hd
end Brim
/-! ## W1 -/
namespace Brim
open PySem PySem.Spec PyProof.Rows L2
/-! ### isinstance -/
theorem qT {Q : VK} {c : Prop} [Decidable c] {H : Hp} (hc : c) (k : Q (.bl true) H) : Q (.bl (decide c)) H := by
  rw [decide_eq_true hc]
  exact k
theorem qF {Q : VK} {c : Prop} [Decidable c] {H : Hp} (hc : ¬ c) (k : Q (.bl false) H) : Q (.bl (decide c)) H := by
  rw [decide_eq_false hc]
  exact k
theorem kII : kitB "int" "int" = some true := by decide +kernel
theorem kIB : kitB "int" "bool" = some false := by decide +kernel
theorem kIL : kitB "int" "list" = some false := by decide +kernel
theorem kIT : kitB "int" "tuple" = some false := by decide +kernel
theorem kLL : kitB "list" "list" = some true := by decide +kernel
theorem kTT : kitB "tuple" "tuple" = some true := by decide +kernel
theorem kSS : kitB "str" "str" = some true := by decide +kernel
theorem tyI {K : PySem.W.Frag} {H : Hp} (i : Int) : TyX K H (.int i) (.type "int") := .base (.int i)
theorem tyS {K : PySem.W.Frag} {H : Hp} (x : Str) : TyX K H (.str x) (.type "str") := .base (.str x)
theorem tyT {K : PySem.W.Frag} {H : Hp} {a : Addr} {xs : List V} (h : H a = some (.tup xs)) : TyX K H (.ref a) (.type "tuple") := .base (.tup h)
theorem tyL {K : PySem.W.Frag} {H : Hp} {a : Addr} {xs : List V} (h : H a = some (.lst xs)) : TyX K H (.ref a) (.type "list") := .base (.lst h)
theorem bInt : bootBuiltins "int" = some (.type "int") := by decide +kernel
theorem bBool : bootBuiltins "bool" = some (.type "bool") := by decide +kernel
theorem bTuple : bootBuiltins "tuple" = some (.type "tuple") := by decide +kernel
theorem bList : bootBuiltins "list" = some (.type "list") := by decide +kernel
theorem bStr : bootBuiltins "str" = some (.type "str") := by decide +kernel
theorem bIsi : bootBuiltins "isinstance" = some (.builtin "isinstance") := by decide +kernel
theorem bLen : bootBuiltins "len" = some (.builtin "len") := PySem.boot_len
section
variable {P : Program} {w : World} {K : PySem.W.Frag} {mg : Str → Option Value} {base : Heap} {C L : Addr}
/-! ### is_integer -/
def spIsInteger : Sp := fun vs H Q _ => ∃ n : Int, vs = [.int n] ∧ Q (.bl true) H
theorem ok_is_integer (T : Tx w K mg C L) (D : Df K mg "is_integer" sIsInteger ["value"]) : Cl P w K mg base 1 "is_integer" ["value"] spIsInteger := by
  refine cl_mk D scIsInteger (fun vs H Q E h => ?_) (fun f cdv A outer s H vs Q E hr h => ?_)
  · obtain ⟨n, rfl, _⟩ := h
    rfl
  · obtain ⟨n, rfl, k⟩ := h
    refine ⟨_, pss_one (ps_ret (pe_and (pe_callB call_isi (by rfl) T.isinst bIsi (pa_cons (pv 0) (pa_cons (pe_bltn (v := .ty "int") (by rfl) T.int bInt rfl) pa_nil)))
      (pe_one (pe_not (pe_callB call_isi (by rfl) T.isinst bIsi (pa_cons (pv 0) (pa_cons (pe_bltn (v := .ty "bool") (by rfl) T.bool bBool rfl) pa_nil))))))), ?_⟩
    refine ⟨_, rfl, .int n, .ty "int", _, _, true, rfl, .ty "int", tyI n, kit_ty kII, ?_⟩
    refine ⟨_, rfl, iteT ?_⟩
    refine ⟨_, rfl, .int n, .ty "bool", _, _, false, rfl, .ty "bool", tyI n, kit_ty kIB, ?_⟩
    exact ⟨_, rfl, k⟩
/-! ### is_number -/
def spIsNumber : Sp := fun vs H Q _ => ∃ n m : Int, vs = [.int n, .int m] ∧ 0 ≤ n ∧ n < m ∧ Q (.bl true) H
theorem ok_is_number (T : Tx w K mg C L) (D : Df K mg "is_number" sIsNumber ["value", "modulus"]) (cI : Cl P w K mg base 1 "is_integer" ["value"] spIsInteger) : Cl P w K mg base 2 "is_number" ["value", "modulus"] spIsNumber := by
  refine cl_mk D scIsNumber (fun vs H Q E h => ?_) (fun f cdv A outer s H vs Q E hr h => ?_)
  · obtain ⟨n, m, rfl, _⟩ := h
    rfl
  · obtain ⟨n, m, rfl, h0, h1, k⟩ := h
    refine ⟨_, pss_one (ps_ret (pe_and (pe_cl cI hr (pa_cons (pv 0) pa_nil)) (pe_one (pe_chain op_le op_lt pe_int (pv 0) (pv 1))))), ?_⟩
    refine ⟨_, rfl, n, rfl, _, rfl, iteT ?_⟩
    refine ⟨_, rfl, _, _, rfl, rfl, _, rfl, iteD h0 ?_⟩
    refine ⟨_, rfl, _, _, rfl, rfl, ?_⟩
    exact qT (Q := Q) h1 k
end
end Brim
/-! ## W2 -/
namespace Brim
open PySem PySem.Spec PyProof.Rows L2
theorem qNT {Q : VK} {c : Prop} [Decidable c] {H : Hp} (hc : ¬ c) (k : Q (.bl true) H) : Q (.bl (!decide c)) H := by
  rw [decide_eq_false hc]
  exact k
section
variable {P : Program} {w : World} {K : PySem.W.Frag} {mg : Str → Option Value} {base : Heap} {C L : Addr}
/-! ### is_factor -/
def spIsFactor : Sp := fun vs H Q _ => ∃ (a : Addr) (f : Fac) (tgt q : Nat), vs = [.ref a, .int (tgt : Nat), .int 3, .int (q : Nat)] ∧ FacAt H a f ∧ FacOk tgt q f ∧ Q (.bl true) H
theorem ok_is_factor (T : Tx w K mg C L) (D : Df K mg "is_factor" sIsFactor ["factor", "target", "cells", "inputs"]) (cN : Cl P w K mg base 2 "is_number" ["value", "modulus"] spIsNumber) :
    Cl P w K mg base 3 "is_factor" ["factor", "target", "cells", "inputs"] spIsFactor := by
  refine cl_mk D scIsFactor (fun vs H Q E h => ?_) (fun f cdv A outer s H vs Q E hr h => ?_)
  · obtain ⟨a, f, tgt, q, rfl, _⟩ := h
    rfl
  · obtain ⟨a, f, tgt, q, rfl, h, ok, k⟩ := h
    refine ⟨_, pss_cons (ps_if (PW.pt (pw_or (pt_not (pt_val (pe_callB call_isi (by rfl) T.isinst bIsi (pa_cons (pv 0) (pa_cons (pe_bltn (v := .ty "tuple") (by rfl) T.tuple bTuple rfl) pa_nil)))))
        (pw_or1 (pt_cmpR op_ne (pe_callB call_len_seq (by rfl) T.len bLen (pa_cons (pv 0) pa_nil)) pe_int (nomark _))))) (pss_one (ps_ret pe_bl)) pss_nil)
      (pss_cons (ps_if (pt_cmpR op_eq (pe_ix ix_tup (pv 0) pe_int (fun _ _ => rfl)) pe_str (nomark _))
        (pss_one (ps_ret (pe_and (pe_cl cN hr (pa_cons (pe_ix ix_tup (pv 0) pe_int (fun _ _ => rfl)) (pa_cons (pv 2) pa_nil))) (pe_one (pe_cmpR op_ne (pe_ix ix_tup (pv 0) pe_int (fun _ _ => rfl)) (pv 1) (nomark _)))))) pss_nil)
      (pss_one (ps_ret (pe_and (pe_cmpR op_eq (pe_ix ix_tup (pv 0) pe_int (fun _ _ => rfl)) pe_str (nomark _)) (pe_one (pe_cl cN hr (pa_cons (pe_ix ix_tup (pv 0) pe_int (fun _ _ => rfl)) (pa_cons (pv 3) pa_nil)))))))), ?_⟩
    cases f with
    | cell i =>
      have h' : H a = some (.tup [.str "cell", .int (i : Nat)]) := h
      obtain ⟨o1, o2⟩ := ok
      refine ⟨_, rfl, .ref a, .ty "tuple", _, _, true, rfl, .ty "tuple", tyT h', kit_ty kTT, _, rfl, iteF ?_⟩
      refine ⟨_, rfl, a, _, rfl, .inr (SqT.of h'), rfl, _, rfl, iteNS rfl ?_⟩
      refine ⟨_, rfl, a, _, 0, _, rfl, rfl, SqT.of h', rfl, rfl, _, rfl, iteD rfl ?_⟩
      refine ⟨_, rfl, a, _, 1, _, rfl, rfl, SqT.of h', rfl, _, rfl, (i : Nat), 3, rfl, by omega, by omega, _, rfl, iteT ?_⟩
      refine ⟨_, rfl, a, _, 1, _, rfl, rfl, SqT.of h', rfl, _, rfl, rfl, ?_⟩
      exact qNT (Q := Q) (fun e => o2 (by have := V.int.inj e; omega)) k
    | input i =>
      have h' : H a = some (.tup [.str "input", .int (i : Nat)]) := h
      have o1 : i < q := ok
      refine ⟨_, rfl, .ref a, .ty "tuple", _, _, true, rfl, .ty "tuple", tyT h', kit_ty kTT, _, rfl, iteF ?_⟩
      refine ⟨_, rfl, a, _, rfl, .inr (SqT.of h'), rfl, _, rfl, iteNS rfl ?_⟩
      refine ⟨_, rfl, a, _, 0, _, rfl, rfl, SqT.of h', rfl, rfl, _, rfl, iteDN (strNe (by decide +kernel)) ?_⟩
      refine ⟨_, rfl, a, _, 0, _, rfl, rfl, SqT.of h', rfl, rfl, _, rfl, iteD rfl ?_⟩
      exact ⟨_, rfl, a, _, 1, _, rfl, rfl, SqT.of h', rfl, _, rfl, (i : Nat), (q : Nat), rfl, by omega, by omega, k⟩
/-! ### is_add, is_step -/
def spIsStep : Sp := fun vs H Q _ => ∃ (a : Addr) (s : Stp) (m : Int) (q : Nat), vs = [.ref a, .int m, .int 3, .int (q : Nat)] ∧ StpAt H a s ∧ StpOk m q s ∧ Q (.bl true) H
theorem ok_is_add (T : Tx w K mg C L) (D : Df K mg "is_add" sIsAdd ["step", "modulus", "cells", "inputs"]) (cN : Cl P w K mg base 2 "is_number" ["value", "modulus"] spIsNumber)
    (cF : Cl P w K mg base 3 "is_factor" ["factor", "target", "cells", "inputs"] spIsFactor) : Cl P w K mg base 4 "is_add" ["step", "modulus", "cells", "inputs"] spIsStep := by
  refine cl_mk D scIsAdd (fun vs H Q E h => ?_) (fun f cdv A outer s H vs Q E hr h => ?_)
  · obtain ⟨a, f, tgt, q, rfl, _⟩ := h
    rfl
  · obtain ⟨a, st, m, q, rfl, ⟨fa, ha, vs, hf, rl⟩, ok, k⟩ := h
    have hl := rl.len
    refine ⟨_, pss_cons (ps_asg (pv 0) (pg_tup rfl (pgs_cons (pg_name (i := 4) scIsAdd.nd rfl (.inl rfl)) (pgs_cons (pg_name (i := 5) scIsAdd.nd rfl (.inl rfl)) (pgs_cons (pg_name (i := 6) scIsAdd.nd rfl (.inl rfl)) (pgs_cons (pg_name (i := 7) scIsAdd.nd rfl (.inl rfl)) pgs_nil))))))
      (pss_cons (ps_if (PW.pt (pw_or (pt_not (pt_val (pe_cl cN hr (pa_cons (pv 5) (pa_cons (pv 2) pa_nil))))) (pw_or1 (pt_not (pt_val (pe_cl cN hr (pa_cons (pv 6) (pa_cons (pv 1) pa_nil)))))))) (pss_one (ps_ret pe_bl)) pss_nil)
      (pss_cons (ps_if (PW.pt (pw_or (pt_not (pt_val (pe_callB call_isi (by rfl) T.isinst bIsi (pa_cons (pv 7) (pa_cons (pe_bltn (v := .ty "tuple") (by rfl) T.tuple bTuple rfl) pa_nil)))))
        (pw_or1 (pt_cmpR op_gt (pe_callB call_len_seq (by rfl) T.len bLen (pa_cons (pv 7) pa_nil)) (pe_gi T.factors) (nomark _))))) (pss_one (ps_ret pe_bl)) pss_nil)
      (pss_cons (ps_for PassesOwn.never rfl (pi_tup (pv 7)) (pg_name (i := 8) scIsAdd.nd rfl (.inl rfl))
        (pss_one (ps_if (pt_not (pt_val (pe_cl cF hr (pa_cons (pv 8) (pa_cons (pv 5) (pa_cons (pv 2) (pa_cons (pv 3) pa_nil))))))) (pss_one (ps_ret pe_bl)) pss_nil)))
      (pss_one (ps_ret pe_bl))))), ?_⟩
    refine ⟨_, rfl, a, _, rfl, SqT.of ha, rfl, _, _, rfl, _, _, rfl, _, _, rfl, _, _, rfl, rfl, ?_⟩
    have t1 := ok.tgt
    refine ⟨_, rfl, _, rfl, (st.tgt : Nat), 3, rfl, by omega, by omega, _, rfl, iteF ?_⟩
    refine ⟨_, rfl, _, rfl, st.co, m, rfl, ok.lo, ok.hi, _, rfl, iteF ?_⟩
    refine ⟨_, rfl, .ref fa, .ty "tuple", _, _, true, rfl, .ty "tuple", tyT hf, kit_ty kTT, _, rfl, iteF ?_⟩
    have l3 := ok.len
    refine ⟨_, rfl, fa, _, rfl, .inr (SqT.of hf), _, _, rfl, rfl, _, rfl, iteDN (by omega) ?_⟩
    refine ⟨_, rfl, fa, rfl, ⟨_, SqT.of hf⟩, for_tup (K := K) (a := fa) (xs := vs) (fun i σ H' => ∃ v, σ = [some (.ref a), some (.int m), some (.int 3), some (.int (q : Nat)), some (.str "add"), some (.int (st.tgt : Nat)), some (.int st.co), some (.ref fa), v] ∧ H' = H)
      ⟨none, rfl, rfl⟩ (fun i σ H' _ ⟨_, _, e⟩ => e ▸ SqT.of hf) ?_ ?_⟩
    · rintro i y σ H' hi ⟨v, rfl, rfl⟩
      obtain ⟨b, x, rfl, hx, r⟩ := rl.getV hi
      refine ⟨_, rfl, _, rfl, _, rfl, _, rfl, b, x, st.tgt, q, rfl, r, ok.fac x (List.mem_of_getElem? hx), _, rfl, iteF ?_⟩
      exact ⟨_, rfl, rfl⟩
    · rintro σ H' ⟨v, rfl, rfl⟩
      exact k
theorem ok_is_step (T : Tx w K mg C L) (D : Df K mg "is_step" sIsStep ["step", "modulus", "cells", "inputs"]) (cA : Cl P w K mg base 4 "is_add" ["step", "modulus", "cells", "inputs"] spIsStep) :
    Cl P w K mg base 5 "is_step" ["step", "modulus", "cells", "inputs"] spIsStep := by
  refine cl_mk D scIsStep (fun vs H Q E h => ?_) (fun f cdv A outer s H vs Q E hr h => ?_)
  · obtain ⟨a, f, tgt, q, rfl, _⟩ := h
    rfl
  · obtain ⟨a, st, m, q, rfl, h, ok, k⟩ := h
    obtain ⟨fa, ha, _⟩ := id h
    refine ⟨_, pss_cons (ps_if (PW.pt (pw_or (pt_not (pt_val (pe_callB call_isi (by rfl) T.isinst bIsi (pa_cons (pv 0) (pa_cons (pe_bltn (v := .ty "tuple") (by rfl) T.tuple bTuple rfl) pa_nil)))))
        (pw_or1 (pt_cmpR op_lt (pe_callB call_len_seq (by rfl) T.len bLen (pa_cons (pv 0) pa_nil)) pe_int (nomark _))))) (pss_one (ps_ret pe_bl)) pss_nil)
      (pss_cons (ps_if (PW.pt (pw_and (pt_cmpR op_eq (pe_ix ix_tup (pv 0) pe_int (fun _ _ => rfl)) pe_str (nomark _)) (pw_and1 (pt_cmpR op_eq (pe_callB call_len_seq (by rfl) T.len bLen (pa_cons (pv 0) pa_nil)) pe_int (nomark _)))))
        (pss_one (ps_ret (pe_cl cA hr (pa_cons (pv 0) (pa_cons (pv 1) (pa_cons (pv 2) (pa_cons (pv 3) pa_nil))))))) pss_nil)
      pss_never), ?_⟩
    refine ⟨_, rfl, .ref a, .ty "tuple", _, _, true, rfl, .ty "tuple", tyT ha, kit_ty kTT, _, rfl, iteF ?_⟩
    refine ⟨_, rfl, a, _, rfl, .inr (SqT.of ha), _, _, rfl, rfl, _, rfl, iteDN (by show ¬ ((4 : Nat) : Int) < 3; decide) ?_⟩
    refine ⟨_, rfl, a, _, 0, _, rfl, rfl, SqT.of ha, rfl, rfl, _, rfl, iteD rfl ?_⟩
    refine ⟨_, rfl, a, _, rfl, .inr (SqT.of ha), rfl, _, rfl, iteD rfl ?_⟩
    exact ⟨_, rfl, _, rfl, _, rfl, _, rfl, a, st, m, q, rfl, h, ok, k⟩
/-! ### check_steps -/
def spCheckSteps : Sp := fun vs H Q _ => ∃ (l : Addr) (ws : List V) (ss : List Stp) (m : Int) (q : Nat), vs = [.ref l, .int m, .int 3, .int (q : Nat), .int 20000] ∧ H l = some (.lst ws) ∧ RL (StpAt H) ws ss ∧ (∀ s ∈ ss, StpOk m q s) ∧ ss.length ≤ 20000 ∧ Q .non H
theorem ok_check_steps (T : Tx w K mg C L) (D : Df K mg "check_steps" sCheckSteps ["steps", "modulus", "cells", "inputs", "most"]) (cS : Cl P w K mg base 5 "is_step" ["step", "modulus", "cells", "inputs"] spIsStep) :
    Cl P w K mg base 6 "check_steps" ["steps", "modulus", "cells", "inputs", "most"] spCheckSteps := by
  refine cl_mk D scCheckSteps (fun vs H Q E h => ?_) (fun f cdv A outer s H vs Q E hr h => ?_)
  · obtain ⟨a, f, tgt, q, _, rfl, _⟩ := h
    rfl
  · obtain ⟨l, ws, ss, m, q, rfl, hl, rl, ok, le, k⟩ := h
    have hlen := rl.len
    refine ⟨_, pss_cons (ps_if (PW.pt (pw_or (pt_not (pt_val (pe_callB call_isi (by rfl) T.isinst bIsi (pa_cons (pv 0) (pa_cons (pe_bltn (v := .ty "list") (by rfl) T.list bList rfl) pa_nil)))))
        (pw_or1 (pt_cmpR op_gt (pe_callB call_len_seq (by rfl) T.len bLen (pa_cons (pv 0) pa_nil)) (pv 4) (nomark _))))) (pss_one ps_never) pss_nil)
      (pss_cons (ps_set (i := 5) scCheckSteps.nd rfl (.inl rfl) pe_bl)
      (pss_cons (ps_for PassesOwn.never rfl (pi_list (pv 0)) (pg_name (i := 6) scCheckSteps.nd rfl (.inl rfl))
        (pss_cons (ps_if (pt_not (pt_val (pe_cl cS hr (pa_cons (pv 6) (pa_cons (pv 1) (pa_cons (pv 2) (pa_cons (pv 3) pa_nil))))))) (pss_one ps_never) pss_nil)
        (pss_one (ps_set (i := 5) scCheckSteps.nd rfl (.inl rfl) (pe_orT (pv 5) (pe_one (pe_cmpR op_eq (pe_ix ix_tup (pv 6) pe_int (fun _ _ => rfl)) pe_str (nomark _))))))))
      (pss_one (ps_if (PW.pt (pw_and (pt_val (pv 5)) (pw_and1 pt_nvr))) (pss_one ps_never) pss_nil)))), ?_⟩
    refine ⟨_, rfl, .ref l, .ty "list", _, _, true, rfl, .ty "list", tyL hl, kit_ty kLL, _, rfl, iteF ?_⟩
    refine ⟨_, rfl, l, _, rfl, .inl (SqL.of hl), _, rfl, _, _, rfl, rfl, _, rfl, iteDN (by omega) ?_⟩
    refine ⟨_, rfl, l, rfl, ⟨_, SqL.of hl⟩, for_list (K := K) (a := l) (xs := ws) (fun i σ H' => ∃ v, σ = [some (.ref l), some (.int m), some (.int 3), some (.int (q : Nat)), some (.int 20000), some (.bl false), v] ∧ H' = H)
      ⟨none, rfl, rfl⟩ (fun i σ H' _ ⟨_, _, e⟩ => e ▸ SqL.of hl) ?_ ?_⟩
    · rintro i y σ H' hi ⟨v, rfl, rfl⟩
      obtain ⟨b, x, rfl, hx, r⟩ := rl.getV hi
      obtain ⟨fa, ha, _⟩ := id r
      refine ⟨_, rfl, _, rfl, _, rfl, _, rfl, b, x, m, q, rfl, r, ok x (List.mem_of_getElem? hx), _, rfl, iteF ?_⟩
      refine ⟨_, rfl, false, rfl, iteF ?_⟩
      refine ⟨_, rfl, b, _, 0, _, rfl, rfl, SqT.of ha, rfl, rfl, ?_⟩
      refine ⟨some (.ref b), ?_, rfl⟩
      rw [decide_eq_false (strNe (by decide +kernel))]
      rfl
    · rintro σ H' ⟨v, rfl, rfl⟩
      exact ⟨_, rfl, _, rfl, iteF (iteF k)⟩
/-! ### check_numbers -/
def spCheckNumbers : Sp := fun vs H Q _ => ∃ (l : Addr) (ns : List Int) (m : Int), vs = [.ref l, .int (ns.length : Nat), .int m] ∧ H l = some (.lst (ns.map V.int)) ∧ (∀ n ∈ ns, 0 ≤ n ∧ n < m) ∧ Q .non H
theorem ok_check_numbers (T : Tx w K mg C L) (D : Df K mg "check_numbers" sCheckNumbers ["values", "many", "modulus"]) (cN : Cl P w K mg base 2 "is_number" ["value", "modulus"] spIsNumber) :
    Cl P w K mg base 3 "check_numbers" ["values", "many", "modulus"] spCheckNumbers := by
  refine cl_mk D scCheckNumbers (fun vs H Q E h => ?_) (fun f cdv A outer s H vs Q E hr h => ?_)
  · obtain ⟨l, ns, m, rfl, _⟩ := h
    rfl
  · obtain ⟨l, ns, m, rfl, hl, ok, k⟩ := h
    refine ⟨_, pss_cons (ps_if (PW.pt (pw_or (pt_not (pt_val (pe_callB call_isi (by rfl) T.isinst bIsi (pa_cons (pv 0) (pa_cons (pe_bltn (v := .ty "list") (by rfl) T.list bList rfl) pa_nil)))))
        (pw_or1 (pt_cmpR op_ne (pe_callB call_len_seq (by rfl) T.len bLen (pa_cons (pv 0) pa_nil)) (pv 1) (nomark _))))) (pss_one ps_never) pss_nil)
      (pss_one (ps_for PassesOwn.never rfl (pi_list (pv 0)) (pg_name (i := 3) scCheckNumbers.nd rfl (.inl rfl))
        (pss_one (ps_if (pt_not (pt_val (pe_cl cN hr (pa_cons (pv 3) (pa_cons (pv 2) pa_nil))))) (pss_one ps_never) pss_nil)))), ?_⟩
    refine ⟨_, rfl, .ref l, .ty "list", _, _, true, rfl, .ty "list", tyL hl, kit_ty kLL, _, rfl, iteF ?_⟩
    refine ⟨_, rfl, l, _, rfl, .inl (SqL.of hl), _, rfl, rfl, _, rfl, iteNS (by rw [List.length_map]) ?_⟩
    refine ⟨_, rfl, l, rfl, ⟨_, SqL.of hl⟩, for_list (K := K) (a := l) (xs := ns.map V.int) (fun i σ H' => ∃ v, σ = [some (.ref l), some (.int (ns.length : Nat)), some (.int m), v] ∧ H' = H)
      ⟨none, rfl, rfl⟩ (fun i σ H' _ ⟨_, _, e⟩ => e ▸ SqL.of hl) ?_ ?_⟩
    · rintro i y σ H' hi ⟨v, rfl, rfl⟩
      obtain ⟨n, hn, rfl⟩ := map_get hi
      obtain ⟨n0, n1⟩ := ok n (List.mem_of_getElem? hn)
      refine ⟨_, rfl, _, rfl, n, m, rfl, n0, n1, _, rfl, iteF ?_⟩
      exact ⟨_, rfl, rfl⟩
    · rintro σ H' ⟨v, rfl, rfl⟩
      exact k
end
end Brim
/-! ## W3 -/
namespace Brim
open PySem PySem.Spec PyProof.Rows L2
/-! ### the fields of a program -/
def pf (m c i : Int) (l : Addr) : List (Str × V) := putF "steps" (.ref l) (putF "inputs" (.int i) (putF "cells" (.int c) (putF "modulus" (.int m) [])))
theorem pf_s (m c i : Int) (l : Addr) : (pf m c i l).lookup ("steps" : Str) = some (.ref l) := by
  unfold pf
  rw [lookup_putF, if_pos rfl]
theorem pf_i (m c i : Int) (l : Addr) : (pf m c i l).lookup ("inputs" : Str) = some (.int i) := by
  unfold pf
  rw [lookup_putF, if_neg (by decide +kernel), lookup_putF, if_pos rfl]
theorem pf_c (m c i : Int) (l : Addr) : (pf m c i l).lookup ("cells" : Str) = some (.int c) := by
  unfold pf
  rw [lookup_putF, if_neg (by decide +kernel), lookup_putF, if_neg (by decide +kernel), lookup_putF, if_pos rfl]
theorem pf_m (m c i : Int) (l : Addr) : (pf m c i l).lookup ("modulus" : Str) = some (.int m) := by
  unfold pf
  rw [lookup_putF, if_neg (by decide +kernel), lookup_putF, if_neg (by decide +kernel), lookup_putF, if_neg (by decide +kernel), lookup_putF, if_pos rfl]
theorem pf_no (m c i : Int) (l : Addr) {x : Str} (h1 : x ≠ "steps") (h2 : x ≠ "inputs") (h3 : x ≠ "cells") (h4 : x ≠ "modulus") : (pf m c i l).lookup x = none := by
  unfold pf
  rw [lookup_putF, if_neg h1, lookup_putF, if_neg h2, lookup_putF, if_neg h3, lookup_putF, if_neg h4]
  rfl
theorem putF_len (f : Str) (v : V) : ∀ fs : List (Str × V), (putF f v fs).length ≤ fs.length + 1
  | [] => Nat.le_refl _
  | (g, x) :: r => by
    unfold putF
    split
    · exact Nat.le_succ _
    · rw [List.length_cons, List.length_cons]
      exact Nat.succ_le_succ (putF_len f v r)
/-- a program stands at p -/
structure PrAt (C : Addr) (H : Hp) (p : Addr) (m : Int) (q : Nat) (ss : List Stp) : Prop where
  ex : ∃ (dx l : Addr) (ws : List V), H p = some (.ins C dx (pf m 3 (q : Nat) l)) ∧ H l = some (.lst ws) ∧ RL (StpAt H) ws ss
theorem PrAt.to {C : Addr} {H H' : Hp} {p : Addr} {m : Int} {q : Nat} {ss : List Stp} (h : PrAt C H p m q ss) (s : Same H H') : PrAt C H' p m q ss := by
  obtain ⟨dx, l, ws, h1, h2, h3⟩ := h.ex
  exact ⟨dx, l, ws, s _ _ h1, s _ _ h2, h3.toS (tps_same s)⟩
theorem PrAt.kp {C : Addr} {H H' : Hp} {p d : Addr} {m : Int} {q : Nat} {ss : List Stp} {ns : List V} (h : PrAt C H p m q ss) (s : Kp d H H') (hd : H d = some (.lst ns)) (hl : ∀ dx l, H p = some (.ins C dx (pf m 3 (q : Nat) l)) → l ≠ d) : PrAt C H' p m q ss := by
  obtain ⟨dx, l, ws, h1, h2, h3⟩ := h.ex
  exact ⟨dx, l, ws, s _ _ (ne_of h1 hd (by intro z; cases z)) h1, s _ _ (hl dx l h1) h2, h3.toS (s.tpl hd)⟩
section
variable {P : Program} {w : World} {K : PySem.W.Frag} {mg : Str → Option Value} {base : Heap} {C L : Addr}
/-! ### Program.__init__ -/
def spPInit (C : Addr) : Sp := fun vs H Q _ => ∃ (p dx l : Addr) (ws : List V) (ss : List Stp) (m : Int) (q : Nat), vs = [.ref p, .int m, .int 3, .int (q : Nat), .ref l] ∧ 2 ≤ m ∧ m ≤ 1000000000 ∧ q ≤ 60 ∧ H p = some (.ins C dx []) ∧
  H l = some (.lst ws) ∧ RL (StpAt H) ws ss ∧ (∀ s ∈ ss, StpOk m q s) ∧ ss.length ≤ 20000 ∧
  ∀ H' l2, Kp p H H' → H l2 = none → H' l2 = some (.lst ws) → H' p = some (.ins C dx (pf m 3 (q : Nat) l2)) → Q .non H'
theorem ok_p_init {f : Addr} {fd : FuncData} (T : Tx w K mg C L) (F : Fun K "__init__" "Program.__init__" sPInit f fd) (cI : Cl P w K mg base 1 "is_integer" ["value"] spIsInteger)
    (cS : Cl P w K mg base 6 "check_steps" ["steps", "modulus", "cells", "inputs", "most"] spCheckSteps) : FnOk P w K mg base CX0 7 f fd ["self", "modulus", "cells", "inputs", "steps"] (spPInit C) := by
  refine F.ok scPInit (fun vs H Q E h => ?_) (fun cdv A outer s H vs Q E hr h => ?_)
  · obtain ⟨p, dx, l, ws, ss, m, q, rfl, _⟩ := h
    rfl
  · obtain ⟨p, dx, l, ws, ss, m, q, rfl, m2, m9, q60, hp, hl, rl, ok, le, k⟩ := h
    refine ⟨_, pss_cons (ps_if (PW.pt (pw_or (pt_not (pt_val (pe_cl cI hr (pa_cons (pv 1) pa_nil)))) (pw_or1 (pt_not (pt_chain op_le op_le pe_int (pv 1) (pe_gi T.modulus)))))) (pss_one ps_never) pss_nil)
      (pss_cons (ps_if (PW.pt (pw_or (pt_not (pt_val (pe_cl cI hr (pa_cons (pv 2) pa_nil)))) (pw_or1 (pt_not (pt_chain op_le op_le pe_int (pv 2) (pe_gi T.cells)))))) (pss_one ps_never) pss_nil)
      (pss_cons (ps_if (PW.pt (pw_or (pt_not (pt_val (pe_cl cI hr (pa_cons (pv 3) pa_nil)))) (pw_or1 (pt_not (pt_chain op_le op_le pe_int (pv 3) (pe_gi T.inputsP)))))) (pss_one ps_never) pss_nil)
      (pss_cons (ps_expr (pe_cl cS hr (pa_cons (pv 4) (pa_cons (pv 1) (pa_cons (pv 2) (pa_cons (pv 3) (pa_cons (pe_gi T.steps) pa_nil)))))))
      (pss_cons (ps_fld (pv 0) (pv 1) rfl)
      (pss_cons (ps_fld (pv 0) (pv 2) rfl)
      (pss_cons (ps_fld (pv 0) (pv 3) rfl)
      (pss_one (ps_fld (pv 0) (pe_callTy call_list_of (by rfl) T.list bList (pa_cons (pv 4) pa_nil)) rfl)))))))), ?_⟩
    refine ⟨_, rfl, m, rfl, _, rfl, iteF ?_⟩
    refine ⟨_, rfl, _, _, rfl, rfl, _, rfl, iteD m2 ?_⟩
    refine ⟨_, _, rfl, rfl, true, congrArg V.bl (decide_eq_true m9), iteF ?_⟩
    refine ⟨_, rfl, 3, rfl, _, rfl, iteF ?_⟩
    refine ⟨_, rfl, _, _, rfl, rfl, _, rfl, iteD (by decide) ?_⟩
    refine ⟨_, _, rfl, rfl, true, rfl, iteF ?_⟩
    refine ⟨_, rfl, (q : Nat), rfl, _, rfl, iteF ?_⟩
    refine ⟨_, rfl, _, _, rfl, rfl, _, rfl, iteD (by omega) ?_⟩
    refine ⟨_, _, rfl, rfl, true, congrArg V.bl (decide_eq_true (show ((q : Nat) : Int) ≤ 60 by omega)), iteF ?_⟩
    refine ⟨_, rfl, _, rfl, _, rfl, _, rfl, l, ws, ss, m, q, rfl, hl, rl, ok, le, ?_⟩
    have lp : l ≠ p := ne_of hl hp (by intro z; cases z)
    refine ⟨_, rfl, _, rfl, p, C, dx, _, rfl, hp, T.cl, T.nM, (by show 0 < 1000; decide), ?_⟩
    refine ⟨_, rfl, _, rfl, p, C, dx, _, rfl, upd_same, T.cl, T.nC, Nat.lt_of_le_of_lt (putF_len _ _ _) (by show 0 + 1 < 1000; decide), ?_⟩
    refine ⟨_, rfl, _, rfl, p, C, dx, _, rfl, upd_same, T.cl, T.nI, Nat.lt_of_le_of_lt (Nat.le_trans (putF_len _ _ _) (Nat.succ_le_succ (putF_len _ _ _))) (by show 0 + 1 + 1 < 1000; decide), ?_⟩
    rw [upd_upd, upd_upd]
    refine ⟨_, rfl, l, ws, rfl, .inl (SqL.of (Eq.trans (upd_ne lp) hl)), fun l2 hl2 => ?_⟩
    have p2 : p ≠ l2 := fun z => by
      rw [← z, upd_same] at hl2
      cases hl2
    have hl20 : H l2 = none := by
      rw [upd_ne p2.symm] at hl2
      exact hl2
    refine ⟨_, rfl, p, C, dx, _, rfl, Eq.trans (upd_ne p2) upd_same, T.cl, T.nS, Nat.lt_of_le_of_lt (Nat.le_trans (putF_len _ _ _) (Nat.succ_le_succ (Nat.le_trans (putF_len _ _ _) (Nat.succ_le_succ (putF_len _ _ _))))) (by show 0 + 1 + 1 + 1 < 1000; decide), ?_⟩
    refine k _ l2 (fun b o n e => ?_) hl20 ?_ upd_same
    · rw [upd_ne n, upd_ne (ne_of_none e hl20), upd_ne n]
      exact e
    · rw [upd_ne p2.symm, upd_same]
/-! ### Program.__len__ -/
def spPLen (C : Addr) : Sp := fun vs H Q _ => ∃ (p : Addr) (m : Int) (q : Nat) (ss : List Stp), vs = [.ref p] ∧ PrAt C H p m q ss ∧ Q (.int (ss.length : Nat)) H
theorem ok_p_len {f : Addr} {fd : FuncData} (T : Tx w K mg C L) (F : Fun K "__len__" "Program.__len__" sPLen f fd) : FnOk P w K mg base CX0 1 f fd ["self"] (spPLen C) := by
  refine F.ok scPLen (fun vs H Q E h => ?_) (fun cdv A outer s H vs Q E hr h => ?_)
  · obtain ⟨p, m, q, ss, rfl, _⟩ := h
    rfl
  · obtain ⟨p, m, q, ss, rfl, hP, k⟩ := h
    obtain ⟨dx, l, ws, hp, hl, rl⟩ := hP.ex
    refine ⟨_, pss_one (ps_ret (pe_callB call_len_seq (by rfl) T.len bLen (pa_cons (pe_fld (pv 0) rfl) pa_nil))), ?_⟩
    refine ⟨_, rfl, p, C, dx, _, _, rfl, hp, T.cl, T.nS, pf_s _ _ _ _, l, ws, rfl, .inl (SqL.of hl), ?_⟩
    rw [rl.len]
    exact k
/-! ### perform -/
def memL (M : Nat → Int) : List Int := [M 0, M 1, M 2]
theorem memL_get {M : Nat → Int} {i : Nat} (h : i < 3) : (memL M)[i]? = some (M i) := by
  have : i = 0 ∨ i = 1 ∨ i = 2 := by omega
  rcases this with rfl | rfl | rfl <;> rfl
theorem memL_set {M : Nat → Int} {m A : Int} {i : Nat} (h : i < 3) : ((memL M).map V.int).set i (.int ((M i + A) % m)) = (memL (add m i A M)).map V.int := by
  have : i = 0 ∨ i = 1 ∨ i = 2 := by omega
  rcases this with rfl | rfl | rfl <;> rfl
def gv (gs : List Int) : Nat → Int := fun k => gs.getD k 0
theorem gv_get {gs : List Int} {k : Nat} (h : k < gs.length) : gs[k]? = some (gv gs k) := by
  unfold gv
  rw [List.getD_eq_getElem?_getD, List.getElem?_eq_getElem h]
  rfl
theorem ixN_nat {n i : Nat} (h : i < n) : ixN n (i : Int) = some i := by
  unfold ixN
  rw [if_pos (by omega), if_pos (by omega)]
  simp
def spPerform : Sp := fun vs H Q _ => ∃ (a c g : Addr) (s : Stp) (m : Int) (M : Nat → Int) (gs : List Int), vs = [.ref a, .ref c, .ref g, .int m] ∧ StpAt H a s ∧ StpOk m gs.length s ∧ 0 < m ∧ m ≤ 1000000000 ∧
  H c = some (.lst ((memL M).map V.int)) ∧ H g = some (.lst (gs.map V.int)) ∧ Q .non (upd H c (.lst ((memL (exec m (gv gs) M s)).map V.int)))
theorem ok_perform (T : Tx w K mg C L) (D : Df K mg "perform" sPerform ["step", "memory", "given", "modulus"]) : Cl P w K mg base 1 "perform" ["step", "memory", "given", "modulus"] spPerform := by
  refine cl_mk D scPerform (fun vs H Q E h => ?_) (fun f cdv A outer s H vs Q E hr h => ?_)
  · obtain ⟨a, c, g, st, m, M, gs, rfl, _⟩ := h
    rfl
  · obtain ⟨a, c, g, st, m, M, gs, rfl, ⟨fa, ha, ws, hf, rl⟩, ok, m0, m9, hc, hg, k⟩ := h
    have lenW := rl.len
    refine ⟨_, pss_one (ps_if (pt_cmpR op_eq (pe_ix ix_tup (pv 0) pe_int (fun _ _ => rfl)) pe_str (nomark _))
      (pss_cons (ps_set (i := 4) scPerform.nd rfl (.inl rfl) (pe_ix ix_tup (pv 0) pe_int (fun _ _ => rfl)))
      (pss_cons (ps_for PassesOwn.never rfl (pi_tup (pe_ix ix_tup (pv 0) pe_int (fun _ _ => rfl))) (pg_tup rfl (pgs_cons (pg_name (i := 5) scPerform.nd rfl (.inl rfl)) (pgs_cons (pg_name (i := 6) scPerform.nd rfl (.inl rfl)) pgs_nil)))
        (pss_one (ps_set (i := 4) scPerform.nd rfl (.inl rfl) (pe_op op_mod (pe_op op_mul (pv 4) (pe_ifExp (pt_cmpR op_eq (pv 5) pe_str (nomark _)) (pe_ix ix_list (pv 1) (pv 6) (fun _ _ => rfl)) (pe_ix ix_list (pv 2) (pv 6) (fun _ _ => rfl)))) (pv 3)))))
      (pss_one (ps_asg (pe_op op_mod (pe_op op_add (pe_ix ix_list (pv 1) (pe_ix ix_tup (pv 0) pe_int (fun _ _ => rfl)) (fun _ _ => rfl)) (pv 4)) (pv 3)) (pg_sub (pv 1) (pe_ix ix_tup (pv 0) pe_int (fun _ _ => rfl)) set_list)))))
      pss_never), ?_⟩
    refine ⟨_, rfl, a, _, 0, _, rfl, rfl, SqT.of ha, rfl, rfl, _, rfl, iteD rfl ?_⟩
    refine ⟨_, rfl, a, _, 2, _, rfl, rfl, SqT.of ha, rfl, ?_⟩
    refine ⟨_, rfl, a, _, 3, _, rfl, rfl, SqT.of ha, rfl, fa, rfl, ⟨_, SqT.of hf⟩, ?_⟩
    have hT : ∀ i, 0 ≤ (st.fac.take i).foldl (fun t f => t * look (gv gs) M f % m) st.co ∧ (st.fac.take i).foldl (fun t f => t * look (gv gs) M f % m) st.co < m := by
      intro i
      have : ∀ (l : List Fac) (z : Int), 0 ≤ z ∧ z < m → 0 ≤ l.foldl (fun t f => t * look (gv gs) M f % m) z ∧ l.foldl (fun t f => t * look (gv gs) M f % m) z < m := by
        intro l
        induction l with
        | nil => exact fun z h => h
        | cons b r ih => exact fun z h => ih _ (mod_range m0)
      exact this _ _ ⟨ok.lo, ok.hi⟩
    refine for_tup (K := K) (a := fa) (xs := ws) (fun i σ H' => ∃ v5 v6, σ = [some (.ref a), some (.ref c), some (.ref g), some (.int m), some (.int ((st.fac.take i).foldl (fun t f => t * look (gv gs) M f % m) st.co)), v5, v6, none, none] ∧ H' = H)
      ⟨none, none, rfl, rfl⟩ (fun i σ H' _ ⟨_, _, _, e⟩ => e ▸ SqT.of hf) ?_ ?_
    · rintro i y σ H' hi ⟨v5, v6, rfl, rfl⟩
      obtain ⟨b, x, rfl, hx, r⟩ := rl.getV hi
      have fok := ok.fac x (List.mem_of_getElem? hx)
      obtain ⟨t0, t1⟩ := hT i
      have step : (st.fac.take (i + 1)).foldl (fun t f => t * look (gv gs) M f % m) st.co = (st.fac.take i).foldl (fun t f => t * look (gv gs) M f % m) st.co * look (gv gs) M x % m := by
        rw [List.take_add_one, hx, List.foldl_append]
        rfl
      cases x with
      | cell j =>
        have r' : H' b = some (.tup [.str "cell", .int (j : Nat)]) := r
        refine ⟨b, _, rfl, SqT.of r', rfl, _, _, rfl, _, _, rfl, rfl, ?_⟩
        refine ⟨_, rfl, _, rfl, rfl, _, rfl, iteD rfl ?_⟩
        refine ⟨_, rfl, _, rfl, c, _, _, _, rfl, rfl, SqL.of hc, atI_nat (map_at (memL_get fok.1)), ?_⟩
        refine ⟨_, _, rfl, rfl, .inl ⟨by omega, by omega⟩, _, rfl, _, _, rfl, rfl, m0, ?_⟩
        refine ⟨some (.str "cell"), some (.int (j : Nat)), ?_, rfl⟩
        rw [step]
        rfl
      | input j =>
        have r' : H' b = some (.tup [.str "input", .int (j : Nat)]) := r
        refine ⟨b, _, rfl, SqT.of r', rfl, _, _, rfl, _, _, rfl, rfl, ?_⟩
        refine ⟨_, rfl, _, rfl, rfl, _, rfl, iteDN (strNe (by decide +kernel)) ?_⟩
        refine ⟨_, rfl, _, rfl, g, _, _, _, rfl, rfl, SqL.of hg, atI_nat (map_at (gv_get fok)), ?_⟩
        refine ⟨_, _, rfl, rfl, .inl ⟨by omega, by omega⟩, _, rfl, _, _, rfl, rfl, m0, ?_⟩
        refine ⟨some (.str "input"), some (.int (j : Nat)), ?_, rfl⟩
        rw [step]
        rfl
    · rintro σ H' ⟨v5, v6, rfl, rfl⟩
      have e1 : st.fac.take ws.length = st.fac := List.take_of_length_le (Nat.le_of_eq lenW.symm)
      rw [e1]
      refine ⟨_, rfl, _, rfl, a, _, 1, _, rfl, rfl, SqT.of ha, rfl, c, _, _, _, rfl, rfl, SqL.of hc, atI_nat (map_at (memL_get ok.tgt)), _, rfl, _, _, rfl, rfl, _, rfl, _, _, rfl, rfl, m0, ?_⟩
      refine ⟨_, rfl, _, rfl, a, _, 1, _, rfl, rfl, SqT.of ha, rfl, c, _, _, st.tgt, rfl, rfl, hc, ixN_nat (show st.tgt < ((memL M).map V.int).length from ok.tgt), ?_⟩
      rw [memL_set ok.tgt]
      exact k
/-! ### Program.run -/
def spPRun (C : Addr) : Sp := fun vs H Q _ => ∃ (p a g : Addr) (m : Int) (q : Nat) (ss : List Stp) (M : Nat → Int) (gs : List Int), vs = [.ref p, .ref a, .ref g] ∧ PrAt C H p m q ss ∧ (∀ s ∈ ss, StpOk m q s) ∧ 0 < m ∧ m ≤ 1000000000 ∧
  H a = some (.lst ((memL M).map V.int)) ∧ Rng m M ∧ H g = some (.lst (gs.map V.int)) ∧ gs.length = q ∧ (∀ n ∈ gs, 0 ≤ n ∧ n < m) ∧
  ∀ H' c, Same H H' → H' c = some (.lst ((memL (execs m (gv gs) ss M)).map V.int)) → Q (.ref c) H'
theorem ok_p_run {f : Addr} {fd : FuncData} (T : Tx w K mg C L) (F : Fun K "run" "Program.run" sPRun f fd) (cN : Cl P w K mg base 3 "check_numbers" ["values", "many", "modulus"] spCheckNumbers)
    (cP : Cl P w K mg base 1 "perform" ["step", "memory", "given", "modulus"] spPerform) : FnOk P w K mg base CX0 4 f fd ["self", "memory", "given"] (spPRun C) := by
  refine F.ok scPRun (fun vs H Q E h => ?_) (fun cdv A outer s H vs Q E hr h => ?_)
  · obtain ⟨p, a, g, m, q, ss, M, gs, rfl, _⟩ := h
    rfl
  · obtain ⟨p, a, g, m, q, ss, M, gs, rfl, hP, ok, m0, m9, ha, rng, hg, rfl, hgs, k⟩ := h
    obtain ⟨dx, l, ws, hp, hl, rl⟩ := hP.ex
    have lenW := rl.len
    refine ⟨_, pss_cons (ps_expr (pe_cl cN hr (pa_cons (pv 1) (pa_cons (pe_fld (pv 0) rfl) (pa_cons (pe_fld (pv 0) rfl) pa_nil)))))
      (pss_cons (ps_expr (pe_cl cN hr (pa_cons (pv 2) (pa_cons (pe_fld (pv 0) rfl) (pa_cons (pe_fld (pv 0) rfl) pa_nil)))))
      (pss_cons (ps_set (i := 3) scPRun.nd rfl (.inl rfl) (pe_callTy call_list_of (by rfl) T.list bList (pa_cons (pv 1) pa_nil)))
      (pss_cons (ps_for PassesOwn.never rfl (pi_list (pe_fld (pv 0) rfl)) (pg_name (i := 4) scPRun.nd rfl (.inl rfl))
        (pss_one (ps_expr (pe_cl cP hr (pa_cons (pv 4) (pa_cons (pv 3) (pa_cons (pv 2) (pa_cons (pe_fld (pv 0) rfl) pa_nil))))))))
      (pss_one (ps_ret (pv 3)))))), ?_⟩
    refine ⟨_, rfl, _, rfl, p, C, dx, _, _, rfl, hp, T.cl, T.nC, pf_c _ _ _ _, _, rfl, p, C, dx, _, _, rfl, hp, T.cl, T.nM, pf_m _ _ _ _, a, memL M, m, rfl, ha, ?_, ?_⟩
    · intro n hn
      have : n = M 0 ∨ n = M 1 ∨ n = M 2 := by simpa [memL] using hn
      rcases this with rfl | rfl | rfl
      · exact rng 0
      · exact rng 1
      · exact rng 2
    refine ⟨_, rfl, _, rfl, p, C, dx, _, _, rfl, hp, T.cl, T.nI, pf_i _ _ _ _, _, rfl, p, C, dx, _, _, rfl, hp, T.cl, T.nM, pf_m _ _ _ _, g, gs, m, rfl, hg, hgs, ?_⟩
    refine ⟨_, rfl, a, _, rfl, .inl (SqL.of ha), fun c hc => ?_⟩
    have s1 : Same H (upd H c (.lst ((memL M).map V.int))) := same_new hc
    refine ⟨_, rfl, p, C, dx, _, _, rfl, s1 _ _ hp, T.cl, T.nS, pf_s _ _ _ _, l, rfl, ⟨_, SqL.of (s1 _ _ hl)⟩, ?_⟩
    refine for_list (K := K) (a := l) (xs := ws) (fun i σ H' => ∃ v, σ = [some (.ref p), some (.ref a), some (.ref g), some (.ref c), v] ∧ Same H H' ∧ H' c = some (.lst ((memL (execs m (gv gs) (ss.take i) M)).map V.int)))
      ⟨none, rfl, s1, upd_same⟩ (fun i σ H' _ ⟨_, _, s, _⟩ => SqL.of (s _ _ hl)) ?_ ?_
    · rintro i y σ H' hi ⟨v, rfl, sm, hc'⟩
      obtain ⟨b, x, rfl, hx, r⟩ := rl.getV hi
      have ex : execs m (gv gs) (ss.take (i + 1)) M = exec m (gv gs) (execs m (gv gs) (ss.take i) M) x := by
        rw [List.take_add_one, hx, execs_app]
        rfl
      refine ⟨_, rfl, _, rfl, _, rfl, _, rfl, p, C, dx, _, _, rfl, sm _ _ hp, T.cl, T.nM, pf_m _ _ _ _, ?_⟩
      refine ⟨b, c, g, x, m, _, gs, rfl, r.to (tps_same sm), ok x (List.mem_of_getElem? hx), m0, m9, hc', sm _ _ hg, ?_⟩
      refine ⟨_, rfl, same_set sm hc, ?_⟩
      rw [upd_same, ex]
    · rintro σ H' ⟨v, rfl, sm, hc'⟩
      rw [List.take_of_length_le (Nat.le_of_eq lenW.symm)] at hc'
      exact ⟨_, rfl, k H' c sm hc'⟩
end
end Brim
/-! ## W4 -/
namespace Brim
open PySem PySem.Spec PyProof.Rows L2
theorem walk_enumT {K : PySem.W.Frag} {a : Addr} {xs : List V} : Walk (IteT K a) xs.length (fun H => SqT K H a xs) (fun i H v H' => ∃ T x, v = .ref T ∧ H T = none ∧ H' = upd H T (.tup [.int (i : Nat), x]) ∧ xs[i]? = some x) where
  goes := fun i H hi q => ⟨xs, xs[i], q, List.getElem?_eq_getElem hi⟩
  stops := fun H q => ⟨xs, q, rfl⟩
  yields := fun i H x H' hi q ⟨T, z, e1, e2, e3, e4⟩ => ⟨T, z, e1, e2, e3, e4 xs q⟩
theorem atI_neg1 {α : Type} {xs : List α} {v : α} (h : xs[xs.length - 1]? = some v) (hn : 0 < xs.length) : atI xs (-1) = some v := by
  have e : ixN xs.length (-1) = some (xs.length - 1) := by
    unfold ixN
    rw [if_neg (by decide), if_pos (by omega)]
    congr 1
    omega
  unfold atI
  rw [e]
  exact h
def ndName : Nd → Str
  | .const _ => "const"
  | .input _ => "input"
  | .sum _ _ => "sum"
  | .prod _ _ => "product"
  | .scaled _ _ => "scaled"
  | .choose _ _ _ => "choose"
section
variable {P : Program} {w : World} {K : PySem.W.Frag} {mg : Str → Option Value} {base : Heap} {C L : Addr}
theorem Tx.nodeLen (T : Tx w K mg C L) (nd : Nd) : ∃ u, PySem.W.nsIn K L (ndName nd) = some (some u) ∧ RelV (.int ((ndV nd).length : Nat)) u := by
  cases nd with
  | const c => exact T.lenV ("const", .int 2) (by simp)
  | input k => exact T.lenV ("input", .int 2) (by simp)
  | sum i j => exact T.lenV ("sum", .int 3) (by simp)
  | prod i j => exact T.lenV ("product", .int 3) (by simp)
  | scaled c i => exact T.lenV ("scaled", .int 3) (by simp)
  | choose i j l => exact T.lenV ("choose", .int 4) (by simp)
/-! ### is_node -/
def spIsNode : Sp := fun vs H Q _ => ∃ (a : Addr) (nd : Nd) (n : Nat), vs = [.ref a, .int (n : Nat)] ∧ NdAt H a nd ∧ nd.ok n ∧ ∀ H', Same H H' → Q (.bl true) H'
theorem ok_is_node (T : Tx w K mg C L) (D : Df K mg "is_node" sIsNode ["node", "at"]) (cN : Cl P w K mg base 2 "is_number" ["value", "modulus"] spIsNumber) : Cl P w K mg base 3 "is_node" ["node", "at"] spIsNode := by
  obtain ⟨es, n0, KD⟩ := T.lenD
  refine cl_mk D scIsNode (fun vs H Q E h => ?_) (fun f cdv A outer s H vs Q E hr h => ?_)
  · obtain ⟨a, nd, n, rfl, _⟩ := h
    rfl
  · obtain ⟨a, nd, n, rfl, h, ok, k⟩ := h
    have IX := @ix_tup
    refine ⟨_, pss_cons (ps_if (PW.pt (pw_or (pt_not (pt_val (pe_callB call_isi (by rfl) T.isinst bIsi (pa_cons (pv 0) (pa_cons (pe_bltn (v := .ty "tuple") (by rfl) T.tuple bTuple rfl) pa_nil)))))
        (pw_or (pt_cmpR op_lt (pe_callB call_len_seq (by rfl) T.len bLen (pa_cons (pv 0) pa_nil)) pe_int (nomark _))
        (pw_or1 (pt_not (pt_val (pe_callB call_isi (by rfl) T.isinst bIsi (pa_cons (pe_ix ix_tup (pv 0) pe_int (fun _ _ => rfl)) (pa_cons (pe_bltn (v := .ty "str") (by rfl) T.str bStr rfl) pa_nil))))))))) (pss_one (ps_ret pe_bl)) pss_nil)
      (pss_cons (ps_if (pt_cmpR op_ne (pe_kget KD (pe_glob (v := .ref L) (by rfl) T.lengths rfl) (pe_ix ix_tup (pv 0) pe_int (fun _ _ => rfl)) ⟨rfl, rfl, rfl, rfl⟩) (pe_callB call_len_seq (by rfl) T.len bLen (pa_cons (pv 0) pa_nil)) (nomark _)) (pss_one (ps_ret pe_bl)) pss_nil)
      (pss_cons (ps_if (pt_cmpR op_eq (pe_ix ix_tup (pv 0) pe_int (fun _ _ => rfl)) pe_str (nomark _)) (pss_one (ps_ret (pe_cl cN hr (pa_cons (pe_ix ix_tup (pv 0) pe_int (fun _ _ => rfl)) (pa_cons (pe_gi T.constant) pa_nil))))) pss_nil)
      (pss_cons (ps_if (pt_cmpR op_eq (pe_ix ix_tup (pv 0) pe_int (fun _ _ => rfl)) pe_str (nomark _)) (pss_one (ps_ret (pe_cl cN hr (pa_cons (pe_ix ix_tup (pv 0) pe_int (fun _ _ => rfl)) (pa_cons (pe_gi T.inputsS) pa_nil))))) pss_nil)
      (pss_cons (ps_if (pt_cmpR op_eq (pe_ix ix_tup (pv 0) pe_int (fun _ _ => rfl)) pe_str (nomark _)) (pss_one (ps_ret (pe_and (pe_cl cN hr (pa_cons (pe_ix ix_tup (pv 0) pe_int (fun _ _ => rfl)) (pa_cons (pe_gi T.constant) pa_nil))) (pe_one (pe_cl cN hr (pa_cons (pe_ix ix_tup (pv 0) pe_int (fun _ _ => rfl)) (pa_cons (pv 1) pa_nil))))))) pss_nil)
      (pss_cons (ps_for PassesOwn.never rfl (pi_tup (pe_slice sl_tup (pv 0) (po_some pe_int) po_none)) (pg_name (i := 2) scIsNode.nd rfl (.inl rfl))
        (pss_one (ps_if (pt_not (pt_val (pe_cl cN hr (pa_cons (pv 2) (pa_cons (pv 1) pa_nil))))) (pss_one (ps_ret pe_bl)) pss_nil)))
      (pss_one (ps_ret pe_bl))))))), ?_⟩
    obtain ⟨u, eu, ru⟩ := T.nodeLen nd
    cases nd with
    | const c =>
      have h' : H a = some (.tup [.str "const", .int c]) := h
      refine ⟨_, rfl, .ref a, .ty "tuple", _, _, true, rfl, .ty "tuple", tyT h', kit_ty kTT, _, rfl, iteF ?_⟩
      refine ⟨_, rfl, a, _, rfl, .inr (SqT.of h'), _, _, rfl, rfl, _, rfl, iteDN (by show ¬ ((2 : Nat) : Int) < 2; decide) ?_⟩
      refine ⟨_, rfl, a, _, 0, _, rfl, rfl, SqT.of h', rfl, .str "const", .ty "str", _, _, true, rfl, .ty "str", tyS _, kit_ty kSS, _, rfl, iteF ?_⟩
      refine ⟨rfl, _, rfl, a, _, 0, _, rfl, rfl, SqT.of h', rfl, "const", u, .int ((2 : Nat) : Int), rfl, eu, ru, _, rfl, a, _, rfl, .inr (SqT.of h'), rfl, _, rfl, iteNS rfl ?_⟩
      refine ⟨_, rfl, a, _, 0, _, rfl, rfl, SqT.of h', rfl, rfl, _, rfl, iteD rfl ?_⟩
      obtain ⟨c0, c1⟩ := ok
      exact ⟨_, rfl, a, _, 1, _, rfl, rfl, SqT.of h', rfl, c, 1000000000, rfl, c0, c1, k H (Same.refl H)⟩
    | input i =>
      have h' : H a = some (.tup [.str "input", .int (i : Nat)]) := h
      refine ⟨_, rfl, .ref a, .ty "tuple", _, _, true, rfl, .ty "tuple", tyT h', kit_ty kTT, _, rfl, iteF ?_⟩
      refine ⟨_, rfl, a, _, rfl, .inr (SqT.of h'), _, _, rfl, rfl, _, rfl, iteDN (by show ¬ ((2 : Nat) : Int) < 2; decide) ?_⟩
      refine ⟨_, rfl, a, _, 0, _, rfl, rfl, SqT.of h', rfl, .str "input", .ty "str", _, _, true, rfl, .ty "str", tyS _, kit_ty kSS, _, rfl, iteF ?_⟩
      refine ⟨rfl, _, rfl, a, _, 0, _, rfl, rfl, SqT.of h', rfl, "input", u, .int ((2 : Nat) : Int), rfl, eu, ru, _, rfl, a, _, rfl, .inr (SqT.of h'), rfl, _, rfl, iteNS rfl ?_⟩
      refine ⟨_, rfl, a, _, 0, _, rfl, rfl, SqT.of h', rfl, rfl, _, rfl, iteDN (strNe (by decide +kernel)) ?_⟩
      refine ⟨_, rfl, a, _, 0, _, rfl, rfl, SqT.of h', rfl, rfl, _, rfl, iteD rfl ?_⟩
      have o1 : i < 60 := ok
      exact ⟨_, rfl, a, _, 1, _, rfl, rfl, SqT.of h', rfl, (i : Nat), 60, rfl, by omega, by omega, k H (Same.refl H)⟩
    | sum i j =>
      have h' : H a = some (.tup [.str "sum", .int (i : Nat), .int (j : Nat)]) := h
      refine ⟨_, rfl, .ref a, .ty "tuple", _, _, true, rfl, .ty "tuple", tyT h', kit_ty kTT, _, rfl, iteF ?_⟩
      refine ⟨_, rfl, a, _, rfl, .inr (SqT.of h'), _, _, rfl, rfl, _, rfl, iteDN (by show ¬ ((3 : Nat) : Int) < 2; decide) ?_⟩
      refine ⟨_, rfl, a, _, 0, _, rfl, rfl, SqT.of h', rfl, .str "sum", .ty "str", _, _, true, rfl, .ty "str", tyS _, kit_ty kSS, _, rfl, iteF ?_⟩
      refine ⟨rfl, _, rfl, a, _, 0, _, rfl, rfl, SqT.of h', rfl, "sum", u, .int ((3 : Nat) : Int), rfl, eu, ru, _, rfl, a, _, rfl, .inr (SqT.of h'), rfl, _, rfl, iteNS rfl ?_⟩
      refine ⟨_, rfl, a, _, 0, _, rfl, rfl, SqT.of h', rfl, rfl, _, rfl, iteDN (strNe (by decide +kernel)) ?_⟩
      refine ⟨_, rfl, a, _, 0, _, rfl, rfl, SqT.of h', rfl, rfl, _, rfl, iteDN (strNe (by decide +kernel)) ?_⟩
      refine ⟨_, rfl, a, _, 0, _, rfl, rfl, SqT.of h', rfl, rfl, _, rfl, iteDN (strNe (by decide +kernel)) ?_⟩
      refine ⟨_, rfl, 1, rfl, a, _, rfl, SqT.of h', (fun z => absurd z.1 (by show ¬ ((1 : Nat) = 0); decide)), fun b hb => ?_⟩
      have s1 : Same H (upd H b (.tup (cutV [.str "sum", .int (i : Nat), .int (j : Nat)] (some 1) none))) := same_new hb
      have hc : cutV [.str "sum", .int (i : Nat), .int (j : Nat)] (some 1) none = [.int (i : Nat), .int (j : Nat)] := rfl
      rw [hc] at s1
      refine ⟨b, rfl, ⟨_, SqT.of upd_same⟩, for_tup (K := K) (a := b) (xs := [.int (i : Nat), .int (j : Nat)]) (fun _ σ H' => ∃ v, σ = [some (.ref a), some (.int (n : Nat)), v] ∧ H' = upd H b (.tup [.int (i : Nat), .int (j : Nat)]))
        ⟨none, rfl, rfl⟩ (fun _ σ H' _ ⟨_, _, e⟩ => e ▸ SqT.of upd_same) ?_ ?_⟩
      · rintro t y σ H' hi ⟨v, rfl, rfl⟩
        have hy : ∃ z : Nat, y = .int (z : Nat) ∧ z < n := by
          match t, hi with
          | 0, hi => exact ⟨i, (Option.some.inj hi).symm, ok.1⟩
          | 1, hi => exact ⟨j, (Option.some.inj hi).symm, ok.2⟩
        obtain ⟨z, rfl, hz⟩ := hy
        refine ⟨_, rfl, _, rfl, (z : Nat), (n : Nat), rfl, by omega, by omega, _, rfl, iteF ?_⟩
        exact ⟨_, rfl, rfl⟩
      · rintro σ H' ⟨v, rfl, rfl⟩
        exact k _ s1
    | prod i j =>
      have h' : H a = some (.tup [.str "product", .int (i : Nat), .int (j : Nat)]) := h
      refine ⟨_, rfl, .ref a, .ty "tuple", _, _, true, rfl, .ty "tuple", tyT h', kit_ty kTT, _, rfl, iteF ?_⟩
      refine ⟨_, rfl, a, _, rfl, .inr (SqT.of h'), _, _, rfl, rfl, _, rfl, iteDN (by show ¬ ((3 : Nat) : Int) < 2; decide) ?_⟩
      refine ⟨_, rfl, a, _, 0, _, rfl, rfl, SqT.of h', rfl, .str "product", .ty "str", _, _, true, rfl, .ty "str", tyS _, kit_ty kSS, _, rfl, iteF ?_⟩
      refine ⟨rfl, _, rfl, a, _, 0, _, rfl, rfl, SqT.of h', rfl, "product", u, .int ((3 : Nat) : Int), rfl, eu, ru, _, rfl, a, _, rfl, .inr (SqT.of h'), rfl, _, rfl, iteNS rfl ?_⟩
      refine ⟨_, rfl, a, _, 0, _, rfl, rfl, SqT.of h', rfl, rfl, _, rfl, iteDN (strNe (by decide +kernel)) ?_⟩
      refine ⟨_, rfl, a, _, 0, _, rfl, rfl, SqT.of h', rfl, rfl, _, rfl, iteDN (strNe (by decide +kernel)) ?_⟩
      refine ⟨_, rfl, a, _, 0, _, rfl, rfl, SqT.of h', rfl, rfl, _, rfl, iteDN (strNe (by decide +kernel)) ?_⟩
      refine ⟨_, rfl, 1, rfl, a, _, rfl, SqT.of h', (fun z => absurd z.1 (by show ¬ ((1 : Nat) = 0); decide)), fun b hb => ?_⟩
      have s1 : Same H (upd H b (.tup (cutV [.str "product", .int (i : Nat), .int (j : Nat)] (some 1) none))) := same_new hb
      have hc : cutV [.str "product", .int (i : Nat), .int (j : Nat)] (some 1) none = [.int (i : Nat), .int (j : Nat)] := rfl
      rw [hc] at s1
      refine ⟨b, rfl, ⟨_, SqT.of upd_same⟩, for_tup (K := K) (a := b) (xs := [.int (i : Nat), .int (j : Nat)]) (fun _ σ H' => ∃ v, σ = [some (.ref a), some (.int (n : Nat)), v] ∧ H' = upd H b (.tup [.int (i : Nat), .int (j : Nat)]))
        ⟨none, rfl, rfl⟩ (fun _ σ H' _ ⟨_, _, e⟩ => e ▸ SqT.of upd_same) ?_ ?_⟩
      · rintro t y σ H' hi ⟨v, rfl, rfl⟩
        have hy : ∃ z : Nat, y = .int (z : Nat) ∧ z < n := by
          match t, hi with
          | 0, hi => exact ⟨i, (Option.some.inj hi).symm, ok.1⟩
          | 1, hi => exact ⟨j, (Option.some.inj hi).symm, ok.2⟩
        obtain ⟨z, rfl, hz⟩ := hy
        refine ⟨_, rfl, _, rfl, (z : Nat), (n : Nat), rfl, by omega, by omega, _, rfl, iteF ?_⟩
        exact ⟨_, rfl, rfl⟩
      · rintro σ H' ⟨v, rfl, rfl⟩
        exact k _ s1
    | scaled c i =>
      have h' : H a = some (.tup [.str "scaled", .int c, .int (i : Nat)]) := h
      refine ⟨_, rfl, .ref a, .ty "tuple", _, _, true, rfl, .ty "tuple", tyT h', kit_ty kTT, _, rfl, iteF ?_⟩
      refine ⟨_, rfl, a, _, rfl, .inr (SqT.of h'), _, _, rfl, rfl, _, rfl, iteDN (by show ¬ ((3 : Nat) : Int) < 2; decide) ?_⟩
      refine ⟨_, rfl, a, _, 0, _, rfl, rfl, SqT.of h', rfl, .str "scaled", .ty "str", _, _, true, rfl, .ty "str", tyS _, kit_ty kSS, _, rfl, iteF ?_⟩
      refine ⟨rfl, _, rfl, a, _, 0, _, rfl, rfl, SqT.of h', rfl, "scaled", u, .int ((3 : Nat) : Int), rfl, eu, ru, _, rfl, a, _, rfl, .inr (SqT.of h'), rfl, _, rfl, iteNS rfl ?_⟩
      refine ⟨_, rfl, a, _, 0, _, rfl, rfl, SqT.of h', rfl, rfl, _, rfl, iteDN (strNe (by decide +kernel)) ?_⟩
      refine ⟨_, rfl, a, _, 0, _, rfl, rfl, SqT.of h', rfl, rfl, _, rfl, iteDN (strNe (by decide +kernel)) ?_⟩
      refine ⟨_, rfl, a, _, 0, _, rfl, rfl, SqT.of h', rfl, rfl, _, rfl, iteD rfl ?_⟩
      obtain ⟨⟨c0, c1⟩, o1⟩ := ok
      refine ⟨_, rfl, a, _, 1, _, rfl, rfl, SqT.of h', rfl, c, 1000000000, rfl, c0, c1, _, rfl, iteT ?_⟩
      exact ⟨_, rfl, a, _, 2, _, rfl, rfl, SqT.of h', rfl, _, rfl, (i : Nat), (n : Nat), rfl, by omega, by omega, k H (Same.refl H)⟩
    | choose i j l =>
      have h' : H a = some (.tup [.str "choose", .int (i : Nat), .int (j : Nat), .int (l : Nat)]) := h
      refine ⟨_, rfl, .ref a, .ty "tuple", _, _, true, rfl, .ty "tuple", tyT h', kit_ty kTT, _, rfl, iteF ?_⟩
      refine ⟨_, rfl, a, _, rfl, .inr (SqT.of h'), _, _, rfl, rfl, _, rfl, iteDN (by show ¬ ((4 : Nat) : Int) < 2; decide) ?_⟩
      refine ⟨_, rfl, a, _, 0, _, rfl, rfl, SqT.of h', rfl, .str "choose", .ty "str", _, _, true, rfl, .ty "str", tyS _, kit_ty kSS, _, rfl, iteF ?_⟩
      refine ⟨rfl, _, rfl, a, _, 0, _, rfl, rfl, SqT.of h', rfl, "choose", u, .int ((4 : Nat) : Int), rfl, eu, ru, _, rfl, a, _, rfl, .inr (SqT.of h'), rfl, _, rfl, iteNS rfl ?_⟩
      refine ⟨_, rfl, a, _, 0, _, rfl, rfl, SqT.of h', rfl, rfl, _, rfl, iteDN (strNe (by decide +kernel)) ?_⟩
      refine ⟨_, rfl, a, _, 0, _, rfl, rfl, SqT.of h', rfl, rfl, _, rfl, iteDN (strNe (by decide +kernel)) ?_⟩
      refine ⟨_, rfl, a, _, 0, _, rfl, rfl, SqT.of h', rfl, rfl, _, rfl, iteDN (strNe (by decide +kernel)) ?_⟩
      refine ⟨_, rfl, 1, rfl, a, _, rfl, SqT.of h', (fun z => absurd z.1 (by show ¬ ((1 : Nat) = 0); decide)), fun b hb => ?_⟩
      have s1 : Same H (upd H b (.tup (cutV [.str "choose", .int (i : Nat), .int (j : Nat), .int (l : Nat)] (some 1) none))) := same_new hb
      have hc : cutV [.str "choose", .int (i : Nat), .int (j : Nat), .int (l : Nat)] (some 1) none = [.int (i : Nat), .int (j : Nat), .int (l : Nat)] := rfl
      rw [hc] at s1
      refine ⟨b, rfl, ⟨_, SqT.of upd_same⟩, for_tup (K := K) (a := b) (xs := [.int (i : Nat), .int (j : Nat), .int (l : Nat)]) (fun _ σ H' => ∃ v, σ = [some (.ref a), some (.int (n : Nat)), v] ∧ H' = upd H b (.tup [.int (i : Nat), .int (j : Nat), .int (l : Nat)]))
        ⟨none, rfl, rfl⟩ (fun _ σ H' _ ⟨_, _, e⟩ => e ▸ SqT.of upd_same) ?_ ?_⟩
      · rintro t y σ H' hi ⟨v, rfl, rfl⟩
        have hy : ∃ z : Nat, y = .int (z : Nat) ∧ z < n := by
          match t, hi with
          | 0, hi => exact ⟨i, (Option.some.inj hi).symm, ok.1⟩
          | 1, hi => exact ⟨j, (Option.some.inj hi).symm, ok.2.1⟩
          | 2, hi => exact ⟨l, (Option.some.inj hi).symm, ok.2.2⟩
        obtain ⟨z, rfl, hz⟩ := hy
        refine ⟨_, rfl, _, rfl, (z : Nat), (n : Nat), rfl, by omega, by omega, _, rfl, iteF ?_⟩
        exact ⟨_, rfl, rfl⟩
      · rintro σ H' ⟨v, rfl, rfl⟩
        exact k _ s1
/-! ### check_source -/
def spSrc (r : V) : Sp := fun vs H Q _ => ∃ (t : Addr) (ns : List Nd), vs = [.ref t] ∧ SrcAt H t ns ∧ SrcOk ns ∧ 1 ≤ ns.length ∧ ns.length ≤ 200 ∧ ∀ H', Same H H' → Q r H'
theorem ok_check_source (T : Tx w K mg C L) (D : Df K mg "check_source" sCheckSource ["source"]) (cN : Cl P w K mg base 3 "is_node" ["node", "at"] spIsNode) : Cl P w K mg base 4 "check_source" ["source"] (spSrc .non) := by
  refine cl_mk D scCheckSource (fun vs H Q E h => ?_) (fun f cdv A outer s H vs Q E hr h => ?_)
  · obtain ⟨t, ns, rfl, _⟩ := h
    rfl
  · obtain ⟨t, ns, rfl, ⟨vs, ht, rl⟩, ok, l1, l2, k⟩ := h
    have hlen := rl.len
    refine ⟨_, pss_cons (ps_if (PW.pt (pw_or (pt_not (pt_val (pe_callB call_isi (by rfl) T.isinst bIsi (pa_cons (pv 0) (pa_cons (pe_bltn (v := .ty "tuple") (by rfl) T.tuple bTuple rfl) pa_nil)))))
        (pw_or1 (pt_not (pt_chain op_le op_le pe_int (pe_callB call_len_seq (by rfl) T.len bLen (pa_cons (pv 0) pa_nil)) (pe_gi T.nodes)))))) (pss_one ps_never) pss_nil)
      (pss_one (ps_for PassesOwn.never rfl (pi_enumT (by rfl) T.enumerate (pa_cons (pv 0) pa_nil)) (pg_tup rfl (pgs_cons (pg_name (i := 1) scCheckSource.nd rfl (.inl rfl)) (pgs_cons (pg_name (i := 2) scCheckSource.nd rfl (.inl rfl)) pgs_nil)))
        (pss_one (ps_if (pt_not (pt_val (pe_cl cN hr (pa_cons (pv 2) (pa_cons (pv 1) pa_nil))))) (pss_one ps_never) pss_nil)))), ?_⟩
    refine ⟨_, rfl, .ref t, .ty "tuple", _, _, true, rfl, .ty "tuple", tyT ht, kit_ty kTT, _, rfl, iteF ?_⟩
    refine ⟨_, rfl, t, _, rfl, .inr (SqT.of ht), _, _, rfl, rfl, _, rfl, iteD (by omega) ?_⟩
    refine ⟨_, _, rfl, rfl, true, congrArg V.bl (decide_eq_true (show ((vs.length : Nat) : Int) ≤ 200 by omega)), iteF ?_⟩
    refine ⟨_, rfl, t, vs, rfl, SqT.of ht, for_it (walk_enumT (K := K) (a := t) (xs := vs)) (fun i σ H' => ∃ v1 v2, σ = [some (.ref t), v1, v2] ∧ Same H H') ⟨none, none, rfl, Same.refl H⟩ (fun i σ H' _ ⟨_, _, _, s⟩ => SqT.of (s _ _ ht)) ?_ ?_⟩
    · rintro i y σ H' H0 _ ⟨v1, v2, rfl, sm⟩ ⟨T', y, rfl, hT, rfl, hi⟩
      obtain ⟨b, x, rfl, hx, r⟩ := rl.getV hi
      have sT : Same H (upd H' T' (.tup [.int (i : Nat), .ref b])) := sm.trans (same_new hT)
      refine ⟨T', _, rfl, SqT.of upd_same, rfl, _, _, rfl, _, _, rfl, rfl, ?_⟩
      refine ⟨_, rfl, _, rfl, b, x, i, rfl, r.to (tps_same sT), ok i x hx, fun H2 s2 => ?_⟩
      refine ⟨_, rfl, iteF ?_⟩
      exact ⟨_, _, rfl, sT.trans s2⟩
    · rintro σ H' ⟨v1, v2, rfl, sm⟩
      exact k H' sm
/-! ### needs -/
def spNeeds : Sp := fun vs H Q _ => ∃ (t : Addr) (ns : List Nd), vs = [.ref t] ∧ SrcAt H t ns ∧ SrcOk ns ∧ 1 ≤ ns.length ∧ ns.length ≤ 200 ∧ ∀ H', Same H H' → Q (.int (needs ns : Nat)) H'
theorem ok_needs (T : Tx w K mg C L) (D : Df K mg "needs" sNeeds ["source"]) (cC : Cl P w K mg base 4 "check_source" ["source"] (spSrc .non)) : Cl P w K mg base 5 "needs" ["source"] spNeeds := by
  refine cl_mk D scNeeds (fun vs H Q E h => ?_) (fun f cdv A outer s H vs Q E hr h => ?_)
  · obtain ⟨t, ns, rfl, _⟩ := h
    rfl
  · obtain ⟨t, ns, rfl, hS, ok, l1, l2, k⟩ := h
    obtain ⟨vs, ht, rl⟩ := id hS
    have hlen := rl.len
    refine ⟨_, pss_cons (ps_expr (pe_cl cC hr (pa_cons (pv 0) pa_nil)))
      (pss_cons (ps_set (i := 1) scNeeds.nd rfl (.inl rfl) pe_int)
      (pss_cons (ps_for PassesOwn.never rfl (pi_tup (pv 0)) (pg_name (i := 2) scNeeds.nd rfl (.inl rfl))
        (pss_one (ps_if (pt_cmpR op_eq (pe_ix ix_tup (pv 2) pe_int (fun _ _ => rfl)) pe_str (nomark _))
          (pss_one (ps_set (i := 1) scNeeds.nd rfl (.inl rfl) (pe_callB (call_max2 rfl) (by rfl) T.max (by decide +kernel) (pa_cons (pv 1) (pa_cons (pe_op op_add (pe_ix ix_tup (pv 2) pe_int (fun _ _ => rfl)) pe_int) pa_nil))))) pss_nil)))
      (pss_one (ps_ret (pv 1))))), ?_⟩
    refine ⟨_, rfl, t, ns, rfl, hS, ok, l1, l2, fun H1 s1 => ?_⟩
    refine ⟨_, rfl, t, rfl, ⟨_, SqT.of (s1 _ _ ht)⟩, for_tup (K := K) (a := t) (xs := vs) (fun i σ H' => ∃ v2, σ = [some (.ref t), some (.int (needs (ns.take i) : Nat)), v2] ∧ H' = H1) ⟨none, rfl, rfl⟩ (fun i σ H' _ ⟨_, _, e⟩ => e ▸ SqT.of (s1 _ _ ht)) ?_ ?_⟩
    · rintro i y σ H' hi ⟨v2, rfl, rfl⟩
      obtain ⟨b, x, rfl, hx, r⟩ := rl.getV hi
      have r1 : NdAt H' b x := r.to (tps_same s1)
      have hn : needs (ns.take (i + 1)) = need1 (needs (ns.take i)) x := by
        unfold needs
        rw [List.take_add_one, hx, List.foldl_append]
        rfl
      cases x with
      | const c =>
        have h' : H' b = some (.tup [.str "const", .int c]) := r1
        refine ⟨_, rfl, b, _, 0, _, rfl, rfl, SqT.of h', rfl, rfl, _, rfl, iteDN (strNe (by decide +kernel)) ?_⟩
        exact ⟨some (.ref b), by rw [hn]; rfl, rfl⟩
      | input i1 =>
        have h' : H' b = some (.tup [.str "input", .int (i1 : Nat)]) := r1
        refine ⟨_, rfl, b, _, 0, _, rfl, rfl, SqT.of h', rfl, rfl, _, rfl, iteD rfl ?_⟩
        refine ⟨_, rfl, _, rfl, b, _, 1, _, rfl, rfl, SqT.of h', rfl, _, _, rfl, rfl, _, _, rfl, ?_⟩
        refine ⟨some (.ref b), ?_, rfl⟩
        rw [hn]
        show [some (V.ref t), some (V.int (if ((i1 : Nat) : Int) + 1 > ((needs (ns.take i) : Nat) : Int) then ((i1 : Nat) : Int) + 1 else ((needs (ns.take i) : Nat) : Int))), some (V.ref b)] = [some (V.ref t), some (V.int ((max (needs (ns.take i)) (i1 + 1) : Nat) : Int)), some (V.ref b)]
        have : (if ((i1 : Nat) : Int) + 1 > ((needs (ns.take i) : Nat) : Int) then ((i1 : Nat) : Int) + 1 else ((needs (ns.take i) : Nat) : Int)) = ((max (needs (ns.take i)) (i1 + 1) : Nat) : Int) := by
          split <;> omega
        rw [this]
      | sum i1 j =>
        have h' : H' b = some (.tup [.str "sum", .int (i1 : Nat), .int (j : Nat)]) := r1
        refine ⟨_, rfl, b, _, 0, _, rfl, rfl, SqT.of h', rfl, rfl, _, rfl, iteDN (strNe (by decide +kernel)) ?_⟩
        exact ⟨some (.ref b), by rw [hn]; rfl, rfl⟩
      | prod i1 j =>
        have h' : H' b = some (.tup [.str "product", .int (i1 : Nat), .int (j : Nat)]) := r1
        refine ⟨_, rfl, b, _, 0, _, rfl, rfl, SqT.of h', rfl, rfl, _, rfl, iteDN (strNe (by decide +kernel)) ?_⟩
        exact ⟨some (.ref b), by rw [hn]; rfl, rfl⟩
      | scaled c i1 =>
        have h' : H' b = some (.tup [.str "scaled", .int c, .int (i1 : Nat)]) := r1
        refine ⟨_, rfl, b, _, 0, _, rfl, rfl, SqT.of h', rfl, rfl, _, rfl, iteDN (strNe (by decide +kernel)) ?_⟩
        exact ⟨some (.ref b), by rw [hn]; rfl, rfl⟩
      | choose i1 j l =>
        have h' : H' b = some (.tup [.str "choose", .int (i1 : Nat), .int (j : Nat), .int (l : Nat)]) := r1
        refine ⟨_, rfl, b, _, 0, _, rfl, rfl, SqT.of h', rfl, rfl, _, rfl, iteDN (strNe (by decide +kernel)) ?_⟩
        exact ⟨some (.ref b), by rw [hn]; rfl, rfl⟩
    · rintro σ H' ⟨v2, rfl, rfl⟩
      rw [List.take_of_length_le (Nat.le_of_eq hlen.symm)]
      exact ⟨_, rfl, k H' s1⟩
/-! ### cost -/
abbrev cV (c : Nat) : V := .int ((c : Nat) : Int)
theorem costs_at {ns : List Nd} {i j : Nat} (hi : i ≤ ns.length) (hj : j < i) : ((costs (ns.take i)).map cV)[j]? = some (cV (cost ns j)) := by
  have h : j < (ns.take i).length := by
    rw [List.length_take]
    omega
  rw [List.getElem?_map, costs_get h, cost_take ns hi hj]
  rfl
theorem costs_push {ns : List Nd} {i : Nat} {nd : Nd} (ok : SrcOk ns) (h : ns[i]? = some nd) {z : Int} (hz : z = ((costF (cost ns) nd : Nat) : Int)) : (costs (ns.take i)).map cV ++ [.int z] = (costs (ns.take (i + 1))).map cV := by
  have hl := (List.getElem?_eq_some_iff.mp h).1
  have e : costF (cost (ns.take i)) nd = costF (cost ns) nd := costF_local _ _ i nd (ok i nd h) fun j hj => cost_take ns (by omega) hj
  rw [List.take_add_one, h]
  show _ = (costs (ns.take i ++ [nd])).map cV
  rw [costs_snoc, e, List.map_append, hz]
  rfl
theorem costs_lt {ns : List Nd} {i : Nat} (h : ns.length ≤ 200) : ((costs (ns.take i)).map cV).length < sizeLine := by
  rw [List.length_map, costs_len, List.length_take]
  exact small1000 (by omega)
def spCost : Sp := fun vs H Q _ => ∃ (t : Addr) (ns : List Nd), vs = [.ref t] ∧ SrcAt H t ns ∧ SrcOk ns ∧ 1 ≤ ns.length ∧ ns.length ≤ 200 ∧ ∀ H', Same H H' → Q (.int (cost ns (ns.length - 1) : Nat)) H'
theorem ok_cost (T : Tx w K mg C L) (D : Df K mg "cost" sCost ["source"]) (cC : Cl P w K mg base 4 "check_source" ["source"] (spSrc .non)) : Cl P w K mg base 5 "cost" ["source"] spCost := by
  refine cl_mk D scCost (fun vs H Q E h => ?_) (fun f cdv A outer s H vs Q E hr h => ?_)
  · obtain ⟨t, ns, rfl, _⟩ := h
    rfl
  · obtain ⟨t, ns, rfl, hS, ok, l1, l2, k⟩ := h
    obtain ⟨vs, ht, rl⟩ := id hS
    have hlen := rl.len
    refine ⟨_, (pss_cons (ps_expr (pe_cl cC hr (pa_cons (pv 0) pa_nil))) (pss_cons (ps_set (i := 1) scCost.nd rfl (.inl rfl) (pe_lst pa_nil)) (pss_cons (ps_for PassesOwn.never rfl (pi_tup (pv 0)) (pg_name (i := 2) scCost.nd rfl (.inl rfl)) (pss_one (ps_if (PW.pt (pw_or (pt_cmpR op_eq (pe_ix ix_tup (pv 2) pe_int (fun _ _ => rfl)) pe_str (nomark _)) (pw_or1 (pt_cmpR op_eq (pe_ix ix_tup (pv 2) pe_int (fun _ _ => rfl)) pe_str (nomark _))))) (pss_one (ps_expr (pe_bm PySem.F.plainAttrs_list PySem.F.slot_list_append PySem.F.type_list_append mt_append (pv 1) (pa_cons pe_int pa_nil)))) (pss_one (ps_if (pt_cmpR op_eq (pe_ix ix_tup (pv 2) pe_int (fun _ _ => rfl)) pe_str (nomark _)) (pss_one (ps_expr (pe_bm PySem.F.plainAttrs_list PySem.F.slot_list_append PySem.F.type_list_append mt_append (pv 1) (pa_cons (pe_ix ix_list (pv 1) (pe_ix ix_tup (pv 2) pe_int (fun _ _ => rfl)) (fun _ _ => rfl)) pa_nil)))) (pss_one (ps_if (pt_cmpR op_eq (pe_ix ix_tup (pv 2) pe_int (fun _ _ => rfl)) pe_str (nomark _)) (pss_one (ps_expr (pe_bm PySem.F.plainAttrs_list PySem.F.slot_list_append PySem.F.type_list_append mt_append (pv 1) (pa_cons (pe_op op_add (pe_ix ix_list (pv 1) (pe_ix ix_tup (pv 2) pe_int (fun _ _ => rfl)) (fun _ _ => rfl)) (pe_ix ix_list (pv 1) (pe_ix ix_tup (pv 2) pe_int (fun _ _ => rfl)) (fun _ _ => rfl))) pa_nil)))) (pss_one (ps_if (pt_cmpR op_eq (pe_ix ix_tup (pv 2) pe_int (fun _ _ => rfl)) pe_str (nomark _)) (pss_one (ps_expr (pe_bm PySem.F.plainAttrs_list PySem.F.slot_list_append PySem.F.type_list_append mt_append (pv 1) (pa_cons (pe_op op_mul pe_int (pe_op op_add (pe_ix ix_list (pv 1) (pe_ix ix_tup (pv 2) pe_int (fun _ _ => rfl)) (fun _ _ => rfl)) (pe_ix ix_list (pv 1) (pe_ix ix_tup (pv 2) pe_int (fun _ _ => rfl)) (fun _ _ => rfl)))) pa_nil)))) (pss_cons (ps_set (i := 3) scCost.nd rfl (.inl rfl) (pe_ix ix_list (pv 1) (pe_ix ix_tup (pv 2) pe_int (fun _ _ => rfl)) (fun _ _ => rfl))) (pss_one (ps_expr (pe_bm PySem.F.plainAttrs_list PySem.F.slot_list_append PySem.F.type_list_append mt_append (pv 1) (pa_cons (pe_op op_add (pv 3) (pe_op op_mul pe_int (pe_op op_add (pe_op op_add (pe_ix ix_list (pv 1) (pe_ix ix_tup (pv 2) pe_int (fun _ _ => rfl)) (fun _ _ => rfl)) (pe_ix ix_list (pv 1) (pe_ix ix_tup (pv 2) pe_int (fun _ _ => rfl)) (fun _ _ => rfl))) (pv 3)))) pa_nil)))))))))))))) (pss_one (ps_ret (pe_ix ix_list (pv 1) (pe_un un_neg pe_int) (fun _ _ => rfl))))))), ?_⟩
    refine ⟨_, rfl, t, ns, rfl, hS, ok, l1, l2, fun H1 s1 => ?_⟩
    refine ⟨Nat.zero_le _, fun l hl => ?_⟩
    have l0 : H l = none := s1.free hl
    have s2 : Same H (upd H1 l (.lst [])) := same_set s1 l0
    refine ⟨_, rfl, t, rfl, ⟨_, SqT.of (s2 _ _ ht)⟩, for_tup (K := K) (a := t) (xs := vs) (fun i σ H' => ∃ v2 v3, σ = [some (.ref t), some (.ref l), v2, v3] ∧ Same H H' ∧ H' l = some (.lst ((costs (ns.take i)).map cV))) ⟨none, none, rfl, s2, upd_same⟩ (fun i σ H' _ ⟨_, _, _, s, _⟩ => SqT.of (s _ _ ht)) ?_ ?_⟩
    · rintro i y σ H' hi ⟨v2, v3, rfl, sm, hL⟩
      obtain ⟨b, x, rfl, hx, r⟩ := rl.getV hi
      have r1 : NdAt H' b x := r.to (tps_same sm)
      have hil : i ≤ ns.length := Nat.le_of_lt (List.getElem?_eq_some_iff.mp hx).1
      have okx := ok i x hx
      have push : ∀ (z : Int) (v3 : Option V), z = ((costF (cost ns) x : Nat) : Int) → ∃ v2 v3', ([some (V.ref t), some (V.ref l), some (V.ref b), v3] : L2.St) = [some (V.ref t), some (V.ref l), v2, v3'] ∧ Same H (upd H' l (.lst ((costs (ns.take i)).map cV ++ [V.int z]))) ∧ (upd H' l (.lst ((costs (ns.take i)).map cV ++ [V.int z]))) l = some (.lst ((costs (ns.take (i + 1))).map cV)) := by
        intro z v3 hz
        exact ⟨_, _, rfl, same_set sm l0, by rw [upd_same, costs_push ok hx hz]⟩
      cases x with
      | const c =>
        have h' : H' b = some (.tup [.str "const", .int c]) := r1
        refine ⟨_, rfl, b, _, 0, _, rfl, rfl, SqT.of h', rfl, rfl, _, rfl, iteD rfl ?_⟩
        refine ⟨_, rfl, .inl ⟨rfl, _, SqL.of hL⟩, ?_⟩
        refine ⟨l, _, _, rfl, rfl, hL, costs_lt l2, push 1 v3 rfl⟩
      | input i1 =>
        have h' : H' b = some (.tup [.str "input", .int (i1 : Nat)]) := r1
        refine ⟨_, rfl, b, _, 0, _, rfl, rfl, SqT.of h', rfl, rfl, _, rfl, iteDN (strNe (by decide +kernel)) ?_⟩
        refine ⟨_, rfl, b, _, 0, _, rfl, rfl, SqT.of h', rfl, rfl, _, rfl, iteD rfl ?_⟩
        refine ⟨_, rfl, .inl ⟨rfl, _, SqL.of hL⟩, ?_⟩
        refine ⟨l, _, _, rfl, rfl, hL, costs_lt l2, push 1 v3 rfl⟩
      | sum a1 a2 =>
        have h' : H' b = some (.tup [.str "sum", .int (a1 : Nat), .int (a2 : Nat)]) := r1
        refine ⟨_, rfl, b, _, 0, _, rfl, rfl, SqT.of h', rfl, rfl, _, rfl, iteDN (strNe (by decide +kernel)) ?_⟩
        refine ⟨_, rfl, b, _, 0, _, rfl, rfl, SqT.of h', rfl, rfl, _, rfl, iteDN (strNe (by decide +kernel)) ?_⟩
        refine ⟨_, rfl, b, _, 0, _, rfl, rfl, SqT.of h', rfl, rfl, _, rfl, iteDN (strNe (by decide +kernel)) ?_⟩
        refine ⟨_, rfl, b, _, 0, _, rfl, rfl, SqT.of h', rfl, rfl, _, rfl, iteD rfl ?_⟩
        refine ⟨_, rfl, .inl ⟨rfl, _, SqL.of hL⟩, ?_⟩
        refine ⟨_, rfl, _, rfl, b, _, 1, _, rfl, rfl, SqT.of h', rfl, l, _, _, _, rfl, rfl, SqL.of hL, atI_nat (costs_at hil okx.1), _, rfl, _, rfl, b, _, 2, _, rfl, rfl, SqT.of h', rfl, l, _, _, _, rfl, rfl, SqL.of hL, atI_nat (costs_at hil okx.2), _, _, rfl, rfl, l, _, _, rfl, rfl, hL, costs_lt l2, push _ v3 (by show _ = ((cost ns a1 + cost ns a2 : Nat) : Int); omega)⟩
      | prod a1 a2 =>
        have h' : H' b = some (.tup [.str "product", .int (a1 : Nat), .int (a2 : Nat)]) := r1
        refine ⟨_, rfl, b, _, 0, _, rfl, rfl, SqT.of h', rfl, rfl, _, rfl, iteDN (strNe (by decide +kernel)) ?_⟩
        refine ⟨_, rfl, b, _, 0, _, rfl, rfl, SqT.of h', rfl, rfl, _, rfl, iteDN (strNe (by decide +kernel)) ?_⟩
        refine ⟨_, rfl, b, _, 0, _, rfl, rfl, SqT.of h', rfl, rfl, _, rfl, iteDN (strNe (by decide +kernel)) ?_⟩
        refine ⟨_, rfl, b, _, 0, _, rfl, rfl, SqT.of h', rfl, rfl, _, rfl, iteDN (strNe (by decide +kernel)) ?_⟩
        refine ⟨_, rfl, b, _, 0, _, rfl, rfl, SqT.of h', rfl, rfl, _, rfl, iteD rfl ?_⟩
        refine ⟨_, rfl, .inl ⟨rfl, _, SqL.of hL⟩, ?_⟩
        refine ⟨_, rfl, _, rfl, b, _, 1, _, rfl, rfl, SqT.of h', rfl, l, _, _, _, rfl, rfl, SqL.of hL, atI_nat (costs_at hil okx.1), _, rfl, _, rfl, b, _, 2, _, rfl, rfl, SqT.of h', rfl, l, _, _, _, rfl, rfl, SqL.of hL, atI_nat (costs_at hil okx.2), _, _, rfl, rfl, _, _, rfl, rfl, .inl ⟨by decide, by decide⟩, l, _, _, rfl, rfl, hL, costs_lt l2, push _ v3 (by show _ = ((2 * (cost ns a1 + cost ns a2) : Nat) : Int); omega)⟩
      | scaled c a1 =>
        have h' : H' b = some (.tup [.str "scaled", .int c, .int (a1 : Nat)]) := r1
        refine ⟨_, rfl, b, _, 0, _, rfl, rfl, SqT.of h', rfl, rfl, _, rfl, iteDN (strNe (by decide +kernel)) ?_⟩
        refine ⟨_, rfl, b, _, 0, _, rfl, rfl, SqT.of h', rfl, rfl, _, rfl, iteDN (strNe (by decide +kernel)) ?_⟩
        refine ⟨_, rfl, b, _, 0, _, rfl, rfl, SqT.of h', rfl, rfl, _, rfl, iteD rfl ?_⟩
        refine ⟨_, rfl, .inl ⟨rfl, _, SqL.of hL⟩, ?_⟩
        refine ⟨_, rfl, _, rfl, b, _, 2, _, rfl, rfl, SqT.of h', rfl, l, _, _, _, rfl, rfl, SqL.of hL, atI_nat (costs_at hil okx.2), l, _, _, rfl, rfl, hL, costs_lt l2, push _ v3 rfl⟩
      | choose a1 a2 a3 =>
        have h' : H' b = some (.tup [.str "choose", .int (a1 : Nat), .int (a2 : Nat), .int (a3 : Nat)]) := r1
        refine ⟨_, rfl, b, _, 0, _, rfl, rfl, SqT.of h', rfl, rfl, _, rfl, iteDN (strNe (by decide +kernel)) ?_⟩
        refine ⟨_, rfl, b, _, 0, _, rfl, rfl, SqT.of h', rfl, rfl, _, rfl, iteDN (strNe (by decide +kernel)) ?_⟩
        refine ⟨_, rfl, b, _, 0, _, rfl, rfl, SqT.of h', rfl, rfl, _, rfl, iteDN (strNe (by decide +kernel)) ?_⟩
        refine ⟨_, rfl, b, _, 0, _, rfl, rfl, SqT.of h', rfl, rfl, _, rfl, iteDN (strNe (by decide +kernel)) ?_⟩
        refine ⟨_, rfl, b, _, 0, _, rfl, rfl, SqT.of h', rfl, rfl, _, rfl, iteDN (strNe (by decide +kernel)) ?_⟩
        refine ⟨_, rfl, _, rfl, b, _, 3, _, rfl, rfl, SqT.of h', rfl, l, _, _, _, rfl, rfl, SqL.of hL, atI_nat (costs_at hil okx.2.2), ?_⟩
        refine ⟨_, rfl, .inl ⟨rfl, _, SqL.of hL⟩, ?_⟩
        refine ⟨_, rfl, _, rfl, _, rfl, b, _, 1, _, rfl, rfl, SqT.of h', rfl, l, _, _, _, rfl, rfl, SqL.of hL, atI_nat (costs_at hil okx.1), _, rfl, _, rfl, b, _, 2, _, rfl, rfl, SqT.of h', rfl, l, _, _, _, rfl, rfl, SqL.of hL, atI_nat (costs_at hil okx.2.1), _, _, rfl, rfl, _, rfl, _, _, rfl, rfl, _, _, rfl, rfl, .inl ⟨by decide, by decide⟩, _, _, rfl, rfl, l, _, _, rfl, rfl, hL, costs_lt l2, push _ _ (by show _ = ((cost ns a3 + 2 * (cost ns a1 + cost ns a2 + cost ns a3) : Nat) : Int); omega)⟩
    · rintro σ H' ⟨v2, v3, rfl, sm, hL⟩
      rw [List.take_of_length_le (Nat.le_of_eq hlen.symm)] at hL
      have hlast : ((costs ns).map cV)[((costs ns).map cV).length - 1]? = some (cV (cost ns (ns.length - 1))) := by
        rw [List.length_map, costs_len, List.getElem?_map, costs_get (show ns.length - 1 < ns.length by omega)]
        rfl
      refine ⟨_, rfl, 1, rfl, l, _, _, _, rfl, rfl, SqL.of hL, atI_neg1 hlast (by rw [List.length_map, costs_len]; omega), ?_⟩
      exact k H' sm
end
end Brim
/-! ## W5 -/
namespace Brim
open PySem PySem.Spec PyProof.Rows L2
theorem RL.unsnoc {α : Type} {R : Addr → α → Prop} : ∀ {ws : List V} {v : V} {xs : List α}, RL R (ws ++ [v]) xs → ∃ a ys y, v = .ref a ∧ xs = ys ++ [y] ∧ RL R ws ys ∧ R a y
  | [], v, xs, h => by
    have h' : RL R [v] xs := h
    cases h' with
    | cons r t =>
      cases t
      exact ⟨_, [], _, rfl, rfl, .nil, r⟩
  | w :: ws, v, xs, h => by
    have h' : RL R (w :: (ws ++ [v])) xs := h
    cases h' with
    | cons r t =>
      obtain ⟨a, ys, y, e1, e2, t', r'⟩ := RL.unsnoc (ws := ws) t
      exact ⟨a, _ :: ys, y, e1, by rw [e2]; rfl, .cons r t', r'⟩
section
variable {P : Program} {w : World} {K : PySem.W.Frag} {mg : Str → Option Value} {base : Heap} {C L : Addr}
/-! ### leaf_step -/
def spLeafStep : Sp := fun vs H Q _ => ∃ (a b : Addr) (nd : Nd) (t : Tk) (m : Int) (n : Nat), vs = [.ref a, .ref b, .int m] ∧ NdAt H a nd ∧ isLeaf nd = true ∧ TkAt H b t ∧ TkOk m n t ∧ 0 < m ∧ m ≤ 1000000000 ∧
  ∀ H' p, Same H H' → StpAt H' p (leaf m t nd) → Q (.ref p) H'
theorem ok_leaf_step (T : Tx w K mg C L) (D : Df K mg "leaf_step" sLeafStep ["node", "task", "modulus"]) : Cl P w K mg base 1 "leaf_step" ["node", "task", "modulus"] spLeafStep := by
  refine cl_mk D scLeafStep (fun vs H Q E h => ?_) (fun f cdv A outer s H vs Q E hr h => ?_)
  · obtain ⟨a, b, nd, t, m, n, rfl, _⟩ := h
    rfl
  · obtain ⟨a, b, nd, t, m, n, rfl, h, hl, ⟨fa, hb, ws, hf, rl⟩, ok, m0, m9, k⟩ := h
    have ln := rl.len
    have lf := facs_len t.fac
    refine ⟨_, pss_cons (ps_asg (pv 1) (pg_tup rfl (pgs_cons (pg_name (i := 3) scLeafStep.nd rfl (.inl rfl)) (pgs_cons (pg_name (i := 4) scLeafStep.nd rfl (.inl rfl)) (pgs_cons (pg_name (i := 5) scLeafStep.nd rfl (.inl rfl)) (pgs_cons (pg_name (i := 6) scLeafStep.nd rfl (.inl rfl)) (pgs_cons (pg_name (i := 3) scLeafStep.nd rfl (.inl rfl)) pgs_nil)))))))
      (pss_cons (ps_if (pt_cmpR op_eq (pe_ix ix_tup (pv 0) pe_int (fun _ _ => rfl)) pe_str (nomark _))
        (pss_one (ps_ret (pe_tup (pa_cons pe_str (pa_cons (pv 4) (pa_cons (pe_op op_mod (pe_op op_mul (pv 5) (pe_ix ix_tup (pv 0) pe_int (fun _ _ => rfl))) (pv 2)) (pa_cons (pv 6) pa_nil))))))) pss_nil)
      (pss_one (ps_ret (pe_tup (pa_cons pe_str (pa_cons (pv 4) (pa_cons (pv 5) (pa_cons (pe_op op_catA (pv 6) (pe_tup (pa_cons (pe_tup (pa_cons pe_str (pa_cons (pe_ix ix_tup (pv 0) pe_int (fun _ _ => rfl)) pa_nil))) pa_nil))) pa_nil)))))))), ?_⟩
    have lo := ok.lo
    have hi := ok.hi
    refine ⟨_, rfl, b, _, rfl, SqT.of hb, rfl, _, _, rfl, _, _, rfl, _, _, rfl, _, _, rfl, _, _, rfl, rfl, ?_⟩
    cases nd with
    | const c =>
      have h' : H a = some (.tup [.str "const", .int c]) := h
      refine ⟨_, rfl, a, _, 0, _, rfl, rfl, SqT.of h', rfl, rfl, _, rfl, iteD rfl ?_⟩
      refine ⟨_, rfl, _, rfl, _, rfl, a, _, 1, _, rfl, rfl, SqT.of h', rfl, _, _, rfl, rfl, .inl ⟨by omega, by omega⟩, _, rfl, _, _, rfl, rfl, m0, _, rfl, (by show 4 ≤ sizeLine; decide), fun p hp => ?_⟩
      have s1 := same_new (o := .tup [.str "add", .int (t.tgt : Nat), .int (t.co * c % m), .ref fa]) hp
      exact k _ p s1 ⟨fa, upd_same, ws, s1 _ _ hf, rl.mono fun x y z => z.to (tps_same s1)⟩
    | input i =>
      have h' : H a = some (.tup [.str "input", .int (i : Nat)]) := h
      refine ⟨_, rfl, a, _, 0, _, rfl, rfl, SqT.of h', rfl, rfl, _, rfl, iteDN (strNe (by decide +kernel)) ?_⟩
      refine ⟨_, rfl, _, rfl, _, rfl, _, rfl, a, _, 1, _, rfl, rfl, SqT.of h', rfl, (by show 2 ≤ sizeLine; decide), fun p1 h1 => ?_⟩
      have s1 : Same H (upd H p1 (.tup [.str "input", .int (i : Nat)])) := same_new h1
      refine ⟨(by show 1 ≤ sizeLine; decide), fun p2 h2 => ?_⟩
      have s2 : Same H (upd (upd H p1 (.tup [.str "input", .int (i : Nat)])) p2 (.tup [.ref p1])) := s1.trans (same_new h2)
      have f1 : FacAt (upd (upd H p1 (.tup [.str "input", .int (i : Nat)])) p2 (.tup [.ref p1])) p1 (.input i) := same_new h2 _ _ upd_same
      refine ⟨fa, p2, ws, _, rfl, rfl, SqT.of (s2 _ _ hf), SqT.of upd_same, ?_, fun e => ?_, fun _ e => ?_, fun e _ p3 h3 => ?_⟩
      · show ws.length + 1 ≤ sizeLine
        exact Nat.le_of_lt (small1000 (by omega))
      · refine ⟨(by show 4 ≤ sizeLine; decide), fun p4 h4 => ?_⟩
        have s4 := s2.trans (same_new (o := .tup [.str "add", .int (t.tgt : Nat), .int t.co, .ref p2]) h4)
        refine k _ p4 s4 ⟨p2, upd_same, [.ref p1], same_new h4 _ _ upd_same, ?_⟩
        have ef : facs t.fac = [] := List.eq_nil_of_length_eq_zero (by rw [← ln, e]; rfl)
        show RL _ _ (facs t.fac ++ [Fac.input i])
        rw [ef]
        exact .one (f1.to (tps_new h4))
      · cases e
      · refine ⟨(by show 4 ≤ sizeLine; decide), fun p4 h4 => ?_⟩
        have s3 := s2.trans (same_new (o := .tup (ws ++ [.ref p1])) h3)
        have s4 := s3.trans (same_new (o := .tup [.str "add", .int (t.tgt : Nat), .int t.co, .ref p3]) h4)
        refine k _ p4 s4 ⟨p3, upd_same, ws ++ [.ref p1], same_new h4 _ _ upd_same, ?_⟩
        exact (rl.mono fun x y z => z.to (tps_same s4)).snoc ((f1.to (tps_new h3)).to (tps_new h4))
    | sum i j => cases hl
    | prod i j => cases hl
    | scaled c i => cases hl
    | choose i j l => cases hl
/-! ### product_tasks -/
def PairAt (H : Hp) (a : Addr) (p : Int × Nat) : Prop := H a = some (.tup [.int p.1, .int (p.2 : Nat)])
theorem PairAt.to {H H' : Hp} {a : Addr} {p : Int × Nat} (h : PairAt H a p) (t : Tps H H') : PairAt H' a p := t _ _ h
def spProduct : Sp := fun vs H Q _ => ∃ (l1 l2 b : Addr) (ws1 ws2 : List V) (first second : List (Int × Nat)) (t : Tk) (m : Int) (n : Nat), vs = [.ref l1, .ref l2, .ref b, .int m] ∧ H l1 = some (.lst ws1) ∧ H l2 = some (.lst ws2) ∧ RL (PairAt H) ws1 first ∧ RL (PairAt H) ws2 second ∧
  (∀ p ∈ first, -1 ≤ p.1 ∧ p.1 ≤ 1) ∧ (∀ p ∈ second, -1 ≤ p.1 ∧ p.1 ≤ 1) ∧ first.length ≤ 10 ∧ second.length ≤ 10 ∧ TkAt H b t ∧ TkOk m n t ∧ 0 < m ∧ m ≤ 1000000000 ∧
  ∀ H' l ws, Same H H' → H l = none → H' l = some (.lst ws) → RL (TkAt H') ws (productTasks m first second t) → Q (.ref l) H'
def psign (i : Nat) : Int := if i = 0 then -1 else 1
def passes (m : Int) (first second : List (Int × Nat)) (t : Tk) (i : Nat) : List Tk := (List.range i).flatMap fun j => passTasks m (psign j) first second t
theorem passes_2 (m : Int) (first second : List (Int × Nat)) (t : Tk) : passes m first second t 2 = productTasks m first second t := by
  unfold passes productTasks
  show passTasks m (-1) first second t ++ (passTasks m 1 first second t ++ []) = _
  rw [List.append_nil]
theorem passes_succ (m : Int) (first second : List (Int × Nat)) (t : Tk) (i : Nat) : passes m first second t (i + 1) = passes m first second t i ++ passTasks m (psign i) first second t := by
  unfold passes
  rw [List.range_succ, List.flatMap_append]
  simp
theorem passes_len (m : Int) (first second : List (Int × Nat)) (t : Tk) (i : Nat) : (passes m first second t i).length = i * (first.length + second.length) := by
  induction i with
  | zero => simp [passes]
  | succ i ih =>
    rw [passes_succ, List.length_append, ih]
    unfold passTasks
    rw [List.length_append, List.length_map, List.length_map, Nat.succ_mul]
theorem push_tk {H0 H' : Hp} {l p fa : Addr} {ws : List V} {ts : List Tk} {u : Tk} (s : Same H0 H') (l0 : H0 l = none) (hL : H' l = some (.lst ws)) (rl : RL (TkAt H') ws ts) (hp : H' p = none) (fo : FacsAt H' fa (facs u.fac)) :
    (upd H' p (.tup (tkV fa u))) l = some (.lst ws) ∧ Same H0 (upd (upd H' p (.tup (tkV fa u))) l (.lst (ws ++ [.ref p]))) ∧ Tps H' (upd (upd H' p (.tup (tkV fa u))) l (.lst (ws ++ [.ref p]))) ∧
      (upd (upd H' p (.tup (tkV fa u))) l (.lst (ws ++ [.ref p]))) l = some (.lst (ws ++ [.ref p])) ∧ RL (TkAt (upd (upd H' p (.tup (tkV fa u))) l (.lst (ws ++ [.ref p])))) (ws ++ [.ref p]) (ts ++ [u]) := by
  have e1 : (upd H' p (.tup (tkV fa u))) l = some (.lst ws) := by
    rw [upd_ne (ne_of_none hL hp)]
    exact hL
  have t1 : Tps H' (upd (upd H' p (.tup (tkV fa u))) l (.lst (ws ++ [.ref p]))) := (tps_new hp).trans (tps_lst e1)
  refine ⟨e1, same_set (s.trans (same_new hp)) l0, t1, upd_same, (rl.toT t1).snoc ⟨fa, tps_lst e1 _ _ upd_same, fo.to t1⟩⟩
theorem ok_product_tasks (T : Tx w K mg C L) (D : Df K mg "product_tasks" sProductTasks ["first", "second", "task", "modulus"]) : Cl P w K mg base 1 "product_tasks" ["first", "second", "task", "modulus"] spProduct := by
  refine cl_mk D scProductTasks (fun vs H Q E h => ?_) (fun f cdv A outer s H vs Q E hr h => ?_)
  · obtain ⟨l1, l2, b, ws1, ws2, first, second, t, m, n, rfl, _⟩ := h
    rfl
  · obtain ⟨l1, l2, b, ws1, ws2, first, second, t, m, n, rfl, h1, h2, r1, r2, b1, b2, n1, n2, ⟨fa, hb, wf, hf, rl⟩, ok, m0, m9, k⟩ := h
    have ln := rl.len
    have ln1 := r1.len
    have ln2 := r2.len
    refine ⟨_, pss_cons (ps_asg (pv 2) (pg_tup rfl (pgs_cons (pg_name (i := 4) scProductTasks.nd rfl (.inl rfl)) (pgs_cons (pg_name (i := 5) scProductTasks.nd rfl (.inl rfl)) (pgs_cons (pg_name (i := 6) scProductTasks.nd rfl (.inl rfl)) (pgs_cons (pg_name (i := 7) scProductTasks.nd rfl (.inl rfl)) (pgs_cons (pg_name (i := 8) scProductTasks.nd rfl (.inl rfl)) pgs_nil)))))))
      (pss_cons (ps_set (i := 9) scProductTasks.nd rfl (.inl rfl) (pe_ifExp (pt_truth (pv 7) (by intro _; rfl)) (pe_ix ix_tup (pe_ix ix_tup (pv 7) pe_int (fun _ _ => rfl)) pe_int (fun _ _ => rfl)) (pe_op op_sub (pe_op op_sub pe_int (pv 5)) (pv 8))))
      (pss_cons (ps_set (i := 10) scProductTasks.nd rfl (.inl rfl) (pe_tup (pa_cons (pe_tup (pa_cons pe_str (pa_cons (pv 8) pa_nil))) pa_nil)))
      (pss_cons (ps_set (i := 11) scProductTasks.nd rfl (.inl rfl) (pe_lst pa_nil))
      (pss_cons (ps_for PassesOwn.never rfl (pi_range1 rfl T.range (pa_cons pe_int pa_nil)) (pg_name (i := 12) scProductTasks.nd rfl (.inl rfl))
        (pss_cons (ps_set (i := 13) scProductTasks.nd rfl (.inl rfl) (pe_ifExp (pt_cmpR op_eq (pv 12) pe_int (nomark _)) (pe_un un_neg pe_int) pe_int))
        (pss_cons (ps_for PassesOwn.never rfl (pi_list (pv 0)) (pg_tup rfl (pgs_cons (pg_name (i := 14) scProductTasks.nd rfl (.inl rfl)) (pgs_cons (pg_name (i := 15) scProductTasks.nd rfl (.inl rfl)) pgs_nil)))
          (pss_one (ps_expr (pe_bm PySem.F.plainAttrs_list PySem.F.slot_list_append PySem.F.type_list_append mt_append (pv 11) (pa_cons (pe_tup (pa_cons (pv 15) (pa_cons (pv 5) (pa_cons (pe_op op_mod (pe_op op_mul (pe_op op_mul (pv 13) (pv 14)) (pv 6)) (pv 3)) (pa_cons (pv 10) (pa_cons (pv 9) pa_nil)))))) pa_nil)))))
        (pss_one (ps_for PassesOwn.never rfl (pi_list (pv 1)) (pg_tup rfl (pgs_cons (pg_name (i := 14) scProductTasks.nd rfl (.inl rfl)) (pgs_cons (pg_name (i := 15) scProductTasks.nd rfl (.inl rfl)) pgs_nil)))
          (pss_one (ps_expr (pe_bm PySem.F.plainAttrs_list PySem.F.slot_list_append PySem.F.type_list_append mt_append (pv 11) (pa_cons (pe_tup (pa_cons (pv 15) (pa_cons (pv 8) (pa_cons (pe_op op_mod (pe_op op_mul (pe_un un_neg (pv 13)) (pv 14)) (pv 3)) (pa_cons (pv 7) (pa_cons (pv 5) pa_nil)))))) pa_nil)))))))))
      (pss_one (ps_ret (pv 11))))))), ?_⟩
    have lo := ok.lo
    have hi := ok.hi
    have ht := ok.tgt
    have hs := ok.spare
    have hne := ok.ne
    refine ⟨_, rfl, b, _, rfl, SqT.of hb, rfl, _, _, rfl, _, _, rfl, _, _, rfl, _, _, rfl, _, _, rfl, rfl, ?_⟩
    -- used
    have hU : ∀ Qc : VK, Qc (.int ((used t : Nat) : Int)) H → tIf (fun σ H Q => tVar 7 σ H fun x H' => ∃ k, TruV K x H' k ∧ Q k H') (tOp (rIxT K) (tOp (rIxT K) (tVar 7) (tC (.int 0))) (tC (.int 1))) (tOp (rI0 fun i j => .int (i - j)) (tOp (rI0 fun i j => .int (i - j)) (tC (.int 3)) (tVar 5)) (tVar 8))
        [some (.ref l1), some (.ref l2), some (.ref b), some (.int m), some (.int (t.node : Nat)), some (.int (t.tgt : Nat)), some (.int t.co), some (.ref fa), some (.int (t.spare : Nat)), none, none, none, none, none, none, none] H Qc := by
      intro Qc q
      cases e : t.fac with
      | none =>
        rw [e] at rl
        have rl' : RL (FacAt H) wf [] := rl
        cases rl'
        refine ⟨_, rfl, false, .inr (.inl ⟨[], SqT.of hf, rfl⟩), iteF ?_⟩
        refine ⟨_, rfl, _, _, rfl, rfl, _, rfl, _, _, rfl, rfl, ?_⟩
        have eu : (3 : Int) - ((t.tgt : Nat) : Int) - ((t.spare : Nat) : Int) = ((used t : Nat) : Int) := by
          unfold used
          rw [e, Option.getD_none]
          omega
        rw [← eu] at q
        exact q
      | some fc =>
        rw [e] at rl
        have rl' : RL (FacAt H) wf [.cell fc] := rl
        cases rl' with
        | cons r r' =>
          cases r'
          have r0 : H _ = some (.tup [.str "cell", .int (fc : Nat)]) := r
          refine ⟨_, rfl, true, .inr (.inl ⟨_, SqT.of hf, rfl⟩), iteT ?_⟩
          refine ⟨_, rfl, fa, _, 0, _, rfl, rfl, SqT.of hf, rfl, _, _, 1, _, rfl, rfl, SqT.of r0, rfl, ?_⟩
          have eu : used t = fc := by
            unfold used
            rw [e]
            rfl
          rw [eu] at q
          exact q
    refine hU _ ?_
    -- through, tasks
    refine ⟨_, rfl, (by show 2 ≤ sizeLine; decide), fun c hc => ⟨(by show 1 ≤ sizeLine; decide), fun th hth => ?_⟩⟩
    have s2 : Same H (upd (upd H c (.tup [.str "cell", .int (t.spare : Nat)])) th (.tup [.ref c])) := (same_new hc).trans (same_new hth)
    refine ⟨Nat.zero_le _, fun l hl => ?_⟩
    have l0 : H l = none := s2.free hl
    have s3 := s2.trans (same_new (o := .lst []) hl)
    have fth : FacsAt (upd (upd (upd H c (.tup [.str "cell", .int (t.spare : Nat)])) th (.tup [.ref c])) l (.lst [])) th (facs (some t.spare)) :=
      ⟨[.ref c], same_new hl _ _ upd_same, .one (same_new hl _ _ (same_new hth _ _ upd_same))⟩
    refine ⟨2, rfl, by decide, by decide, for_range (n := 2) (fun i σ H' => ∃ v12 v13 v14 v15 ws, σ = [some (.ref l1), some (.ref l2), some (.ref b), some (.int m), some (.int (t.node : Nat)), some (.int (t.tgt : Nat)), some (.int t.co), some (.ref fa), some (.int (t.spare : Nat)), some (.int (used t : Nat)), some (.ref th), some (.ref l), v12, v13, v14, v15] ∧
        Same H H' ∧ H' l = some (.lst ws) ∧ RL (TkAt H') ws (passes m first second t i) ∧ FacsAt H' th (facs (some t.spare)))
      ⟨none, none, none, none, [], rfl, s3, upd_same, .nil, fth⟩ ?_ ?_⟩
    · rintro i σ H' hi ⟨v12, v13, v14, v15, ws, rfl, sm, hL, rT, fT⟩
      have hS : ∀ Qc : VK, Qc (.int (psign i)) H' → tIf (tTest (tOp rEq (tVar 12) (tC (.int 0)))) (tUn (rU fun i => .int (-i)) (tC (.int 1))) (tC (.int 1))
          [some (.ref l1), some (.ref l2), some (.ref b), some (.int m), some (.int (t.node : Nat)), some (.int (t.tgt : Nat)), some (.int t.co), some (.ref fa), some (.int (t.spare : Nat)), some (.int (used t : Nat)), some (.ref th), some (.ref l), some (.int (0 + (i : Nat))), v13, v14, v15] H' Qc := by
        intro Qc q
        refine ⟨_, rfl, rfl, _, rfl, ite2 (fun e => ?_) (fun e => ?_)⟩
        · have e0 : i = 0 := by
            have := V.int.inj (of_decide_eq_true e)
            omega
          subst e0
          exact ⟨1, rfl, q⟩
        · have e0 : i ≠ 0 := fun z => e (decide_eq_true (by rw [z]; rfl))
          have e1 : psign i = 1 := if_neg e0
          rw [e1] at q
          exact q
      refine hS _ ?_
      have ps : -1 ≤ psign i ∧ psign i ≤ 1 := by
        unfold psign
        split <;> decide
      have pl := passes_len m first second t i
      have pl2 : i * (first.length + second.length) ≤ 1 * 20 := Nat.mul_le_mul (by omega) (by omega)
      -- the first loop
      refine ⟨_, rfl, l1, rfl, ⟨_, SqL.of (sm _ _ h1)⟩, for_list (K := K) (a := l1) (xs := ws1) (fun j σ H2 => ∃ v14 v15 ws, σ = [some (.ref l1), some (.ref l2), some (.ref b), some (.int m), some (.int (t.node : Nat)), some (.int (t.tgt : Nat)), some (.int t.co), some (.ref fa), some (.int (t.spare : Nat)), some (.int (used t : Nat)), some (.ref th), some (.ref l), some (.int (0 + (i : Nat))), some (.int (psign i)), v14, v15] ∧
          Same H H2 ∧ H2 l = some (.lst ws) ∧ RL (TkAt H2) ws (passes m first second t i ++ (first.take j).map fun p => ⟨p.2, t.tgt, psign i * p.1 * t.co % m, some t.spare, used t⟩) ∧ FacsAt H2 th (facs (some t.spare)))
        ⟨v14, v15, ws, rfl, sm, hL, by rw [List.take_zero, List.map_nil, List.append_nil]; exact rT, fT⟩ (fun j σ H2 _ ⟨_, _, _, _, s, _⟩ => SqL.of (s _ _ h1)) ?_ ?_⟩
      · rintro j y σ H2 hj ⟨v14, v15, ws, rfl, sm, hL, rT, fT⟩
        obtain ⟨a1, p, rfl, hp, r⟩ := r1.getV hj
        have r' : H2 a1 = some (.tup [.int p.1, .int (p.2 : Nat)]) := r.to (tps_same sm)
        obtain ⟨q1, q2⟩ := b1 p (List.mem_of_getElem? hp)
        have lw := rT.len
        refine ⟨a1, _, rfl, SqT.of r', rfl, _, _, rfl, _, _, rfl, rfl, ?_⟩
        refine ⟨_, rfl, .inl ⟨rfl, _, SqL.of hL⟩, ?_⟩
        refine ⟨_, rfl, _, rfl, _, rfl, _, rfl, _, _, rfl, rfl, .inl ⟨by omega, by omega⟩, _, rfl, _, _, rfl, rfl, .inr ⟨by omega, by omega⟩, _, rfl, _, _, rfl, rfl, m0, _, rfl, _, rfl, (by show 5 ≤ sizeLine; decide), fun q hq => ?_⟩
        obtain ⟨g1, g2, g3, g4, g5⟩ := push_tk (u := ⟨p.2, t.tgt, psign i * p.1 * t.co % m, some t.spare, used t⟩) sm l0 hL rT hq fT
        refine ⟨l, _, _, rfl, rfl, g1, ?_, some (.int p.1), some (.int (p.2 : Nat)), _, rfl, g2, g4, ?_, fT.to g3⟩
        · rw [lw, List.length_append, List.length_map, List.length_take, pl]
          exact small1000 (by omega)
        · rw [List.take_add_one, hp, List.map_append, ← List.append_assoc]
          exact g5
      · rintro σ H2 ⟨v14, v15, ws, rfl, sm, hL, rT, fT⟩
        rw [List.take_of_length_le (Nat.le_of_eq ln1.symm)] at rT
        -- the second loop
        refine ⟨_, rfl, l2, rfl, ⟨_, SqL.of (sm _ _ h2)⟩, for_list (K := K) (a := l2) (xs := ws2) (fun j σ H2 => ∃ v14 v15 ws, σ = [some (.ref l1), some (.ref l2), some (.ref b), some (.int m), some (.int (t.node : Nat)), some (.int (t.tgt : Nat)), some (.int t.co), some (.ref fa), some (.int (t.spare : Nat)), some (.int (used t : Nat)), some (.ref th), some (.ref l), some (.int (0 + (i : Nat))), some (.int (psign i)), v14, v15] ∧
            Same H H2 ∧ H2 l = some (.lst ws) ∧ RL (TkAt H2) ws ((passes m first second t i ++ first.map fun p => ⟨p.2, t.tgt, psign i * p.1 * t.co % m, some t.spare, used t⟩) ++ (second.take j).map fun p => ⟨p.2, t.spare, -psign i * p.1 % m, t.fac, t.tgt⟩) ∧ FacsAt H2 th (facs (some t.spare)))
          ⟨v14, v15, ws, rfl, sm, hL, by rw [List.take_zero, List.map_nil, List.append_nil]; exact rT, fT⟩ (fun j σ H2 _ ⟨_, _, _, _, s, _⟩ => SqL.of (s _ _ h2)) ?_ ?_⟩
        · rintro j y σ H2 hj ⟨v14, v15, ws, rfl, sm, hL, rT, fT⟩
          obtain ⟨a1, p, rfl, hp, r⟩ := r2.getV hj
          have r' : H2 a1 = some (.tup [.int p.1, .int (p.2 : Nat)]) := r.to (tps_same sm)
          obtain ⟨q1, q2⟩ := b2 p (List.mem_of_getElem? hp)
          have lw := rT.len
          refine ⟨a1, _, rfl, SqT.of r', rfl, _, _, rfl, _, _, rfl, rfl, ?_⟩
          refine ⟨_, rfl, .inl ⟨rfl, _, SqL.of hL⟩, ?_⟩
          refine ⟨_, rfl, _, rfl, _, rfl, _, rfl, _, rfl, _, _, rfl, rfl, .inl ⟨by omega, by omega⟩, _, rfl, _, _, rfl, rfl, m0, _, rfl, _, rfl, (by show 5 ≤ sizeLine; decide), fun q hq => ?_⟩
          obtain ⟨g1, g2, g3, g4, g5⟩ := push_tk (fa := fa) (u := ⟨p.2, t.spare, -psign i * p.1 % m, t.fac, t.tgt⟩) sm l0 hL rT hq ⟨wf, sm _ _ hf, rl.mono fun x y z => z.to (tps_same sm)⟩
          refine ⟨l, _, _, rfl, rfl, g1, ?_, some (.int p.1), some (.int (p.2 : Nat)), _, rfl, g2, g4, ?_, fT.to g3⟩
          · rw [lw, List.length_append, List.length_append, List.length_map, List.length_map, List.length_take, pl]
            exact small1000 (by omega)
          · rw [List.take_add_one, hp, List.map_append, ← List.append_assoc]
            exact g5
        · rintro σ H2 ⟨v14, v15, ws, rfl, sm, hL, rT, fT⟩
          rw [List.take_of_length_le (Nat.le_of_eq ln2.symm)] at rT
          refine ⟨_, _, _, _, ws, rfl, sm, hL, ?_, fT⟩
          rw [passes_succ]
          unfold passTasks
          rw [← List.append_assoc]
          exact rT
    · rintro σ H' ⟨v12, v13, v14, v15, ws, rfl, sm, hL, rT, fT⟩
      rw [passes_2] at rT
      exact ⟨_, rfl, k H' l ws sm l0 hL rT⟩
end
end Brim
/-! ## W6 -/
namespace Brim
open PySem PySem.Spec PyProof.Rows L2
section
variable {P : Program} {w : World} {K : PySem.W.Frag} {mg : Str → Option Value} {base : Heap} {C L : Addr}
/-! ### inner_tasks -/
def spInner : Sp := fun vs H Q _ => ∃ (a b : Addr) (nd : Nd) (t : Tk) (m : Int) (n : Nat), vs = [.ref a, .ref b, .int m] ∧ NdAt H a nd ∧ isLeaf nd = false ∧ nd.ok t.node ∧ TkAt H b t ∧ TkOk m n t ∧ 0 < m ∧ m ≤ 1000000000 ∧
  ∀ H' l ws, Same H H' → H' l = some (.lst ws) → RL (TkAt H') ws (inner m t nd) → Q (.ref l) H'
theorem ok_inner_tasks (T : Tx w K mg C L) (D : Df K mg "inner_tasks" sInnerTasks ["node", "task", "modulus"]) (cP : Cl P w K mg base 1 "product_tasks" ["first", "second", "task", "modulus"] spProduct) :
    Cl P w K mg base 2 "inner_tasks" ["node", "task", "modulus"] spInner := by
  refine cl_mk D scInnerTasks (fun vs H Q E h => ?_) (fun f cdv A outer s H vs Q E hr h => ?_)
  · obtain ⟨a, b, nd, t, m, n, rfl, _⟩ := h
    rfl
  · obtain ⟨a, b, nd, t, m, n, rfl, h, hlf, oknd, hT, ok, m0, m9, k⟩ := h
    obtain ⟨fa, hb, hF⟩ := id hT
    have lo := ok.lo
    have hi := ok.hi
    refine ⟨_, pss_cons (ps_asg (pv 1) (pg_tup rfl (pgs_cons (pg_name (i := 3) scInnerTasks.nd rfl (.inl rfl)) (pgs_cons (pg_name (i := 4) scInnerTasks.nd rfl (.inr rfl)) (pgs_cons (pg_name (i := 5) scInnerTasks.nd rfl (.inr rfl)) (pgs_cons (pg_name (i := 6) scInnerTasks.nd rfl (.inr rfl)) (pgs_cons (pg_name (i := 7) scInnerTasks.nd rfl (.inr rfl)) pgs_nil))))))) <|
      pss_cons (ps_if (pt_cmpR op_eq (pe_ix ix_tup (pv 0) pe_int (fun _ _ => rfl)) pe_str (nomark _)) (pss_one (ps_ret (pe_lst (pa_cons (pe_tup (pa_cons (pe_ix ix_tup (pv 0) pe_int (fun _ _ => rfl)) (pa_cons (pv 4) (pa_cons (pe_op op_mod (pe_op op_mul (pv 5) (pe_ix ix_tup (pv 0) pe_int (fun _ _ => rfl))) (pv 2)) (pa_cons (pv 6) (pa_cons (pv 7) pa_nil)))))) pa_nil)))) pss_nil) <|
      pss_cons (ps_if (pt_cmpR op_eq (pe_ix ix_tup (pv 0) pe_int (fun _ _ => rfl)) pe_str (nomark _)) (pss_one (ps_ret (pe_lc (own := [("part", 10)]) (g := gName 10) (by rfl) scInnerTasks.nd (pi_tup (pe_slice sl_tup (pv 0) (po_some pe_int) po_none))
          (blkOk_by (own := [("part", 10)]) (N := ["node", "task", "modulus", "_", "target", "coefficient", "factors", "spare", "alone", "both", "part"]) (sc := defScope sInnerTasks) (by decide +kernel))
          (fun _ _ _ _ _ => pg_name (i := 10) scInnerTasks.nd rfl (Or.inl rfl)) (fun _ _ _ _ _ => pts_nil)
          (fun _ _ _ _ _ => (pe_tup (pa_cons (pv 10) (pa_cons (pv 4) (pa_cons (pv 5) (pa_cons (pv 6) (pa_cons (pv 7) pa_nil)))))))))) pss_nil) <|
      pss_cons (ps_if (pt_cmpR op_eq (pe_ix ix_tup (pv 0) pe_int (fun _ _ => rfl)) pe_str (nomark _)) (pss_one (ps_ret (pe_cl cP hr (pa_cons (pe_lst (pa_cons (pe_tup (pa_cons pe_int (pa_cons (pe_ix ix_tup (pv 0) pe_int (fun _ _ => rfl)) pa_nil))) pa_nil)) (pa_cons (pe_lst (pa_cons (pe_tup (pa_cons pe_int (pa_cons (pe_ix ix_tup (pv 0) pe_int (fun _ _ => rfl)) pa_nil))) pa_nil)) (pa_cons (pv 1) (pa_cons (pv 2) pa_nil))))))) pss_nil) <|
      pss_cons (ps_set (i := 8) scInnerTasks.nd rfl (.inl rfl) (pe_lst (pa_cons (pe_tup (pa_cons (pe_ix ix_tup (pv 0) pe_int (fun _ _ => rfl)) (pa_cons (pv 4) (pa_cons (pv 5) (pa_cons (pv 6) (pa_cons (pv 7) pa_nil)))))) pa_nil))) <|
      pss_cons (ps_set (i := 9) scInnerTasks.nd rfl (.inl rfl) (pe_lst (pa_cons (pe_tup (pa_cons pe_int (pa_cons (pe_ix ix_tup (pv 0) pe_int (fun _ _ => rfl)) pa_nil))) (pa_cons (pe_tup (pa_cons (pe_un un_neg pe_int) (pa_cons (pe_ix ix_tup (pv 0) pe_int (fun _ _ => rfl)) pa_nil))) pa_nil)))) <|
      (pss_one (ps_ret (pe_op op_cat (pv 8) (pe_cl cP hr (pa_cons (pe_lst (pa_cons (pe_tup (pa_cons pe_int (pa_cons (pe_ix ix_tup (pv 0) pe_int (fun _ _ => rfl)) pa_nil))) pa_nil)) (pa_cons (pv 9) (pa_cons (pv 1) (pa_cons (pv 2) pa_nil)))))))), ?_⟩
    refine ⟨_, rfl, b, _, rfl, SqT.of hb, rfl, _, _, rfl, _, _, rfl, _, _, rfl, _, _, rfl, _, _, rfl, rfl, ?_⟩
    cases nd with
    | const c => cases hlf
    | input c => cases hlf
    | scaled c i =>
      have h' : H a = some (.tup [.str "scaled", .int c, .int (i : Nat)]) := h
      refine ⟨_, rfl, a, _, 0, _, rfl, rfl, SqT.of h', rfl, rfl, _, rfl, iteD rfl ?_⟩
      refine ⟨_, rfl, a, _, 2, _, rfl, rfl, SqT.of h', rfl, _, rfl, _, rfl, _, rfl, a, _, 1, _, rfl, rfl, SqT.of h', rfl, _, _, rfl, rfl, .inl ⟨by omega, by omega⟩, _, rfl, _, _, rfl, rfl, m0, _, rfl, _, rfl, (by show 5 ≤ sizeLine; decide), fun p hp => ?_⟩
      refine ⟨(by show 1 ≤ sizeLine; decide), fun l hl => ?_⟩
      have s1 := same_new (o := .tup (tkV fa ⟨i, t.tgt, t.co * c % m, t.fac, t.spare⟩)) hp
      have s2 := s1.trans (same_new (o := .lst [.ref p]) hl)
      exact k _ l [.ref p] s2 upd_same (.one ⟨fa, same_new hl _ _ upd_same, hF.to (tps_same s2)⟩)
    | sum i j =>
      have h' : H a = some (.tup [.str "sum", .int (i : Nat), .int (j : Nat)]) := h
      refine ⟨_, rfl, a, _, 0, _, rfl, rfl, SqT.of h', rfl, rfl, _, rfl, iteDN (strNe (by decide +kernel)) ?_⟩
      refine ⟨_, rfl, a, _, 0, _, rfl, rfl, SqT.of h', rfl, rfl, _, rfl, iteD rfl ?_⟩
      refine ⟨_, rfl, 1, rfl, a, _, rfl, SqT.of h', (fun z => absurd z.1 (by show ¬ ((1 : Nat) = 0); decide)), fun c hc => ?_⟩
      have s1 : Same H (upd H c (.tup [.int (i : Nat), .int (j : Nat)])) := same_new hc
      refine ⟨c, rfl, ⟨[.int (i : Nat), .int (j : Nat)], SqT.of upd_same⟩, fun l hl => ?_⟩
      have l0 : H l = none := s1.free hl
      have s2 := s1.trans (same_new (o := .lst []) hl)
      refine lc_tup (K := K) (a := c) (xs := [.int (i : Nat), .int (j : Nat)]) (fun e H' => ∃ ws, Same H H' ∧ H' l = some (.lst ws) ∧ RL (TkAt H') ws (([i, j].take e).map fun z => ⟨z, t.tgt, t.co, t.fac, t.spare⟩) ∧ H' c = some (.tup [.int (i : Nat), .int (j : Nat)]))
        ⟨[], s2, upd_same, .nil, same_new hl _ _ upd_same⟩ (fun e H' _ ⟨_, _, _, _, e2⟩ => SqT.of e2) ?_ ?_
      · rintro e y H' he ⟨ws, sm, hL, rT, hc'⟩
        have hy : ∃ z : Nat, y = .int (z : Nat) ∧ [i, j][e]? = some z := by
          match e, he with
          | 0, he => exact ⟨i, (Option.some.inj he).symm, rfl⟩
          | 1, he => exact ⟨j, (Option.some.inj he).symm, rfl⟩
        obtain ⟨z, rfl, hz⟩ := hy
        refine ⟨rfl, ?_⟩
        refine ⟨_, rfl, _, rfl, _, rfl, _, rfl, _, rfl, (by show 5 ≤ sizeLine; decide), fun p hp => ?_⟩
        obtain ⟨g1, g2, g3, g4, g5⟩ := push_tk (fa := fa) (u := ⟨z, t.tgt, t.co, t.fac, t.spare⟩) sm l0 hL rT hp (hF.to (tps_same sm))
        refine ⟨ws, g1, ?_, _, g2, g4, ?_, g3 _ _ hc'⟩
        · rw [rT.len, List.length_map, List.length_take]
          exact small1000 (by show min e 2 ≤ 1000; omega)
        · rw [List.take_add_one, hz, List.map_append]
          exact g5
      · rintro H' ⟨ws, sm, hL, rT, _⟩
        exact k H' l ws sm hL rT
    | prod i j =>
      have h' : H a = some (.tup [.str "product", .int (i : Nat), .int (j : Nat)]) := h
      refine ⟨_, rfl, a, _, 0, _, rfl, rfl, SqT.of h', rfl, rfl, _, rfl, iteDN (strNe (by decide +kernel)) ?_⟩
      refine ⟨_, rfl, a, _, 0, _, rfl, rfl, SqT.of h', rfl, rfl, _, rfl, iteDN (strNe (by decide +kernel)) ?_⟩
      refine ⟨_, rfl, a, _, 0, _, rfl, rfl, SqT.of h', rfl, rfl, _, rfl, iteD rfl ?_⟩
      refine ⟨_, rfl, a, _, 1, _, rfl, rfl, SqT.of h', rfl, (by show 2 ≤ sizeLine; decide), fun p1 hp1 => ⟨(by show 1 ≤ sizeLine; decide), fun q1 hq1 => ?_⟩⟩
      have s1 : Same H (upd (upd H p1 (.tup [.int 1, .int (i : Nat)])) q1 (.lst [.ref p1])) := (same_new hp1).trans (same_new hq1)
      refine ⟨_, rfl, a, _, 2, _, rfl, rfl, SqT.of (s1 _ _ h'), rfl, (by show 2 ≤ sizeLine; decide), fun p2 hp2 => ⟨(by show 1 ≤ sizeLine; decide), fun q2 hq2 => ?_⟩⟩
      have s2 := (same_new (o := .tup [.int 1, .int (j : Nat)]) hp2).trans (same_new (o := .lst [.ref p2]) hq2)
      have s12 := s1.trans s2
      have e1 : PairAt _ p1 (1, i) := s2 _ _ (same_new (o := .lst [.ref p1]) hq1 _ _ upd_same)
      have e2 : PairAt _ p2 (1, j) := same_new (o := .lst [.ref p2]) hq2 _ _ upd_same
      refine ⟨_, rfl, _, rfl, q1, q2, b, [.ref p1], [.ref p2], [(1, i)], [(1, j)], t, m, n, rfl, s2 _ _ upd_same, upd_same, .one e1, .one e2, ?_, ?_, by simp, by simp, hT.to (tps_same s12), ok, m0, m9, fun H' l ws s3 _ hL rT => k H' l ws (s12.trans s3) hL rT⟩
      · intro p hp
        rw [List.mem_singleton.mp hp]
        show (-1 : Int) ≤ 1 ∧ (1 : Int) ≤ 1
        decide
      · intro p hp
        rw [List.mem_singleton.mp hp]
        show (-1 : Int) ≤ 1 ∧ (1 : Int) ≤ 1
        decide
    | choose i j x =>
      have h' : H a = some (.tup [.str "choose", .int (i : Nat), .int (j : Nat), .int (x : Nat)]) := h
      refine ⟨_, rfl, a, _, 0, _, rfl, rfl, SqT.of h', rfl, rfl, _, rfl, iteDN (strNe (by decide +kernel)) ?_⟩
      refine ⟨_, rfl, a, _, 0, _, rfl, rfl, SqT.of h', rfl, rfl, _, rfl, iteDN (strNe (by decide +kernel)) ?_⟩
      refine ⟨_, rfl, a, _, 0, _, rfl, rfl, SqT.of h', rfl, rfl, _, rfl, iteDN (strNe (by decide +kernel)) ?_⟩
      refine ⟨_, rfl, a, _, 3, _, rfl, rfl, SqT.of h', rfl, _, rfl, _, rfl, _, rfl, _, rfl, (by show 5 ≤ sizeLine; decide), fun p0 hp0 => ⟨(by show 1 ≤ sizeLine; decide), fun q0 hq0 => ?_⟩⟩
      have s0 := (same_new (o := .tup (tkV fa ⟨x, t.tgt, t.co, t.fac, t.spare⟩)) hp0).trans (same_new (o := .lst [.ref p0]) hq0)
      refine ⟨_, rfl, a, _, 2, _, rfl, rfl, SqT.of (s0 _ _ h'), rfl, (by show 2 ≤ sizeLine; decide), fun p1 hp1 => ?_⟩
      have s1 := same_new (o := .tup [.int 1, .int (j : Nat)]) hp1
      refine ⟨1, rfl, _, rfl, a, _, 3, _, rfl, rfl, SqT.of (s1 _ _ (s0 _ _ h')), rfl, (by show 2 ≤ sizeLine; decide), fun p2 hp2 => ⟨(by show 2 ≤ sizeLine; decide), fun q1 hq1 => ?_⟩⟩
      have s2 := (same_new (o := .tup [.int (-1), .int (x : Nat)]) hp2).trans (same_new (o := .lst [.ref p1, .ref p2]) hq1)
      have s012 := s0.trans (s1.trans s2)
      refine ⟨_, rfl, _, rfl, a, _, 1, _, rfl, rfl, SqT.of (s012 _ _ h'), rfl, (by show 2 ≤ sizeLine; decide), fun p3 hp3 => ⟨(by show 1 ≤ sizeLine; decide), fun q2 hq2 => ?_⟩⟩
      have s3 := (same_new (o := .tup [.int 1, .int (i : Nat)]) hp3).trans (same_new (o := .lst [.ref p3]) hq2)
      have s4 := s012.trans s3
      have e0 := s3 _ _ (s2 _ _ (s1 _ _ (upd_same (H := upd H p0 (.tup (tkV fa ⟨x, t.tgt, t.co, t.fac, t.spare⟩))) (a := q0) (o := .lst [.ref p0]))))
      have e1 : PairAt _ p1 (1, j) := s3 _ _ (s2 _ _ upd_same)
      have e2 : PairAt _ p2 (-1, x) := s3 _ _ (same_new (o := .lst [.ref p1, .ref p2]) hq1 _ _ upd_same)
      have e3 : PairAt _ p3 (1, i) := same_new (o := .lst [.ref p3]) hq2 _ _ upd_same
      have eT : TkAt _ p0 ⟨x, t.tgt, t.co, t.fac, t.spare⟩ := ⟨fa, s3 _ _ (s2 _ _ (s1 _ _ (same_new (o := .lst [.ref p0]) hq0 _ _ upd_same))), hF.to (tps_same s4)⟩
      refine ⟨_, rfl, _, rfl, _, rfl, q2, q1, b, [.ref p3], [.ref p1, .ref p2], [(1, i)], [(1, j), (-1, x)], t, m, n, rfl, upd_same, s3 _ _ upd_same, .one e3, .cons e1 (.one e2), ?_, ?_, by simp, by simp, hT.to (tps_same s4), ok, m0, m9, fun H' l ws s5 _ hL rT => ?_⟩
      · intro p hp
        rw [List.mem_singleton.mp hp]
        show (-1 : Int) ≤ 1 ∧ (1 : Int) ≤ 1
        decide
      · intro p hp
        simp only [List.mem_cons, List.not_mem_nil, or_false] at hp
        rcases hp with rfl | rfl
        · show (-1 : Int) ≤ 1 ∧ (1 : Int) ≤ 1
          decide
        · show (-1 : Int) ≤ -1 ∧ (-1 : Int) ≤ 1
          decide
      · have lw := rT.len
        have lp : (productTasks m [(1, i)] [(1, j), (-1, x)] t).length = 6 := by simp [productTasks, passTasks]
        refine ⟨q0, l, _, _, rfl, rfl, s5 _ _ e0, hL, ?_, fun z hz => ?_⟩
        · rw [lw, lp]
          show 7 ≤ sizeLine
          decide
        · have s6 := same_new (o := .lst ([.ref p0] ++ ws)) hz
          exact k _ z _ (s4.trans (s5.trans s6)) upd_same (.cons ((eT.to (tps_same s5)).to (tps_same s6)) (rT.toT (tps_same s6)))
end
end Brim
/-! ## W7 -/
namespace Brim
open PySem PySem.Spec PyProof.Rows L2
/-! ### the mathematics of the loop -/
theorem flat_len {m : Int} (hm : 0 < m) {ns : List Nd} (ok : SrcOk ns) : ∀ ts : List Tk, (∀ t ∈ ts, TkOk m ns.length t) → ts.length ≤ (ts.reverse.flatMap (compile m ns)).length
  | [], _ => Nat.zero_le _
  | t :: r, h => by
    have ih := flat_len hm ok r fun u hu => h u (List.mem_cons_of_mem _ hu)
    have ht := h t (List.mem_cons_self ..)
    have c1 := cost_pos ok (t.node + 1) t.node (by omega) ht.node
    have c2 := compile_len hm ok (t.node + 1) t ht (by omega)
    rw [List.reverse_cons, List.flatMap_append, List.length_append, List.length_cons]
    have e : ([t].flatMap (compile m ns)).length = (compile m ns t).length := by simp
    rw [e]
    omega
def tk0 (ns : List Nd) : Tk := ⟨ns.length - 1, 0, 1, none, 1⟩
theorem tk0_ok {m : Int} (m2 : 2 ≤ m) {ns : List Nd} (h : 1 ≤ ns.length) : TkOk m ns.length (tk0 ns) :=
  ⟨by show ns.length - 1 < ns.length; omega, by show 0 < 3; decide, by show 1 < 3; decide, by show 0 ≠ 1; decide, by show (0 : Int) ≤ 1; decide, by show (1 : Int) < m; omega, fun f e => nomatch e⟩
theorem isLeaf_not {nd : Nd} (h : isLeaf nd = false) : ndName nd ≠ "const" ∧ ndName nd ≠ "input" := by
  cases nd with
  | const c => cases h
  | input c => cases h
  | sum i j => exact ⟨show ("sum" : Str) ≠ "const" by decide +kernel, show ("sum" : Str) ≠ "input" by decide +kernel⟩
  | prod i j => exact ⟨show ("product" : Str) ≠ "const" by decide +kernel, show ("product" : Str) ≠ "input" by decide +kernel⟩
  | scaled c i => exact ⟨show ("scaled" : Str) ≠ "const" by decide +kernel, show ("scaled" : Str) ≠ "input" by decide +kernel⟩
  | choose i j l => exact ⟨show ("choose" : Str) ≠ "const" by decide +kernel, show ("choose" : Str) ≠ "input" by decide +kernel⟩
theorem nd_get0 (nd : Nd) : (ndV nd)[0]? = some (.str (ndName nd)) := by cases nd <;> rfl
theorem leafTest {K : PySem.W.Frag} {H : Hp} {aN : Addr} {nd : Nd} {σ : L2.St} (i : Nat) (hσ : σ[i]? = some (some (.ref aN))) (rN : NdAt H aN nd) (Q : Bool → Hp → Prop) (q : Q (isLeaf nd) H) :
    tOr (tTest (tOp rEq (tOp (rIxT K) (tVar i) (tC (.int 0))) (tC (.str "const")))) (tTest (tOp rEq (tOp (rIxT K) (tVar i) (tC (.int 0))) (tC (.str "input")))) σ H Q := by
  have hg0 := nd_get0 nd
  refine ⟨_, hσ, aN, _, ((0 : Nat) : Int), _, rfl, rfl, SqT.of rN, atI_nat hg0, rfl, _, rfl, ?_⟩
  by_cases h1 : ndName nd = "const"
  · refine iteD (by rw [h1]) ?_
    have e : isLeaf nd = true := by
      cases hl : isLeaf nd with
      | true => rfl
      | false => exact absurd h1 (isLeaf_not hl).1
    rw [e] at q
    exact q
  · refine iteDN (strNe h1) ?_
    refine ⟨_, hσ, aN, _, ((0 : Nat) : Int), _, rfl, rfl, SqT.of rN, atI_nat hg0, rfl, _, rfl, ?_⟩
    by_cases h2 : ndName nd = "input"
    · have e : isLeaf nd = true := by
        cases hl : isLeaf nd with
        | true => rfl
        | false => exact absurd h2 (isLeaf_not hl).2
      rw [e] at q
      rw [decide_eq_true (by rw [h2])]
      exact q
    · have e : isLeaf nd = false := by
        cases nd with
        | const c => exact absurd rfl h1
        | input c => exact absurd rfl h2
        | _ => rfl
      rw [e] at q
      rw [decide_eq_false (strNe h2)]
      exact q
theorem make_pr {C : Addr} {H : Hp} {l : Addr} {ws : List V} {ss : List Stp} {m : Int} {q : Nat} {Qf : VK} {E : XK} {x dx : Addr} (m2 : 2 ≤ m) (m9 : m ≤ 1000000000) (q60 : q ≤ 60) (hl : H l = some (.lst ws)) (rl : RL (StpAt H) ws ss) (ok : ∀ s ∈ ss, StpOk m q s) (le : ss.length ≤ 20000)
    (nx : H x = none) (ndx : H dx = none) (k : ∀ H', Same H H' → PrAt C H' x m q ss → Qf .non H') :
    spPInit C [.ref x, .int m, .int 3, .int (q : Nat), .ref l] (upd (upd H dx (.own x)) x (.ins C dx [])) Qf E := by
  have s1 : Same H (upd (upd H dx (.own x)) x (.ins C dx [])) := fun b o e => by
    rw [upd_ne (ne_of_none e nx), upd_ne (ne_of_none e ndx)]
    exact e
  refine ⟨x, dx, l, ws, ss, m, q, rfl, m2, m9, q60, upd_same, s1 _ _ hl, rl.toS (tps_same s1), ok, le, fun H' l2 kp hn h2 h3 => ?_⟩
  have s2 : Same H H' := fun b o e => kp b o (ne_of_none e nx) (s1 b o e)
  exact k H' s2 ⟨dx, l2, ws, h3, h2, rl.toS (tps_same s2)⟩
/-! ### compile_source -/
/-- what holds between two turns -/
def cwInv (H1 : Hp) (t : Addr) (ns : List Nd) (m : Int) (tot p0 S L : V) (aS aL : Addr) (k : Nat) (σ : L2.St) (H' : Hp) : Prop :=
  ∃ (ss : List Stp) (ts : List Tk) (wS wT : List V) (v6 v7 : Option V), σ = [some (.ref t), some (.int m), some tot, some p0, some S, some L, v6, v7] ∧ Same H1 H' ∧ H' aS = some (.lst wS) ∧ H' aL = some (.lst wT) ∧ RL (StpAt H') wS ss ∧ RL (TkAt H') wT ts ∧
    (∀ u ∈ ts, TkOk m ns.length u) ∧ (∀ s ∈ ss, StpOk m (needs ns) s) ∧ ss ++ ts.reverse.flatMap (compile m ns) = compile m ns (tk0 ns) ∧ k = wt ts
def spCompile (C : Addr) : Sp := fun vs H Q _ => ∃ (t : Addr) (ns : List Nd) (m : Int), vs = [.ref t, .int m] ∧ SrcAt H t ns ∧ SrcOk ns ∧ 1 ≤ ns.length ∧ ns.length ≤ 200 ∧ 2 ≤ m ∧ m ≤ 1000000000 ∧ cost ns (ns.length - 1) ≤ 20000 ∧
  ∀ H' p, Same H H' → PrAt C H' p m (needs ns) (compile m ns (tk0 ns)) → (∀ s ∈ compile m ns (tk0 ns), StpOk m (needs ns) s) → Q (.ref p) H'
section
variable {P : Program} {w : World} {K : PySem.W.Frag} {mg : Str → Option Value} {base : Heap} {C L : Addr}
theorem ok_compile_source {fi : Addr} {fdi : FuncData} (T : Tx w K mg C L) (D : Df K mg "compile_source" sCompileSource ["source", "modulus"]) (M : Mk K C fi) (F : FnOk P w K mg base CX0 7 fi fdi ["self", "modulus", "cells", "inputs", "steps"] (spPInit C))
    (b : Binds K fdi ["self", "modulus", "cells", "inputs", "steps"] []) (cCost : Cl P w K mg base 5 "cost" ["source"] spCost) (cNeeds : Cl P w K mg base 5 "needs" ["source"] spNeeds) (cLeaf : Cl P w K mg base 1 "leaf_step" ["node", "task", "modulus"] spLeafStep)
    (cInner : Cl P w K mg base 2 "inner_tasks" ["node", "task", "modulus"] spInner) : Cl P w K mg base 9 "compile_source" ["source", "modulus"] (spCompile C) := by
  refine cl_mk D scCompileSource (fun vs H Q E h => ?_) (fun f cdv A outer s H vs Q E hr h => ?_)
  · obtain ⟨t, ns, m, rfl, _⟩ := h
    rfl
  · obtain ⟨t, ns, m, rfl, hS, ok, l1, l2, m2, m9, hc, k⟩ := h
    have m0 : 0 < m := by omega
    refine ⟨_, (pss_cons (ps_set (i := 2) scCompileSource.nd rfl (.inl rfl) (pe_cl cCost hr (pa_cons (pv 0) pa_nil)))
      (pss_cons (ps_set (i := 3) scCompileSource.nd rfl (.inl rfl) (pe_make M F (hr.mono (by decide)) (by rfl) T.program b .nil pass0 (pa_cons (pv 1) (pa_cons pe_int (pa_cons (pe_cl cNeeds hr (pa_cons (pv 0) pa_nil)) (pa_cons (pe_lst pa_nil) pa_nil))))))
      (pss_cons (ps_if (pt_cmpR op_gt (pv 2) (pe_gi T.most) (nomark _)) (pss_one ps_never) pss_nil)
      (pss_cons (ps_set (i := 4) scCompileSource.nd rfl (.inl rfl) (pe_lst pa_nil))
      (pss_cons (ps_set (i := 5) scCompileSource.nd rfl (.inl rfl) (pe_lst (pa_cons (pe_tup (pa_cons (pe_op op_sub (pe_callB call_len_seq (by rfl) T.len bLen (pa_cons (pv 0) pa_nil)) pe_int) (pa_cons pe_int (pa_cons pe_int (pa_cons (pe_tup pa_nil) (pa_cons pe_int pa_nil)))))) pa_nil)))
      (pss_cons (ps_while PassesOwn.never (pt_truth (pv 5) (by intro _; rfl)) (pss_cons (ps_set (i := 6) scCompileSource.nd rfl (.inl rfl) (pe_bm0 PySem.F.plainAttrs_list PySem.F.slot_list_pop PySem.F.type_list_pop mt_pop (pv 5)))
      (pss_cons (ps_set (i := 7) scCompileSource.nd rfl (.inl rfl) (pe_ix ix_tup (pv 0) (pe_ix ix_tup (pv 6) pe_int (fun _ _ => rfl)) (fun _ _ => rfl)))
      (pss_one (ps_if (PW.pt (pw_or (pt_cmpR op_eq (pe_ix ix_tup (pv 7) pe_int (fun _ _ => rfl)) pe_str (nomark _)) (pw_or1 (pt_cmpR op_eq (pe_ix ix_tup (pv 7) pe_int (fun _ _ => rfl)) pe_str (nomark _))))) (pss_one (ps_expr (pe_bm PySem.F.plainAttrs_list PySem.F.slot_list_append PySem.F.type_list_append mt_append (pv 4) (pa_cons (pe_cl cLeaf hr (pa_cons (pv 7) (pa_cons (pv 6) (pa_cons (pv 1) pa_nil)))) pa_nil)))) (pss_one (ps_expr (pe_bm PySem.F.plainAttrs_list PySem.F.slot_list_extend PySem.F.type_list_extend mt_extend (pv 5) (pa_cons (pe_revL (pe_cl cInner hr (pa_cons (pv 7) (pa_cons (pv 6) (pa_cons (pv 1) pa_nil))))) pa_nil)))))))))
      (pss_one (ps_ret (pe_make M F (hr.mono (by decide)) (by rfl) T.program b .nil pass0 (pa_cons (pv 1) (pa_cons pe_int (pa_cons (pe_fld (pv 3) rfl) (pa_cons (pv 4) pa_nil))))))))))))), ?_⟩
    refine ⟨_, rfl, t, ns, rfl, hS, ok, l1, l2, fun Ha sa => ?_⟩
    refine ⟨_, rfl, _, rfl, t, ns, rfl, hS.to (tps_same sa), ok, l1, l2, fun Hb sb => ?_⟩
    refine ⟨Nat.zero_le _, fun e0 he0 => ?_⟩
    have s1 := sa.trans (sb.trans (same_new (o := .lst []) he0))
    refine fun p0 dx0 nx0 ndx0 nex0 => make_pr (ws := []) (ss := []) m2 m9 (needs_60 ok) upd_same .nil (fun s hs => by cases hs) (Nat.zero_le _) nx0 ndx0 fun H1 sc hP0 => ⟨rfl, ?_⟩
    have s2 := s1.trans sc
    -- if total > MOST
    refine ⟨_, rfl, _, _, rfl, rfl, _, rfl, iteDN (by omega) ?_⟩
    -- steps, tasks
    refine ⟨Nat.zero_le _, fun aS hS1 => ?_⟩
    obtain ⟨vs, hv, rl⟩ := id hS
    have hlen := rl.len
    have u1 := same_new (o := .lst []) hS1
    refine ⟨_, rfl, t, _, rfl, .inr (SqT.of (u1 _ _ (s2 _ _ hv))), _, _, rfl, rfl, (by show 0 ≤ sizeLine; decide), fun f0 hf0 => ?_⟩
    refine ⟨(by show 5 ≤ sizeLine; decide), fun t0 ht0 => ⟨(by show 1 ≤ sizeLine; decide), fun aL hL => ?_⟩⟩
    have en : ((vs.length : Nat) : Int) - 1 = (((tk0 ns).node : Nat) : Int) := by
      show _ = (((ns.length - 1 : Nat)) : Int)
      omega
    have u2 := same_new (o := .tup []) hf0
    have eT : ([V.int (((vs.length : Nat) : Int) - 1), .int 0, .int 1, .ref f0, .int 1] : List V) = tkV f0 (tk0 ns) := by
      rw [en]
      rfl
    have u3 := same_new (o := .tup [V.int (((vs.length : Nat) : Int) - 1), .int 0, .int 1, .ref f0, .int 1]) ht0
    have u4 := same_new (o := .lst [.ref t0]) hL
    have s3 := s2.trans (u1.trans (u2.trans (u3.trans u4)))
    have w1 := u1.trans (u2.trans (u3.trans u4))
    have aS1 : H1 aS = none := hS1
    have aL1 : H1 aL = none := (u1.trans (u2.trans u3)).free hL
    have hne : aS ≠ aL := ne_of_none (show _ = some (HO.lst []) from u3 _ _ (u2 _ _ upd_same)) hL
    have eT0 := (u4 _ _ (upd_same (H := upd (upd H1 aS (.lst [])) f0 (.tup [])) (a := t0) (o := .tup [V.int (((vs.length : Nat) : Int) - 1), .int 0, .int 1, .ref f0, .int 1]))).trans (congrArg (fun z => some (HO.tup z)) eT)
    refine ⟨cwInv H1 t ns m (.int (cost ns (ns.length - 1) : Nat)) (.ref p0) (.ref aS) (.ref aL) aS aL, ⟨wt [tk0 ns], [], [tk0 ns], [], [.ref t0], none, none, rfl, w1, u4 _ _ (u3 _ _ (u2 _ _ upd_same)), upd_same, .nil, .one ⟨f0, eT0, [], u4 _ _ (u3 _ _ upd_same), .nil⟩,
      (fun u hu => by rw [List.mem_singleton.mp hu]; exact tk0_ok m2 l1), (fun s hs => by cases hs), (by simp), rfl⟩, ?_⟩
    rintro kk σ H' ⟨ss, ts, wS, wT, v6, v7, rfl, sm, eS, eL, rS, rT, okT, okS, tot, rfl⟩
    have lenS := rS.len
    have lenT := rT.len
    have sH := s2.trans sm
    have hcl := compile_len m0 ok (ns.length) (tk0 ns) (tk0_ok m2 l1) (by show ns.length - 1 < ns.length; omega)
    have hcl' : (compile m ns (tk0 ns)).length = cost ns (ns.length - 1) := hcl
    have hlt : ss.length + (ts.reverse.flatMap (compile m ns)).length = cost ns (ns.length - 1) := by
      rw [← hcl', ← tot, List.length_append]
    refine ⟨_, rfl, !wT.isEmpty, .inl ⟨wT, SqL.of eL, rfl⟩, ?_⟩
    have hw : wT = [] ∨ ∃ l b, wT = l ++ [b] := by
      rcases List.eq_nil_or_concat wT with h | ⟨l, b, h⟩
      · exact .inl h
      · exact .inr ⟨l, b, by rw [h, List.concat_eq_append]⟩
    rcases hw with rfl | ⟨wT', v, rfl⟩
    · -- the end
      cases rT
      refine iteF ?_
      have tot' : ss = compile m ns (tk0 ns) := by
        rw [← tot]
        simp
      subst tot'
      obtain ⟨dx, lE, wE, e1, e2, e3⟩ := hP0.ex
      refine ⟨_, rfl, _, rfl, p0, C, dx, _, _, rfl, sm _ _ e1, T.cl, T.nI, pf_i _ _ _ _, _, rfl, ?_⟩
      refine fun p2 dx0 nx0 ndx0 nex0 => make_pr m2 m9 (needs_60 ok) eS rS okS (by omega) nx0 ndx0 fun H2 sd hP2 => ⟨rfl, ?_⟩
      exact k H2 p2 (sH.trans sd) hP2 okS
    · obtain ⟨aT, ts', u, rfl, rfl, rT', hu⟩ := rT.unsnoc
      have oku := okT u (List.mem_append_right _ (List.mem_singleton.mpr rfl))
      have hul := oku.node
      have hx : ns[u.node]? = some ns[u.node] := List.getElem?_eq_getElem hul
      obtain ⟨aN, hv2, rN⟩ := rl.get hx
      generalize ns[u.node] = nd at hx rN
      have okn := ok u.node nd hx
      have em : (!(wT' ++ [V.ref aT]).isEmpty) = true := by simp
      rw [em]
      refine iteT ⟨fun σ' H2 => ∃ m', m' < wt (ts' ++ [u]) ∧ cwInv H1 t ns m (.int (cost ns (ns.length - 1) : Nat)) (.ref p0) (.ref aS) (.ref aL) aS aL m' σ' H2, fun σ' H2 z => z, ?_⟩
      -- task = tasks.pop()
      have hlast : (wT' ++ [V.ref aT])[(wT' ++ [V.ref aT]).length - 1]? = some (V.ref aT) := by simp
      have hdrop : (wT' ++ [V.ref aT]).dropLast = wT' := by simp
      refine ⟨_, rfl, .inl ⟨rfl, _, SqL.of eL⟩, aL, _, _, rfl, rfl, eL, hlast, ?_⟩
      rw [hdrop]
      have y1 : Same H1 (upd H' aL (.lst wT')) := same_set sm aL1
      have z1 : Tps H' (upd H' aL (.lst wT')) := tps_lst eL
      have eS1 : (upd H' aL (.lst wT')) aS = some (.lst wS) := by rw [upd_ne hne]; exact eS
      obtain ⟨fu, hu1, hu2⟩ := hu.to z1
      have rN1 : NdAt (upd H' aL (.lst wT')) aN nd := rN.to (tps_same (s2.trans y1))
      have hg0 := nd_get0 nd
      -- node = source[task[0]]
      refine ⟨_, rfl, _, rfl, aT, _, 0, _, rfl, rfl, SqT.of hu1, rfl, t, _, _, _, rfl, rfl, SqT.of ((s2.trans y1) _ _ hv), atI_nat hv2, ?_⟩
      have wtE : wt (ts' ++ [u]) = wt ts' + 8 ^ u.node := by rw [wt_app, wt_one]
      have flE : (ts' ++ [u]).reverse.flatMap (compile m ns) = compile m ns u ++ ts'.reverse.flatMap (compile m ns) := by
        rw [List.reverse_append]
        simp
      rw [flE] at tot
      refine leafTest 7 rfl rN1 _ ?_
      cases hlf : isLeaf nd with
      | true =>
        have hce := compile_leaf (m := m) hx hlf
        refine iteT ?_
        refine ⟨_, rfl, .inl ⟨rfl, _, SqL.of eS1⟩, _, rfl, _, rfl, _, rfl, aN, aT, nd, u, m, ns.length, rfl, rN1, hlf, ⟨fu, hu1, hu2⟩, oku, m0, m9, fun H3 pS s5 hSt => ?_⟩
        have e3 : H3 aS = some (.lst wS) := s5 _ _ eS1
        have e4 : H3 aL = some (.lst wT') := s5 _ _ upd_same
        have z2 : Tps H' (upd H3 aS (.lst (wS ++ [.ref pS]))) := z1.trans ((tps_same s5).trans (tps_lst e3))
        have z3 : Tps H3 (upd H3 aS (.lst (wS ++ [.ref pS]))) := tps_lst e3
        refine ⟨aS, _, _, rfl, rfl, e3, by rw [lenS]; exact small4 (by omega), wt ts', ?_, ss ++ [leaf m u nd], ts', wS ++ [.ref pS], wT', _, _, rfl, same_set (y1.trans s5) aS1, upd_same, ?_, (rS.toS z2).snoc (hSt.to z3), rT'.toT z2, fun x hx => okT x (List.mem_append_left _ hx), ?_, ?_, rfl⟩
        · rw [wtE]
          have : 0 < 8 ^ u.node := Nat.pow_pos (by decide)
          omega
        · rw [upd_ne hne.symm]
          exact e4
        · intro x hxs
          rcases List.mem_append.mp hxs with z | z
          · exact okS x z
          · rw [List.mem_singleton.mp z]
            exact leaf_at m0 oku hx hlf
        · rw [← tot, hce, List.append_assoc]
      | false =>
        have hce := compile_inner m0 ok oku hx hlf
        refine iteF ?_
        refine ⟨_, rfl, .inl ⟨rfl, _, SqL.of upd_same⟩, _, rfl, _, rfl, _, rfl, aN, aT, nd, u, m, ns.length, rfl, rN1, hlf, okn, ⟨fu, hu1, hu2⟩, oku, m0, m9, fun H3 l3 w3 s5 e3 r3 => ⟨l3, w3, rfl, SqL.of e3, fun p3 hp3 => ?_⟩⟩
        have s6 := s5.trans (same_new (o := .lst w3.reverse) hp3)
        have e4 : (upd H3 p3 (.lst w3.reverse)) aL = some (.lst wT') := s6 _ _ upd_same
        have z3 : Tps H3 (upd (upd H3 p3 (.lst w3.reverse)) aL (.lst (wT' ++ w3.reverse))) := (tps_new hp3).trans (tps_lst e4)
        have z2 : Tps H' (upd (upd H3 p3 (.lst w3.reverse)) aL (.lst (wT' ++ w3.reverse))) := z1.trans ((tps_same s5).trans z3)
        have okN : ∀ x ∈ ts' ++ (inner m u nd).reverse, TkOk m ns.length x := by
          intro x hxs
          rcases List.mem_append.mp hxs with z | z
          · exact okT x (List.mem_append_left _ z)
          · have hi := inner_ok m0 oku okn x (List.mem_reverse.mp z)
            exact hi.mono (Nat.lt_trans hi.node hul)
        have totN : ss ++ (ts' ++ (inner m u nd).reverse).reverse.flatMap (compile m ns) = compile m ns (tk0 ns) := by
          rw [← tot, hce, List.reverse_append, List.reverse_reverse, List.flatMap_append]
        have rN2 : RL (TkAt (upd (upd H3 p3 (.lst w3.reverse)) aL (.lst (wT' ++ w3.reverse)))) (wT' ++ w3.reverse) (ts' ++ (inner m u nd).reverse) := (rT'.toT z2).app (r3.rev.toT z3)
        have hb1 := flat_len m0 ok _ okN
        have hb2 : ss.length + ((ts' ++ (inner m u nd).reverse).reverse.flatMap (compile m ns)).length = cost ns (ns.length - 1) := by
          rw [← hcl', ← totN, List.length_append]
        have hb3 := rN2.len
        refine ⟨aL, p3, wT', w3.reverse, rfl, rfl, e4, upd_same, ?_, wt (ts' ++ (inner m u nd).reverse), ?_, ss, _, wS, _, _, _, rfl, same_set (y1.trans s6) aL1, ?_, upd_same, rS.toS z2, rN2, okN, okS, totN, rfl⟩
        · rw [List.length_append] at hb3
          exact Nat.le_of_lt (small4 (by omega))
        · rw [wtE, wt_app, wt_rev]
          have := wt_inner m0 oku okn
          omega
        · rw [upd_ne hne]
          exact s6 _ _ eS1
end
end Brim
/-! ## W8 -/
namespace Brim
open PySem PySem.Spec PyProof.Rows L2
/-- where the draws stand: the list of two, the list of numbers, the numbers -/
structure Dr where
  d : Addr
  l : Addr
  zs : List Int
/-- the draws stand -/
def DrAt (H : Hp) (d : Dr) : Prop := ∃ at' : Nat, H d.d = some (.lst [.ref d.l, .int (at' : Nat)]) ∧ H d.l = some (.lst (d.zs.map V.int)) ∧ ∀ z ∈ d.zs, 0 ≤ z ∧ z < 1000000
theorem DrAt.to {H H' : Hp} {d : Dr} (h : DrAt H d) (s : Same H H') : DrAt H' d := by
  obtain ⟨a, h1, h2, h3⟩ := h
  exact ⟨a, s _ _ h1, s _ _ h2, h3⟩
theorem DrAt.lst {H : Hp} {d : Dr} (h : DrAt H d) : ∃ ys, H d.d = some (.lst ys) := by
  obtain ⟨a, h1, _⟩ := h
  exact ⟨_, h1⟩
theorem DrAt.ints {H : Hp} {d : Dr} {l : Addr} (h : DrAt H d) {zs : List Int} (e : H l = some (.lst (zs.map V.int))) : l ≠ d.d := by
  obtain ⟨_, h1, _⟩ := h
  intro z
  rw [z, h1] at e
  have q := HO.lst.inj (Option.some.inj e)
  cases zs with
  | nil => cases q
  | cons a r =>
    have := (List.cons.inj q).1
    cases this
theorem DrAt.refs {α : Type} {R : Addr → α → Prop} {H : Hp} {d : Dr} {l : Addr} (h : DrAt H d) {ws : List V} {xs : List α} (e : H l = some (.lst ws)) (r : RL R ws xs) : l ≠ d.d := by
  obtain ⟨_, h1, _⟩ := h
  intro z
  rw [z, h1] at e
  have q := HO.lst.inj (Option.some.inj e)
  subst q
  cases r with
  | cons _ t => cases t
theorem DrAt.new {H : Hp} {d : Dr} {p : Addr} (h : DrAt H d) (n : H p = none) : p ≠ d.d := by
  obtain ⟨ys, e⟩ := h.lst
  exact (ne_of_none e n).symm
/-- a thing that is new since H0 is changed -/
theorem DrAt.set {H0 H : Hp} {d : Dr} {p : Addr} {o : HO} (h0 : DrAt H0 d) (h : DrAt H d) (n : H0 p = none) : DrAt (upd H p o) d := by
  obtain ⟨_, g1, g2, _⟩ := h0
  obtain ⟨a, h1, h2, h3⟩ := h
  exact ⟨a, by rw [upd_ne (ne_of_none g1 n)]; exact h1, by rw [upd_ne (ne_of_none g2 n)]; exact h2, h3⟩
section
variable {P : Program} {w : World} {K : PySem.W.Frag} {mg : Str → Option Value} {base : Heap} {C L : Addr}
/-! ### _law_mixed -/
def spMixed : Sp := fun vs H Q _ => ∃ n k : Int, vs = [.int n, .int k] ∧ ∀ r : Int, 0 ≤ r → r < 2147483647 → Q (.int r) H
theorem ok_law_mixed (D : Df K mg "_law_mixed" sLawMixed ["_law_number_here", "_law_k"]) : Cl P w K mg base 1 "_law_mixed" ["_law_number_here", "_law_k"] spMixed := by
  refine cl_mk D scLawMixed (fun vs H Q E h => ?_) (fun f cdv A outer s H vs Q E hr h => ?_)
  · obtain ⟨n, k, rfl, _⟩ := h
    rfl
  · obtain ⟨n, j, rfl, k⟩ := h
    refine ⟨_, pss_cons (ps_set (i := 2) scLawMixed.nd rfl (.inl rfl) (pe_op op_mod (pe_op op_add (pe_op op_add (pe_op op_mul (pv 0) pe_int) (pe_op op_mul (pv 1) pe_int)) pe_int) pe_int))
      (pss_one (ps_ret (pe_op op_mod (pe_op op_add (pe_op op_mul (pv 2) (pe_op op_add (pe_op op_fdiv (pv 2) pe_int) pe_int)) (pv 1)) pe_int))), ?_⟩
    refine ⟨_, rfl, _, _, rfl, rfl, .inr ⟨by decide, by decide⟩, _, rfl, _, _, rfl, rfl, .inr ⟨by decide, by decide⟩, _, _, rfl, rfl, _, _, rfl, rfl, _, _, rfl, rfl, (by show (0 : Int) < 2147483647; decide), ?_⟩
    obtain ⟨r0, r1⟩ := mod_range (a := n * 48271 + j * 69621 + 12345) (m := 2147483647) (by decide)
    refine ⟨_, rfl, _, rfl, _, _, rfl, rfl, ⟨by decide, by decide⟩, _, _, rfl, rfl, _, _, rfl, rfl, .inl ⟨?_, ?_⟩, _, rfl, _, _, rfl, rfl, _, _, rfl, rfl, (by show (0 : Int) < 2147483647; decide), ?_⟩
    · exact Int.lt_of_lt_of_le (by decide) r0
    · exact Int.lt_trans r1 (by decide)
    · exact k _ (Int.emod_nonneg _ (by decide)) (Int.emod_lt_of_pos _ (by decide))
/-! ### _law_numbers -/
def spNumbers (K : PySem.W.Frag) : Sp := fun vs H Q _ => ∃ (a : Addr) (ns : List Int), vs = [.ref a] ∧ SqL K H a (ns.map V.int) ∧ ns.length ≤ 63 ∧
  ∀ (H' : Hp) (l : Addr) (zs : List Int), Same H H' → H l = none → H' l = some (.lst (zs.map V.int)) → (∀ z ∈ zs, 0 ≤ z ∧ z < 1000000) → Q (.ref l) H'
theorem push_int {H0 H' : Hp} {l : Addr} {zs : List Int} {b : Int} (s : Same H0 H') (l0 : H0 l = none) (hz : ∀ z ∈ zs, 0 ≤ z ∧ z < 1000000) (b0 : 0 ≤ b) (b1 : b < 1000000) :
    Same H0 (upd H' l (.lst (zs.map V.int ++ [V.int b]))) ∧ (upd H' l (.lst (zs.map V.int ++ [V.int b]))) l = some (.lst ((zs ++ [b]).map V.int)) ∧ ∀ z ∈ zs ++ [b], 0 ≤ z ∧ z < 1000000 := by
  refine ⟨same_set s l0, by rw [upd_same, List.map_append]; rfl, fun z hm => ?_⟩
  rcases List.mem_append.mp hm with q | q
  · exact hz z q
  · rw [List.mem_singleton.mp q]
    exact ⟨b0, b1⟩
theorem ok_law_numbers (T : Tx w K mg C L) (D : Df K mg "_law_numbers" sLawNumbers ["_law_script"]) (cM : Cl P w K mg base 1 "_law_mixed" ["_law_number_here", "_law_k"] spMixed) : Cl P w K mg base 2 "_law_numbers" ["_law_script"] (spNumbers K) := by
  refine cl_mk D scLawNumbers (fun vs H Q E h => ?_) (fun f cdv A outer s H vs Q E hr h => ?_)
  · obtain ⟨a, ns, rfl, _⟩ := h
    rfl
  · obtain ⟨a, ns, rfl, hS, n63, k⟩ := h
    refine ⟨_, pss_cons (ps_set (i := 1) scLawNumbers.nd rfl (.inl rfl) (pe_lst pa_nil))
      (pss_cons (ps_for PassesOwn.never rfl (pi_list (pv 0)) (pg_name (i := 2) scLawNumbers.nd rfl (.inl rfl))
        (pss_one (ps_if (pt_cmpR op_ge (pv 2) (pe_op op_pow pe_int pe_int) (nomark _))
          (pss_cons (ps_set (i := 3) scLawNumbers.nd rfl (.inl rfl) (pv 2))
          (pss_one (ps_for PassesOwn.never rfl (pi_range1 rfl T.range (pa_cons pe_int pa_nil)) (pg_name (i := 4) scLawNumbers.nd rfl (.inl rfl))
            (pss_one (ps_if (pt_cmpR op_gt (pv 3) pe_int (nomark _))
              (pss_cons (ps_expr (pe_bm PySem.F.plainAttrs_list PySem.F.slot_list_append PySem.F.type_list_append mt_append (pv 1) (pa_cons (pe_op op_mod (pv 3) pe_int) pa_nil)))
              (pss_one (ps_set (i := 3) scLawNumbers.nd rfl (.inl rfl) (pe_op op_fdiv (pv 3) pe_int)))) pss_nil)))))
          (pss_cons (ps_expr (pe_bm PySem.F.plainAttrs_list PySem.F.slot_list_append PySem.F.type_list_append mt_append (pv 1) (pa_cons (pe_op op_mod (pv 2) pe_int) pa_nil)))
          (pss_one (ps_for PassesOwn.never rfl (pi_range1 rfl T.range (pa_cons pe_int pa_nil)) (pg_name (i := 4) scLawNumbers.nd rfl (.inl rfl))
            (pss_one (ps_expr (pe_bm PySem.F.plainAttrs_list PySem.F.slot_list_append PySem.F.type_list_append mt_append (pv 1) (pa_cons (pe_op op_mod (pe_cl cM hr (pa_cons (pe_cl cM hr (pa_cons (pe_op op_mod (pv 2) pe_int) (pa_cons (pv 4) pa_nil))) (pa_cons (pe_op op_add (pv 4) pe_int) pa_nil))) pe_int) pa_nil))))))))))
      (pss_one (ps_ret (pv 1)))), ?_⟩
    refine ⟨Nat.zero_le _, fun l hl => ?_⟩
    have s1 : Same H (upd H l (.lst [])) := same_new hl
    refine ⟨_, rfl, a, rfl, ⟨_, s1.seq hS⟩, for_list (K := K) (a := a) (xs := ns.map V.int) (fun i σ H' => ∃ (v2 v3 v4 : Option V) (zs : List Int), σ = [some (.ref a), some (.ref l), v2, v3, v4] ∧ Same H H' ∧ H' l = some (.lst (zs.map V.int)) ∧ zs.length ≤ 60 * i ∧ ∀ z ∈ zs, 0 ≤ z ∧ z < 1000000)
      ⟨none, none, none, [], rfl, s1, upd_same, Nat.le_refl _, fun z hz => by cases hz⟩ (fun i σ H' _ ⟨_, _, _, _, _, s, _⟩ => s.seq hS) ?_ ?_⟩
    · rintro i y σ H' hi ⟨v2, v3, v4, zs, rfl, sm, hL, hz1, hz2⟩
      obtain ⟨n, hn, rfl⟩ := map_get hi
      have hin : i < ns.length := (List.getElem?_eq_some_iff.mp hn).1
      refine ⟨_, rfl, _, _, rfl, rfl, ⟨by decide, by decide, by decide⟩, _, _, rfl, rfl, _, rfl, ?_⟩
      by_cases hb : (10 : Int) ^ (18 : Int).toNat ≤ n
      · refine iteD hb ?_
        refine ⟨_, rfl, 60, rfl, by decide, by decide, for_range (n := 60) (fun j σ H2 => ∃ (r : Int) (v4 : Option V) (zs : List Int), σ = [some (.ref a), some (.ref l), some (.int n), some (.int r), v4] ∧ Same H H2 ∧ H2 l = some (.lst (zs.map V.int)) ∧ zs.length ≤ 60 * i + j ∧ ∀ z ∈ zs, 0 ≤ z ∧ z < 1000000)
          ⟨n, v4, zs, rfl, sm, hL, hz1, hz2⟩ ?_ ?_⟩
        · rintro j σ H2 hj ⟨r, v4, zs, rfl, sm, hL, hz1, hz2⟩
          refine ⟨_, rfl, _, _, rfl, rfl, _, rfl, ?_⟩
          by_cases hr0 : 0 < r
          · refine iteD hr0 ?_
            obtain ⟨g1, g2, g3⟩ := push_int (b := r % 1000000) sm hl hz2 (Int.emod_nonneg _ (by decide)) (Int.emod_lt_of_pos _ (by decide))
            refine ⟨_, rfl, .inl ⟨rfl, _, SqL.of hL⟩, _, rfl, _, _, rfl, rfl, (by show (0 : Int) < 1000000; decide), l, _, _, rfl, rfl, hL, (by rw [List.length_map]; exact small4 (by omega)), ?_⟩
            refine ⟨_, rfl, _, _, rfl, rfl, ⟨by decide, by decide⟩, ?_⟩
            exact ⟨_, _, _, rfl, g1, g2, by rw [List.length_append, List.length_singleton]; omega, g3⟩
          · refine iteDN hr0 ?_
            exact ⟨_, _, _, rfl, sm, hL, by omega, hz2⟩
        · rintro σ H2 ⟨r, v4, zs, rfl, sm, hL, hz1, hz2⟩
          exact ⟨_, _, _, _, rfl, sm, hL, by omega, hz2⟩
      · refine iteDN hb ?_
        obtain ⟨g1, g2, g3⟩ := push_int (b := n % 1000000) sm hl hz2 (Int.emod_nonneg _ (by decide)) (Int.emod_lt_of_pos _ (by decide))
        refine ⟨_, rfl, .inl ⟨rfl, _, SqL.of hL⟩, _, rfl, _, _, rfl, rfl, (by show (0 : Int) < 1000000; decide), l, _, _, rfl, rfl, hL, (by rw [List.length_map]; exact small4 (by omega)), ?_⟩
        refine ⟨5, rfl, by decide, by decide, for_range (n := 5) (fun j σ H2 => ∃ (v4 : Option V) (zs : List Int), σ = [some (.ref a), some (.ref l), some (.int n), v3, v4] ∧ Same H H2 ∧ H2 l = some (.lst (zs.map V.int)) ∧ zs.length ≤ 60 * i + 1 + j ∧ ∀ z ∈ zs, 0 ≤ z ∧ z < 1000000)
          ⟨v4, _, rfl, g1, g2, by rw [List.length_append, List.length_singleton]; omega, g3⟩ ?_ ?_⟩
        · rintro j σ H2 hj ⟨v4, zs, rfl, sm, hL, hz1, hz2⟩
          refine ⟨_, rfl, .inl ⟨rfl, _, SqL.of hL⟩, _, rfl, _, _, rfl, rfl, (by show (0 : Int) < 2147483647; decide), _, rfl, _, _, rfl, fun r1 _ _ => ?_⟩
          refine ⟨_, rfl, _, _, rfl, rfl, _, _, rfl, fun r2 _ _ => ?_⟩
          refine ⟨_, _, rfl, rfl, (by show (0 : Int) < 1000000; decide), l, _, _, rfl, rfl, hL, (by rw [List.length_map]; exact small4 (by omega)), ?_⟩
          obtain ⟨g1, g2, g3⟩ := push_int (b := r2 % 1000000) sm hl hz2 (Int.emod_nonneg _ (by decide)) (Int.emod_lt_of_pos _ (by decide))
          exact ⟨_, _, rfl, g1, g2, by rw [List.length_append, List.length_singleton]; omega, g3⟩
        · rintro σ H2 ⟨v4, zs, rfl, sm, hL, hz1, hz2⟩
          exact ⟨_, _, _, _, rfl, sm, hL, by omega, hz2⟩
    · rintro σ H' ⟨v2, v3, v4, zs, rfl, sm, hL, hz1, hz2⟩
      exact ⟨_, rfl, k H' l zs sm hl hL hz2⟩
/-! ### _law_draw -/
def spDr (R : Int → Prop) : Sp := fun vs H Q _ => ∃ d : Dr, vs = [.ref d.d] ∧ DrAt H d ∧ ∀ H' z, Kp d.d H H' → DrAt H' d → R z → Q (.int z) H'
abbrev R6 : Int → Prop := fun z => 0 ≤ z ∧ z < 1000000
theorem ok_law_draw (T : Tx w K mg C L) (D : Df K mg "_law_draw" sLawDraw ["_law_draws"]) (cM : Cl P w K mg base 1 "_law_mixed" ["_law_number_here", "_law_k"] spMixed) : Cl P w K mg base 2 "_law_draw" ["_law_draws"] (spDr R6) := by
  refine cl_mk D scLawDraw (fun vs H Q E h => ?_) (fun f cdv A outer s H vs Q E hr h => ?_)
  · obtain ⟨d, rfl, _⟩ := h
    rfl
  · obtain ⟨d, rfl, hD, k⟩ := h
    obtain ⟨n, hd, hl, hz⟩ := id hD
    have nld := hD.ints hl
    refine ⟨_, pss_cons (ps_set (i := 1) scLawDraw.nd rfl (.inl rfl) (pe_ix ix_list (pv 0) pe_int (fun _ _ => rfl)))
      (pss_cons (ps_asg (pe_op op_add (pv 1) pe_int) (pg_sub (pv 0) pe_int set_list))
      (pss_cons (ps_if (pt_cmpR op_lt (pv 1) (pe_callB call_len_seq (by rfl) T.len bLen (pa_cons (pe_ix ix_list (pv 0) pe_int (fun _ _ => rfl)) pa_nil)) (nomark _)) (pss_one (ps_ret (pe_ix ix_list (pe_ix ix_list (pv 0) pe_int (fun _ _ => rfl)) (pv 1) (fun _ _ => rfl)))) pss_nil)
      (pss_cons (ps_set (i := 2) scLawDraw.nd rfl (.inl rfl) (pe_op op_add pe_int (pv 1)))
      (pss_cons (ps_if (pt_cmpR op_gt (pe_callB call_len_seq (by rfl) T.len bLen (pa_cons (pe_ix ix_list (pv 0) pe_int (fun _ _ => rfl)) pa_nil)) pe_int (nomark _))
        (pss_one (ps_set (i := 2) scLawDraw.nd rfl (.inl rfl) (pe_op op_add (pv 2) (pe_op op_mul pe_int (pe_ix ix_list (pe_ix ix_list (pv 0) pe_int (fun _ _ => rfl)) pe_int (fun _ _ => rfl)))))) pss_nil)
      (pss_one (ps_ret (pe_op op_mod (pe_cl cM hr (pa_cons (pe_cl cM hr (pa_cons (pv 2) (pa_cons (pv 1) pa_nil))) (pa_cons pe_int pa_nil))) pe_int))))))), ?_⟩
    refine ⟨_, rfl, d.d, _, 1, _, rfl, rfl, SqL.of hd, rfl, ?_⟩
    refine ⟨_, rfl, _, _, rfl, rfl, _, rfl, d.d, _, 1, 1, rfl, rfl, hd, rfl, ?_⟩
    have hd2 : (upd H d.d (.lst [.ref d.l, .int ((n : Nat) + 1)])) d.d = some (.lst [.ref d.l, .int (((n + 1 : Nat)) : Int)]) := upd_same
    have hl2 : (upd H d.d (.lst [.ref d.l, .int ((n : Nat) + 1)])) d.l = some (.lst (d.zs.map V.int)) := by rw [upd_ne nld]; exact hl
    have kp : Kp d.d H (upd H d.d (.lst [.ref d.l, .int ((n : Nat) + 1)])) := kp_at
    have dr : DrAt (upd H d.d (.lst [.ref d.l, .int ((n : Nat) + 1)])) d := ⟨n + 1, hd2, hl2, hz⟩
    show tSeq _ _ _ _ (upd H d.d (.lst [.ref d.l, .int ((n : Nat) + 1)]))
    refine ⟨_, rfl, _, rfl, d.d, _, 0, _, rfl, rfl, SqL.of hd2, rfl, d.l, _, rfl, .inl (SqL.of hl2), _, _, rfl, rfl, _, rfl, ?_⟩
    by_cases hlt : n < d.zs.length
    · refine iteD (by rw [List.length_map]; omega) ?_
      refine ⟨_, rfl, d.d, _, 0, _, rfl, rfl, SqL.of hd2, rfl, _, rfl, d.l, _, _, _, rfl, rfl, SqL.of hl2, atI_nat (map_at (List.getElem?_eq_getElem hlt)), ?_⟩
      exact k _ _ kp dr (hz _ (List.getElem_mem hlt))
    · refine iteDN (by rw [List.length_map]; omega) ?_
      refine ⟨_, rfl, _, _, rfl, rfl, ?_⟩
      refine ⟨_, rfl, d.d, _, 0, _, rfl, rfl, SqL.of hd2, rfl, d.l, _, rfl, .inl (SqL.of hl2), _, _, rfl, rfl, _, rfl, ?_⟩
      by_cases hp : 0 < d.zs.length
      · refine iteD (by rw [List.length_map]; omega) ?_
        refine ⟨_, rfl, _, rfl, d.d, _, 0, _, rfl, rfl, SqL.of hd2, rfl, d.l, _, ((0 : Nat) : Int), _, rfl, rfl, SqL.of hl2, atI_nat (map_at (List.getElem?_eq_getElem hp)), _, _, rfl, rfl, .inl ⟨by decide, by decide⟩, _, _, rfl, rfl, ?_⟩
        refine ⟨_, rfl, _, rfl, _, _, rfl, fun r1 _ _ => ⟨_, _, rfl, fun r2 _ _ => ?_⟩⟩
        refine ⟨_, _, rfl, rfl, (by show (0 : Int) < 1000000; decide), ?_⟩
        exact k _ _ kp dr ⟨Int.emod_nonneg _ (by decide), Int.emod_lt_of_pos _ (by decide)⟩
      · refine iteDN (by rw [List.length_map]; omega) ?_
        refine ⟨_, rfl, _, rfl, _, _, rfl, fun r1 _ _ => ⟨_, _, rfl, fun r2 _ _ => ?_⟩⟩
        refine ⟨_, _, rfl, rfl, (by show (0 : Int) < 1000000; decide), ?_⟩
        exact k _ _ kp dr ⟨Int.emod_nonneg _ (by decide), Int.emod_lt_of_pos _ (by decide)⟩
end
end Brim
/-! ## W9 -/
namespace Brim
open PySem PySem.Spec PyProof.Rows L2
section
variable {P : Program} {w : World} {K : PySem.W.Frag} {mg : Str → Option Value} {base : Heap} {C L : Addr}
/-! ### _law_large -/
def spLarge : Sp := fun vs H Q _ => ∃ (d : Dr) (b : Int), vs = [.ref d.d, .int b] ∧ 0 < b ∧ DrAt H d ∧ ∀ H' z, Kp d.d H H' → DrAt H' d → 0 ≤ z → z < b → Q (.int z) H'
theorem ok_law_large (D : Df K mg "_law_large" sLawLarge ["_law_draws", "_law_bound"]) (cD : Cl P w K mg base 2 "_law_draw" ["_law_draws"] (spDr R6)) : Cl P w K mg base 3 "_law_large" ["_law_draws", "_law_bound"] spLarge := by
  refine cl_mk D scLawLarge (fun vs H Q E h => ?_) (fun f cdv A outer s H vs Q E hr h => ?_)
  · obtain ⟨d, b, rfl, _⟩ := h
    rfl
  · obtain ⟨d, b, rfl, b0, hD, k⟩ := h
    refine ⟨_, pss_cons (ps_set (i := 2) scLawLarge.nd rfl (.inl rfl) (pe_op op_add (pe_cl cD hr (pa_cons (pv 0) pa_nil)) (pe_op op_mul (pe_op op_pow pe_int pe_int) (pe_op op_mod (pe_cl cD hr (pa_cons (pv 0) pa_nil)) pe_int))))
      (pss_one (ps_ret (pe_op op_mod (pv 2) (pv 1)))), ?_⟩
    refine ⟨_, rfl, d, rfl, hD, fun H1 z1 k1 d1 r1 => ?_⟩
    refine ⟨_, _, rfl, rfl, ⟨by decide, by decide, by decide⟩, _, rfl, d, rfl, d1, fun H2 z2 k2 d2 r2 => ?_⟩
    refine ⟨_, _, rfl, rfl, (by show (0 : Int) < 1000; decide), _, _, rfl, rfl, .inl ⟨by decide, by decide⟩, _, _, rfl, rfl, ?_⟩
    refine ⟨_, rfl, _, rfl, _, _, rfl, rfl, b0, ?_⟩
    exact k _ _ (k1.trans k2) d2 (Int.emod_nonneg _ (by omega)) (Int.emod_lt_of_pos _ b0)
/-! ### a written list at a drawn place -/
theorem pick_le {xs : List V} {i : Int} (h0 : 0 ≤ i) (h1 : i < (xs.length : Int)) : ∃ v, v ∈ xs ∧ atI xs i = some v := by
  have hj : i.toNat < xs.length := by omega
  refine ⟨xs[i.toNat], List.getElem_mem hj, at_of (j := i.toNat) (by omega) (List.getElem?_eq_getElem hj)⟩
/-! ### _law_modulus -/
theorem ok_law_modulus (D : Df K mg "_law_modulus" sLawModulus ["_law_draws"]) (cD : Cl P w K mg base 2 "_law_draw" ["_law_draws"] (spDr R6)) (cL : Cl P w K mg base 3 "_law_large" ["_law_draws", "_law_bound"] spLarge) :
    Cl P w K mg base 4 "_law_modulus" ["_law_draws"] (spDr fun z => 2 ≤ z ∧ z ≤ 1000000000) := by
  refine cl_mk D scLawModulus (fun vs H Q E h => ?_) (fun f cdv A outer s H vs Q E hr h => ?_)
  · obtain ⟨d, rfl, _⟩ := h
    rfl
  · obtain ⟨d, rfl, hD, k⟩ := h
    refine ⟨_, pss_cons (ps_set (i := 1) scLawModulus.nd rfl (.inl rfl) (pe_op op_mod (pe_cl cD hr (pa_cons (pv 0) pa_nil)) pe_int))
      (pss_cons (ps_if (pt_cmpR op_lt (pv 1) pe_int (nomark _)) (pss_one (ps_ret (pe_ix ix_list (pe_lst (pa_cons pe_int (pa_cons pe_int (pa_cons (pe_op op_pow pe_int pe_int) (pa_cons pe_int pa_nil))))) (pv 1) (fun _ _ => rfl)))) pss_nil)
      (pss_cons (ps_if (pt_cmpR op_lt (pv 1) pe_int (nomark _)) (pss_one (ps_ret (pe_op op_add pe_int (pe_op op_mod (pe_cl cD hr (pa_cons (pv 0) pa_nil)) pe_int)))) pss_nil)
      (pss_one (ps_ret (pe_op op_add pe_int (pe_cl cL hr (pa_cons (pv 0) (pa_cons (pe_op op_sub (pe_op op_pow pe_int pe_int) pe_int) pa_nil)))))))), ?_⟩
    refine ⟨_, rfl, d, rfl, hD, fun H1 z1 k1 d1 r1 => ?_⟩
    refine ⟨_, _, rfl, rfl, (by show (0 : Int) < 8; decide), ?_⟩
    refine ⟨_, rfl, _, _, rfl, rfl, _, rfl, ?_⟩
    have p0 : 0 ≤ z1 % 8 := Int.emod_nonneg _ (by decide)
    by_cases h4 : z1 % 8 < 4
    · refine iteD h4 ?_
      refine ⟨_, _, rfl, rfl, ⟨by decide, by decide, by decide⟩, (by show 4 ≤ sizeLine; decide), fun p hp => ?_⟩
      obtain ⟨v, hv, e⟩ := pick_le (xs := [V.int 2, .int 3, .int ((10 : Int) ^ (9 : Int).toNat), .int 999999937]) p0 (by show z1 % 8 < 4; exact h4)
      refine ⟨_, rfl, p, _, _, v, rfl, rfl, SqL.of upd_same, e, ?_⟩
      have s1 := same_new (o := .lst [V.int 2, .int 3, .int ((10 : Int) ^ (9 : Int).toNat), .int 999999937]) hp
      have hv' : ∃ z : Int, v = .int z ∧ 2 ≤ z ∧ z ≤ 1000000000 := by
        simp only [List.mem_cons, List.not_mem_nil, or_false] at hv
        rcases hv with rfl | rfl | rfl | rfl
        · exact ⟨2, rfl, by decide, by decide⟩
        · exact ⟨3, rfl, by decide, by decide⟩
        · exact ⟨_, rfl, by decide, by decide⟩
        · exact ⟨_, rfl, by decide, by decide⟩
      obtain ⟨z, rfl, hz⟩ := hv'
      exact k _ z (k1.trans (kp_same s1)) (d1.to s1) hz
    · refine iteDN h4 ?_
      refine ⟨_, rfl, _, _, rfl, rfl, _, rfl, ?_⟩
      by_cases h6 : z1 % 8 < 6
      · refine iteD h6 ?_
        refine ⟨_, rfl, d, rfl, d1, fun H2 z2 k2 d2 r2 => ?_⟩
        refine ⟨_, _, rfl, rfl, (by show (0 : Int) < 60; decide), _, _, rfl, rfl, ?_⟩
        refine k _ _ (k1.trans k2) d2 ?_
        have q0 : 0 ≤ z2 % 60 := Int.emod_nonneg _ (by decide)
        have q1 : z2 % 60 < 60 := Int.emod_lt_of_pos _ (by decide)
        exact ⟨by omega, by omega⟩
      · refine iteDN h6 ?_
        refine ⟨_, rfl, _, _, rfl, rfl, ⟨by decide, by decide, by decide⟩, _, _, rfl, rfl, d, _, rfl, by decide, d1, fun H2 z2 k2 d2 q0 q1 => ?_⟩
        refine ⟨_, _, rfl, rfl, ?_⟩
        have e : (10 : Int) ^ (9 : Int).toNat - 1 = 999999999 := by decide
        have q1' : z2 < 999999999 := e ▸ q1
        exact k _ _ (k1.trans k2) d2 ⟨by omega, by omega⟩
/-! ### _law_number -/
def spNumberD : Sp := fun vs H Q _ => ∃ (d : Dr) (m : Int), vs = [.ref d.d, .int m] ∧ 2 ≤ m ∧ DrAt H d ∧ ∀ H' z, Kp d.d H H' → DrAt H' d → 0 ≤ z → z < m → Q (.int z) H'
theorem ok_law_number (D : Df K mg "_law_number" sLawNumber ["_law_draws", "_law_modulus_here"]) (cD : Cl P w K mg base 2 "_law_draw" ["_law_draws"] (spDr R6)) (cL : Cl P w K mg base 3 "_law_large" ["_law_draws", "_law_bound"] spLarge) :
    Cl P w K mg base 4 "_law_number" ["_law_draws", "_law_modulus_here"] spNumberD := by
  refine cl_mk D scLawNumber (fun vs H Q E h => ?_) (fun f cdv A outer s H vs Q E hr h => ?_)
  · obtain ⟨d, m, rfl, _⟩ := h
    rfl
  · obtain ⟨d, m, rfl, m2, hD, k⟩ := h
    refine ⟨_, pss_cons (ps_set (i := 2) scLawNumber.nd rfl (.inl rfl) (pe_op op_mod (pe_cl cD hr (pa_cons (pv 0) pa_nil)) pe_int))
      (pss_cons (ps_if (pt_cmpR op_lt (pv 2) pe_int (nomark _)) (pss_one (ps_ret (pe_ix ix_list (pe_lst (pa_cons pe_int (pa_cons pe_int (pa_cons (pe_op op_sub (pv 1) pe_int) pa_nil)))) (pv 2) (fun _ _ => rfl)))) pss_nil)
      (pss_one (ps_ret (pe_cl cL hr (pa_cons (pv 0) (pa_cons (pv 1) pa_nil)))))), ?_⟩
    refine ⟨_, rfl, d, rfl, hD, fun H1 z1 k1 d1 r1 => ?_⟩
    refine ⟨_, _, rfl, rfl, (by show (0 : Int) < 6; decide), ?_⟩
    refine ⟨_, rfl, _, _, rfl, rfl, _, rfl, ?_⟩
    have p0 : 0 ≤ z1 % 6 := Int.emod_nonneg _ (by decide)
    by_cases h4 : z1 % 6 < 3
    · refine iteD h4 ?_
      refine ⟨_, rfl, _, _, rfl, rfl, (by show 3 ≤ sizeLine; decide), fun p hp => ?_⟩
      obtain ⟨v, hv, e⟩ := pick_le (xs := [V.int 0, .int 1, .int (m - 1)]) p0 (by show z1 % 6 < 3; exact h4)
      refine ⟨_, rfl, p, _, _, v, rfl, rfl, SqL.of upd_same, e, ?_⟩
      have s1 := same_new (o := .lst [V.int 0, .int 1, .int (m - 1)]) hp
      have hv' : ∃ z : Int, v = .int z ∧ 0 ≤ z ∧ z < m := by
        simp only [List.mem_cons, List.not_mem_nil, or_false] at hv
        rcases hv with rfl | rfl | rfl
        · exact ⟨0, rfl, by omega, by omega⟩
        · exact ⟨1, rfl, by omega, by omega⟩
        · exact ⟨_, rfl, by omega, by omega⟩
      obtain ⟨z, rfl, hz0, hz1⟩ := hv'
      exact k _ z (k1.trans (kp_same s1)) (d1.to s1) hz0 hz1
    · refine iteDN h4 ?_
      exact ⟨_, rfl, _, rfl, d, m, rfl, by omega, d1, fun H2 z2 k2 d2 q0 q1 => k _ _ (k1.trans k2) d2 q0 q1⟩
/-! ### _law_constant -/
theorem ok_law_constant (D : Df K mg "_law_constant" sLawConstant ["_law_draws"]) (cD : Cl P w K mg base 2 "_law_draw" ["_law_draws"] (spDr R6)) (cL : Cl P w K mg base 3 "_law_large" ["_law_draws", "_law_bound"] spLarge) :
    Cl P w K mg base 4 "_law_constant" ["_law_draws"] (spDr fun z => 0 ≤ z ∧ z < 1000000000) := by
  refine cl_mk D scLawConstant (fun vs H Q E h => ?_) (fun f cdv A outer s H vs Q E hr h => ?_)
  · obtain ⟨d, rfl, _⟩ := h
    rfl
  · obtain ⟨d, rfl, hD, k⟩ := h
    refine ⟨_, pss_cons (ps_set (i := 1) scLawConstant.nd rfl (.inl rfl) (pe_op op_mod (pe_cl cD hr (pa_cons (pv 0) pa_nil)) pe_int))
      (pss_cons (ps_if (pt_cmpR op_lt (pv 1) pe_int (nomark _)) (pss_one (ps_ret (pe_ix ix_list (pe_lst (pa_cons pe_int (pa_cons pe_int (pa_cons (pe_op op_sub (pe_op op_pow pe_int pe_int) pe_int) pa_nil)))) (pv 1) (fun _ _ => rfl)))) pss_nil)
      (pss_one (ps_ret (pe_cl cL hr (pa_cons (pv 0) (pa_cons (pe_op op_pow pe_int pe_int) pa_nil)))))), ?_⟩
    refine ⟨_, rfl, d, rfl, hD, fun H1 z1 k1 d1 r1 => ?_⟩
    refine ⟨_, _, rfl, rfl, (by show (0 : Int) < 5; decide), ?_⟩
    refine ⟨_, rfl, _, _, rfl, rfl, _, rfl, ?_⟩
    have p0 : 0 ≤ z1 % 5 := Int.emod_nonneg _ (by decide)
    by_cases h4 : z1 % 5 < 3
    · refine iteD h4 ?_
      refine ⟨_, _, rfl, rfl, ⟨by decide, by decide, by decide⟩, _, _, rfl, rfl, (by show 3 ≤ sizeLine; decide), fun p hp => ?_⟩
      obtain ⟨v, hv, e⟩ := pick_le (xs := [V.int 0, .int 1, .int ((10 : Int) ^ (9 : Int).toNat - 1)]) p0 (by show z1 % 5 < 3; exact h4)
      refine ⟨_, rfl, p, _, _, v, rfl, rfl, SqL.of upd_same, e, ?_⟩
      have s1 := same_new (o := .lst [V.int 0, .int 1, .int ((10 : Int) ^ (9 : Int).toNat - 1)]) hp
      have hv' : ∃ z : Int, v = .int z ∧ 0 ≤ z ∧ z < 1000000000 := by
        simp only [List.mem_cons, List.not_mem_nil, or_false] at hv
        rcases hv with rfl | rfl | rfl
        · exact ⟨0, rfl, by omega, by omega⟩
        · exact ⟨1, rfl, by omega, by omega⟩
        · exact ⟨_, rfl, by decide, by decide⟩
      obtain ⟨z, rfl, hz⟩ := hv'
      exact k _ z (k1.trans (kp_same s1)) (d1.to s1) hz
    · refine iteDN h4 ?_
      refine ⟨_, rfl, _, _, rfl, rfl, ⟨by decide, by decide, by decide⟩, d, _, rfl, by decide, d1, fun H2 z2 k2 d2 q0 q1 => k _ _ (k1.trans k2) d2 ⟨q0, ?_⟩⟩
      have e : (10 : Int) ^ (9 : Int).toNat = 1000000000 := by decide
      exact e ▸ q1
/-! ### _law_leaf -/
def spLeafD : Sp := fun vs H Q _ => ∃ d : Dr, vs = [.ref d.d] ∧ DrAt H d ∧ ∀ (H' : Hp) (a : Addr) (nd : Nd), Kp d.d H H' → DrAt H' d → NdAt H' a nd → (∀ n, nd.ok n) → (∀ c, costF c nd = 1) → Q (.ref a) H'
theorem ok_law_leaf (D : Df K mg "_law_leaf" sLawLeaf ["_law_draws"]) (cD : Cl P w K mg base 2 "_law_draw" ["_law_draws"] (spDr R6)) (cC : Cl P w K mg base 4 "_law_constant" ["_law_draws"] (spDr fun z => 0 ≤ z ∧ z < 1000000000)) :
    Cl P w K mg base 5 "_law_leaf" ["_law_draws"] spLeafD := by
  refine cl_mk D scLawLeaf (fun vs H Q E h => ?_) (fun f cdv A outer s H vs Q E hr h => ?_)
  · obtain ⟨d, rfl, _⟩ := h
    rfl
  · obtain ⟨d, rfl, hD, k⟩ := h
    refine ⟨_, pss_cons (ps_if (pt_cmpR op_eq (pe_op op_mod (pe_cl cD hr (pa_cons (pv 0) pa_nil)) pe_int) pe_int (nomark _)) (pss_one (ps_ret (pe_tup (pa_cons pe_str (pa_cons (pe_cl cC hr (pa_cons (pv 0) pa_nil)) pa_nil))))) pss_nil)
      (pss_cons (ps_set (i := 1) scLawLeaf.nd rfl (.inl rfl) (pe_op op_mod (pe_cl cD hr (pa_cons (pv 0) pa_nil)) pe_int))
      (pss_cons (ps_if (pt_cmpR op_gt (pv 1) pe_int (nomark _)) (pss_one (ps_set (i := 1) scLawLeaf.nd rfl (.inl rfl) (pe_op op_mod (pv 1) pe_int))) pss_nil)
      (pss_one (ps_ret (pe_tup (pa_cons pe_str (pa_cons (pv 1) pa_nil))))))), ?_⟩
    refine ⟨_, rfl, d, rfl, hD, fun H1 z1 k1 d1 r1 => ?_⟩
    refine ⟨_, _, rfl, rfl, (by show (0 : Int) < 3; decide), rfl, _, rfl, ite2 (fun e => ?_) (fun e => ?_)⟩
    · refine ⟨_, rfl, d, rfl, d1, fun H2 z2 k2 d2 r2 => ⟨(by show 2 ≤ sizeLine; decide), fun p hp => ?_⟩⟩
      have s1 := same_new (o := .tup [.str "const", .int z2]) hp
      exact k _ p (.const z2) (k1.trans (k2.trans (kp_same s1))) (d2.to s1) upd_same (fun _ => r2) (fun _ => rfl)
    · refine ⟨_, rfl, d, rfl, d1, fun H2 z2 k2 d2 r2 => ?_⟩
      refine ⟨_, _, rfl, rfl, (by show (0 : Int) < 120; decide), ?_⟩
      have q0 : 0 ≤ z2 % 120 := Int.emod_nonneg _ (by decide)
      refine ⟨_, rfl, _, _, rfl, rfl, _, rfl, ?_⟩
      have fin : ∀ z : Int, 0 ≤ z → z < 60 → ∀ p, H2 p = none → Q (.ref p) (upd H2 p (.tup [.str "input", .int z])) := by
        intro z z0 z1 p hp
        have s1 := same_new (o := .tup [.str "input", .int z]) hp
        have ez : z = ((z.toNat : Nat) : Int) := by omega
        refine k _ p (.input z.toNat) (k1.trans (k2.trans (kp_same s1))) (d2.to s1) ?_ (fun _ => by show z.toNat < 60; omega) (fun _ => rfl)
        show (upd H2 p (.tup [.str "input", .int z])) p = some (.tup [.str "input", .int ((z.toNat : Nat) : Int)])
        rw [upd_same, ← ez]
      by_cases h59 : 59 < z2 % 120
      · refine iteD h59 ?_
        refine ⟨_, rfl, _, _, rfl, rfl, (by show (0 : Int) < 5; decide), ?_⟩
        refine ⟨_, rfl, (by show 2 ≤ sizeLine; decide), fun p hp => ?_⟩
        have a0 : 0 ≤ z2 % 120 % 5 := Int.emod_nonneg _ (by decide)
        have a1 : z2 % 120 % 5 < 5 := Int.emod_lt_of_pos _ (by decide)
        exact fin _ a0 (by omega) p hp
      · refine iteDN h59 ?_
        refine ⟨_, rfl, (by show 2 ≤ sizeLine; decide), fun p hp => ?_⟩
        exact fin _ q0 (by omega) p hp
end
end Brim
/-! ## W10 -/
namespace Brim
open PySem PySem.Spec PyProof.Rows L2
theorem sumV : (V.int 0 = V.int 0) := rfl
section
variable {P : Program} {w : World} {K : PySem.W.Frag} {mg : Str → Option Value} {base : Heap} {C L : Addr}
/-! ### _law_node -/
theorem costs_at' {ns : List Nd} {j : Nat} {z : Int} (e : z = (j : Int)) (hj : j < ns.length) : atI ((costs ns).map cV) z = some (cV (cost ns j)) := by
  refine at_of e ?_
  rw [List.getElem?_map, costs_get hj]
  rfl
theorem mod_nat {z n : Int} (h : 0 < n) : ∃ j : Nat, z % n = ((j : Nat) : Int) ∧ ((j : Nat) : Int) < n := by
  have h0 := Int.emod_nonneg z (show n ≠ 0 by omega)
  have h1 := Int.emod_lt_of_pos z h
  exact ⟨(z % n).toNat, by omega, by omega⟩
def spNodeD : Sp := fun vs H Q _ => ∃ (d : Dr) (c : Addr) (ns : List Nd) (most : Nat), vs = [.ref d.d, .ref c, .int (most : Nat)] ∧ DrAt H d ∧ H c = some (.lst ((costs ns).map cV)) ∧ 1 ≤ most ∧
  ∀ (H' : Hp) (p a : Addr) (nd : Nd), Kp d.d H H' → DrAt H' d → NdAt H' a nd → nd.ok ns.length → H' p = some (.lst [.ref a, .int (costF (cost ns) nd : Nat)]) → costF (cost ns) nd ≤ most → Q (.ref p) H'
theorem ok_law_node (T : Tx w K mg C L) (D : Df K mg "_law_node" sLawNode ["_law_draws", "_law_costs", "_law_most"]) (cD : Cl P w K mg base 2 "_law_draw" ["_law_draws"] (spDr R6)) (cC : Cl P w K mg base 4 "_law_constant" ["_law_draws"] (spDr fun z => 0 ≤ z ∧ z < 1000000000))
    (cLf : Cl P w K mg base 5 "_law_leaf" ["_law_draws"] spLeafD) : Cl P w K mg base 6 "_law_node" ["_law_draws", "_law_costs", "_law_most"] spNodeD := by
  refine cl_mk D scLawNode (fun vs H Q E h => ?_) (fun f cdv A outer s H vs Q E hr h => ?_)
  · obtain ⟨d, c, ns, most, rfl, _⟩ := h
    rfl
  · obtain ⟨d, c, ns, most, rfl, hD, hC, hm, k⟩ := h
    have ncd : c ≠ d.d := by
      refine hD.ints (zs := (costs ns).map fun z => ((z : Nat) : Int)) ?_
      rw [hC, List.map_map]
      rfl
    have lenC : (((costs ns).map cV).length : Int) = ((ns.length : Nat) : Int) := by rw [List.length_map, costs_len]
    refine ⟨_, (pss_cons (ps_set (i := 3) scLawNode.nd rfl (.inl rfl) (pe_callB call_len_seq (by rfl) T.len bLen (pa_cons (pv 1) pa_nil)))
      (pss_cons (ps_set (i := 4) scLawNode.nd rfl (.inl rfl) (pe_op op_mod (pe_cl cD hr (pa_cons (pv 0) pa_nil)) pe_int))
      (pss_cons (ps_if (PW.pt (pw_or (pt_cmpR op_eq (pv 3) pe_int (nomark _)) (pw_or1 (pt_cmpR op_lt (pv 4) pe_int (nomark _))))) (pss_one (ps_ret (pe_lst (pa_cons (pe_cl cLf hr (pa_cons (pv 0) pa_nil)) (pa_cons pe_int pa_nil))))) pss_nil)
      (pss_cons (ps_set (i := 5) scLawNode.nd rfl (.inl rfl) (pe_op op_sub (pe_op op_sub (pv 3) pe_int) (pe_op op_mod (pe_cl cD hr (pa_cons (pv 0) pa_nil)) (pe_callB (call_min2 rfl) (by rfl) T.min (by decide +kernel) (pa_cons (pv 3) (pa_cons pe_int pa_nil))))))
      (pss_cons (ps_set (i := 6) scLawNode.nd rfl (.inl rfl) (pe_op op_mod (pe_cl cD hr (pa_cons (pv 0) pa_nil)) (pv 3)))
      (pss_cons (ps_set (i := 7) scLawNode.nd rfl (.inl rfl) (pe_op op_mod (pe_cl cD hr (pa_cons (pv 0) pa_nil)) (pv 3)))
      (pss_cons (ps_set (i := 8) scLawNode.nd rfl (.inl rfl) (pe_tup (pa_cons pe_str (pa_cons (pe_cl cC hr (pa_cons (pv 0) pa_nil)) (pa_cons (pv 5) pa_nil)))))
      (pss_cons (ps_set (i := 9) scLawNode.nd rfl (.inl rfl) (pe_ix ix_list (pv 1) (pv 5) (fun _ _ => rfl)))
      (pss_cons (ps_if (pt_cmpR op_lt (pv 4) pe_int (nomark _)) (pss_cons (ps_set (i := 8) scLawNode.nd rfl (.inl rfl) (pe_tup (pa_cons pe_str (pa_cons (pv 5) (pa_cons (pv 6) pa_nil)))))
      (pss_one (ps_set (i := 9) scLawNode.nd rfl (.inl rfl) (pe_op op_add (pe_ix ix_list (pv 1) (pv 5) (fun _ _ => rfl)) (pe_ix ix_list (pv 1) (pv 6) (fun _ _ => rfl)))))) (pss_one (ps_if (pt_cmpR op_lt (pv 4) pe_int (nomark _)) (pss_cons (ps_set (i := 8) scLawNode.nd rfl (.inl rfl) (pe_tup (pa_cons pe_str (pa_cons (pv 5) (pa_cons (pv 6) pa_nil)))))
      (pss_one (ps_set (i := 9) scLawNode.nd rfl (.inl rfl) (pe_op op_mul pe_int (pe_op op_add (pe_ix ix_list (pv 1) (pv 5) (fun _ _ => rfl)) (pe_ix ix_list (pv 1) (pv 6) (fun _ _ => rfl))))))) (pss_one (ps_if (pt_cmpR op_eq (pv 4) pe_int (nomark _)) (pss_cons (ps_set (i := 8) scLawNode.nd rfl (.inl rfl) (pe_tup (pa_cons pe_str (pa_cons (pv 5) (pa_cons (pv 6) (pa_cons (pv 7) pa_nil))))))
      (pss_one (ps_set (i := 9) scLawNode.nd rfl (.inl rfl) (pe_op op_add (pe_ix ix_list (pv 1) (pv 7) (fun _ _ => rfl)) (pe_op op_mul pe_int (pe_op op_add (pe_op op_add (pe_ix ix_list (pv 1) (pv 5) (fun _ _ => rfl)) (pe_ix ix_list (pv 1) (pv 6) (fun _ _ => rfl))) (pe_ix ix_list (pv 1) (pv 7) (fun _ _ => rfl)))))))) pss_nil)))))
      (pss_cons (ps_if (pt_cmpR op_gt (pv 9) (pv 2) (nomark _)) (pss_one (ps_ret (pe_lst (pa_cons (pe_cl cLf hr (pa_cons (pv 0) pa_nil)) (pa_cons pe_int pa_nil))))) pss_nil)
      (pss_one (ps_ret (pe_lst (pa_cons (pv 8) (pa_cons (pv 9) pa_nil))))))))))))))), ?_⟩
    -- many, pick
    refine ⟨_, rfl, c, _, rfl, .inl (SqL.of hC), ?_⟩
    refine ⟨_, rfl, d, rfl, hD, fun H1 z1 k1 d1 r1 => ?_⟩
    refine ⟨_, _, rfl, rfl, (by show (0 : Int) < 9; decide), ?_⟩
    have leafDo : ∀ (H2 : Hp), Kp d.d H H2 → DrAt H2 d → ∀ (H3 : Hp) (a : Addr) (nd : Nd), Kp d.d H2 H3 → DrAt H3 d → NdAt H3 a nd → (∀ n, nd.ok n) → (∀ c, costF c nd = 1) → ∀ p, H3 p = none → Q (.ref p) (upd H3 p (.lst [.ref a, .int 1])) := by
      intro H2 k2 d2 H3 a nd k3 d3 ha hok hco p hp
      have s1 := same_new (o := .lst [.ref a, .int 1]) hp
      refine k _ p a nd (k2.trans (k3.trans (kp_same s1))) (d3.to s1) (ha.to (tps_same s1)) (hok _) ?_ ?_
      · rw [upd_same, hco]
        rfl
      · rw [hco]
        exact hm
    by_cases h0 : ns.length = 0
    · refine ⟨_, rfl, rfl, _, rfl, iteD (by rw [lenC, h0]; rfl) (iteT ?_)⟩
      refine ⟨_, rfl, d, rfl, d1, fun H3 a nd k3 d3 ha hok hco => ⟨(by show 2 ≤ sizeLine; decide), fun p hp => ?_⟩⟩
      exact leafDo H1 k1 d1 H3 a nd k3 d3 ha hok hco p hp
    refine ⟨_, rfl, rfl, _, rfl, iteDN (fun e => h0 (by have := V.int.inj e; omega)) ?_⟩
    refine ⟨_, rfl, _, _, rfl, rfl, _, rfl, ?_⟩
    by_cases h2 : z1 % 9 < 2
    · rw [decide_eq_true h2]
      refine iteT ?_
      refine ⟨_, rfl, d, rfl, d1, fun H3 a nd k3 d3 ha hok hco => ⟨(by show 2 ≤ sizeLine; decide), fun p hp => ?_⟩⟩
      exact leafDo H1 k1 d1 H3 a nd k3 d3 ha hok hco p hp
    rw [decide_eq_false h2]
    refine iteF ?_
    -- i, j, l
    have npos : 0 < ns.length := by omega
    refine ⟨_, rfl, _, _, rfl, rfl, _, rfl, d, rfl, d1, fun H2 z2 k2 d2 r2 => ?_⟩
    have hmin : ∃ b : Int, (if (3 : Int) < ((((costs ns).map cV).length : Nat) : Int) then (3 : Int) else ((((costs ns).map cV).length : Nat) : Int)) = b ∧ 0 < b ∧ b ≤ ((ns.length : Nat) : Int) := by
      refine ⟨_, rfl, ?_, ?_⟩
      · split <;> omega
      · split <;> omega
    obtain ⟨b, eb, b0, b1⟩ := hmin
    refine ⟨_, rfl, _, _, rfl, _, _, rfl, rfl, by rw [eb]; exact b0, _, _, rfl, rfl, ?_⟩
    rw [eb]
    obtain ⟨j1, e1, f1⟩ := mod_nat (z := z2) b0
    obtain ⟨iN, eI, fI⟩ : ∃ iN : Nat, ((((costs ns).map cV).length : Nat) : Int) - 1 - z2 % b = ((iN : Nat) : Int) ∧ iN < ns.length := ⟨ns.length - 1 - j1, by omega, by omega⟩
    refine ⟨_, rfl, d, rfl, d2, fun H3 z3 k3 d3 r3 => ?_⟩
    obtain ⟨jN, eJ, fJ⟩ := mod_nat (z := z3) (show (0 : Int) < ((((costs ns).map cV).length : Nat) : Int) by omega)
    refine ⟨_, rfl, _, _, rfl, rfl, by omega, ?_⟩
    refine ⟨_, rfl, d, rfl, d3, fun H4 z4 k4 d4 r4 => ?_⟩
    obtain ⟨lN, eL, fL⟩ := mod_nat (z := z4) (show (0 : Int) < ((((costs ns).map cV).length : Nat) : Int) by omega)
    refine ⟨_, rfl, _, _, rfl, rfl, by omega, ?_⟩
    -- scaled
    refine ⟨_, rfl, d, rfl, d4, fun H5 z5 k5 d5 r5 => ?_⟩
    refine ⟨_, rfl, (by show 3 ≤ sizeLine; decide), fun p5 hp5 => ?_⟩
    have kk := k1.trans (k2.trans (k3.trans (k4.trans k5)))
    have s5 := same_new (o := .tup [.str "scaled", .int z5, .int ((((costs ns).map cV).length : Nat) - 1 - z2 % b)]) hp5
    have k6 := kk.trans (kp_same s5)
    have d6 := d5.to s5
    have hC6 := k6 _ _ ncd hC
    have jl : jN < ns.length := by omega
    have ll : lN < ns.length := by omega
    refine ⟨_, rfl, _, rfl, c, _, _, _, rfl, rfl, SqL.of hC6, costs_at' eI fI, ?_⟩
    -- behind the price: it is too great, or not
    have fin : ∀ (H6 : Hp) (a : Addr) (nd : Nd) (z : Int), Kp d.d H H6 → DrAt H6 d → NdAt H6 a nd → nd.ok ns.length → z = ((costF (cost ns) nd : Nat) : Int) →
        tSeq (tIfS (tTest (tOp (rI0 fun i j => .bl (decide (j < i))) (tVar 9) (tVar 2))) (tRet (tLst (tCons (tCall spLeafD [] E0 (tCons (tVar 0) tNil)) (tCons (tC (.int 1)) tNil)))) tNext) (tRet (tLst (tCons (tVar 8) (tCons (tVar 9) tNil))))
          { nx := fun _ H' => Q .non H', rt := Q } [some (.ref d.d), some (.ref c), some (.int (most : Nat)), some (.int ((((costs ns).map cV).length : Nat) : Int)), some (.int (z1 % 9)), some (.int ((((costs ns).map cV).length : Nat) - 1 - z2 % b)), some (.int (z3 % ((((costs ns).map cV).length : Nat) : Int))), some (.int (z4 % ((((costs ns).map cV).length : Nat) : Int))), some (.ref a), some (.int z)] H6 := by
      intro H6 a nd z k6 d6 ha hok hz
      refine ⟨_, rfl, _, rfl, _, _, rfl, rfl, _, rfl, ?_⟩
      by_cases hgt : ((most : Nat) : Int) < z
      · refine iteD hgt ?_
        refine ⟨_, rfl, d, rfl, d6, fun H3 a nd k3 d3 ha hok hco => ⟨(by show 2 ≤ sizeLine; decide), fun p hp => ?_⟩⟩
        exact leafDo H6 k6 d6 H3 a nd k3 d3 ha hok hco p hp
      · refine iteDN hgt ?_
        refine ⟨_, rfl, _, rfl, (by show 2 ≤ sizeLine; decide), fun p hp => ?_⟩
        have s1 := same_new (o := .lst [.ref a, .int z]) hp
        refine k _ p a nd (k6.trans (kp_same s1)) (d6.to s1) (ha.to (tps_same s1)) hok ?_ (by omega)
        rw [upd_same, hz]
    refine ⟨_, rfl, _, _, rfl, rfl, _, rfl, ?_⟩
    by_cases h4 : z1 % 9 < 4
    · refine iteD h4 ?_
      refine ⟨_, rfl, _, rfl, (by show 3 ≤ sizeLine; decide), fun p7 hp7 => ?_⟩
      have s7 := same_new (o := .tup [.str "sum", .int ((((costs ns).map cV).length : Nat) - 1 - z2 % b), .int (z3 % ((((costs ns).map cV).length : Nat) : Int))]) hp7
      have hC7 := s7 _ _ hC6
      refine ⟨_, rfl, _, rfl, c, _, _, _, rfl, rfl, SqL.of hC7, costs_at' eI fI, _, rfl, _, rfl, c, _, _, _, rfl, rfl, SqL.of hC7, costs_at' eJ jl, _, _, rfl, rfl, ?_⟩
      refine fin _ p7 (.sum iN jN) _ (k6.trans (kp_same s7)) (d6.to s7) ?_ ⟨fI, jl⟩ (by show _ = ((cost ns iN + cost ns jN : Nat) : Int); omega)
      refine upd_same.trans ?_
      show some (HO.tup [V.str "sum", V.int ((((costs ns).map cV).length : Nat) - 1 - z2 % b), V.int (z3 % ((((costs ns).map cV).length : Nat) : Int))]) = some (HO.tup [V.str "sum", V.int (iN : Nat), V.int (jN : Nat)])
      rw [eI, eJ]
    refine iteDN h4 ?_
    refine ⟨_, rfl, _, _, rfl, rfl, _, rfl, ?_⟩
    by_cases h7 : z1 % 9 < 7
    · refine iteD h7 ?_
      refine ⟨_, rfl, _, rfl, (by show 3 ≤ sizeLine; decide), fun p7 hp7 => ?_⟩
      have s7 := same_new (o := .tup [.str "product", .int ((((costs ns).map cV).length : Nat) - 1 - z2 % b), .int (z3 % ((((costs ns).map cV).length : Nat) : Int))]) hp7
      have hC7 := s7 _ _ hC6
      refine ⟨_, rfl, _, rfl, c, _, _, _, rfl, rfl, SqL.of hC7, costs_at' eI fI, _, rfl, _, rfl, c, _, _, _, rfl, rfl, SqL.of hC7, costs_at' eJ jl, _, _, rfl, rfl, _, _, rfl, rfl, .inl ⟨by decide, by decide⟩, ?_⟩
      refine fin _ p7 (.prod iN jN) _ (k6.trans (kp_same s7)) (d6.to s7) ?_ ⟨fI, jl⟩ (by show _ = ((2 * (cost ns iN + cost ns jN) : Nat) : Int); omega)
      refine upd_same.trans ?_
      show some (HO.tup [V.str "product", V.int ((((costs ns).map cV).length : Nat) - 1 - z2 % b), V.int (z3 % ((((costs ns).map cV).length : Nat) : Int))]) = some (HO.tup [V.str "product", V.int (iN : Nat), V.int (jN : Nat)])
      rw [eI, eJ]
    refine iteDN h7 ?_
    refine ⟨_, rfl, rfl, _, rfl, ite2 (fun _ => ?_) (fun _ => ?_)⟩
    · refine ⟨_, rfl, _, rfl, _, rfl, (by show 4 ≤ sizeLine; decide), fun p7 hp7 => ?_⟩
      have s7 := same_new (o := .tup [.str "choose", .int ((((costs ns).map cV).length : Nat) - 1 - z2 % b), .int (z3 % ((((costs ns).map cV).length : Nat) : Int)), .int (z4 % ((((costs ns).map cV).length : Nat) : Int))]) hp7
      have hC7 := s7 _ _ hC6
      refine ⟨_, rfl, _, rfl, c, _, _, _, rfl, rfl, SqL.of hC7, costs_at' eL ll, _, rfl, _, rfl, c, _, _, _, rfl, rfl, SqL.of hC7, costs_at' eI fI, _, rfl, _, rfl, c, _, _, _, rfl, rfl, SqL.of hC7, costs_at' eJ jl, _, _, rfl, rfl, _, rfl, _, rfl, c, _, _, _, rfl, rfl, SqL.of hC7, costs_at' eL ll, _, _, rfl, rfl, _, _, rfl, rfl, .inl ⟨by decide, by decide⟩, _, _, rfl, rfl, ?_⟩
      refine fin _ p7 (.choose iN jN lN) _ (k6.trans (kp_same s7)) (d6.to s7) ?_ ⟨fI, jl, ll⟩ (by show _ = ((cost ns lN + 2 * (cost ns iN + cost ns jN + cost ns lN) : Nat) : Int); omega)
      refine upd_same.trans ?_
      show some (HO.tup [V.str "choose", V.int ((((costs ns).map cV).length : Nat) - 1 - z2 % b), V.int (z3 % ((((costs ns).map cV).length : Nat) : Int)), V.int (z4 % ((((costs ns).map cV).length : Nat) : Int))]) = some (HO.tup [V.str "choose", V.int (iN : Nat), V.int (jN : Nat), V.int (lN : Nat)])
      rw [eI, eJ, eL]
    · refine fin _ p5 (.scaled z5 iN) _ k6 d6 ?_ ⟨r5, fI⟩ rfl
      refine upd_same.trans ?_
      show some (HO.tup [V.str "scaled", V.int z5, V.int ((((costs ns).map cV).length : Nat) - 1 - z2 % b)]) = some (HO.tup [V.str "scaled", V.int z5, V.int (iN : Nat)])
      rw [eI]
end
end Brim
/-! ## W11 -/
namespace Brim
open PySem PySem.Spec PyProof.Rows L2
section
variable {P : Program} {w : World} {K : PySem.W.Frag} {mg : Str → Option Value} {base : Heap} {C L : Addr}
/-! ### _law_source -/
def spSourceD : Sp := fun vs H Q _ => ∃ (d : Dr) (most : Nat), vs = [.ref d.d, .int (most : Nat)] ∧ DrAt H d ∧ 1 ≤ most ∧
  ∀ (H' : Hp) (p t : Addr) (ns : List Nd), Kp d.d H H' → DrAt H' d → p ≠ d.d → H' p = some (.lst [.ref t, .int (cost ns (ns.length - 1) : Nat)]) → SrcAt H' t ns → SrcOk ns → 1 ≤ ns.length → ns.length ≤ 200 → cost ns (ns.length - 1) ≤ most → Q (.ref p) H'
theorem ok_law_source (T : Tx w K mg C L) (D : Df K mg "_law_source" sLawSource ["_law_draws", "_law_most"]) (cD : Cl P w K mg base 2 "_law_draw" ["_law_draws"] (spDr R6)) (cN : Cl P w K mg base 6 "_law_node" ["_law_draws", "_law_costs", "_law_most"] spNodeD) :
    Cl P w K mg base 7 "_law_source" ["_law_draws", "_law_most"] spSourceD := by
  refine cl_mk D scLawSource (fun vs H Q E h => ?_) (fun f cdv A outer s H vs Q E hr h => ?_)
  · obtain ⟨d, most, rfl, _⟩ := h
    rfl
  · obtain ⟨d, most, rfl, hD, hm, k⟩ := h
    refine ⟨_, (pss_cons (ps_set (i := 2) scLawSource.nd rfl (.inl rfl) (pe_lst pa_nil))
      (pss_cons (ps_set (i := 3) scLawSource.nd rfl (.inl rfl) (pe_lst pa_nil))
      (pss_cons (ps_set (i := 4) scLawSource.nd rfl (.inl rfl) (pe_op op_add pe_int (pe_op op_mod (pe_cl cD hr (pa_cons (pv 0) pa_nil)) pe_int)))
      (pss_cons (ps_if (pt_cmpR op_eq (pe_op op_mod (pe_cl cD hr (pa_cons (pv 0) pa_nil)) pe_int) pe_int (nomark _)) (pss_one (ps_set (i := 4) scLawSource.nd rfl (.inl rfl) (pe_op op_add pe_int (pe_op op_mod (pe_cl cD hr (pa_cons (pv 0) pa_nil)) pe_int)))) pss_nil)
      (pss_cons (ps_for PassesOwn.never rfl (pi_range1 rfl T.range (pa_cons (pv 4) pa_nil)) (pg_name (i := 5) scLawSource.nd rfl (.inl rfl)) (pss_cons (ps_set (i := 6) scLawSource.nd rfl (.inl rfl) (pe_cl cN hr (pa_cons (pv 0) (pa_cons (pv 3) (pa_cons (pv 1) pa_nil)))))
      (pss_cons (ps_expr (pe_bm PySem.F.plainAttrs_list PySem.F.slot_list_append PySem.F.type_list_append mt_append (pv 2) (pa_cons (pe_ix ix_list (pv 6) pe_int (fun _ _ => rfl)) pa_nil)))
      (pss_one (ps_expr (pe_bm PySem.F.plainAttrs_list PySem.F.slot_list_append PySem.F.type_list_append mt_append (pv 3) (pa_cons (pe_ix ix_list (pv 6) pe_int (fun _ _ => rfl)) pa_nil)))))))
      (pss_one (ps_ret (pe_lst (pa_cons (pe_callTy call_tuple_of (by rfl) T.tuple bTuple (pa_cons (pv 2) pa_nil)) (pa_cons (pe_ix ix_list (pv 3) (pe_op op_sub (pe_callB call_len_seq (by rfl) T.len bLen (pa_cons (pv 3) pa_nil)) pe_int) (fun _ _ => rfl)) pa_nil)))))))))), ?_⟩
    refine ⟨Nat.zero_le _, fun aN hN => ⟨Nat.zero_le _, fun aC hC => ?_⟩⟩
    have u1 := same_new (o := .lst []) hN
    have u2 := same_new (o := .lst []) hC
    have u12 := u1.trans u2
    have hC0 : H aC = none := u1.free hC
    have neNC : aN ≠ aC := ne_of_none (show _ = some (HO.lst []) from upd_same) hC
    have eN0 := u2 _ _ (upd_same (H := H) (a := aN) (o := .lst []))
    have dU := hD.to u12
    have nNd : aN ≠ d.d := hD.new hN
    have nCd : aC ≠ d.d := hD.new hC0
    refine ⟨_, rfl, d, rfl, dU, fun H1 z1 k1 d1 r1 => ?_⟩
    refine ⟨_, _, rfl, rfl, (by show (0 : Int) < 9; decide), _, _, rfl, rfl, ?_⟩
    refine ⟨_, rfl, d, rfl, d1, fun H2 z2 k2 d2 r2 => ?_⟩
    refine ⟨_, _, rfl, rfl, (by show (0 : Int) < 12; decide), rfl, _, rfl, ?_⟩
    have k12 : Kp d.d H H2 := (kp_same u12).trans (k1.trans k2)
    have eN2 : H2 aN = some (.lst []) := k2 _ _ nNd (k1 _ _ nNd eN0)
    have eC2 : H2 aC = some (.lst []) := k2 _ _ nCd (k1 _ _ nCd upd_same)
    -- from the loop on, whatever many is
    have main : ∀ (H3 : Hp) (many : Int), Kp d.d H2 H3 → DrAt H3 d → 1 ≤ many → many ≤ 200 →
        (tSeq (tFor (iRng1 (tCons (tVar 4) tNil)) (gName 5) (tSeq (tAsg (tCall spNodeD [] E0 (tCons (tVar 0) (tCons (tVar 3) (tCons (tVar 1) tNil)))) (gName 6)) (tSeq (tDrop (tBM K "list" rAppend (tVar 2) (tCons (tOp (rIxL K) (tVar 6) (tC (.int 0))) tNil))) (tDrop (tBM K "list" rAppend (tVar 3) (tCons (tOp (rIxL K) (tVar 6) (tC (.int 1))) tNil))))))
          (tRet (tLst (tCons (tCB (fun xs H Q => ∃ p ys, xs = [.ref p] ∧ ((SqL K H p ys ∧ ∀ l, H l = none → Q (.ref l) (upd H l (.tup ys))) ∨ (SqT K H p ys ∧ Q (.ref p) H))) (tCons (tVar 2) tNil)) (tCons (tOp (rIxL K) (tVar 3) (tOp (rI0 fun i j => .int (i - j)) (tCB (fun xs H Q => ∃ p ys, xs = [.ref p] ∧ (SqL K H p ys ∨ SqT K H p ys) ∧ Q (.int ys.length) H) (tCons (tVar 3) tNil)) (tC (.int 1)))) tNil)))))
          { nx := fun _ H' => Q .non H', rt := Q } [some (.ref d.d), some (.int (most : Nat)), some (.ref aN), some (.ref aC), some (.int many), none, none] H3 := by
      intro H3 many k3 d3 m1 m200
      have kH3 := k12.trans k3
      refine ⟨_, rfl, many, rfl, by omega, by omega, for_range (n := many.toNat) (fun i σ H' => ∃ (v5 v6 : Option V) (wn : List V) (ns : List Nd), σ = [some (.ref d.d), some (.int (most : Nat)), some (.ref aN), some (.ref aC), some (.int many), v5, v6] ∧ Kp d.d H H' ∧ DrAt H' d ∧ H' aN = some (.lst wn) ∧ RL (NdAt H') wn ns ∧ H' aC = some (.lst ((costs ns).map cV)) ∧ SrcOk ns ∧ ns.length = i ∧ ∀ j, j < i → cost ns j ≤ most)
        ⟨none, none, [], [], rfl, kH3, d3, k3 _ _ nNd eN2, .nil, k3 _ _ nCd eC2, SrcOk.nil, rfl, fun j hj => absurd hj (Nat.not_lt_zero _)⟩ ?_ ?_⟩
      · rintro i σ H' hi ⟨v5, v6, wn, ns, rfl, kp, dr, eN, rN, eC, sok, lenN, hcost⟩
        have lw := rN.len
        refine ⟨_, rfl, _, rfl, _, rfl, d, aC, ns, most, rfl, dr, eC, hm, fun H4 p a nd k4 d4 ha hok hp hle => ?_⟩
        have eN4 : H4 aN = some (.lst wn) := k4 _ _ nNd eN
        have eC4 : H4 aC = some (.lst ((costs ns).map cV)) := k4 _ _ nCd eC
        obtain ⟨ys, eD⟩ := dr.lst
        have t4 : Tps H' H4 := k4.tpl eD
        have lens : ns.length < 200 := by omega
        have npN : p ≠ aN := fun z => by
          rw [z, eN4] at hp
          have q := HO.lst.inj (Option.some.inj hp)
          rw [q] at rN
          cases rN with
          | cons _ t => cases t
        have npC : p ≠ aC := fun z => by
          rw [z, eC4] at hp
          have q := HO.lst.inj (Option.some.inj hp)
          cases hcs : costs ns with
          | nil => rw [hcs] at q; cases q
          | cons c r =>
            rw [hcs] at q
            have := (List.cons.inj q).1
            cases this
        refine ⟨_, rfl, .inl ⟨rfl, _, SqL.of eN4⟩, _, rfl, p, _, 0, _, rfl, rfl, SqL.of hp, rfl, aN, _, _, rfl, rfl, eN4, by rw [lw]; exact small1000 (by omega), ?_⟩
        have hp5 : (upd H4 aN (.lst (wn ++ [V.ref a]))) p = some (.lst [.ref a, .int (costF (cost ns) nd : Nat)]) := by rw [upd_ne npN]; exact hp
        have eC5 : (upd H4 aN (.lst (wn ++ [V.ref a]))) aC = some (.lst ((costs ns).map cV)) := by rw [upd_ne neNC.symm]; exact eC4
        refine ⟨_, rfl, .inl ⟨rfl, _, SqL.of eC5⟩, _, rfl, p, _, 1, _, rfl, rfl, SqL.of hp5, rfl, aC, _, _, rfl, rfl, eC5, by rw [List.length_map, costs_len]; exact small1000 (by omega), ?_⟩
        have t5 : Tps H4 (upd (upd H4 aN (.lst (wn ++ [V.ref a]))) aC (.lst ((costs ns).map cV ++ [V.int (costF (cost ns) nd : Nat)]))) := (tps_lst eN4).trans (tps_lst eC5)
        have k5 : Kp d.d H (upd (upd H4 aN (.lst (wn ++ [V.ref a]))) aC (.lst ((costs ns).map cV ++ [V.int (costF (cost ns) nd : Nat)]))) := kp_set (kp_set (kp.trans k4) hN) hC0
        have d5 : DrAt (upd (upd H4 aN (.lst (wn ++ [V.ref a]))) aC (.lst ((costs ns).map cV ++ [V.int (costF (cost ns) nd : Nat)]))) d := hD.set (hD.set d4 hN) hC0
        refine ⟨_, _, wn ++ [V.ref a], ns ++ [nd], rfl, k5, d5, ?_, ((rN.toN t4).snoc ha).toN t5, ?_, sok.snoc hok, by rw [List.length_append, lenN]; rfl, ?_⟩
        · rw [upd_ne neNC, upd_same]
        · rw [upd_same, costs_snoc, List.map_append]
          rfl
        · intro j hj
          by_cases hji : j < ns.length
          · have : cost (ns ++ [nd]) j = cost ns j := by
              have := cost_take (ns ++ [nd]) (k := ns.length) (i := j) (by simp) hji
              rw [List.take_left] at this
              exact this.symm
            rw [this]
            exact hcost j (by omega)
          · have ej : j = ns.length := by omega
            have h1 : (ns ++ [nd])[j]? = some nd := by rw [ej]; simp
            have h2 : (costs (ns ++ [nd]))[j]? = some (cost (ns ++ [nd]) j) := costs_get (by rw [List.length_append]; simp; omega)
            rw [costs_snoc, ej, List.getElem?_append_right (by rw [costs_len]; exact Nat.le_refl _), costs_len, Nat.sub_self] at h2
            have h3 : costF (cost ns) nd = cost (ns ++ [nd]) ns.length := Option.some.inj h2
            rw [ej, ← h3]
            exact hle
      · rintro σ H' ⟨v5, v6, wn, ns, rfl, kp, dr, eN, rN, eC, sok, lenN, hcost⟩
        have lw := rN.len
        refine ⟨_, rfl, aN, _, rfl, .inl ⟨SqL.of eN, fun t ht => ?_⟩⟩
        have s1 := same_new (o := .tup wn) ht
        have eC1 := s1 _ _ eC
        refine ⟨_, rfl, _, rfl, aC, _, rfl, .inl (SqL.of eC1), _, _, rfl, rfl, aC, _, _, _, rfl, rfl, SqL.of eC1, costs_at' (j := ns.length - 1) (by rw [List.length_map, costs_len]; omega) (by omega), (by show 2 ≤ sizeLine; decide), fun p hp => ?_⟩
        have s2 := s1.trans (same_new (o := .lst [.ref t, .int (cost ns (ns.length - 1) : Nat)]) hp)
        refine k _ p t ns (kp.trans (kp_same s2)) (dr.to s2) ((dr.to s1).new hp) upd_same ⟨wn, same_new hp _ _ upd_same, rN.toN (tps_same s2)⟩ sok (by omega) (by omega) (hcost _ (by omega))
    refine ite2 (fun _ => ?_) (fun _ => ?_)
    · refine ⟨_, rfl, d, rfl, d2, fun H3 z3 k3 d3 r3 => ?_⟩
      refine ⟨_, _, rfl, rfl, (by show (0 : Int) < 190; decide), _, _, rfl, rfl, ?_⟩
      have a0 : 0 ≤ z3 % 190 := Int.emod_nonneg _ (by decide)
      have a1 : z3 % 190 < 190 := Int.emod_lt_of_pos _ (by decide)
      exact main H3 _ k3 d3 (by omega) (by omega)
    · have a0 : 0 ≤ z1 % 9 := Int.emod_nonneg _ (by decide)
      have a1 : z1 % 9 < 9 := Int.emod_lt_of_pos _ (by decide)
      exact main H2 _ Kp.rfl d2 (by omega) (by omega)
end
end Brim
/-! ## W12 -/
namespace Brim
open PySem PySem.Spec PyProof.Rows L2
section
variable {P : Program} {w : World} {K : PySem.W.Frag} {mg : Str → Option Value} {base : Heap} {C L : Addr}
/-! ### _law_needs -/
def spLawNeeds : Sp := fun vs H Q _ => ∃ (t : Addr) (ns : List Nd), vs = [.ref t] ∧ SrcAt H t ns ∧ Q (.int (needs ns : Nat)) H
theorem ok_law_needs (T : Tx w K mg C L) (D : Df K mg "_law_needs" sLawNeeds ["_law_source_here"]) : Cl P w K mg base 1 "_law_needs" ["_law_source_here"] spLawNeeds := by
  refine cl_mk D scLawNeeds (fun vs H Q E h => ?_) (fun f cdv A outer s H vs Q E hr h => ?_)
  · obtain ⟨t, ns, rfl, _⟩ := h
    rfl
  · obtain ⟨t, ns, rfl, hS, k⟩ := h
    obtain ⟨vs, ht, rl⟩ := id hS
    have hlen := rl.len
    refine ⟨_, (pss_cons (ps_set (i := 1) scLawNeeds.nd rfl (.inl rfl) pe_int)
      (pss_cons (ps_for PassesOwn.never rfl (pi_tup (pv 0)) (pg_name (i := 2) scLawNeeds.nd rfl (.inl rfl)) (pss_one (ps_if (pt_cmpR op_eq (pe_ix ix_tup (pv 2) pe_int (fun _ _ => rfl)) pe_str (nomark _)) (pss_one (ps_set (i := 1) scLawNeeds.nd rfl (.inl rfl) (pe_callB (call_max2 rfl) (by rfl) T.max (by decide +kernel) (pa_cons (pv 1) (pa_cons (pe_op op_add (pe_ix ix_tup (pv 2) pe_int (fun _ _ => rfl)) pe_int) pa_nil))))) pss_nil)))
      (pss_one (ps_ret (pv 1))))), ?_⟩
    refine ⟨_, rfl, t, rfl, ⟨_, SqT.of ht⟩, for_tup (K := K) (a := t) (xs := vs) (fun i σ H' => ∃ v2, σ = [some (.ref t), some (.int (needs (ns.take i) : Nat)), v2] ∧ H' = H) ⟨none, rfl, rfl⟩ (fun i σ H' _ ⟨_, _, e⟩ => e ▸ SqT.of ht) ?_ ?_⟩
    · rintro i y σ H' hi ⟨v2, rfl, rfl⟩
      obtain ⟨b, x, rfl, hx, r1⟩ := rl.getV hi
      have hn : needs (ns.take (i + 1)) = need1 (needs (ns.take i)) x := by
        unfold needs
        rw [List.take_add_one, hx, List.foldl_append]
        rfl
      cases x with
      | const c =>
        have h' : H' b = some (.tup [.str "const", .int c]) := r1
        refine ⟨_, rfl, b, _, 0, _, rfl, rfl, SqT.of h', rfl, rfl, _, rfl, iteDN (strNe (by decide +kernel)) ?_⟩
        exact ⟨some (.ref b), by rw [hn]; rfl, rfl⟩
      | input i1 =>
        have h' : H' b = some (.tup [.str "input", .int (i1 : Nat)]) := r1
        refine ⟨_, rfl, b, _, 0, _, rfl, rfl, SqT.of h', rfl, rfl, _, rfl, iteD rfl ?_⟩
        refine ⟨_, rfl, _, rfl, b, _, 1, _, rfl, rfl, SqT.of h', rfl, _, _, rfl, rfl, _, _, rfl, ?_⟩
        refine ⟨some (.ref b), ?_, rfl⟩
        rw [hn]
        show [some (V.ref t), some (V.int (if ((i1 : Nat) : Int) + 1 > ((needs (ns.take i) : Nat) : Int) then ((i1 : Nat) : Int) + 1 else ((needs (ns.take i) : Nat) : Int))), some (V.ref b)] = [some (V.ref t), some (V.int ((max (needs (ns.take i)) (i1 + 1) : Nat) : Int)), some (V.ref b)]
        have : (if ((i1 : Nat) : Int) + 1 > ((needs (ns.take i) : Nat) : Int) then ((i1 : Nat) : Int) + 1 else ((needs (ns.take i) : Nat) : Int)) = ((max (needs (ns.take i)) (i1 + 1) : Nat) : Int) := by
          split <;> omega
        rw [this]
      | sum i1 j =>
        have h' : H' b = some (.tup [.str "sum", .int (i1 : Nat), .int (j : Nat)]) := r1
        refine ⟨_, rfl, b, _, 0, _, rfl, rfl, SqT.of h', rfl, rfl, _, rfl, iteDN (strNe (by decide +kernel)) ?_⟩
        exact ⟨some (.ref b), by rw [hn]; rfl, rfl⟩
      | prod i1 j =>
        have h' : H' b = some (.tup [.str "product", .int (i1 : Nat), .int (j : Nat)]) := r1
        refine ⟨_, rfl, b, _, 0, _, rfl, rfl, SqT.of h', rfl, rfl, _, rfl, iteDN (strNe (by decide +kernel)) ?_⟩
        exact ⟨some (.ref b), by rw [hn]; rfl, rfl⟩
      | scaled c i1 =>
        have h' : H' b = some (.tup [.str "scaled", .int c, .int (i1 : Nat)]) := r1
        refine ⟨_, rfl, b, _, 0, _, rfl, rfl, SqT.of h', rfl, rfl, _, rfl, iteDN (strNe (by decide +kernel)) ?_⟩
        exact ⟨some (.ref b), by rw [hn]; rfl, rfl⟩
      | choose i1 j l =>
        have h' : H' b = some (.tup [.str "choose", .int (i1 : Nat), .int (j : Nat), .int (l : Nat)]) := r1
        refine ⟨_, rfl, b, _, 0, _, rfl, rfl, SqT.of h', rfl, rfl, _, rfl, iteDN (strNe (by decide +kernel)) ?_⟩
        exact ⟨some (.ref b), by rw [hn]; rfl, rfl⟩
    · rintro σ H' ⟨v2, rfl, rfl⟩
      rw [List.take_of_length_le (Nat.le_of_eq hlen.symm)]
      exact ⟨_, rfl, k⟩
/-! ### _law_values -/
theorem vals_atI {m : Int} {g : Nat → Int} {ns : List Nd} {i j : Nat} (hi : i ≤ ns.length) (hj : j < i) : ((vals m g (ns.take i)).map V.int)[j]? = some (.int (val m g ns j)) := by
  have h : j < (ns.take i).length := by
    rw [List.length_take]
    omega
  rw [map_at (vals_get m g h), val_take m g ns hi hj]
theorem vals_push {m : Int} {g : Nat → Int} {ns : List Nd} {i : Nat} {nd : Nd} (ok : SrcOk ns) (h : ns[i]? = some nd) {z : Int} (hz : z = rawF g (val m g ns) nd % m) : (vals m g (ns.take i)).map V.int ++ [.int z] = (vals m g (ns.take (i + 1))).map V.int := by
  have hl := (List.getElem?_eq_some_iff.mp h).1
  have e : rawF g (val m g (ns.take i)) nd = rawF g (val m g ns) nd := rawF_local g _ _ i nd (ok i nd h) fun j hj => val_take m g ns (by omega) hj
  rw [List.take_add_one, h]
  show _ = (vals m g (ns.take i ++ [nd])).map V.int
  rw [vals_snoc, e, List.map_append, hz]
  rfl
theorem val_rng {m : Int} (m0 : 0 < m) {g : Nat → Int} {ns : List Nd} (ok : SrcOk ns) {j : Nat} (hj : j < ns.length) : 0 ≤ val m g ns j ∧ val m g ns j < m := by
  rw [val_at m g ok (List.getElem?_eq_getElem hj)]
  exact mod_range m0
def spValues : Sp := fun vs H Q _ => ∃ (t g : Addr) (ns : List Nd) (m : Int) (gs : List Int), vs = [.ref t, .int m, .ref g] ∧ SrcAt H t ns ∧ SrcOk ns ∧ ns.length ≤ 200 ∧ 0 < m ∧ m ≤ 1000000000 ∧ H g = some (.lst (gs.map V.int)) ∧ gs.length = needs ns ∧
  ∀ H' l, Same H H' → H' l = some (.lst ((vals m (gv gs) ns).map V.int)) → Q (.ref l) H'
theorem ok_law_values (T : Tx w K mg C L) (D : Df K mg "_law_values" sLawValues ["_law_source_here", "_law_modulus_here", "_law_given"]) : Cl P w K mg base 1 "_law_values" ["_law_source_here", "_law_modulus_here", "_law_given"] spValues := by
  refine cl_mk D scLawValues (fun vs H Q E h => ?_) (fun f cdv A outer s H vs Q E hr h => ?_)
  · obtain ⟨t, g, ns, m, gs, rfl, _⟩ := h
    rfl
  · obtain ⟨t, g, ns, m, gs, rfl, hS, ok, l2, m0, m9, hg, hgl, k⟩ := h
    obtain ⟨vs, ht, rl⟩ := id hS
    have hlen := rl.len
    refine ⟨_, (pss_cons (ps_set (i := 3) scLawValues.nd rfl (.inl rfl) (pe_lst pa_nil))
      (pss_cons (ps_for PassesOwn.never rfl (pi_tup (pv 0)) (pg_name (i := 4) scLawValues.nd rfl (.inl rfl)) (pss_cons (ps_set (i := 5) scLawValues.nd rfl (.inl rfl) pe_int)
      (pss_cons (ps_if (pt_cmpR op_eq (pe_ix ix_tup (pv 4) pe_int (fun _ _ => rfl)) pe_str (nomark _)) (pss_one (ps_set (i := 5) scLawValues.nd rfl (.inl rfl) (pe_ix ix_tup (pv 4) pe_int (fun _ _ => rfl)))) (pss_one (ps_if (pt_cmpR op_eq (pe_ix ix_tup (pv 4) pe_int (fun _ _ => rfl)) pe_str (nomark _)) (pss_one (ps_set (i := 5) scLawValues.nd rfl (.inl rfl) (pe_ix ix_list (pv 2) (pe_ix ix_tup (pv 4) pe_int (fun _ _ => rfl)) (fun _ _ => rfl)))) (pss_one (ps_if (pt_cmpR op_eq (pe_ix ix_tup (pv 4) pe_int (fun _ _ => rfl)) pe_str (nomark _)) (pss_one (ps_set (i := 5) scLawValues.nd rfl (.inl rfl) (pe_op op_add (pe_ix ix_list (pv 3) (pe_ix ix_tup (pv 4) pe_int (fun _ _ => rfl)) (fun _ _ => rfl)) (pe_ix ix_list (pv 3) (pe_ix ix_tup (pv 4) pe_int (fun _ _ => rfl)) (fun _ _ => rfl))))) (pss_one (ps_if (pt_cmpR op_eq (pe_ix ix_tup (pv 4) pe_int (fun _ _ => rfl)) pe_str (nomark _)) (pss_one (ps_set (i := 5) scLawValues.nd rfl (.inl rfl) (pe_op op_mul (pe_ix ix_list (pv 3) (pe_ix ix_tup (pv 4) pe_int (fun _ _ => rfl)) (fun _ _ => rfl)) (pe_ix ix_list (pv 3) (pe_ix ix_tup (pv 4) pe_int (fun _ _ => rfl)) (fun _ _ => rfl))))) (pss_one (ps_if (pt_cmpR op_eq (pe_ix ix_tup (pv 4) pe_int (fun _ _ => rfl)) pe_str (nomark _)) (pss_one (ps_set (i := 5) scLawValues.nd rfl (.inl rfl) (pe_op op_mul (pe_ix ix_tup (pv 4) pe_int (fun _ _ => rfl)) (pe_ix ix_list (pv 3) (pe_ix ix_tup (pv 4) pe_int (fun _ _ => rfl)) (fun _ _ => rfl))))) (pss_one (ps_set (i := 5) scLawValues.nd rfl (.inl rfl) (pe_op op_add (pe_ix ix_list (pv 3) (pe_ix ix_tup (pv 4) pe_int (fun _ _ => rfl)) (fun _ _ => rfl)) (pe_op op_mul (pe_ix ix_list (pv 3) (pe_ix ix_tup (pv 4) pe_int (fun _ _ => rfl)) (fun _ _ => rfl)) (pe_op op_sub (pe_ix ix_list (pv 3) (pe_ix ix_tup (pv 4) pe_int (fun _ _ => rfl)) (fun _ _ => rfl)) (pe_ix ix_list (pv 3) (pe_ix ix_tup (pv 4) pe_int (fun _ _ => rfl)) (fun _ _ => rfl))))))))))))))))
      (pss_one (ps_expr (pe_bm PySem.F.plainAttrs_list PySem.F.slot_list_append PySem.F.type_list_append mt_append (pv 3) (pa_cons (pe_op op_mod (pe_callTy call_int1 (by rfl) T.int bInt (pa_cons (pv 5) pa_nil)) (pv 1)) pa_nil)))))))
      (pss_one (ps_ret (pv 3))))), ?_⟩
    refine ⟨Nat.zero_le _, fun l hl => ?_⟩
    have s1 := same_new (o := .lst []) hl
    refine ⟨_, rfl, t, rfl, ⟨_, SqT.of (s1 _ _ ht)⟩, for_tup (K := K) (a := t) (xs := vs) (fun i σ H' => ∃ v4 v5, σ = [some (.ref t), some (.int m), some (.ref g), some (.ref l), v4, v5] ∧ Same H H' ∧ H' l = some (.lst ((vals m (gv gs) (ns.take i)).map V.int))) ⟨none, none, rfl, s1, upd_same⟩ (fun i σ H' _ ⟨_, _, _, s, _⟩ => SqT.of (s _ _ ht)) ?_ ?_⟩
    · rintro i y σ H' hi ⟨v4, v5, rfl, sm, hL⟩
      obtain ⟨b, x, rfl, hx, r⟩ := rl.getV hi
      have r1 : NdAt H' b x := r.to (tps_same sm)
      have hil : i ≤ ns.length := Nat.le_of_lt (List.getElem?_eq_some_iff.mp hx).1
      have okx := ok i x hx
      have hgH : H' g = some (.lst (gs.map V.int)) := sm _ _ hg
      have rng : ∀ j, j < i → 0 ≤ val m (gv gs) ns j ∧ val m (gv gs) ns j < m := fun j hj => val_rng m0 ok (by omega)
      have push : ∀ z : Int, z = rawF (gv gs) (val m (gv gs) ns) x → tDrop (tBM K "list" rAppend (tVar 3) (tCons (tOp (rI (fun _ j => 0 < j) fun i j => .int (i % j)) (tCB (fun xs H Q => (∃ i, xs = [.int i] ∧ Q (.int i) H) ∨ ∃ k, xs = [.bl k] ∧ Q (.int (if k then 1 else 0)) H) (tCons (tVar 5) tNil)) (tVar 1)) tNil))
          { nx := fun σ H' => ∃ v4 v5, σ = [some (.ref t), some (.int m), some (.ref g), some (.ref l), v4, v5] ∧ Same H H' ∧ H' l = some (.lst ((vals m (gv gs) (ns.take (i + 1))).map V.int)), rt := Q,
            bk := fun σ H' => tRet (tVar 3) { nx := fun _ H' => Q .non H', rt := Q } σ H', ct := fun σ H' => ∃ v4 v5, σ = [some (.ref t), some (.int m), some (.ref g), some (.ref l), v4, v5] ∧ Same H H' ∧ H' l = some (.lst ((vals m (gv gs) (ns.take (i + 1))).map V.int)) }
          [some (.ref t), some (.int m), some (.ref g), some (.ref l), some (.ref b), some (.int z)] H' := by
        intro z hz
        refine ⟨_, rfl, .inl ⟨rfl, _, SqL.of hL⟩, _, rfl, .inl ⟨_, rfl, _, rfl, _, _, rfl, rfl, m0, l, _, _, rfl, rfl, hL, ?_, _, _, rfl, same_set sm hl, ?_⟩⟩
        · rw [List.length_map, vals_len, List.length_take]
          exact small1000 (by omega)
        · rw [upd_same, vals_push ok hx (by rw [hz])]
      cases x with
      | const c =>
        have h' : H' b = some (.tup [.str "const", .int c]) := r1
        refine ⟨_, rfl, b, _, 0, _, rfl, rfl, SqT.of h', rfl, rfl, _, rfl, iteD rfl ?_⟩
        exact ⟨_, rfl, b, _, 1, _, rfl, rfl, SqT.of h', rfl, push _ rfl⟩
      | input i1 =>
        have h' : H' b = some (.tup [.str "input", .int (i1 : Nat)]) := r1
        refine ⟨_, rfl, b, _, 0, _, rfl, rfl, SqT.of h', rfl, rfl, _, rfl, iteDN (strNe (by decide +kernel)) ?_⟩
        refine ⟨_, rfl, b, _, 0, _, rfl, rfl, SqT.of h', rfl, rfl, _, rfl, iteD rfl ?_⟩
        exact ⟨_, rfl, _, rfl, b, _, 1, _, rfl, rfl, SqT.of h', rfl, g, _, _, _, rfl, rfl, SqL.of hgH, atI_nat (map_at (gv_get (by rw [hgl]; exact needs_lt ns 0 (List.mem_of_getElem? hx)))), push _ rfl⟩
      | sum a1 a2 =>
        have h' : H' b = some (.tup [.str "sum", .int (a1 : Nat), .int (a2 : Nat)]) := r1
        refine ⟨_, rfl, b, _, 0, _, rfl, rfl, SqT.of h', rfl, rfl, _, rfl, iteDN (strNe (by decide +kernel)) ?_⟩
        refine ⟨_, rfl, b, _, 0, _, rfl, rfl, SqT.of h', rfl, rfl, _, rfl, iteDN (strNe (by decide +kernel)) ?_⟩
        refine ⟨_, rfl, b, _, 0, _, rfl, rfl, SqT.of h', rfl, rfl, _, rfl, iteD rfl ?_⟩
        exact ⟨_, rfl, _, rfl, b, _, 1, _, rfl, rfl, SqT.of h', rfl, l, _, _, _, rfl, rfl, SqL.of hL, atI_nat (vals_atI hil okx.1), _, rfl, _, rfl, b, _, 2, _, rfl, rfl, SqT.of h', rfl, l, _, _, _, rfl, rfl, SqL.of hL, atI_nat (vals_atI hil okx.2), _, _, rfl, rfl, push _ rfl⟩
      | prod a1 a2 =>
        have h' : H' b = some (.tup [.str "product", .int (a1 : Nat), .int (a2 : Nat)]) := r1
        refine ⟨_, rfl, b, _, 0, _, rfl, rfl, SqT.of h', rfl, rfl, _, rfl, iteDN (strNe (by decide +kernel)) ?_⟩
        refine ⟨_, rfl, b, _, 0, _, rfl, rfl, SqT.of h', rfl, rfl, _, rfl, iteDN (strNe (by decide +kernel)) ?_⟩
        refine ⟨_, rfl, b, _, 0, _, rfl, rfl, SqT.of h', rfl, rfl, _, rfl, iteDN (strNe (by decide +kernel)) ?_⟩
        refine ⟨_, rfl, b, _, 0, _, rfl, rfl, SqT.of h', rfl, rfl, _, rfl, iteD rfl ?_⟩
        have q := rng a1 okx.1
        exact ⟨_, rfl, _, rfl, b, _, 1, _, rfl, rfl, SqT.of h', rfl, l, _, _, _, rfl, rfl, SqL.of hL, atI_nat (vals_atI hil okx.1), _, rfl, _, rfl, b, _, 2, _, rfl, rfl, SqT.of h', rfl, l, _, _, _, rfl, rfl, SqL.of hL, atI_nat (vals_atI hil okx.2), _, _, rfl, rfl, .inl ⟨by omega, by omega⟩, push _ rfl⟩
      | scaled c a1 =>
        have h' : H' b = some (.tup [.str "scaled", .int c, .int (a1 : Nat)]) := r1
        refine ⟨_, rfl, b, _, 0, _, rfl, rfl, SqT.of h', rfl, rfl, _, rfl, iteDN (strNe (by decide +kernel)) ?_⟩
        refine ⟨_, rfl, b, _, 0, _, rfl, rfl, SqT.of h', rfl, rfl, _, rfl, iteDN (strNe (by decide +kernel)) ?_⟩
        refine ⟨_, rfl, b, _, 0, _, rfl, rfl, SqT.of h', rfl, rfl, _, rfl, iteDN (strNe (by decide +kernel)) ?_⟩
        refine ⟨_, rfl, b, _, 0, _, rfl, rfl, SqT.of h', rfl, rfl, _, rfl, iteDN (strNe (by decide +kernel)) ?_⟩
        refine ⟨_, rfl, b, _, 0, _, rfl, rfl, SqT.of h', rfl, rfl, _, rfl, iteD rfl ?_⟩
        obtain ⟨⟨c0, c1⟩, o1⟩ := okx
        exact ⟨_, rfl, b, _, 1, _, rfl, rfl, SqT.of h', rfl, _, rfl, _, rfl, b, _, 2, _, rfl, rfl, SqT.of h', rfl, l, _, _, _, rfl, rfl, SqL.of hL, atI_nat (vals_atI hil o1), _, _, rfl, rfl, .inl ⟨by omega, by omega⟩, push _ rfl⟩
      | choose a1 a2 a3 =>
        have h' : H' b = some (.tup [.str "choose", .int (a1 : Nat), .int (a2 : Nat), .int (a3 : Nat)]) := r1
        refine ⟨_, rfl, b, _, 0, _, rfl, rfl, SqT.of h', rfl, rfl, _, rfl, iteDN (strNe (by decide +kernel)) ?_⟩
        refine ⟨_, rfl, b, _, 0, _, rfl, rfl, SqT.of h', rfl, rfl, _, rfl, iteDN (strNe (by decide +kernel)) ?_⟩
        refine ⟨_, rfl, b, _, 0, _, rfl, rfl, SqT.of h', rfl, rfl, _, rfl, iteDN (strNe (by decide +kernel)) ?_⟩
        refine ⟨_, rfl, b, _, 0, _, rfl, rfl, SqT.of h', rfl, rfl, _, rfl, iteDN (strNe (by decide +kernel)) ?_⟩
        refine ⟨_, rfl, b, _, 0, _, rfl, rfl, SqT.of h', rfl, rfl, _, rfl, iteDN (strNe (by decide +kernel)) ?_⟩
        have q := rng a1 okx.1
        exact ⟨_, rfl, _, rfl, b, _, 3, _, rfl, rfl, SqT.of h', rfl, l, _, _, _, rfl, rfl, SqL.of hL, atI_nat (vals_atI hil okx.2.2), _, rfl, _, rfl, b, _, 1, _, rfl, rfl, SqT.of h', rfl, l, _, _, _, rfl, rfl, SqL.of hL, atI_nat (vals_atI hil okx.1), _, rfl, _, rfl, b, _, 2, _, rfl, rfl, SqT.of h', rfl, l, _, _, _, rfl, rfl, SqL.of hL, atI_nat (vals_atI hil okx.2.1), _, rfl, _, rfl, b, _, 3, _, rfl, rfl, SqT.of h', rfl, l, _, _, _, rfl, rfl, SqL.of hL, atI_nat (vals_atI hil okx.2.2), _, _, rfl, rfl, _, _, rfl, rfl, .inl ⟨by omega, by omega⟩, _, _, rfl, rfl, push _ rfl⟩
    · rintro σ H' ⟨v4, v5, rfl, sm, hL⟩
      rw [List.take_of_length_le (Nat.le_of_eq hlen.symm)] at hL
      exact ⟨_, rfl, k H' l sm hL⟩
/-! ### _law_meaning -/
def spMeaning : Sp := fun vs H Q _ => ∃ (t g : Addr) (ns : List Nd) (m : Int) (gs : List Int), vs = [.ref t, .int m, .ref g] ∧ SrcAt H t ns ∧ SrcOk ns ∧ 1 ≤ ns.length ∧ ns.length ≤ 200 ∧ 0 < m ∧ m ≤ 1000000000 ∧ H g = some (.lst (gs.map V.int)) ∧ gs.length = needs ns ∧
  ∀ H', Same H H' → Q (.int (val m (gv gs) ns (ns.length - 1))) H'
theorem ok_law_meaning (T : Tx w K mg C L) (D : Df K mg "_law_meaning" sLawMeaning ["_law_source_here", "_law_modulus_here", "_law_given"]) (cV : Cl P w K mg base 1 "_law_values" ["_law_source_here", "_law_modulus_here", "_law_given"] spValues) :
    Cl P w K mg base 2 "_law_meaning" ["_law_source_here", "_law_modulus_here", "_law_given"] spMeaning := by
  refine cl_mk D scLawMeaning (fun vs H Q E h => ?_) (fun f cdv A outer s H vs Q E hr h => ?_)
  · obtain ⟨t, g, ns, m, gs, rfl, _⟩ := h
    rfl
  · obtain ⟨t, g, ns, m, gs, rfl, hS, ok, l1, l2, m0, m9, hg, hgl, k⟩ := h
    obtain ⟨vs, ht, rl⟩ := id hS
    have hlen := rl.len
    refine ⟨_, (pss_one (ps_ret (pe_ix ix_list (pe_cl cV hr (pa_cons (pv 0) (pa_cons (pv 1) (pa_cons (pv 2) pa_nil)))) (pe_op op_sub (pe_callB call_len_seq (by rfl) T.len bLen (pa_cons (pv 0) pa_nil)) pe_int) (fun _ _ => rfl)))), ?_⟩
    refine ⟨_, rfl, _, rfl, _, rfl, t, g, ns, m, gs, rfl, hS, ok, l2, m0, m9, hg, hgl, fun H1 l s1 hL => ?_⟩
    refine ⟨_, rfl, t, _, rfl, .inr (SqT.of (s1 _ _ ht)), _, _, rfl, rfl, l, _, _, _, rfl, rfl, SqL.of hL, at_of (j := ns.length - 1) (by omega) (map_at (vals_get m (gv gs) (by omega))), ?_⟩
    exact k H1 s1
end
end Brim
/-! ## W13 -/
namespace Brim
open PySem PySem.Spec PyProof.Rows L2
section
variable {P : Program} {w : World} {K : PySem.W.Frag} {mg : Str → Option Value} {base : Heap} {C L : Addr}
/-! ### _law_equal, _law_all_equal -/
theorem kLT : kitB "list" "tuple" = some false := by decide +kernel
def spEqInt : Sp := fun vs H Q _ => ∃ x y : Int, vs = [.int x, .int y] ∧ x = y ∧ Q (.bl true) H
theorem ok_law_equal_int (T : Tx w K mg C L) (D : Df K mg "_law_equal" sLawEqual ["_law_actual", "_law_due"]) : Cl P w K mg base 1 "_law_equal" ["_law_actual", "_law_due"] spEqInt := by
  refine cl_mk D scLawEqual (fun vs H Q E h => ?_) (fun f cdv A outer s H vs Q E hr h => ?_)
  · obtain ⟨x, y, rfl, _⟩ := h
    rfl
  · obtain ⟨x, y, rfl, rfl, k⟩ := h
    refine ⟨_, pss_cons (ps_if (pt_val (pe_callB call_isi (by rfl) T.isinst bIsi (pa_cons (pv 1) (pa_cons (pe_bltn (v := .ty "list") (by rfl) T.list bList rfl) pa_nil)))) pss_never pss_nil)
      (pss_cons (ps_if (pt_val (pe_callB call_isi (by rfl) T.isinst bIsi (pa_cons (pv 1) (pa_cons (pe_bltn (v := .ty "tuple") (by rfl) T.tuple bTuple rfl) pa_nil)))) pss_never pss_nil)
      (pss_cons (ps_if (pt_val (pe_callB call_isi (by rfl) T.isinst bIsi (pa_cons (pv 1) (pa_cons (pe_bltn (v := .ty "bool") (by rfl) T.bool bBool rfl) pa_nil)))) pss_never pss_nil)
      (pss_cons (ps_if (pt_val (pe_callB call_isi (by rfl) T.isinst bIsi (pa_cons (pv 1) (pa_cons (pe_bltn (v := .ty "int") (by rfl) T.int bInt rfl) pa_nil))))
        (pss_one (ps_ret (pe_and (pe_callB call_isi (by rfl) T.isinst bIsi (pa_cons (pv 0) (pa_cons (pe_bltn (v := .ty "int") (by rfl) T.int bInt rfl) pa_nil)))
          (pe_and (pe_not (pe_callB call_isi (by rfl) T.isinst bIsi (pa_cons (pv 0) (pa_cons (pe_bltn (v := .ty "bool") (by rfl) T.bool bBool rfl) pa_nil)))) (pe_one (pe_cmpR op_eq (pv 0) (pv 1) (nomark _))))))) pss_nil)
      pss_never))), ?_⟩
    refine ⟨_, rfl, .int x, .ty "list", _, _, false, rfl, .ty "list", tyI x, kit_ty kIL, _, rfl, iteF ?_⟩
    refine ⟨_, rfl, .int x, .ty "tuple", _, _, false, rfl, .ty "tuple", tyI x, kit_ty kIT, _, rfl, iteF ?_⟩
    refine ⟨_, rfl, .int x, .ty "bool", _, _, false, rfl, .ty "bool", tyI x, kit_ty kIB, _, rfl, iteF ?_⟩
    refine ⟨_, rfl, .int x, .ty "int", _, _, true, rfl, .ty "int", tyI x, kit_ty kII, _, rfl, iteT ?_⟩
    refine ⟨_, rfl, .int x, .ty "int", _, _, true, rfl, .ty "int", tyI x, kit_ty kII, _, rfl, iteT ?_⟩
    refine ⟨_, rfl, .int x, .ty "bool", _, _, false, rfl, .ty "bool", tyI x, kit_ty kIB, _, rfl, _, rfl, iteT ?_⟩
    refine ⟨_, rfl, _, rfl, rfl, ?_⟩
    exact qT (Q := Q) rfl k
def spEqList : Sp := fun vs H Q _ => ∃ (a b : Addr) (xs : List Int), vs = [.ref a, .ref b] ∧ H a = some (.lst (xs.map V.int)) ∧ H b = some (.lst (xs.map V.int)) ∧ xs.length ≤ 1000 ∧ Q (.bl true) H
theorem ok_law_all_equal (T : Tx w K mg C L) (D : Df K mg "_law_all_equal" sLawAllEqual ["_law_actual", "_law_due"]) (cE : Cl P w K mg base 1 "_law_equal" ["_law_actual", "_law_due"] spEqInt) : Cl P w K mg base 2 "_law_all_equal" ["_law_actual", "_law_due"] spEqList := by
  refine cl_mk D scLawAllEqual (fun vs H Q E h => ?_) (fun f cdv A outer s H vs Q E hr h => ?_)
  · obtain ⟨a, b, xs, rfl, _⟩ := h
    rfl
  · obtain ⟨a, b, xs, rfl, ha, hb, hl, k⟩ := h
    refine ⟨_, pss_cons (ps_for PassesOwn.never rfl (pi_range1 rfl T.range (pa_cons (pe_callB call_len_seq (by rfl) T.len bLen (pa_cons (pv 1) pa_nil)) pa_nil)) (pg_name (i := 2) scLawAllEqual.nd rfl (.inl rfl))
        (pss_one (ps_if (pt_not (pt_val (pe_cl cE hr (pa_cons (pe_ix ix_list (pv 0) (pv 2) (fun _ _ => rfl)) (pa_cons (pe_ix ix_list (pv 1) (pv 2) (fun _ _ => rfl)) pa_nil))))) (pss_one (ps_ret pe_bl)) pss_nil)))
      (pss_one (ps_ret pe_bl)), ?_⟩
    have lm : (((xs.map V.int).length : Nat) : Int) = ((xs.length : Nat) : Int) := by rw [List.length_map]
    refine ⟨_, rfl, b, _, rfl, .inl (SqL.of hb), _, rfl, by omega, by omega, for_range (n := (((xs.map V.int).length : Nat) : Int).toNat) (fun i σ H' => ∃ v2, σ = [some (.ref a), some (.ref b), v2] ∧ H' = H) ⟨none, rfl, rfl⟩ ?_ ?_⟩
    · rintro i σ H' hi ⟨v2, rfl, rfl⟩
      have hi2 : i < xs.length := by omega
      have e1 : atI (xs.map V.int) (0 + (i : Nat)) = some (.int xs[i]) := at_of (j := i) (by omega) (map_at (List.getElem?_eq_getElem hi2))
      refine ⟨_, rfl, _, rfl, a, _, _, _, rfl, rfl, SqL.of ha, e1, _, rfl, _, rfl, b, _, _, _, rfl, rfl, SqL.of hb, e1, _, _, rfl, rfl, _, rfl, iteF ?_⟩
      exact ⟨_, rfl, rfl⟩
    · rintro σ H' ⟨v2, rfl, rfl⟩
      exact k
theorem ok_law_equal_list (T : Tx w K mg C L) (D : Df K mg "_law_equal" sLawEqual ["_law_actual", "_law_due"]) (cA : Cl P w K mg base 2 "_law_all_equal" ["_law_actual", "_law_due"] spEqList) : Cl P w K mg base 3 "_law_equal" ["_law_actual", "_law_due"] spEqList := by
  refine cl_mk D scLawEqual (fun vs H Q E h => ?_) (fun f cdv A outer s H vs Q E hr h => ?_)
  · obtain ⟨a, b, xs, rfl, _⟩ := h
    rfl
  · obtain ⟨a, b, xs, rfl, ha, hb, hl, k⟩ := h
    refine ⟨_, pss_cons (ps_if (pt_val (pe_callB call_isi (by rfl) T.isinst bIsi (pa_cons (pv 1) (pa_cons (pe_bltn (v := .ty "list") (by rfl) T.list bList rfl) pa_nil))))
        (pss_cons (ps_if (PW.pt (pw_or (pt_not (pt_val (pe_callB call_isi (by rfl) T.isinst bIsi (pa_cons (pv 0) (pa_cons (pe_bltn (v := .ty "list") (by rfl) T.list bList rfl) pa_nil)))))
          (pw_or1 (pt_cmpR op_ne (pe_callB call_len_seq (by rfl) T.len bLen (pa_cons (pv 0) pa_nil)) (pe_callB call_len_seq (by rfl) T.len bLen (pa_cons (pv 1) pa_nil)) (nomark _))))) (pss_one (ps_ret pe_bl)) pss_nil)
        (pss_one (ps_ret (pe_cl cA hr (pa_cons (pv 0) (pa_cons (pv 1) pa_nil)))))) pss_nil)
      pss_never, ?_⟩
    refine ⟨_, rfl, .ref b, .ty "list", _, _, true, rfl, .ty "list", tyL hb, kit_ty kLL, _, rfl, iteT ?_⟩
    refine ⟨_, rfl, .ref a, .ty "list", _, _, true, rfl, .ty "list", tyL ha, kit_ty kLL, _, rfl, iteF ?_⟩
    refine ⟨_, rfl, a, _, rfl, .inl (SqL.of ha), _, rfl, b, _, rfl, .inl (SqL.of hb), rfl, _, rfl, iteNS rfl ?_⟩
    exact ⟨_, rfl, _, rfl, a, b, xs, rfl, ha, hb, hl, k⟩
/-! ### _law_form -/
def spForm (C : Addr) : Sp := fun vs H Q _ => ∃ (p : Addr) (m : Int) (q : Nat) (ss : List Stp), vs = [.ref p, .int m, .int (q : Nat), .int (ss.length : Nat)] ∧ PrAt C H p m q ss ∧ ss.length ≤ 20000 ∧ Q (.bl true) H
theorem ok_law_form {fl : Addr} {fdl : FuncData} (T : Tx w K mg C L) (D : Df K mg "_law_form" sLawForm ["_law_program", "_law_modulus_here", "_law_many", "_law_price"]) (cE : Cl P w K mg base 1 "_law_equal" ["_law_actual", "_law_due"] spEqInt)
    (hm : Meth K C "__len__" fl) (F : FnOk P w K mg base CX0 1 fl fdl ["self"] (spPLen C)) (b : Binds K fdl ["self"] []) : Cl P w K mg base 3 "_law_form" ["_law_program", "_law_modulus_here", "_law_many", "_law_price"] (spForm C) := by
  refine cl_mk D scLawForm (fun vs H Q E h => ?_) (fun f cdv A outer s H vs Q E hr h => ?_)
  · obtain ⟨p, m, q, ss, rfl, _⟩ := h
    rfl
  · obtain ⟨p, m, q, ss, rfl, hP, le, k⟩ := h
    obtain ⟨dx, l, ws, hp, hl, rl⟩ := hP.ex
    have hlen := rl.len
    refine ⟨_, pss_cons (ps_if (PW.pt (pw_or (pt_not (pt_val (pe_cl cE hr (pa_cons (pe_fld (pv 0) rfl) (pa_cons (pv 1) pa_nil))))) (pw_or1 (pt_not (pt_val (pe_cl cE hr (pa_cons (pe_fld (pv 0) rfl) (pa_cons pe_int pa_nil)))))))) (pss_one (ps_ret pe_bl)) pss_nil)
      (pss_cons (ps_if (PW.pt (pw_or (pt_not (pt_val (pe_cl cE hr (pa_cons (pe_fld (pv 0) rfl) (pa_cons (pv 2) pa_nil))))) (pw_or1 (pt_not (pt_val (pe_cl cE hr (pa_cons (pe_callB (call_lenOwn hm F hr b) (by rfl) T.len bLen (pa_cons (pv 0) pa_nil)) (pa_cons (pv 3) pa_nil)))))))) (pss_one (ps_ret pe_bl)) pss_nil)
      (pss_cons (ps_for PassesOwn.never rfl (pi_list (pe_fld (pv 0) rfl)) (pg_name (i := 4) scLawForm.nd rfl (.inl rfl))
        (pss_one (ps_if (pt_cmpR op_ne (pe_ix ix_tup (pv 4) pe_int (fun _ _ => rfl)) pe_str (nomark _)) (pss_one (ps_ret pe_bl)) pss_nil)))
      (pss_one (ps_ret pe_bl)))), ?_⟩
    refine ⟨_, rfl, p, C, dx, _, _, rfl, hp, T.cl, T.nM, pf_m _ _ _ _, _, rfl, m, m, rfl, rfl, _, rfl, iteF ?_⟩
    refine ⟨_, rfl, p, C, dx, _, _, rfl, hp, T.cl, T.nC, pf_c _ _ _ _, 3, 3, rfl, rfl, _, rfl, iteF ?_⟩
    refine ⟨_, rfl, p, C, dx, _, _, rfl, hp, T.cl, T.nI, pf_i _ _ _ _, _, rfl, (q : Nat), (q : Nat), rfl, rfl, _, rfl, iteF ?_⟩
    refine ⟨_, rfl, p, dx, _, rfl, hp, p, m, q, ss, rfl, hP, _, rfl, by omega, by omega, _, rfl, (ss.length : Nat), (ss.length : Nat), rfl, rfl, _, rfl, iteF ?_⟩
    refine ⟨_, rfl, p, C, dx, _, _, rfl, hp, T.cl, T.nS, pf_s _ _ _ _, l, rfl, ⟨_, SqL.of hl⟩, for_list (K := K) (a := l) (xs := ws) (fun i σ H' => ∃ v4, σ = [some (.ref p), some (.int m), some (.int (q : Nat)), some (.int (ss.length : Nat)), v4] ∧ H' = H)
      ⟨none, rfl, rfl⟩ (fun i σ H' _ ⟨_, _, e⟩ => e ▸ SqL.of hl) ?_ ?_⟩
    · rintro i y σ H' hi ⟨v4, rfl, rfl⟩
      obtain ⟨a, x, rfl, hx, r⟩ := rl.getV hi
      obtain ⟨fa, ha, _⟩ := r
      refine ⟨_, rfl, a, _, 0, _, rfl, rfl, SqT.of ha, rfl, rfl, _, rfl, iteNS rfl ?_⟩
      exact ⟨_, rfl, rfl⟩
    · rintro σ H' ⟨v4, rfl, rfl⟩
      exact k
end
end Brim
/-! ## W14 -/
namespace Brim
open PySem PySem.Spec PyProof.Rows L2
theorem PrAt.kpD {C : Addr} {H H' : Hp} {p : Addr} {d : Dr} {m : Int} {q : Nat} {ss : List Stp} (h : PrAt C H p m q ss) (dr : DrAt H d) (s : Kp d.d H H') : PrAt C H' p m q ss := by
  obtain ⟨dx, l, ws, h1, h2, h3⟩ := h.ex
  obtain ⟨ys, e⟩ := dr.lst
  exact ⟨dx, l, ws, s _ _ (ne_of h1 e (by intro z; cases z)) h1, s _ _ (dr.refs h2 h3) h2, h3.toS (s.tpl e)⟩
theorem gv_rng {m : Int} (m0 : 0 < m) {xs : List Int} (h : ∀ z ∈ xs, 0 ≤ z ∧ z < m) : Rng m (gv xs) := by
  intro x
  unfold gv
  rw [List.getD_eq_getElem?_getD]
  cases e : xs[x]? with
  | none => exact ⟨by simp, by simpa using m0⟩
  | some z => exact h z (List.mem_of_getElem? e)
/-- what the compiled program does to a memory of three -/
theorem run_law {m : Int} (m2 : 2 ≤ m) {ns : List Nd} (ok : SrcOk ns) (l1 : 1 ≤ ns.length) (g : Nat → Int) {x0 x1 x2 : Int} (h : ∀ z ∈ [x0, x1, x2], 0 ≤ z ∧ z < m) :
    memL (execs m g (compile m ns (tk0 ns)) (gv [x0, x1, x2])) = [(x0 + val m g ns (ns.length - 1)) % m, x1, x2] := by
  have m0 : 0 < m := by omega
  have e := does (g := g) m0 ok ns.length (tk0 ns) (tk0_ok m2 l1) (by show ns.length - 1 < ns.length; omega) (gv [x0, x1, x2]) (gv_rng m0 h)
  rw [e]
  show [(x0 + 1 * val m g ns (ns.length - 1) * 1) % m, x1, x2] = _
  rw [Int.one_mul, Int.mul_one]
section
variable {P : Program} {w : World} {K : PySem.W.Frag} {mg : Str → Option Value} {base : Heap} {C L : Addr}
def spLaw (K : PySem.W.Frag) : Sp := fun vs H Q _ => ∃ (a : Addr) (ns : List Int), vs = [.ref a] ∧ SqL K H a (ns.map V.int) ∧ ns.length ≤ 63 ∧ ∀ H', Q (.bl true) H'
theorem ok_law {f fr : Addr} {fd fdr : FuncData} (T : Tx w K mg C L) (F : Fun K "law" "law" sLaw f fd) (mR : Meth K C "run" fr) (FR : FnOk P w K mg base CX0 4 fr fdr ["self", "memory", "given"] (spPRun C)) (bR : Binds K fdr ["self", "memory", "given"] [])
    (cNum : Cl P w K mg base 2 "_law_numbers" ["_law_script"] (spNumbers K)) (cDraw : Cl P w K mg base 2 "_law_draw" ["_law_draws"] (spDr R6)) (cSrc : Cl P w K mg base 7 "_law_source" ["_law_draws", "_law_most"] spSourceD)
    (cMod : Cl P w K mg base 4 "_law_modulus" ["_law_draws"] (spDr fun z => 2 ≤ z ∧ z ≤ 1000000000)) (cComp : Cl P w K mg base 9 "compile_source" ["source", "modulus"] (spCompile C))
    (cForm : Cl P w K mg base 3 "_law_form" ["_law_program", "_law_modulus_here", "_law_many", "_law_price"] (spForm C)) (cNeeds : Cl P w K mg base 1 "_law_needs" ["_law_source_here"] spLawNeeds)
    (cNumb : Cl P w K mg base 4 "_law_number" ["_law_draws", "_law_modulus_here"] spNumberD) (cMean : Cl P w K mg base 2 "_law_meaning" ["_law_source_here", "_law_modulus_here", "_law_given"] spMeaning)
    (cEqL : Cl P w K mg base 3 "_law_equal" ["_law_actual", "_law_due"] spEqList) : FnOk P w K mg base CX0 10 f fd ["_law_script"] (spLaw K) := by
  refine F.ok scLaw (fun vs H Q E h => ?_) (fun cdv A outer s H vs Q E hr h => ?_)
  · obtain ⟨a, ns, rfl, _⟩ := h
    rfl
  · obtain ⟨a, n0, rfl, hS, n63, k⟩ := h
    refine ⟨_, (pss_cons (ps_set (i := 1) scLaw.nd rfl (.inr rfl) (pe_lst (pa_cons (pe_cl cNum hr (pa_cons (pv 0) pa_nil)) (pa_cons pe_int pa_nil))))
      (pss_cons (ps_set (i := 2) scLaw.nd rfl (.inl rfl) (pe_ix ix_list (pe_lst (pa_cons pe_int (pa_cons pe_int (pa_cons pe_int (pa_cons pe_int (pa_cons pe_int (pa_cons pe_int pa_nil))))))) (pe_op op_mod (pe_cl cDraw hr (pa_cons (pv 1) pa_nil)) pe_int) (fun _ _ => rfl)))
      (pss_cons (ps_set (i := 3) scLaw.nd rfl (.inl rfl) (pe_cl cSrc hr (pa_cons (pv 1) (pa_cons (pv 2) pa_nil))))
      (pss_cons (ps_set (i := 4) scLaw.nd rfl (.inl rfl) (pe_ix ix_list (pv 3) pe_int (fun _ _ => rfl)))
      (pss_cons (ps_set (i := 5) scLaw.nd rfl (.inr rfl) (pe_cl cMod hr (pa_cons (pv 1) pa_nil)))
      (pss_cons (ps_set (i := 6) scLaw.nd rfl (.inl rfl) (pe_cl cComp hr (pa_cons (pv 4) (pa_cons (pv 5) pa_nil))))
      (pss_cons (ps_if (pt_not (pt_val (pe_cl cForm hr (pa_cons (pv 6) (pa_cons (pv 5) (pa_cons (pe_cl cNeeds hr (pa_cons (pv 4) pa_nil)) (pa_cons (pe_ix ix_list (pv 3) pe_int (fun _ _ => rfl)) pa_nil))))))) (pss_one (ps_ret pe_bl)) pss_nil)
      (pss_cons (ps_for PassesOwn.never rfl (pi_range1 rfl T.range (pa_cons pe_int pa_nil)) (pg_name (i := 7) scLaw.nd rfl (.inl rfl)) (pss_cons (ps_setLc (i := 8) (own := [("_law_k", 12)]) (g := gName 12) (by rfl) scLaw.nd rfl rfl (sw_true rfl rfl rfl (by decide +kernel)) (pi_range1 rfl T.range (pa_cons (pe_cl cNeeds hr (pa_cons (pv 4) pa_nil)) pa_nil))
          (blkOk_by (own := [("_law_k", 12)]) (N := ["_law_script", "_law_draws", "_law_most", "_law_pair", "_law_source_here", "_law_modulus_here", "_law_program", "_law_turn", "_law_given", "_law_memory", "_law_value", "_law_due", "_law_k"]) (sc := defScope sLaw) (by decide +kernel)) (fun _ _ _ _ _ => pg_name (i := 12) scLaw.nd rfl (Or.inl rfl)) (fun _ _ _ _ _ => pts_nil) (fun _ _ _ _ _ => (pe_cl cNumb hr (pa_cons (pv 1) (pa_cons (pv 5) pa_nil)))))
      (pss_cons (ps_setLc (i := 9) (own := [("_law_k", 12)]) (g := gName 12) (by rfl) scLaw.nd rfl rfl (sw_true rfl rfl rfl (by decide +kernel)) (pi_range1 rfl T.range (pa_cons pe_int pa_nil))
          (blkOk_by (own := [("_law_k", 12)]) (N := ["_law_script", "_law_draws", "_law_most", "_law_pair", "_law_source_here", "_law_modulus_here", "_law_program", "_law_turn", "_law_given", "_law_memory", "_law_value", "_law_due", "_law_k"]) (sc := defScope sLaw) (by decide +kernel)) (fun _ _ _ _ _ => pg_name (i := 12) scLaw.nd rfl (Or.inl rfl)) (fun _ _ _ _ _ => pts_nil) (fun _ _ _ _ _ => (pe_cl cNumb hr (pa_cons (pv 1) (pa_cons (pv 5) pa_nil)))))
      (pss_cons (ps_set (i := 10) scLaw.nd rfl (.inl rfl) (pe_cl cMean hr (pa_cons (pv 4) (pa_cons (pv 5) (pa_cons (pv 8) pa_nil)))))
      (pss_cons (ps_set (i := 11) scLaw.nd rfl (.inl rfl) (pe_lst (pa_cons (pe_op op_mod (pe_callTy call_int1 (by rfl) T.int bInt (pa_cons (pe_op op_add (pe_ix ix_list (pv 9) pe_int (fun _ _ => rfl)) (pv 10)) pa_nil)) (pv 5)) (pa_cons (pe_ix ix_list (pv 9) pe_int (fun _ _ => rfl)) (pa_cons (pe_ix ix_list (pv 9) pe_int (fun _ _ => rfl)) pa_nil)))))
      (pss_one (ps_if (pt_not (pt_val (pe_cl cEqL hr (pa_cons (pe_meth (pv 6) T.cl mR FR (hr.mono (by decide)) bR .nil pass0 (pa_cons (pe_callTy call_list_of (by rfl) T.list bList (pa_cons (pv 9) pa_nil)) (pa_cons (pe_callTy call_list_of (by rfl) T.list bList (pa_cons (pv 8) pa_nil)) pa_nil))) (pa_cons (pv 11) pa_nil))))) (pss_one (ps_ret pe_bl)) pss_nil)))))))
      (pss_one (ps_ret pe_bl)))))))))), ?_⟩
    -- draws
    refine ⟨_, rfl, a, n0, rfl, hS, n63, fun H1 l zs s1 hl0 hl hz => ⟨(by show 2 ≤ sizeLine; decide), fun d0 hd0 => ?_⟩⟩
    obtain ⟨D, eD⟩ : ∃ D : Dr, D = ⟨d0, l, zs⟩ := ⟨_, rfl⟩
    have dr2 : DrAt (upd H1 d0 (.lst [.ref l, .int 0])) D := by
      subst eD
      exact ⟨0, upd_same, same_new hd0 _ _ hl, hz⟩
    have ed : d0 = D.d := by rw [eD]
    subst ed
    clear eD
    -- most
    refine ⟨(by show 6 ≤ sizeLine; decide), fun p6 hp6 => ?_⟩
    have s6 := same_new (o := .lst [V.int 400, .int 400, .int 400, .int 400, .int 400, .int 4000]) hp6
    refine ⟨_, rfl, D, rfl, dr2.to s6, fun H3 z3 k3 d3 r3 => ?_⟩
    obtain ⟨v, hv, ev⟩ := pick_le (xs := [V.int 400, .int 400, .int 400, .int 400, .int 400, .int 4000]) (i := z3 % 6) (Int.emod_nonneg _ (by decide)) (Int.emod_lt_of_pos _ (by decide))
    refine ⟨_, _, rfl, rfl, (by show (0 : Int) < 6; decide), p6, _, _, v, rfl, rfl, SqL.of (k3 _ _ (dr2.new hp6) upd_same), ev, ?_⟩
    have hv' : ∃ most : Nat, v = .int (most : Nat) ∧ 1 ≤ most ∧ most ≤ 4000 := by
      simp only [List.mem_cons, List.not_mem_nil, or_false] at hv
      rcases hv with rfl | rfl | rfl | rfl | rfl | rfl
      · exact ⟨400, rfl, by decide, by decide⟩
      · exact ⟨400, rfl, by decide, by decide⟩
      · exact ⟨400, rfl, by decide, by decide⟩
      · exact ⟨400, rfl, by decide, by decide⟩
      · exact ⟨400, rfl, by decide, by decide⟩
      · exact ⟨4000, rfl, by decide, by decide⟩
    obtain ⟨most, rfl, hm1, hm4⟩ := hv'
    -- the source
    refine ⟨_, rfl, _, rfl, D, most, rfl, d3, hm1, fun H4 pp t ns k4 d4 hne hpp hsrc4 sok l1 l2 hcost => ?_⟩
    refine ⟨_, rfl, pp, _, 0, _, rfl, rfl, SqL.of hpp, rfl, ?_⟩
    refine ⟨_, rfl, D, rfl, d4, fun H5 m k5 d5 hm => ?_⟩
    obtain ⟨m2, m9⟩ := hm
    have m0 : 0 < m := by omega
    obtain ⟨y4, eD4⟩ := d4.lst
    have hsrc5 := hsrc4.to (k5.tpl eD4)
    have hpp5 := k5 _ _ hne hpp
    refine ⟨_, rfl, _, rfl, t, ns, m, rfl, hsrc5, sok, l1, l2, m2, m9, by omega, fun H6 p s6 hP okS => ?_⟩
    have d6 := d5.to s6
    have hsrc6 := hsrc5.to (tps_same s6)
    have hpp6 := s6 _ _ hpp5
    have hcl : (compile m ns (tk0 ns)).length = cost ns (ns.length - 1) := compile_len m0 sok ns.length (tk0 ns) (tk0_ok m2 l1) (by show ns.length - 1 < ns.length; omega)
    -- the form
    refine ⟨_, rfl, _, rfl, _, rfl, t, ns, rfl, hsrc6, _, rfl, pp, _, 1, _, rfl, rfl, SqL.of hpp6, rfl, p, m, needs ns, compile m ns (tk0 ns), by rw [hcl]; rfl, hP, by omega, _, rfl, iteF ?_⟩
    -- two turns
    refine ⟨2, rfl, by decide, by decide, for_range (n := 2) (fun i σ H' => ∃ v7 v8 v9 v10 v11, σ = [some (.ref a), some (.ref D.d), some (.int (most : Nat)), some (.ref pp), some (.ref t), some (.int m), some (.ref p), v7, v8, v9, v10, v11, none] ∧ Kp D.d H6 H' ∧ DrAt H' D)
      ⟨none, none, none, none, none, rfl, Kp.rfl, d6⟩ ?_ ?_⟩
    · rintro i σ H7 hi ⟨v7, v8, v9, v10, v11, rfl, k7, d7⟩
      obtain ⟨y6, eD6⟩ := d6.lst
      obtain ⟨y7, eD7⟩ := d7.lst
      have tq : ∀ {H' : Hp}, Kp D.d H6 H' → Tps H6 H' := fun k => k.tpl eD6
      have nq := needs_60 sok
      -- given
      refine ⟨_, rfl, t, ns, rfl, hsrc6.to (tq k7), _, rfl, by omega, by omega, fun G hG => ?_⟩
      have G6 : H6 G = none := k7.free hG eD7
      have nG := d7.new hG
      refine lc_range (lo := 0) (n := ((needs ns : Nat) : Int).toNat) (fun j H2 => ∃ gs : List Int, Kp D.d H6 H2 ∧ DrAt H2 D ∧ H2 G = some (.lst (gs.map V.int)) ∧ gs.length = j ∧ ∀ z ∈ gs, 0 ≤ z ∧ z < m)
        ⟨[], kp_set k7 G6, d6.set d7 G6, upd_same, rfl, fun z hz => by cases hz⟩ ?_ ?_
      · rintro j H2 hj ⟨gs, k2, d2, hg, lg, rg⟩
        refine ⟨rfl, ?_⟩
        refine ⟨_, rfl, _, rfl, D, m, rfl, m2, d2, fun H3 z k3' d3' z0 z1 => ⟨gs.map V.int, k3' _ _ nG hg, by rw [List.length_map]; exact small1000 (by omega), gs ++ [z], kp_set (k2.trans k3') G6, d6.set d3' G6, ?_, by rw [List.length_append, lg]; rfl, ?_⟩⟩
        · rw [upd_same, List.map_append]
          rfl
        · intro y hy
          rcases List.mem_append.mp hy with q | q
          · exact rg y q
          · rw [List.mem_singleton.mp q]
            exact ⟨z0, z1⟩
      rintro H8 ⟨gs, k8, d8, hg8, lg, rg⟩
      have hgl : gs.length = needs ns := by omega
      obtain ⟨y8, eD8⟩ := d8.lst
      -- memory
      refine ⟨3, rfl, by decide, by decide, fun M hM => ?_⟩
      have M6 : H6 M = none := k8.free hM eD8
      have nM := d8.new hM
      have nGM : G ≠ M := ne_of_none hg8 hM
      refine lc_range (lo := 0) (n := (3 : Int).toNat) (fun j H2 => ∃ xs : List Int, Kp D.d H6 H2 ∧ DrAt H2 D ∧ H2 G = some (.lst (gs.map V.int)) ∧ H2 M = some (.lst (xs.map V.int)) ∧ xs.length = j ∧ ∀ z ∈ xs, 0 ≤ z ∧ z < m)
        ⟨[], kp_set k8 M6, d6.set d8 M6, same_new hM _ _ hg8, upd_same, rfl, fun z hz => by cases hz⟩ ?_ ?_
      · rintro j H2 hj ⟨xs, k2, d2, hg, hx, lx, rx⟩
        refine ⟨rfl, ?_⟩
        refine ⟨_, rfl, _, rfl, D, m, rfl, m2, d2, fun H3 z k3' d3' z0 z1 => ⟨xs.map V.int, k3' _ _ nM hx, by rw [List.length_map]; exact small1000 (by omega), xs ++ [z], kp_set (k2.trans k3') M6, d6.set d3' M6, ?_, ?_, by rw [List.length_append, lx]; rfl, ?_⟩⟩
        · rw [upd_ne nGM]
          exact k3' _ _ nG hg
        · rw [upd_same, List.map_append]
          rfl
        · intro y hy
          rcases List.mem_append.mp hy with q | q
          · exact rx y q
          · rw [List.mem_singleton.mp q]
            exact ⟨z0, z1⟩
      rintro H9 ⟨xs, k9, d9, hg9, hx9, lx, rx⟩
      obtain ⟨x0, x1, x2, rfl⟩ : ∃ x0 x1 x2, xs = [x0, x1, x2] := by
        match xs, lx with
        | [x0, x1, x2], _ => exact ⟨x0, x1, x2, rfl⟩
      have hsrc9 := hsrc6.to (tq k9)
      -- value
      refine ⟨_, rfl, _, rfl, _, rfl, t, G, ns, m, gs, rfl, hsrc9, sok, l1, l2, m0, m9, hg9, hgl, fun Ha sa => ?_⟩
      have hxa := sa _ _ hx9
      -- due
      refine ⟨_, rfl, M, _, 0, _, rfl, rfl, SqL.of hxa, rfl, _, rfl, _, _, rfl, rfl, .inl ⟨_, rfl, _, rfl, _, _, rfl, rfl, m0, _, rfl, M, _, 1, _, rfl, rfl, SqL.of hxa, rfl, _, rfl, M, _, 2, _, rfl, rfl, SqL.of hxa, rfl, (by show 3 ≤ sizeLine; decide), fun du hdu => ?_⟩⟩
      have sb := same_new (o := .lst [V.int ((x0 + val m (gv gs) ns (ns.length - 1)) % m), .int x1, .int x2]) hdu
      have hPb := (hP.kpD d6 k9).to (sa.trans sb)
      obtain ⟨dx, lp, wp, hp1, hp2, hp3⟩ := id hPb.ex
      refine ⟨_, rfl, p, dx, _, rfl, hp1, pf_no _ _ _ _ (by decide +kernel) (by decide +kernel) (by decide +kernel) (by decide +kernel), _, rfl, M, _, rfl, .inl (SqL.of (sb _ _ hxa)), fun c1 hc1 => ?_⟩
      have sc := same_new (o := .lst ([x0, x1, x2].map V.int)) hc1
      refine ⟨_, rfl, G, _, rfl, .inl (SqL.of (sc _ _ (sb _ _ (sa _ _ hg9)))), fun c2 hc2 => ?_⟩
      have sd := same_new (o := .lst (gs.map V.int)) hc2
      refine ⟨p, c1, c2, m, needs ns, compile m ns (tk0 ns), gv [x0, x1, x2], gs, rfl, hPb.to (sc.trans sd), okS, m0, m9, sd _ _ upd_same, gv_rng m0 rx, upd_same, hgl, rg, fun He c se hc => ?_⟩
      rw [run_law m2 sok l1 _ rx] at hc
      refine ⟨_, rfl, c, du, [(x0 + val m (gv gs) ns (ns.length - 1)) % m, x1, x2], rfl, hc, se _ _ (sd _ _ (sc _ _ upd_same)), (by show 3 ≤ 1000; decide), _, rfl, iteF ?_⟩
      have sf := sa.trans (sb.trans (sc.trans (sd.trans se)))
      exact ⟨_, _, _, _, _, rfl, k9.trans (kp_same sf), d9.to sf⟩
    · rintro σ H' ⟨v7, v8, v9, v10, v11, rfl, k7, d7⟩
      exact k H'
end
end Brim
/-! ## H0 -/
namespace Brim
open PySem PySem.Spec PyProof.Rows L2
/-! ### the head: facts by names, the run -/
def dIsInteger : He.DefD := ⟨("is_integer", none), "is_integer", "is_integer", defArgs sIsInteger, defBody sIsInteger, defScope sIsInteger, [], []⟩
def dIsNumber : He.DefD := ⟨("is_number", none), "is_number", "is_number", defArgs sIsNumber, defBody sIsNumber, defScope sIsNumber, [], []⟩
def dIsFactor : He.DefD := ⟨("is_factor", none), "is_factor", "is_factor", defArgs sIsFactor, defBody sIsFactor, defScope sIsFactor, [], []⟩
def dIsAdd : He.DefD := ⟨("is_add", none), "is_add", "is_add", defArgs sIsAdd, defBody sIsAdd, defScope sIsAdd, [], []⟩
def dIsStep : He.DefD := ⟨("is_step", none), "is_step", "is_step", defArgs sIsStep, defBody sIsStep, defScope sIsStep, [], []⟩
def dPerform : He.DefD := ⟨("perform", none), "perform", "perform", defArgs sPerform, defBody sPerform, defScope sPerform, [], []⟩
def dCheckSteps : He.DefD := ⟨("check_steps", none), "check_steps", "check_steps", defArgs sCheckSteps, defBody sCheckSteps, defScope sCheckSteps, [], []⟩
def dCheckNumbers : He.DefD := ⟨("check_numbers", none), "check_numbers", "check_numbers", defArgs sCheckNumbers, defBody sCheckNumbers, defScope sCheckNumbers, [], []⟩
def dPInit : He.DefD := ⟨("Program", some "__init__"), "__init__", "Program.__init__", defArgs sPInit, defBody sPInit, defScope sPInit, [], []⟩
def dPLen : He.DefD := ⟨("Program", some "__len__"), "__len__", "Program.__len__", defArgs sPLen, defBody sPLen, defScope sPLen, [], []⟩
def dPRun : He.DefD := ⟨("Program", some "run"), "run", "Program.run", defArgs sPRun, defBody sPRun, defScope sPRun, [], []⟩
def dIsNode : He.DefD := ⟨("is_node", none), "is_node", "is_node", defArgs sIsNode, defBody sIsNode, defScope sIsNode, [], []⟩
def dCheckSource : He.DefD := ⟨("check_source", none), "check_source", "check_source", defArgs sCheckSource, defBody sCheckSource, defScope sCheckSource, [], []⟩
def dNeeds : He.DefD := ⟨("needs", none), "needs", "needs", defArgs sNeeds, defBody sNeeds, defScope sNeeds, [], []⟩
def dCost : He.DefD := ⟨("cost", none), "cost", "cost", defArgs sCost, defBody sCost, defScope sCost, [], []⟩
def dLeafStep : He.DefD := ⟨("leaf_step", none), "leaf_step", "leaf_step", defArgs sLeafStep, defBody sLeafStep, defScope sLeafStep, [], []⟩
def dProductTasks : He.DefD := ⟨("product_tasks", none), "product_tasks", "product_tasks", defArgs sProductTasks, defBody sProductTasks, defScope sProductTasks, [], []⟩
def dInnerTasks : He.DefD := ⟨("inner_tasks", none), "inner_tasks", "inner_tasks", defArgs sInnerTasks, defBody sInnerTasks, defScope sInnerTasks, [], []⟩
def dCompileSource : He.DefD := ⟨("compile_source", none), "compile_source", "compile_source", defArgs sCompileSource, defBody sCompileSource, defScope sCompileSource, [], []⟩
def dLawMixed : He.DefD := ⟨("_law_mixed", none), "_law_mixed", "_law_mixed", defArgs sLawMixed, defBody sLawMixed, defScope sLawMixed, [], []⟩
def dLawNumbers : He.DefD := ⟨("_law_numbers", none), "_law_numbers", "_law_numbers", defArgs sLawNumbers, defBody sLawNumbers, defScope sLawNumbers, [], []⟩
def dLawDraw : He.DefD := ⟨("_law_draw", none), "_law_draw", "_law_draw", defArgs sLawDraw, defBody sLawDraw, defScope sLawDraw, [], []⟩
def dLawEqual : He.DefD := ⟨("_law_equal", none), "_law_equal", "_law_equal", defArgs sLawEqual, defBody sLawEqual, defScope sLawEqual, [], []⟩
def dLawAllEqual : He.DefD := ⟨("_law_all_equal", none), "_law_all_equal", "_law_all_equal", defArgs sLawAllEqual, defBody sLawAllEqual, defScope sLawAllEqual, [], []⟩
def dLawLarge : He.DefD := ⟨("_law_large", none), "_law_large", "_law_large", defArgs sLawLarge, defBody sLawLarge, defScope sLawLarge, [], []⟩
def dLawModulus : He.DefD := ⟨("_law_modulus", none), "_law_modulus", "_law_modulus", defArgs sLawModulus, defBody sLawModulus, defScope sLawModulus, [], []⟩
def dLawNumber : He.DefD := ⟨("_law_number", none), "_law_number", "_law_number", defArgs sLawNumber, defBody sLawNumber, defScope sLawNumber, [], []⟩
def dLawConstant : He.DefD := ⟨("_law_constant", none), "_law_constant", "_law_constant", defArgs sLawConstant, defBody sLawConstant, defScope sLawConstant, [], []⟩
def dLawLeaf : He.DefD := ⟨("_law_leaf", none), "_law_leaf", "_law_leaf", defArgs sLawLeaf, defBody sLawLeaf, defScope sLawLeaf, [], []⟩
def dLawNode : He.DefD := ⟨("_law_node", none), "_law_node", "_law_node", defArgs sLawNode, defBody sLawNode, defScope sLawNode, [], []⟩
def dLawSource : He.DefD := ⟨("_law_source", none), "_law_source", "_law_source", defArgs sLawSource, defBody sLawSource, defScope sLawSource, [], []⟩
def dLawNeeds : He.DefD := ⟨("_law_needs", none), "_law_needs", "_law_needs", defArgs sLawNeeds, defBody sLawNeeds, defScope sLawNeeds, [], []⟩
def dLawValues : He.DefD := ⟨("_law_values", none), "_law_values", "_law_values", defArgs sLawValues, defBody sLawValues, defScope sLawValues, [], []⟩
def dLawMeaning : He.DefD := ⟨("_law_meaning", none), "_law_meaning", "_law_meaning", defArgs sLawMeaning, defBody sLawMeaning, defScope sLawMeaning, [], []⟩
def dLawForm : He.DefD := ⟨("_law_form", none), "_law_form", "_law_form", defArgs sLawForm, defBody sLawForm, defScope sLawForm, [], []⟩
def dLaw : He.DefD := ⟨("law", none), "law", "law", defArgs sLaw, defBody sLaw, defScope sLaw, [], []⟩
def fn : List He.DefD := [dIsInteger, dIsNumber, dIsFactor, dIsAdd, dIsStep, dPerform, dCheckSteps, dCheckNumbers, dPInit, dPLen, dPRun, dIsNode, dCheckSource, dNeeds, dCost, dLeafStep, dProductTasks, dInnerTasks, dCompileSource, dLawMixed, dLawNumbers, dLawDraw, dLawEqual, dLawAllEqual, dLawLarge, dLawModulus, dLawNumber, dLawConstant, dLawLeaf, dLawNode, dLawSource, dLawNeeds, dLawValues, dLawMeaning, dLawForm, dLaw]
def names0 : List PySem.Str := ["_wall", "BrimfulError", "BadStep", "BadMemory", "BadSource", "TooLong", "is_integer", "is_number", "is_prime", "inverse_of", "weights", "interpolate"]
def names1 : List PySem.Str := ["FACTORS", "is_factor", "is_table", "is_add", "is_look", "is_step", "inverse_step", "perform", "check_steps", "MODULUS", "CELLS", "INPUTS_programs"]
def names2 : List PySem.Str := ["STEPS", "check_numbers", "Program", "NODES", "CONSTANT", "INPUTS_sources", "LENGTHS", "is_node", "check_source", "needs", "cost", "MOST"]
def names3 : List PySem.Str := ["leaf_step", "product_tasks", "inner_tasks", "compile_source", "_law_mixed", "_law_numbers", "_law_draw", "_law_equal", "_law_all_equal", "_law_large", "_law_modulus", "_law_number"]
def names4 : List PySem.Str := ["_law_constant", "_law_leaf", "_law_node", "_law_source", "_law_needs", "_law_values", "_law_meaning", "_law_form"]
def names : List PySem.Str := names0 ++ (names1 ++ (names2 ++ (names3 ++ (names4))))
def fa : List He.Fa := [.free "isinstance", .free "int", .free "bool", .free "tuple", .free "len", .free "str", .free "list", .free "range", .free "max", .free "min", .free "enumerate",
  .int "FACTORS" 3, .int "MODULUS" 1000000000, .int "CELLS" 60, .int "INPUTS_programs" 60, .int "STEPS" 20000, .int "NODES" 200, .int "CONSTANT" 1000000000, .int "INPUTS_sources" 60, .int "MOST" 20000,
  .glo "LENGTHS", .glo "Program", .cls "Program", .noat "Program" "modulus", .noat "Program" "cells", .noat "Program" "inputs", .noat "Program" "steps", .meth "Program" "run", .meth "Program" "__len__", .mkr "Program",
  .glo "is_integer", .glo "is_number", .glo "is_factor", .glo "is_add", .glo "is_step", .glo "perform", .glo "check_steps", .glo "check_numbers", .glo "is_node", .glo "check_source", .glo "needs", .glo "cost", .glo "leaf_step", .glo "product_tasks", .glo "inner_tasks", .glo "compile_source"]
def fb : List He.Fa := [.glo "_law_mixed", .glo "_law_numbers", .glo "_law_draw", .glo "_law_equal", .glo "_law_all_equal", .glo "_law_large", .glo "_law_modulus", .glo "_law_number", .glo "_law_constant", .glo "_law_leaf", .glo "_law_node", .glo "_law_source", .glo "_law_needs", .glo "_law_values", .glo "_law_meaning", .glo "_law_form", .glo "law"]
def kvL : List (Str × He.Dv) := [("const", .int 2), ("input", .int 2), ("sum", .int 3), ("product", .int 3), ("scaled", .int 3), ("choose", .int 4)]
def tsL : List He.Tab := [(fun K => He.ga K "LENGTHS", ["const", "input", "sum", "product", "scaled", "choose"])]
abbrev AlB : Type := He.AlT × Bool
def obsB (K : PySem.W.Frag) : AlB := (He.obsT (fa ++ fb) fn tsL K, He.valsB K (He.ga K "LENGTHS") kvL)
def valB (w : World) : AlB := (He.valT fn tsL w, true)
def obsBG (g : Addr → Option Obj) : AlB := obsB (He.frG g (He.asD g 6))
def SaysB (w : World) (K : PySem.W.Frag) : Prop := obsB K = valB w
def hkB : PySem.W.Hook where
  α := AlB
  obs := fun s => obsBG s.heap.get?
  val := fun w => valB w
  says := fun w h => ∃ K : PySem.W.Frag, K.In h ∧ SaysB w K
  of := fun _ _ e => ⟨_, He.frG_in, e⟩
  keeps := fun _ _ _ ⟨K, hK, c⟩ k => ⟨K, PySem.W.Frag.In.keeps hK k, c⟩
abbrev R : PySem.W.OpenRow := PySem.W.OpenLaw.row PySem.Challenge.rw_brimful_k16_whole_sources_in_full_memory
abbrev qv : Program := PySem.W.view R.prog [63]
def ob (s : PySem.W.SharedT) : AlB := obsBG (HandSHeadRun.getT s)
theorem ob_eq (s : PySem.W.SharedT) : ob s = hkB.obs s.abs := by
  have e : HandSHeadRun.getT s = s.abs.heap.get? := funext (HandSHeadRun.getT_eq s)
  show obsBG (HandSHeadRun.getT s) = obsBG s.abs.heap.get?
  rw [e]
end Brim
/-! ## Hr -/
namespace Brim
open PySem PySem.Spec PyProof.Rows L2
set_option maxHeartbeats 0 in
theorem run_f (w : World) : HandSHeadRun.RunEq R qv hkB ob 4000 names (w.withFollow "special-get-raises" false) := by
  intro os
  kernel_rfl
set_option maxHeartbeats 0 in
theorem run_t (w : World) : HandSHeadRun.RunEq R qv hkB ob 4000 names (w.withFollow "special-get-raises" true) := by
  intro os
  kernel_rfl
theorem run (w : World) : HandSHeadRun.RunEq R qv hkB ob 4000 names w := PySem.W.byRow2 "special-get-raises" (P := fun w => HandSHeadRun.RunEq R qv hkB ob 4000 names w) run_f run_t w
end Brim
/-! ## End -/
namespace Brim
open PySem PySem.Spec PyProof.Rows L2
theorem fun_of {K : PySem.W.Frag} {x qual : Str} {st : Stmt} {f : Addr} {fd : FuncData} (F : FunD K x qual (defArgs st) (defBody st) (defScope st) [] [] f fd) : Fun K x qual st f fd := by
  obtain ⟨oc, od, dV, kV, doc, pm, an, cdv, ct, osl, e, lk, hc, hD, _⟩ := F.ex
  rcases hD with ⟨_, rfl⟩ | ⟨z, _⟩
  · exact ⟨⟨oc, od, kV, doc, pm, an, cdv, ct, osl, e, lk, hc⟩, F.kp⟩
  · exact absurd rfl z
theorem df_of {K : PySem.W.Frag} {mg : Str → Option Value} {x : Str} {st : Stmt} {ps : List Str} {f : Addr} {fd : FuncData} (F : FunD K x x (defArgs st) (defBody st) (defScope st) [] [] f fd) (m : mg x = some (.ref f))
    (h : ∀ (kV doc pm : Value) (an : Option Addr) (cdv ct : Value) (us : List Value), us.length = ps.length → bindArgs (PySem.W.fnOf x x (defArgs st) (defBody st) (defScope st) .none kV doc pm an cdv ct) ⟨us, []⟩ = pure (ps.zip us)) : Df K mg x st ps :=
  ⟨f, fd, fun_of F, m, (fun_of F).binds h⟩
theorem facts {P : Program} {w : World} {K : PySem.W.Frag} {h : Heap} {mg : Str → Option Value} {f : Addr} (X : K.In h) (G : h.Ns mainGlobals mg) (hfa : mg ("law" : Str) = some (.ref f)) (cc : SaysB w K) :
    ∃ fd : FuncData, (∀ (s : Shared) (v : Value), BindsTo s fd ⟨[v], []⟩ [("_law_script", v)]) ∧ ∀ base : Heap, K.In base → base.Ns mainGlobals mg → FnOk P w K mg base CX0 10 f fd ["_law_script"] (spLaw K) := by
  have c : He.SaysT (fa ++ fb) fn tsL w K := congrArg Prod.fst cc
  have cv : He.valsB K (He.ga K "LENGTHS") kvL = true := congrArg Prod.snd cc
  obtain ⟨fdIsInteger, FIsInteger⟩ := c.d.def_ 0 (d := dIsInteger) rfl
  have DIsInteger : Df K mg "is_integer" sIsInteger ["value"] := df_of FIsInteger (He.glo_ok X G (c.d.fact 30 (f := .glo "is_integer") rfl)) (fun _ _ _ _ _ _ us hl => match us, hl with | [_], _ => rfl)
  obtain ⟨fdIsNumber, FIsNumber⟩ := c.d.def_ 1 (d := dIsNumber) rfl
  have DIsNumber : Df K mg "is_number" sIsNumber ["value", "modulus"] := df_of FIsNumber (He.glo_ok X G (c.d.fact 31 (f := .glo "is_number") rfl)) (fun _ _ _ _ _ _ us hl => match us, hl with | [_, _], _ => rfl)
  obtain ⟨fdIsFactor, FIsFactor⟩ := c.d.def_ 2 (d := dIsFactor) rfl
  have DIsFactor : Df K mg "is_factor" sIsFactor ["factor", "target", "cells", "inputs"] := df_of FIsFactor (He.glo_ok X G (c.d.fact 32 (f := .glo "is_factor") rfl)) (fun _ _ _ _ _ _ us hl => match us, hl with | [_, _, _, _], _ => rfl)
  obtain ⟨fdIsAdd, FIsAdd⟩ := c.d.def_ 3 (d := dIsAdd) rfl
  have DIsAdd : Df K mg "is_add" sIsAdd ["step", "modulus", "cells", "inputs"] := df_of FIsAdd (He.glo_ok X G (c.d.fact 33 (f := .glo "is_add") rfl)) (fun _ _ _ _ _ _ us hl => match us, hl with | [_, _, _, _], _ => rfl)
  obtain ⟨fdIsStep, FIsStep⟩ := c.d.def_ 4 (d := dIsStep) rfl
  have DIsStep : Df K mg "is_step" sIsStep ["step", "modulus", "cells", "inputs"] := df_of FIsStep (He.glo_ok X G (c.d.fact 34 (f := .glo "is_step") rfl)) (fun _ _ _ _ _ _ us hl => match us, hl with | [_, _, _, _], _ => rfl)
  obtain ⟨fdPerform, FPerform⟩ := c.d.def_ 5 (d := dPerform) rfl
  have DPerform : Df K mg "perform" sPerform ["step", "memory", "given", "modulus"] := df_of FPerform (He.glo_ok X G (c.d.fact 35 (f := .glo "perform") rfl)) (fun _ _ _ _ _ _ us hl => match us, hl with | [_, _, _, _], _ => rfl)
  obtain ⟨fdCheckSteps, FCheckSteps⟩ := c.d.def_ 6 (d := dCheckSteps) rfl
  have DCheckSteps : Df K mg "check_steps" sCheckSteps ["steps", "modulus", "cells", "inputs", "most"] := df_of FCheckSteps (He.glo_ok X G (c.d.fact 36 (f := .glo "check_steps") rfl)) (fun _ _ _ _ _ _ us hl => match us, hl with | [_, _, _, _, _], _ => rfl)
  obtain ⟨fdCheckNumbers, FCheckNumbers⟩ := c.d.def_ 7 (d := dCheckNumbers) rfl
  have DCheckNumbers : Df K mg "check_numbers" sCheckNumbers ["values", "many", "modulus"] := df_of FCheckNumbers (He.glo_ok X G (c.d.fact 37 (f := .glo "check_numbers") rfl)) (fun _ _ _ _ _ _ us hl => match us, hl with | [_, _, _], _ => rfl)
  obtain ⟨fdPInit, FPInit⟩ := c.d.def_ 8 (d := dPInit) rfl
  obtain ⟨fdPLen, FPLen⟩ := c.d.def_ 9 (d := dPLen) rfl
  obtain ⟨fdPRun, FPRun⟩ := c.d.def_ 10 (d := dPRun) rfl
  obtain ⟨fdIsNode, FIsNode⟩ := c.d.def_ 11 (d := dIsNode) rfl
  have DIsNode : Df K mg "is_node" sIsNode ["node", "at"] := df_of FIsNode (He.glo_ok X G (c.d.fact 38 (f := .glo "is_node") rfl)) (fun _ _ _ _ _ _ us hl => match us, hl with | [_, _], _ => rfl)
  obtain ⟨fdCheckSource, FCheckSource⟩ := c.d.def_ 12 (d := dCheckSource) rfl
  have DCheckSource : Df K mg "check_source" sCheckSource ["source"] := df_of FCheckSource (He.glo_ok X G (c.d.fact 39 (f := .glo "check_source") rfl)) (fun _ _ _ _ _ _ us hl => match us, hl with | [_], _ => rfl)
  obtain ⟨fdNeeds, FNeeds⟩ := c.d.def_ 13 (d := dNeeds) rfl
  have DNeeds : Df K mg "needs" sNeeds ["source"] := df_of FNeeds (He.glo_ok X G (c.d.fact 40 (f := .glo "needs") rfl)) (fun _ _ _ _ _ _ us hl => match us, hl with | [_], _ => rfl)
  obtain ⟨fdCost, FCost⟩ := c.d.def_ 14 (d := dCost) rfl
  have DCost : Df K mg "cost" sCost ["source"] := df_of FCost (He.glo_ok X G (c.d.fact 41 (f := .glo "cost") rfl)) (fun _ _ _ _ _ _ us hl => match us, hl with | [_], _ => rfl)
  obtain ⟨fdLeafStep, FLeafStep⟩ := c.d.def_ 15 (d := dLeafStep) rfl
  have DLeafStep : Df K mg "leaf_step" sLeafStep ["node", "task", "modulus"] := df_of FLeafStep (He.glo_ok X G (c.d.fact 42 (f := .glo "leaf_step") rfl)) (fun _ _ _ _ _ _ us hl => match us, hl with | [_, _, _], _ => rfl)
  obtain ⟨fdProductTasks, FProductTasks⟩ := c.d.def_ 16 (d := dProductTasks) rfl
  have DProductTasks : Df K mg "product_tasks" sProductTasks ["first", "second", "task", "modulus"] := df_of FProductTasks (He.glo_ok X G (c.d.fact 43 (f := .glo "product_tasks") rfl)) (fun _ _ _ _ _ _ us hl => match us, hl with | [_, _, _, _], _ => rfl)
  obtain ⟨fdInnerTasks, FInnerTasks⟩ := c.d.def_ 17 (d := dInnerTasks) rfl
  have DInnerTasks : Df K mg "inner_tasks" sInnerTasks ["node", "task", "modulus"] := df_of FInnerTasks (He.glo_ok X G (c.d.fact 44 (f := .glo "inner_tasks") rfl)) (fun _ _ _ _ _ _ us hl => match us, hl with | [_, _, _], _ => rfl)
  obtain ⟨fdCompileSource, FCompileSource⟩ := c.d.def_ 18 (d := dCompileSource) rfl
  have DCompileSource : Df K mg "compile_source" sCompileSource ["source", "modulus"] := df_of FCompileSource (He.glo_ok X G (c.d.fact 45 (f := .glo "compile_source") rfl)) (fun _ _ _ _ _ _ us hl => match us, hl with | [_, _], _ => rfl)
  obtain ⟨fdLawMixed, FLawMixed⟩ := c.d.def_ 19 (d := dLawMixed) rfl
  have DLawMixed : Df K mg "_law_mixed" sLawMixed ["_law_number_here", "_law_k"] := df_of FLawMixed (He.glo_ok X G (c.d.fact 46 (f := .glo "_law_mixed") rfl)) (fun _ _ _ _ _ _ us hl => match us, hl with | [_, _], _ => rfl)
  obtain ⟨fdLawNumbers, FLawNumbers⟩ := c.d.def_ 20 (d := dLawNumbers) rfl
  have DLawNumbers : Df K mg "_law_numbers" sLawNumbers ["_law_script"] := df_of FLawNumbers (He.glo_ok X G (c.d.fact 47 (f := .glo "_law_numbers") rfl)) (fun _ _ _ _ _ _ us hl => match us, hl with | [_], _ => rfl)
  obtain ⟨fdLawDraw, FLawDraw⟩ := c.d.def_ 21 (d := dLawDraw) rfl
  have DLawDraw : Df K mg "_law_draw" sLawDraw ["_law_draws"] := df_of FLawDraw (He.glo_ok X G (c.d.fact 48 (f := .glo "_law_draw") rfl)) (fun _ _ _ _ _ _ us hl => match us, hl with | [_], _ => rfl)
  obtain ⟨fdLawEqual, FLawEqual⟩ := c.d.def_ 22 (d := dLawEqual) rfl
  have DLawEqual : Df K mg "_law_equal" sLawEqual ["_law_actual", "_law_due"] := df_of FLawEqual (He.glo_ok X G (c.d.fact 49 (f := .glo "_law_equal") rfl)) (fun _ _ _ _ _ _ us hl => match us, hl with | [_, _], _ => rfl)
  obtain ⟨fdLawAllEqual, FLawAllEqual⟩ := c.d.def_ 23 (d := dLawAllEqual) rfl
  have DLawAllEqual : Df K mg "_law_all_equal" sLawAllEqual ["_law_actual", "_law_due"] := df_of FLawAllEqual (He.glo_ok X G (c.d.fact 50 (f := .glo "_law_all_equal") rfl)) (fun _ _ _ _ _ _ us hl => match us, hl with | [_, _], _ => rfl)
  obtain ⟨fdLawLarge, FLawLarge⟩ := c.d.def_ 24 (d := dLawLarge) rfl
  have DLawLarge : Df K mg "_law_large" sLawLarge ["_law_draws", "_law_bound"] := df_of FLawLarge (He.glo_ok X G (c.d.fact 51 (f := .glo "_law_large") rfl)) (fun _ _ _ _ _ _ us hl => match us, hl with | [_, _], _ => rfl)
  obtain ⟨fdLawModulus, FLawModulus⟩ := c.d.def_ 25 (d := dLawModulus) rfl
  have DLawModulus : Df K mg "_law_modulus" sLawModulus ["_law_draws"] := df_of FLawModulus (He.glo_ok X G (c.d.fact 52 (f := .glo "_law_modulus") rfl)) (fun _ _ _ _ _ _ us hl => match us, hl with | [_], _ => rfl)
  obtain ⟨fdLawNumber, FLawNumber⟩ := c.d.def_ 26 (d := dLawNumber) rfl
  have DLawNumber : Df K mg "_law_number" sLawNumber ["_law_draws", "_law_modulus_here"] := df_of FLawNumber (He.glo_ok X G (c.d.fact 53 (f := .glo "_law_number") rfl)) (fun _ _ _ _ _ _ us hl => match us, hl with | [_, _], _ => rfl)
  obtain ⟨fdLawConstant, FLawConstant⟩ := c.d.def_ 27 (d := dLawConstant) rfl
  have DLawConstant : Df K mg "_law_constant" sLawConstant ["_law_draws"] := df_of FLawConstant (He.glo_ok X G (c.d.fact 54 (f := .glo "_law_constant") rfl)) (fun _ _ _ _ _ _ us hl => match us, hl with | [_], _ => rfl)
  obtain ⟨fdLawLeaf, FLawLeaf⟩ := c.d.def_ 28 (d := dLawLeaf) rfl
  have DLawLeaf : Df K mg "_law_leaf" sLawLeaf ["_law_draws"] := df_of FLawLeaf (He.glo_ok X G (c.d.fact 55 (f := .glo "_law_leaf") rfl)) (fun _ _ _ _ _ _ us hl => match us, hl with | [_], _ => rfl)
  obtain ⟨fdLawNode, FLawNode⟩ := c.d.def_ 29 (d := dLawNode) rfl
  have DLawNode : Df K mg "_law_node" sLawNode ["_law_draws", "_law_costs", "_law_most"] := df_of FLawNode (He.glo_ok X G (c.d.fact 56 (f := .glo "_law_node") rfl)) (fun _ _ _ _ _ _ us hl => match us, hl with | [_, _, _], _ => rfl)
  obtain ⟨fdLawSource, FLawSource⟩ := c.d.def_ 30 (d := dLawSource) rfl
  have DLawSource : Df K mg "_law_source" sLawSource ["_law_draws", "_law_most"] := df_of FLawSource (He.glo_ok X G (c.d.fact 57 (f := .glo "_law_source") rfl)) (fun _ _ _ _ _ _ us hl => match us, hl with | [_, _], _ => rfl)
  obtain ⟨fdLawNeeds, FLawNeeds⟩ := c.d.def_ 31 (d := dLawNeeds) rfl
  have DLawNeeds : Df K mg "_law_needs" sLawNeeds ["_law_source_here"] := df_of FLawNeeds (He.glo_ok X G (c.d.fact 58 (f := .glo "_law_needs") rfl)) (fun _ _ _ _ _ _ us hl => match us, hl with | [_], _ => rfl)
  obtain ⟨fdLawValues, FLawValues⟩ := c.d.def_ 32 (d := dLawValues) rfl
  have DLawValues : Df K mg "_law_values" sLawValues ["_law_source_here", "_law_modulus_here", "_law_given"] := df_of FLawValues (He.glo_ok X G (c.d.fact 59 (f := .glo "_law_values") rfl)) (fun _ _ _ _ _ _ us hl => match us, hl with | [_, _, _], _ => rfl)
  obtain ⟨fdLawMeaning, FLawMeaning⟩ := c.d.def_ 33 (d := dLawMeaning) rfl
  have DLawMeaning : Df K mg "_law_meaning" sLawMeaning ["_law_source_here", "_law_modulus_here", "_law_given"] := df_of FLawMeaning (He.glo_ok X G (c.d.fact 60 (f := .glo "_law_meaning") rfl)) (fun _ _ _ _ _ _ us hl => match us, hl with | [_, _, _], _ => rfl)
  obtain ⟨fdLawForm, FLawForm⟩ := c.d.def_ 34 (d := dLawForm) rfl
  have DLawForm : Df K mg "_law_form" sLawForm ["_law_program", "_law_modulus_here", "_law_many", "_law_price"] := df_of FLawForm (He.glo_ok X G (c.d.fact 61 (f := .glo "_law_form") rfl)) (fun _ _ _ _ _ _ us hl => match us, hl with | [_, _, _, _], _ => rfl)
  obtain ⟨fdLaw, FLaw⟩ := c.d.def_ 35 (d := dLaw) rfl
  have T : Tx w K mg (He.ga K "Program") (He.ga K "LENGTHS") := {
    isinst := He.free_ok X G (c.d.fact 0 (f := .free "isinstance") rfl)
    int := He.free_ok X G (c.d.fact 1 (f := .free "int") rfl)
    bool := He.free_ok X G (c.d.fact 2 (f := .free "bool") rfl)
    tuple := He.free_ok X G (c.d.fact 3 (f := .free "tuple") rfl)
    len := He.free_ok X G (c.d.fact 4 (f := .free "len") rfl)
    str := He.free_ok X G (c.d.fact 5 (f := .free "str") rfl)
    list := He.free_ok X G (c.d.fact 6 (f := .free "list") rfl)
    range := He.free_ok X G (c.d.fact 7 (f := .free "range") rfl)
    max := He.free_ok X G (c.d.fact 8 (f := .free "max") rfl)
    min := He.free_ok X G (c.d.fact 9 (f := .free "min") rfl)
    enumerate := He.free_ok X G (c.d.fact 10 (f := .free "enumerate") rfl)
    factors := He.int_ok X G (c.d.fact 11 (f := .int "FACTORS" 3) rfl)
    modulus := He.int_ok X G (c.d.fact 12 (f := .int "MODULUS" 1000000000) rfl)
    cells := He.int_ok X G (c.d.fact 13 (f := .int "CELLS" 60) rfl)
    inputsP := He.int_ok X G (c.d.fact 14 (f := .int "INPUTS_programs" 60) rfl)
    steps := He.int_ok X G (c.d.fact 15 (f := .int "STEPS" 20000) rfl)
    nodes := He.int_ok X G (c.d.fact 16 (f := .int "NODES" 200) rfl)
    constant := He.int_ok X G (c.d.fact 17 (f := .int "CONSTANT" 1000000000) rfl)
    inputsS := He.int_ok X G (c.d.fact 18 (f := .int "INPUTS_sources" 60) rfl)
    most := He.int_ok X G (c.d.fact 19 (f := .int "MOST" 20000) rfl)
    lengths := He.glo_ok X G (c.d.fact 20 (f := .glo "LENGTHS") rfl)
    lenD := c.tab 0 (t := (fun K => He.ga K "LENGTHS", ["const", "input", "sum", "product", "scaled", "choose"])) rfl
    lenV := fun q hq => by
      have hk : ∀ (z : Str) (i : Int), (z, He.Dv.int i) ∈ kvL → ∃ u, PySem.W.nsIn K (He.ga K "LENGTHS") z = some (some u) ∧ RelV (.int i) u := fun z i hz => He.valsB_ok cv hz
      simp only [List.mem_cons, List.not_mem_nil, or_false] at hq
      rcases hq with rfl | rfl | rfl | rfl | rfl | rfl
      · exact hk "const" 2 (by simp [kvL])
      · exact hk "input" 2 (by simp [kvL])
      · exact hk "sum" 3 (by simp [kvL])
      · exact hk "product" 3 (by simp [kvL])
      · exact hk "scaled" 3 (by simp [kvL])
      · exact hk "choose" 4 (by simp [kvL])
    program := He.glo_ok X G (c.d.fact 21 (f := .glo "Program") rfl)
    cl := He.cls_ok (c.d.fact 22 (f := .cls "Program") rfl)
    nM := He.noat_ok (c.d.fact 23 (f := .noat "Program" "modulus") rfl)
    nC := He.noat_ok (c.d.fact 24 (f := .noat "Program" "cells") rfl)
    nI := He.noat_ok (c.d.fact 25 (f := .noat "Program" "inputs") rfl)
    nS := He.noat_ok (c.d.fact 26 (f := .noat "Program" "steps") rfl) }
  have mR : Meth K (He.ga K "Program") "run" (He.ma K (He.ga K "Program") "run") := He.meth_ok (c.d.fact 27 (f := .meth "Program" "run") rfl)
  have mL : Meth K (He.ga K "Program") "__len__" (He.ma K (He.ga K "Program") "__len__") := He.meth_ok (c.d.fact 28 (f := .meth "Program" "__len__") rfl)
  have mI : Mk K (He.ga K "Program") (He.ma K (He.ga K "Program") "__init__") := He.mkr_ok (c.d.fact 29 (f := .mkr "Program") rfl)
  have eL := hfa.symm.trans (He.glo_ok X G (c.d.fact 62 (f := .glo "law") rfl))
  cases eL
  have FI := fun_of (st := sPInit) FPInit
  have FL := fun_of (st := sPLen) FPLen
  have FR := fun_of (st := sPRun) FPRun
  have FW := fun_of (st := sLaw) FLaw
  have bI := FI.binds (ps := ["self", "modulus", "cells", "inputs", "steps"]) (fun _ _ _ _ _ _ us hl => match us, hl with | [_, _, _, _, _], _ => rfl)
  have bL := FL.binds (ps := ["self"]) (fun _ _ _ _ _ _ us hl => match us, hl with | [_], _ => rfl)
  have bR := FR.binds (ps := ["self", "memory", "given"]) (fun _ _ _ _ _ _ us hl => match us, hl with | [_, _, _], _ => rfl)
  refine ⟨fdLaw, fun s v => FunD.bindsA (ps := ["_law_script"]) FLaw (fun _ _ _ _ _ _ us hl => match us, hl with | [_], _ => rfl) s [v] rfl, fun base _ _ => ?_⟩
  have c1 := ok_is_integer (P := P) (base := base) T DIsInteger
  have c2 := ok_is_number T DIsNumber c1
  have c3 := ok_is_factor T DIsFactor c2
  have c4 := ok_is_add T DIsAdd c2 c3
  have c5 := ok_is_step T DIsStep c4
  have c6 := ok_check_steps T DCheckSteps c5
  have c7 := ok_check_numbers T DCheckNumbers c2
  have g1 := ok_p_init T FI c1 c6
  have g2 := ok_p_len (P := P) (base := base) T FL
  have c8 := ok_perform (P := P) (base := base) T DPerform
  have g3 := ok_p_run T FR c7 c8
  have c9 := ok_is_node T DIsNode c2
  have c10 := ok_check_source T DCheckSource c9
  have c11 := ok_needs T DNeeds c10
  have c12 := ok_cost T DCost c10
  have c13 := ok_leaf_step (P := P) (base := base) T DLeafStep
  have c14 := ok_product_tasks (P := P) (base := base) T DProductTasks
  have c15 := ok_inner_tasks T DInnerTasks c14
  have c16 := ok_compile_source T DCompileSource mI g1 bI c12 c11 c13 c15
  have d1 := ok_law_mixed (P := P) (w := w) (base := base) DLawMixed
  have d2 := ok_law_numbers T DLawNumbers d1
  have d3 := ok_law_draw T DLawDraw d1
  have d4 := ok_law_large DLawLarge d3
  have d5 := ok_law_modulus DLawModulus d3 d4
  have d6 := ok_law_number DLawNumber d3 d4
  have d7 := ok_law_constant DLawConstant d3 d4
  have d8 := ok_law_leaf DLawLeaf d3 d7
  have d9 := ok_law_node T DLawNode d3 d7 d8
  have d10 := ok_law_source T DLawSource d3 d9
  have d11 := ok_law_needs (P := P) (base := base) T DLawNeeds
  have d12 := ok_law_values (P := P) (base := base) T DLawValues
  have d13 := ok_law_meaning T DLawMeaning d12
  have d14 := ok_law_equal_int (P := P) (base := base) T DLawEqual
  have d15 := ok_law_all_equal T DLawAllEqual d14
  have d16 := ok_law_equal_list T DLawEqual d15
  have d17 := ok_law_form T DLawForm d14 mL g2 bL
  exact ok_law T FW mR g3 bR d2 d3 d10 d5 c16 d17 d11 d6 d13 d16
end Brim
open PySem PySem.W PySem.Calls PyProof.Rows
set_option maxRecDepth 100000 in
set_option maxHeartbeats 0 in
theorem PySem.Challenge.cw_brimful_k16_whole_sources_in_full_memory_holds : PySem.Challenge.rw_brimful_k16_whole_sources_in_full_memory.Holds := by
  w_on; o_law
  refine HandSHeadRun.head_any (r := OpenLaw.row PySem.Challenge.rw_brimful_k16_whole_sources_in_full_memory) (q := view (OpenLaw.row PySem.Challenge.rw_brimful_k16_whole_sources_in_full_memory).prog [63]) (H := Brim.hkB) (ob := Brim.ob) (M := 4000) (loose := Brim.names) (d := HandSHeadRun.topDef (OpenLaw.row PySem.Challenge.rw_brimful_k16_whole_sources_in_full_memory).prog 63) (kwd := []) Brim.ob_eq
    (by kernel_rfl) (fun s => by kernel_rfl) Brim.run (by kernel_rfl) (by kernel_rfl) (by kernel_rfl) (by rfl) (by first | assumption | decide +kernel) (by decide +kernel) ⟨rfl, rfl, rfl, rfl, rfl, by decide +kernel⟩ ?hw ?hc
  case hw => w_witness2
  case hc =>
    refine L2.walk_ofE (l := PySem.Challenge.rw_brimful_k16_whole_sources_in_full_memory) (n := 63) (k := 10) (x := "_law_script") (CX := L2.CX0) rfl (by decide) (by kernel_rfl) ⟨rfl, by decide, by decide⟩ ?F (fun _ _ _ _ z => z)
    intro w mg fa h Y G hmg0
    obtain ⟨K, KX, c⟩ := Y
    have hmg : mg ("law" : PySem.Str) = some (.ref fa) := by
      have e : (HandSHeadRun.topDef (OpenLaw.row PySem.Challenge.rw_brimful_k16_whole_sources_in_full_memory).prog 63).name = ("law" : PySem.Str) := by kernel_rfl
      rw [← e]
      exact hmg0
    obtain ⟨fd, hb, hF⟩ := Brim.facts (P := (PySem.Challenge.rw_brimful_k16_whole_sources_in_full_memory).prog) (w := w) KX G hmg c
    exact ⟨K, fd, Brim.spLaw K, KX, hb, fun H a ns hl _ hS => ⟨a, ns, rfl, hS, hl, fun _ => rfl⟩, hF⟩
