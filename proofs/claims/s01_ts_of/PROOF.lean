import PyProof.Rows.All
import Wide.All
import OpenK.AllK
import Wide.FinOn
import Open.SpecLaws
import KE.OsGo
import HandS.Base
import HandS.Call
import HandS.List
import HandS.Comp
import HandS.Ends
import HandS.Iter
import HandS.Walk
import HandS.Exc
import HandS.TryOnly
import HandS.ExcOwn
import HandS.Spec
import HandS.Words
import HandS.WordsList
import HandS.WordsExc
import PySem.Challenge.RW_shapestep_s01_ts_of
set_option Elab.async false
set_option linter.all false
set_option maxRecDepth 100000
set_option maxHeartbeats 2000000
namespace Sh
/-! ### 2. The mathematics: lists of whole numbers from 0 on, no program in sight -/
/-- g: the different numbers above 3 of l, rising -/
structure IsGreat (l g : List Nat) : Prop where
  mem : ∀ m, m ∈ g ↔ m ∈ l ∧ 3 < m
  up : g.Pairwise (· < ·)
  few : g.length ≤ l.length
theorem nodup_eraseDups : ∀ (n : Nat) (l : List Nat), l.length ≤ n → l.eraseDups.Nodup
  | _, [], _ => by simp
  | 0, a :: r, h => by simp at h
  | n + 1, a :: r, h => by
    rw [List.eraseDups_cons]
    refine List.nodup_cons.mpr ⟨?_, nodup_eraseDups n _ ?_⟩
    · rw [List.mem_eraseDups, List.mem_filter]
      rintro ⟨_, h2⟩
      simp at h2
    · have := List.length_filter_le (fun b => !b == a) r
      simp only [List.length_cons] at h
      omega
theorem far_nodup (l : List Nat) : (Kp126.far l).Nodup := nodup_eraseDups _ _ (Nat.le_refl _)
theorem far_mem (l : List Nat) (m : Nat) : m ∈ Kp126.far l ↔ m ∈ l ∧ 3 < m := by
  unfold Kp126.far
  rw [List.mem_eraseDups, List.mem_filter, decide_eq_true_eq]
theorem up_nodup {g : List Nat} (h : g.Pairwise (· < ·)) : g.Nodup := h.imp (fun h => Nat.ne_of_lt h)
theorem IsGreat.perm {l g : List Nat} (h : IsGreat l g) : g.Perm (Kp126.far l) := by
  refine (List.perm_ext_iff_of_nodup (up_nodup h.up) (far_nodup l)).mpr fun m => ?_
  rw [h.mem, far_mem]
theorem IsGreat.len {l g : List Nat} (h : IsGreat l g) : g.length = (Kp126.far l).length := h.perm.length_eq
theorem IsGreat.less {l g : List Nat} (h : IsGreat l g) (n : Nat) : (g.filter fun m => decide (m < n)).length = ((Kp126.far l).filter fun m => decide (m < n)).length := (h.perm.filter _).length_eq
/-- what a shape has of n, by g -/
def told (g : List Nat) (n : Nat) : Nat := if 3 < n then 4 + (g.filter fun m => decide (m < n)).length else n
theorem shape_told {l g : List Nat} (h : IsGreat l g) : l.map (told g) = Kp126.shapeOf l := by
  unfold Kp126.shapeOf
  refine List.map_congr_left fun n _ => ?_
  unfold told
  rw [h.less]
  by_cases c : n ≤ 3
  · rw [if_pos c, if_neg (by omega)]
  · rw [if_neg c, if_pos (by omega)]
/-- one item more -/
theorem take_more {α : Type} {l : List α} {i : Nat} {x : α} (h : l[i]? = some x) : l.take (i + 1) = l.take i ++ [x] := by
  obtain ⟨h1, rfl⟩ := List.getElem?_eq_some_iff.mp h
  exact (List.take_append_getElem h1).symm
/-- the loop of great_ones -/
theorem IsGreat.nil : IsGreat [] [] := ⟨fun m => by simp, .nil, Nat.le_refl _⟩
theorem great_skip {l g : List Nat} {n : Nat} (h : IsGreat l g) (c : ¬ 3 < n ∨ n ∈ g) : IsGreat (l ++ [n]) g := by
  refine ⟨fun m => ?_, h.up, by have := h.few; rw [List.length_append]; omega⟩
  rw [h.mem, List.mem_append, List.mem_singleton]
  constructor
  · rintro ⟨a, b⟩
    exact ⟨.inl a, b⟩
  · rintro ⟨a | rfl, b⟩
    · exact ⟨a, b⟩
    · rcases c with c | c
      · exact absurd b c
      · exact (h.mem _).mp c
theorem great_add {l g : List Nat} {n : Nat} (h : IsGreat l g) (c : 3 < n) (hn : n ∉ g) (hl : ∀ m ∈ l, m ≤ n) : IsGreat (l ++ [n]) (g ++ [n]) := by
  refine ⟨fun m => ?_, ?_, by have := h.few; rw [List.length_append, List.length_append, List.length_singleton]; omega⟩
  · rw [List.mem_append, List.mem_singleton, h.mem, List.mem_append, List.mem_singleton]
    constructor
    · rintro (⟨a, b⟩ | rfl)
      · exact ⟨.inl a, b⟩
      · exact ⟨.inr rfl, c⟩
    · rintro ⟨a | rfl, b⟩
      · exact .inl ⟨a, b⟩
      · exact .inr rfl
  · refine List.pairwise_append.mpr ⟨h.up, List.pairwise_singleton _ _, fun a ha b hb => ?_⟩
    rw [List.mem_singleton] at hb
    subst hb
    have := hl a ((h.mem a).mp ha).1
    have : a ≠ b := fun e => hn (e ▸ ha)
    omega
theorem IsGreat.of_perm {l l' g : List Nat} (h : IsGreat l' g) (p : l'.Perm l) : IsGreat l g := ⟨fun m => by rw [h.mem, p.mem_iff], h.up, by rw [← p.length_eq]; exact h.few⟩
theorem up_take {l : List Nat} (h : l.Pairwise (· ≤ ·)) {i n : Nat} (hi : l[i]? = some n) : ∀ m ∈ l.take i, m ≤ n := by
  have e : l.take (i + 1) = l.take i ++ [n] := take_more hi
  have q : (l.take (i + 1)).Pairwise (· ≤ ·) := h.sublist (List.take_sublist _ _)
  rw [e] at q
  intro m hm
  exact (List.pairwise_append.mp q).2.2 m hm n (List.mem_singleton.mpr rfl)
/-- where n stands in g -/
theorem index_less : ∀ {g : List Nat} {n : Nat}, g.Pairwise (· < ·) → n ∈ g → g[(g.filter fun m => decide (m < n)).length]? = some n
  | [], n, _, h => by simp at h
  | a :: r, n, hp, h => by
    obtain ⟨h1, h2⟩ := List.pairwise_cons.mp hp
    rcases List.mem_cons.mp h with rfl | h
    · have e : (n :: r).filter (fun m => decide (m < n)) = [] := by
        rw [List.filter_eq_nil_iff]
        intro m hm
        rcases List.mem_cons.mp hm with rfl | hm
        · simp
        · have := h1 m hm
          simp
          omega
      rw [e]
      rfl
    · have ha := h1 n h
      rw [List.filter_cons_of_pos (by simpa using ha)]
      simpa using index_less h2 h
theorem index_before {g : List Nat} {n m j : Nat} (hp : g.Pairwise (· < ·)) (hj : j < (g.filter fun m => decide (m < n)).length) (hm : g[j]? = some m) (hn : n ∈ g) : m ≠ n := by
  rintro rfl
  have e := index_less hp hn
  obtain ⟨a1, a2⟩ := List.getElem?_eq_some_iff.mp hm
  obtain ⟨b1, b2⟩ := List.getElem?_eq_some_iff.mp e
  have := (List.getElem_inj (up_nodup hp)).mp (a2.trans b2.symm)
  omega
/-- the numbers of the others -/
theorem erase_at {l : List Nat} {i v n : Nat} (hi : l[i]? = some n) : (l.take (i + 1)).eraseIdx v = if i = v then (l.take i).eraseIdx v else (l.take i).eraseIdx v ++ [n] := by
  obtain ⟨hlt, _⟩ := List.getElem?_eq_some_iff.mp hi
  have hlen : (l.take i).length = i := by rw [List.length_take]; omega
  rw [take_more hi]
  by_cases c : v < i
  · rw [if_neg (by omega), List.eraseIdx_append_of_lt_length (by omega)]
  · rw [List.eraseIdx_append_of_length_le (by omega), hlen, List.eraseIdx_of_length_le (l := l.take i) (by omega)]
    by_cases e : i = v
    · subst e
      simp
    · rw [if_neg e, List.eraseIdx_of_length_le (by simp; omega)]
/-- a number as it is spread -/
def spread (g : List Nat) (n : Nat) : Nat := if 3 < n then 5 + 2 * (g.filter fun m => decide (m < n)).length else n
theorem apart_spread {l g : List Nat} {v : Nat} (h : IsGreat (l.eraseIdx v) g) : Kp126.apart l v = l.map (spread g) := by
  unfold Kp126.apart Kp126.others
  refine List.map_congr_left fun n _ => ?_
  unfold spread
  rw [h.less]
  by_cases c : n ≤ 3
  · rw [if_pos c, if_neg (by omega)]
  · rw [if_neg c, if_pos (by omega)]
theorem places_len {l g : List Nat} {v : Nat} (h : IsGreat (l.eraseIdx v) g) : Kp126.places l v = 5 + 2 * g.length := by
  unfold Kp126.places Kp126.others
  rw [h.len]
theorem others_great {l g : List Nat} {i v n : Nat} (h : IsGreat (l.eraseIdx v) g) (hi : l[i]? = some n) (e : i ≠ v) (c : 3 < n) : n ∈ g :=
  (h.mem n).mpr ⟨List.mem_eraseIdx_iff_getElem?.mpr ⟨i, e, hi⟩, c⟩
/-- one turn of with_place -/
theorem with_turn {l : List Nat} {g : List Nat} {i v c n : Nat} (hi : l[i]? = some n) : ((l.map (spread g)).set v c).take (i + 1) = ((l.map (spread g)).set v c).take i ++ [if i = v then c else spread g n] := by
  refine take_more ?_
  obtain ⟨hlt, e⟩ := List.getElem?_eq_some_iff.mp hi
  rw [List.getElem?_set]
  by_cases q : v = i
  · subst q
    simp [hlt]
  · rw [if_neg q, if_neg (fun z => q z.symm)]
    simp [hi]
/-- held[:v] + [n] + held[v + 1:] -/
theorem set_cut {l : List Nat} {v n : Nat} (h : v < l.length) : l.take v ++ [n] ++ l.drop (v + 1) = l.set v n := by
  rw [List.set_eq_take_append_cons_drop, if_pos h]
  simp
/-- what is held behind a step, as some numbers of the shape then -/
def bh (o : Kp126.Node) (c : Nat) (s : List Nat) : List Nat :=
  if o.kind = 1 then (Kp126.apart s o.v).set o.v c else if o.kind = 2 then s.set o.v o.c else if o.kind = 3 then s.set o.v (Kp126.held s o.w) else s
/-- whether what a step asks is so -/
def so (o : Kp126.Node) (s : List Nat) : Bool := if o.kind = 4 then decide (Kp126.held s o.v < Kp126.held s o.w) else (o.kind != 5 || decide (Kp126.held s o.v < o.c))
theorem bh_1 {o : Kp126.Node} {c : Nat} {s : List Nat} (h : o.kind = 1) : bh o c s = (Kp126.apart s o.v).set o.v c := if_pos h
theorem bh_2 {o : Kp126.Node} {c : Nat} {s : List Nat} (h : o.kind = 2) : bh o c s = s.set o.v o.c := by
  unfold bh
  rw [if_neg (by omega), if_pos h]
theorem bh_3 {o : Kp126.Node} {c : Nat} {s : List Nat} (h : o.kind = 3) : bh o c s = s.set o.v (Kp126.held s o.w) := by
  unfold bh
  rw [if_neg (by omega), if_neg (by omega), if_pos h]
theorem bh_else {o : Kp126.Node} {c : Nat} {s : List Nat} (h1 : ¬ o.kind = 1) (h2 : ¬ o.kind = 2) (h3 : ¬ o.kind = 3) : bh o c s = s := by
  unfold bh
  rw [if_neg h1, if_neg h2, if_neg h3]
theorem bh_len (o : Kp126.Node) (c : Nat) (s : List Nat) : (bh o c s).length = s.length := by
  unfold bh Kp126.apart
  split
  · rw [List.length_set, List.length_map]
  · split
    · rw [List.length_set]
    · split
      · rw [List.length_set]
      · rfl
theorem step_bh {o : Kp126.Node} {c : Nat} {s : List Nat} (h : Kp126.shapeOf s = s) : (Kp126.step o c s).2 = Kp126.shapeOf (bh o c s) := by
  unfold Kp126.step bh
  by_cases k0 : o.kind = 0
  · rw [if_pos k0, if_neg (by omega), if_neg (by omega), if_neg (by omega), h]
  rw [if_neg k0]
  by_cases k1 : o.kind = 1
  · rw [if_pos k1, if_pos k1]
  rw [if_neg k1, if_neg k1]
  by_cases k2 : o.kind = 2
  · rw [if_pos k2, if_pos k2]
  rw [if_neg k2, if_neg k2]
  by_cases k3 : o.kind = 3
  · rw [if_pos k3, if_pos k3]
  rw [if_neg k3, if_neg k3, h]
  by_cases k4 : o.kind = 4
  · rw [if_pos k4]
  rw [if_neg k4]
  by_cases k5 : o.kind = 5
  · rw [if_pos k5]
  rw [if_neg k5]
theorem step_ans (o : Kp126.Node) (c : Nat) (s : List Nat) : (Kp126.step o c s).1 = if o.kind = 0 then 2 else if so o s = true then 0 else 1 := by
  unfold Kp126.step so
  by_cases k0 : o.kind = 0
  · rw [if_pos k0, if_pos k0]
  rw [if_neg k0, if_neg k0]
  by_cases k4 : o.kind = 4
  · rw [if_neg (by omega), if_neg (by omega), if_neg (by omega), if_pos k4, if_pos k4]
    simp only [decide_eq_true_eq]
  · rw [if_neg k4]
    by_cases k5 : o.kind = 5
    · rw [if_neg (by omega), if_neg (by omega), if_neg (by omega), if_neg k4, if_pos k5]
      have e : (o.kind != 5) = false := by rw [k5]; rfl
      rw [e, Bool.false_or]
      simp only [decide_eq_true_eq]
    · have e : (o.kind != 5) = true := by simpa using k5
      rw [e, Bool.true_or, if_neg k4, if_pos rfl]
      split
      · rfl
      · split
        · rfl
        · split
          · rfl
          · rfl
/-- the parts of okNode, as the program asks them -/
def vars (o : Kp126.Node) (n : Nat) : Bool := !((o.kind == 3 || o.kind == 4) && decide (n ≤ o.w)) && (o.kind == 0 || decide (o.v < n))
def num (o : Kp126.Node) : Bool := if o.kind = 2 then decide (o.c ≤ 3) else (o.kind != 5 || (decide (1 ≤ o.c) && decide (o.c ≤ 4)))
theorem ok_node (o : Kp126.Node) (n : Nat) : Kp126.okNode n o = (!(decide (6 < o.kind) || !(o.none_ == 0)) && (vars o n && num o)) := by
  unfold Kp126.okNode vars num
  have e3 : (o.none_ == 0) = decide (o.none_ = 0) := by by_cases h : o.none_ = 0 <;> simp [h]
  rw [e3]
  have e1 : decide (o.kind ≤ 6) = !decide (6 < o.kind) := by by_cases h : o.kind ≤ 6 <;> simp [h, show 6 < o.kind ↔ ¬ o.kind ≤ 6 by omega]
  have e2 : decide (n ≤ o.w) = !decide (o.w < n) := by by_cases h : o.w < n <;> simp [h, show n ≤ o.w ↔ ¬ o.w < n by omega]
  rw [e1, e2]
  by_cases k2 : o.kind = 2
  · rw [if_pos k2]
    simp only [k2]
    cases decide (o.none_ = 0) <;> cases decide (o.v < n) <;> cases decide (o.w < n) <;> cases decide (o.c ≤ 3) <;> rfl
  · rw [if_neg k2]
    have e : (o.kind != 2) = true := by simpa using k2
    rw [e]
    cases decide (6 < o.kind) <;> cases decide (o.none_ = 0) <;> cases (o.kind == 0) <;> cases decide (o.v < n) <;> cases (o.kind == 3) <;> cases (o.kind == 4) <;> cases decide (o.w < n) <;> cases (o.kind != 5) <;> cases (decide (1 ≤ o.c) && decide (o.c ≤ 4)) <;> rfl
/-- what a step that is as told may lean on -/
theorem ok_named {o : Kp126.Node} {n : Nat} (h : Kp126.okNode n o = true) : (¬ o.kind = 0 → o.v < n) ∧ (o.kind = 3 ∨ o.kind = 4 → o.w < n) := by
  unfold Kp126.okNode at h
  simp only [Bool.and_eq_true, Bool.or_eq_true, decide_eq_true_eq, Bool.not_eq_true', beq_iff_eq] at h
  obtain ⟨⟨⟨⟨_, h1⟩, h2⟩, _⟩, _⟩ := h
  refine ⟨fun k => ?_, fun k => ?_⟩
  · rcases h1 with h1 | h1
    · exact absurd h1 k
    · exact h1
  · rcases h2 with h2 | h2
    · rw [Bool.or_eq_false_iff] at h2
      simp only [beq_eq_false_iff_ne] at h2
      omega
    · exact h2
theorem right_shape {n z : Nat} {l : List Nat} (h : Kp126.rightRaw n ⟨l, z⟩ = true) : (l.take n).length = n ∧ Kp126.shapeOf (l.take n) = l.take n := by
  unfold Kp126.rightRaw Kp126.right Kp126.shape at h
  simp only [Bool.and_eq_true, beq_iff_eq] at h
  exact h.2
theorem held_get {l : List Nat} {v : Nat} (h : v < l.length) : l[v]? = some (Kp126.held l v) := by
  unfold Kp126.held
  rw [List.getD_eq_getElem?_getD, List.getElem?_eq_getElem h]
  rfl
theorem any_nz : ∀ l : List Nat, l.any (id ∘ fun m => !decide (m = 0)) = !(l.all fun x => x == 0)
  | [] => rfl
  | a :: r => by
    rw [List.any_cons, List.all_cons, any_nz r]
    by_cases h : a = 0
    · subst h
      rfl
    · have h' : (a == 0) = false := by simpa using h
      rw [h', Function.comp, decide_eq_false h]
      rfl
theorem ok_vars {n : Nat} (h : Kp126.okVars n = true) : 1 ≤ n ∧ n ≤ 3 := by
  unfold Kp126.okVars Kp126.VARS at h
  rw [Bool.and_eq_true, decide_eq_true_eq, decide_eq_true_eq] at h
  exact h
end Sh

namespace Sh
open PySem PySem.Spec PyProof.Rows L2
/-! ### 3. Words of this proof -/
/-- a list of whole numbers, as the layer sees it -/
abbrev nv (l : List Nat) : List V := l.map fun n : Nat => V.int (n : Int)
/-- a def that hands back v and leaves what stood -/
def RetV (v : V) (H : Hp) (Q : VK) : Prop := ∀ H', Same H H' → Q v H'
/-- .. that hands back a new list xs -/
def RetL (xs : List V) (H : Hp) (Q : VK) : Prop := ∀ H' p, Same H H' → H p = none → H' p = some (.lst xs) → Q (.ref p) H'
theorem same_new {H H1 : Hp} (s : Same H H1) {p : Addr} {o : HO} (h : H1 p = none) : Same H (upd H1 p o) := fun b o' e => by
  have e1 := s b o' e
  rw [upd_ne (ne_of_none e1 h)]
  exact e1
theorem same_own {H H1 : Hp} (s : Same H H1) {p : Addr} {o : HO} (h : H p = none) : Same H (upd H1 p o) := fun b o' e => by
  rw [upd_ne (ne_of_none e h)]
  exact s b o' e
theorem sl_le {n m : Nat} (h : n ≤ m) (hm : m ≤ 100000 := by decide) : n ≤ sizeLine := by rw [sizeLine_eq]; omega
theorem sl_lt {n m : Nat} (h : n ≤ m) (hm : m ≤ 100000 := by decide) : n < sizeLine := by rw [sizeLine_eq]; omega
theorem nv_len (l : List Nat) : (nv l).length = l.length := List.length_map ..
theorem nv_append (l m : List Nat) : nv (l ++ m) = nv l ++ nv m := List.map_append ..
theorem nv_one (l : List Nat) (n : Nat) : nv (l ++ [n]) = nv l ++ [.int (n : Int)] := nv_append l [n]
theorem zeros (m : Nat) : (List.replicate m [V.int 0]).flatten = nv (List.replicate m 0) := by
  induction m with
  | zero => rfl
  | succ m ih =>
    rw [List.replicate_succ, List.flatten_cons, ih, List.replicate_succ]
    rfl
theorem nv_get {l : List Nat} {i : Nat} {x : V} (h : (nv l)[i]? = some x) : ∃ n, l[i]? = some n ∧ x = .int (n : Int) := by
  rw [List.getElem?_map] at h
  cases e : l[i]? with
  | none => rw [e] at h; cases h
  | some n => rw [e] at h; exact ⟨n, rfl, (Option.some.inj h).symm⟩
theorem nv_flat (l : List Nat) : (nv l).all flatV = true := by
  rw [List.all_eq_true]
  intro x hx
  obtain ⟨n, _, rfl⟩ := List.mem_map.mp hx
  rfl
theorem eqV_nat (a b : Nat) : eqV (.int (a : Int)) (.int (b : Int)) = decide (a = b) := by
  show ((a : Int) == (b : Int)) = _
  by_cases h : a = b
  · subst h
    simp
  · have h' : ¬ (a : Int) = (b : Int) := by omega
    simp [h, h']
theorem inV_nat (n : Nat) (l : List Nat) : inV (.int (n : Int)) (nv l) = decide (n ∈ l) := by
  unfold inV
  rw [List.any_map]
  induction l with
  | nil => rfl
  | cons a r ih =>
    rw [List.any_cons, ih]
    show (eqV (.int (a : Int)) (.int (n : Int)) || _) = _
    rw [eqV_nat]
    by_cases h : a = n
    · subst h
      simp
    · have h' : ¬ n = a := fun e => h e.symm
      simp [h, h']
/-- sorted's list is one of whole numbers from 0 on again -/
theorem perm_nv {ns : List Int} {l : List Nat} (p : ns.Perm (l.map fun n : Nat => (n : Int))) : ∃ l' : List Nat, ns = l'.map (fun n : Nat => (n : Int)) ∧ l'.Perm l := by
  refine ⟨ns.map Int.toNat, ?_, ?_⟩
  · rw [List.map_map]
    have : ∀ x ∈ ns, ((fun n : Nat => (n : Int)) ∘ Int.toNat) x = id x := fun x hx => by
      obtain ⟨n, _, rfl⟩ := List.mem_map.mp (p.mem_iff.mp hx)
      rfl
    rw [List.map_congr_left this, List.map_id]
  · have q := p.map Int.toNat
    rw [List.map_map] at q
    have : ∀ x ∈ l, (Int.toNat ∘ fun n : Nat => (n : Int)) x = id x := fun x _ => rfl
    rw [List.map_congr_left this, List.map_id] at q
    exact q
theorem nv_ints (l : List Nat) : nv l = (l.map fun n : Nat => (n : Int)).map V.int := by rw [List.map_map]; rfl
theorem up_nv {l : List Nat} (h : (l.map fun n : Nat => (n : Int)).Pairwise (· ≤ ·)) : l.Pairwise (· ≤ ·) := by
  rw [List.pairwise_map] at h
  exact h.imp fun h => by omega
theorem cut_to (l : List Nat) (k : Nat) : cutV (nv l) none (some (k : Int)) = nv (l.take k) := by
  unfold cutV
  rw [HT.sIx_none, HT.sIx_nat, nv_len, List.drop_zero, Nat.sub_zero, ← List.map_take]
  refine congrArg nv ?_
  by_cases h : k ≤ l.length
  · rw [Nat.min_eq_left h]
  · rw [Nat.min_eq_right (by omega), List.take_of_length_le (Nat.le_refl _), List.take_of_length_le (by omega)]
theorem cut_from (l : List Nat) (k : Nat) : cutV (nv l) (some (k : Int)) none = nv (l.drop k) := by
  unfold cutV
  rw [HT.sIx_none, HT.sIx_nat, nv_len, ← List.map_drop, ← List.map_take]
  refine congrArg nv ?_
  by_cases h : k ≤ l.length
  · rw [Nat.min_eq_left h, List.take_of_length_le (by rw [List.length_drop]; exact Nat.le_refl _)]
  · rw [Nat.min_eq_right (by omega), List.drop_of_length_le (Nat.le_refl _), List.drop_of_length_le (by omega), List.take_nil]
theorem yes_go {σ : L2.St} {H : Hp} {A B : Hp → Prop} (h : A H) : tYes σ H (fun b H3 => if b = true then A H3 else B H3) := by
  show (if true = true then A H else B H)
  rw [if_pos rfl]
  exact h
/-! ### two lists of whole numbers compared -/
theorem dp_nv {K : PySem.W.Frag} {H : Hp} : ∀ l : List Nat, DpAll K H (nv l) (l.map fun n : Nat => PyData.int (n : Int))
  | [] => .nil
  | n :: r => .cons (.int _) (dp_nv r)
theorem eqv_nv : ∀ l m : List Nat, PyData.eqvAll (l.map fun n : Nat => PyData.int (n : Int)) (m.map fun n : Nat => PyData.int (n : Int)) = decide (l = m)
  | [], [] => by simp [PyData.eqvAll]
  | [], _ :: _ => by simp [PyData.eqvAll]
  | _ :: _, [] => by simp [PyData.eqvAll]
  | a :: r, b :: t => by
    simp only [List.map_cons, PyData.eqvAll, PyData.eqv, eqv_nv r t]
    by_cases h : a = b
    · subst h
      simp
    · have h2 : ¬ (a : Int) = (b : Int) := by omega
      simp [h, h2]
theorem lay_nv : ∀ l : List Nat, PyData.canLayAll0 (l.map fun n : Nat => PyData.int (n : Int)) = true
  | [] => by simp [PyData.canLayAll0]
  | n :: r => by simp [PyData.canLayAll0, PyData.canLay0, lay_nv r]
theorem depth_nv : ∀ l : List Nat, PyData.depthAll (l.map fun n : Nat => PyData.int (n : Int)) ≤ 1
  | [] => by simp [PyData.depthAll]
  | n :: r => by
    have := depth_nv r
    simp [PyData.depthAll, PyData.depth]
    omega
theorem shaped_nv (l : List Nat) : SeqAt.shaped (.list (l.map fun n : Nat => PyData.int (n : Int))) = true := by
  unfold SeqAt.shaped
  have h1 := depth_nv l
  have h2 : (PyData.list (l.map fun n : Nat => PyData.int (n : Int))).depth ≤ 64 := by
    simp only [PyData.depth]
    omega
  have h3 : (PyData.list (l.map fun n : Nat => PyData.int (n : Int))).canLay0 = true := by
    simp only [PyData.canLay0]
    exact lay_nv l
  rw [h3, decide_eq_true h2]
  rfl
/-! ### what is due, as a list of the program -/
def Due (x : Kp126.Ans) (Q : VK) : Prop := ∀ H' p, H' p = some (.lst ((Kp126Neutral.wrKp126_Ans x).map V.int)) → Q (.ref p) H'
theorem Due.num {x : Kp126.Ans} {Q : VK} (k : Due x Q) {v : Int} {H' : Hp} {p : Addr} (e : x = .num v) (h : H' p = some (.lst [.int 0, .int v])) : Q (.ref p) H' := by
  subst e
  exact k H' p h
theorem wr_nats : ∀ l : List Nat, (l.flatMap Kp126Neutral.wrNat).map V.int = nv l
  | [] => rfl
  | n :: r => by
    rw [List.flatMap_cons, List.map_append, wr_nats r]
    rfl
theorem Due.shape {x : Kp126.Ans} {Q : VK} (k : Due x Q) {n : Nat} {s : List Nat} {H' : Hp} {p : Addr} (e : x = .shape n (Kp126.rawOf s))
    (h : H' p = some (.lst ([.int 1, .int (n : Int), .int ((s ++ List.replicate (3 - s.length) 0).length : Nat)] ++ nv (s ++ List.replicate (3 - s.length) 0) ++ [.int 0]))) : Q (.ref p) H' := by
  subst e
  refine k H' p (h.trans ?_)
  rw [← wr_nats]
  show _ = some (HO.lst (List.map V.int ([1] ++ [(n : Int)] ++ ((((s ++ List.replicate (3 - s.length) 0).length : Nat) : Int) :: (s ++ List.replicate (3 - s.length) 0).flatMap Kp126Neutral.wrNat ++ [((0 : Nat) : Int)]))))
  simp only [List.map_append, List.map_cons, List.map_nil, List.cons_append, List.nil_append, List.append_assoc]
  rfl
theorem dw_due {K : PySem.W.Frag} {Q : VK} (r : List Int) (h : ∀ H' v, Dw K H' v (.list (r.map PySem.W.WData.int)) → Q v H') : ∀ H' p, H' p = some (.lst (r.map V.int)) → Q (.ref p) H' := fun H' p hp => h H' _ (.lst (SqL.of hp) (dw_ints r))
/-- a list of whole numbers from 0 on that is handed in -/
theorem nats_nv {l : List Int} (h : ∀ z ∈ l, 0 ≤ z) : l.map V.int = nv (Kp126Neutral.nats l) := by
  unfold nv Kp126Neutral.nats
  rw [List.map_map]
  refine List.map_congr_left fun z hz => ?_
  show V.int z = V.int ((z.toNat : Nat) : Int)
  rw [Int.toNat_of_nonneg (h z hz)]
/-! ### the step, an object of six whole numbers -/
def stF (o : Kp126.Node) (ch : Nat) : List (Str × V) := [("kind", .int (o.kind : Nat)), ("v", .int (o.v : Nat)), ("w", .int (o.w : Nat)), ("c", .int (o.c : Nat)), ("none", .int (o.none_ : Nat)), ("choice", .int (ch : Nat))]
structure StepTxt (K : PySem.W.Frag) (C : Addr) : Prop where
  cl : Cls K C
  nK : NoAttr K C "kind"
  nV : NoAttr K C "v"
  nW : NoAttr K C "w"
  nC : NoAttr K C "c"
  nN : NoAttr K C "none"
  nH : NoAttr K C "choice"
theorem lk_here {k : Str} {v : V} {r : List (Str × V)} : List.lookup k ((k, v) :: r) = some v := by
  have e : (k == k) = true := beq_self_eq_true k
  simp only [List.lookup, e]
theorem lk_past {k g : Str} {v : V} {r : List (Str × V)} (h : (k == g) = false) : List.lookup k ((g, v) :: r) = List.lookup k r := by
  simp only [List.lookup, h]
theorem put_past {f g : Str} {v x : V} {r : List (Str × V)} (h : ¬ g = f) : putF f v ((g, x) :: r) = (g, x) :: putF f v r := if_neg h
theorem lk_kind (o : Kp126.Node) (ch : Nat) : (stF o ch).lookup ("kind" : Str) = some (.int (o.kind : Nat)) := lk_here
theorem lk_v (o : Kp126.Node) (ch : Nat) : (stF o ch).lookup ("v" : Str) = some (.int (o.v : Nat)) := (lk_past (by decide +kernel)).trans lk_here
theorem lk_w (o : Kp126.Node) (ch : Nat) : (stF o ch).lookup ("w" : Str) = some (.int (o.w : Nat)) := (lk_past (by decide +kernel)).trans ((lk_past (by decide +kernel)).trans lk_here)
theorem lk_c (o : Kp126.Node) (ch : Nat) : (stF o ch).lookup ("c" : Str) = some (.int (o.c : Nat)) := (lk_past (by decide +kernel)).trans ((lk_past (by decide +kernel)).trans ((lk_past (by decide +kernel)).trans lk_here))
theorem lk_none (o : Kp126.Node) (ch : Nat) : (stF o ch).lookup ("none" : Str) = some (.int (o.none_ : Nat)) := (lk_past (by decide +kernel)).trans ((lk_past (by decide +kernel)).trans ((lk_past (by decide +kernel)).trans ((lk_past (by decide +kernel)).trans lk_here)))
theorem lk_choice (o : Kp126.Node) (ch : Nat) : (stF o ch).lookup ("choice" : Str) = some (.int (ch : Nat)) :=
  (lk_past (by decide +kernel)).trans ((lk_past (by decide +kernel)).trans ((lk_past (by decide +kernel)).trans ((lk_past (by decide +kernel)).trans ((lk_past (by decide +kernel)).trans lk_here))))
section
variable {a b c d e x : V}
theorem put_v : putF "v" x (putF "kind" a []) = [(("kind" : Str), a), (("v" : Str), x)] := put_past (by decide +kernel)
theorem put_w : putF "w" x ([(("kind" : Str), a), (("v" : Str), b)]) = [(("kind" : Str), a), (("v" : Str), b), (("w" : Str), x)] := (put_past (by decide +kernel)).trans (congrArg _ (put_past (by decide +kernel)))
theorem put_c : putF "c" x ([(("kind" : Str), a), (("v" : Str), b), (("w" : Str), c)]) = [(("kind" : Str), a), (("v" : Str), b), (("w" : Str), c), (("c" : Str), x)] := (put_past (by decide +kernel)).trans (congrArg _ ((put_past (by decide +kernel)).trans (congrArg _ (put_past (by decide +kernel)))))
theorem put_none : putF "none" x ([(("kind" : Str), a), (("v" : Str), b), (("w" : Str), c), (("c" : Str), d)]) = [(("kind" : Str), a), (("v" : Str), b), (("w" : Str), c), (("c" : Str), d), (("none" : Str), x)] := (put_past (by decide +kernel)).trans (congrArg _ ((put_past (by decide +kernel)).trans (congrArg _ ((put_past (by decide +kernel)).trans (congrArg _ (put_past (by decide +kernel)))))))
theorem put_choice : putF "choice" x ([(("kind" : Str), a), (("v" : Str), b), (("w" : Str), c), (("c" : Str), d), (("none" : Str), e)]) = [(("kind" : Str), a), (("v" : Str), b), (("w" : Str), c), (("c" : Str), d), (("none" : Str), e), (("choice" : Str), x)] := (put_past (by decide +kernel)).trans (congrArg _ ((put_past (by decide +kernel)).trans (congrArg _ ((put_past (by decide +kernel)).trans (congrArg _ ((put_past (by decide +kernel)).trans (congrArg _ (put_past (by decide +kernel)))))))))
end
theorem int_eq_nat (n m : Nat) : decide (V.int (n : Int) = V.int (m : Int)) = (n == m) := by
  by_cases h : n = m
  · subst h
    simp
  · have h1 : ¬ V.int (n : Int) = V.int (m : Int) := fun e => h (by injection e with e; omega)
    have h2 : (n == m) = false := by simpa using h
    rw [decide_eq_false h1, h2]
theorem lt_nat (n m : Nat) : decide ((n : Int) < (m : Int)) = decide (n < m) := decide_eq_decide.mpr (by omega)
theorem le_nat (n m : Nat) : decide ((n : Int) ≤ (m : Int)) = decide (n ≤ m) := decide_eq_decide.mpr (by omega)
theorem in_34 (n : Nat) : inV (V.int (n : Int)) [.int 3, .int 4] = (n == 3 || n == 4) := by
  have e := inV_nat n [3, 4]
  rw [show inV (V.int (n : Int)) [.int 3, .int 4] = decide (n ∈ [3, 4]) from e]
  by_cases h3 : n = 3
  · subst h3
    rfl
  by_cases h4 : n = 4
  · subst h4
    rfl
  have e3 : (n == 3) = false := by simpa using h3
  have e4 : (n == 4) = false := by simpa using h4
  rw [e3, e4]
  exact decide_eq_false (by simp [h3, h4])
section
/-- what a module's name holds: a whole number | a def that keeps its promise -/
def IntC (mg : Str → Option Value) (x : Str) (n : Int) : Prop := ∃ t, mg x = some (.int n t)
structure Callee (P : Program) (w : World) (K : PySem.W.Frag) (mg : Str → Option Value) (base : Heap) (x : Str) (k : Nat) (ps : List Str) (sp : Sp) : Prop where
  ex : ∃ (f : Addr) (fd : FuncData), FnOk P w K mg base CX0 k f fd ps sp ∧ mg x = some (.ref f) ∧ PySem.W.keepIn K (.ref f) = true ∧ Binds K fd ps []
structure Maker (P : Program) (w : World) (K : PySem.W.Frag) (mg : Str → Option Value) (base : Heap) (C : Addr) (k : Nat) (ps : List Str) (sp : Sp) : Prop where
  ex : ∃ (f : Addr) (fd : FuncData), Mk K C f ∧ FnOk P w K mg base CX0 k f fd ps sp ∧ Binds K fd ps []
variable {X : Cx}
theorem pe_new {x : Str} {C : Addr} {k : Nat} {ps : List Str} {sp : Sp} {p pos : Pos} {e : Expr} {es : List Expr} {t : TA} (c : Maker X.prog X.w X.K X.mg X.base C k ps sp) (hr : Room (k + 1) X.A) (hm : X.mg x = some (.ref C)) (ha : PA X (e :: es) t)
    (hg : Gl X x := by rfl) (hdb : (x == ("__debug__" : Str)) = false := by decide) (he : starEach (e :: es) X.env = (false, eval e X.env) :: starEach es X.env := by rfl) (hpl : (backTo pos (starEach es X.env)).any (·.1) = false := by rfl) :
    PE X (.Call (.Name x p) (e :: es) [] pos) (tMake C sp [] E0 t) := by
  obtain ⟨f, fd, M, F, hb⟩ := c.ex
  exact pe_make M F hr hg hm hb .nil pass0 ha hdb he hpl
theorem pe_const {x : Str} {n : Int} {pos : Pos} (h : IntC X.mg x n) (hg : Gl X x := by rfl) (hd : (x == ("__debug__" : Str)) = false := by decide) : PE X (.Name x pos) (tC (.int n)) := by
  obtain ⟨t, h⟩ := h
  exact pe_glob hg h ⟨t, rfl⟩ hd
theorem pe_go {x : Str} {k : Nat} {ps : List Str} {sp : Sp} {p pos : Pos} {e : Expr} {es : List Expr} {t : TA} (c : Callee X.prog X.w X.K X.mg X.base x k ps sp) (hr : Room k X.A) (ha : PA X (e :: es) t)
    (hg : Gl X x := by rfl) (hdb : (x == ("__debug__" : Str)) = false := by decide) (he : starEach (e :: es) X.env = (false, eval e X.env) :: starEach es X.env := by rfl) (hpl : (backTo pos (starEach es X.env)).any (·.1) = false := by rfl) :
    PE X (.Call (.Name x p) (e :: es) [] pos) (tCall sp [] E0 t) := by
  obtain ⟨f, fd, F, hm, hk, hb⟩ := c.ex
  exact pe_call F hr hg hm hk hb .nil pass0 ha hdb he hpl
theorem pe_go0 {x : Str} {k : Nat} {ps : List Str} {sp : Sp} {p pos : Pos} (c : Callee X.prog X.w X.K X.mg X.base x k ps sp) (hr : Room k X.A)
    (hg : Gl X x := by rfl) (hdb : (x == ("__debug__" : Str)) = false := by decide) :
    PE X (.Call (.Name x p) [] [] pos) (tCall sp [] E0 tNil) := by
  obtain ⟨f, fd, F, hm, hk, hb⟩ := c.ex
  exact pe_call0 F hr hg hm hk hb .nil pass0 hdb
end
end Sh

namespace Sh
open PySem PySem.Spec PyProof.Rows L2
def top (i : Nat) : Stmt := PySem.Challenge.pw_shapestep_s01_ts_of.main.body.getD i (.Pass ⟨0, 0, 0, 0⟩)
abbrev sNumberAlone : Stmt := top 3
abbrev sRefused : Stmt := top 4
abbrev sWithShape : Stmt := top 5
abbrev sFilled : Stmt := top 6
abbrev sIsGreat : Stmt := top 10
abbrev sGreatOnes : Stmt := top 11
abbrev sHowManyLess : Stmt := top 12
abbrev sToldAs : Stmt := top 13
abbrev sShapeOf : Stmt := top 14
abbrev sIsMany : Stmt := top 15
abbrev sTsOf : Stmt := top 17
section
variable {P : Program} {w : World} {K : PySem.W.Frag} {mg : Str → Option Value} {base : Heap} {C : Addr}
/-! #### number_alone -/
def spNumberAlone : Sp := fun vs H Q _ => ∃ n : Int, vs = [.int n] ∧ RetL [.int 0, .int n] H Q
theorem scNumberAlone : FnScope ["number"] ["number"] (defScope sNumberAlone) := ⟨rfl, rfl, rfl, by decide +kernel, rfl, by decide +kernel, by decide +kernel⟩
theorem okNumberAlone {f : Addr} {fd : FuncData} (F : Fun K "number_alone" "number_alone" sNumberAlone f fd) : FnOk P w K mg base CX0 1 f fd ["number"] (spNumberAlone) := by
  refine F.ok scNumberAlone (fun vs H Q E h => ?_) (fun cdv A outer s H vs Q E hr h => ?_)
  · obtain ⟨n, rfl, k⟩ := h
    rfl
  · obtain ⟨n, rfl, k⟩ := h
    refine ⟨_, (pss_one (ps_ret (pe_lst (pa_cons pe_int (pa_cons (pv 0) pa_nil))))), ?_⟩
    refine ⟨_, rfl, sl_le (m := 2) (Nat.le_refl _), fun p hp => ?_⟩
    exact k _ p (same_new (Same.refl H) hp) hp upd_same
/-! #### refused -/
def spRefused : Sp := fun vs H Q _ => vs = [] ∧ RetL [.int 0, .int (-22)] H Q
theorem scRefused : FnScope [] [] (defScope sRefused) := ⟨rfl, rfl, rfl, by decide +kernel, rfl, by decide +kernel, by decide +kernel⟩
theorem okRefused {f : Addr} {fd : FuncData} (F : Fun K "refused" "refused" sRefused f fd) (g_NOT_SO : IntC mg "NOT_SO" (-22)) (c_number_alone : Callee P w K mg base "number_alone" 1 ["number"] (spNumberAlone)) : FnOk P w K mg base CX0 2 f fd [] (spRefused) := by
  refine F.ok scRefused (fun vs H Q E h => ?_) (fun cdv A outer s H vs Q E hr h => ?_)
  · obtain ⟨rfl, k⟩ := h
    rfl
  · obtain ⟨rfl, k⟩ := h
    refine ⟨_, (pss_one (ps_ret (pe_go c_number_alone (hr.mono (by decide)) (pa_cons (pe_const g_NOT_SO) pa_nil)))), ?_⟩
    exact ⟨-22, rfl, k⟩
/-! #### with_shape -/
def spWithShape (K : PySem.W.Frag) : Sp := fun vs H Q _ => ∃ (a : Addr) (n : Int) (l : List Nat), vs = [.int n, .ref a] ∧ SqL K H a (nv l) ∧ l.length ≤ 100 ∧ RetL ([.int 1, .int n, .int l.length] ++ nv l ++ [.int 0]) H Q
theorem scWithShape : FnScope ["number", "at"] ["number", "at"] (defScope sWithShape) := ⟨rfl, rfl, rfl, by decide +kernel, rfl, by decide +kernel, by decide +kernel⟩
theorem okWithShape {f : Addr} {fd : FuncData} (F : Fun K "with_shape" "with_shape" sWithShape f fd) (n_len : mg "len" = none) (n_list : mg "list" = none) : FnOk P w K mg base CX0 1 f fd ["number", "at"] (spWithShape K) := by
  refine F.ok scWithShape (fun vs H Q E h => ?_) (fun cdv A outer s H vs Q E hr h => ?_)
  · obtain ⟨a, n, l, rfl, hs, hl, k⟩ := h
    rfl
  · obtain ⟨a, n, l, rfl, hs, hl, k⟩ := h
    refine ⟨_, (pss_one (ps_ret (pe_op op_cat (pe_op op_cat (pe_lst (pa_cons pe_int (pa_cons (pv 0) (pa_cons (pe_callB call_len rfl n_len boot_len (pa_cons (pv 1) pa_nil)) pa_nil)))) (pe_callTy call_list_of rfl n_list Pv.boot_list (pa_cons (pv 1) pa_nil))) (pe_lst (pa_cons pe_int pa_nil))))), ?_⟩
    refine ⟨_, rfl, _, rfl, _, _, rfl, .inl ⟨_, hs, rfl⟩, sl_le (m := 3) (Nat.le_refl _), fun p hp => ?_⟩
    have s1 := same_new (o := .lst [.int 1, .int n, .int (nv l).length]) (Same.refl H) hp
    refine ⟨_, rfl, a, nv l, rfl, .inl (s1.seq hs), fun q hq => ?_⟩
    have e1 : upd (upd H p (.lst [.int 1, .int n, .int (nv l).length])) q (.lst (nv l)) p = some (.lst [.int 1, .int n, .int (nv l).length]) := (upd_ne (ne_of_none upd_same hq)).trans upd_same
    have s2 := same_new (o := .lst (nv l)) s1 hq
    refine ⟨p, q, _, _, rfl, rfl, e1, upd_same, sl_le (m := 103) (by show 3 + (nv l).length ≤ 103; rw [nv_len]; omega), fun r hr2 => ?_⟩
    have s3 := same_new (o := .lst ([.int 1, .int n, .int (nv l).length] ++ nv l)) s2 hr2
    refine ⟨sl_le (m := 1) (Nat.le_refl _), fun t ht => ?_⟩
    have s4 := same_new (o := .lst [.int 0]) s3 ht
    refine ⟨r, t, _, _, rfl, rfl, (upd_ne (ne_of_none upd_same ht)).trans upd_same, upd_same, sl_le (m := 104) (by rw [List.length_append, nv_len]; show 3 + l.length + 1 ≤ 104; omega), fun u hu => ?_⟩
    have s5 := same_new (o := .lst ([.int 1, .int n, .int (nv l).length] ++ nv l ++ [.int 0])) s4 hu
    refine k _ u s5 (s4.free hu) ?_
    rw [nv_len]
    exact upd_same
/-! #### filled -/
def spFilled (K : PySem.W.Frag) : Sp := fun vs H Q _ => ∃ (a : Addr) (l : List Nat), vs = [.ref a] ∧ SqL K H a (nv l) ∧ l.length ≤ 3 ∧ RetL (nv (l ++ List.replicate (3 - l.length) 0)) H Q
theorem scFilled : FnScope ["held"] ["held"] (defScope sFilled) := ⟨rfl, rfl, rfl, by decide +kernel, rfl, by decide +kernel, by decide +kernel⟩
theorem okFilled {f : Addr} {fd : FuncData} (F : Fun K "filled" "filled" sFilled f fd) (g_MANY_AT : IntC mg "MANY_AT" (3)) (n_len : mg "len" = none) (n_list : mg "list" = none) : FnOk P w K mg base CX0 1 f fd ["held"] (spFilled K) := by
  refine F.ok scFilled (fun vs H Q E h => ?_) (fun cdv A outer s H vs Q E hr h => ?_)
  · obtain ⟨a, l, rfl, hs, hl, k⟩ := h
    rfl
  · obtain ⟨a, l, rfl, hs, hl, k⟩ := h
    refine ⟨_, (pss_one (ps_ret (pe_op op_cat (pe_callTy call_list_of rfl n_list Pv.boot_list (pa_cons (pv 0) pa_nil)) (pe_op op_rep (pe_lst (pa_cons pe_int pa_nil)) (pe_op op_sub (pe_const g_MANY_AT) (pe_callB call_len rfl n_len boot_len (pa_cons (pv 0) pa_nil))))))), ?_⟩
    refine ⟨_, rfl, a, nv l, rfl, .inl hs, fun p hp => ?_⟩
    have s1 := same_new (o := .lst (nv l)) (Same.refl H) hp
    refine ⟨sl_le (m := 1) (Nat.le_refl _), fun q hq => ?_⟩
    have s2 := same_new (o := .lst [.int 0]) s1 hq
    refine ⟨_, rfl, _, _, rfl, .inl ⟨_, s2.seq hs, rfl⟩, _, _, rfl, rfl, ?_⟩
    rw [nv_len]
    refine ⟨q, _, _, rfl, rfl, upd_same, by omega, by omega, sl_le (m := 3) (by show 1 * _ ≤ 3; omega), fun r hr2 => ?_⟩
    have e : (List.replicate (3 - (l.length : Int)).toNat [V.int 0]).flatten = nv (List.replicate (3 - l.length) 0) := by
      rw [show (3 - (l.length : Int)).toNat = 3 - l.length by omega, zeros]
    rw [e]
    have s3 := same_new (o := .lst (nv (List.replicate (3 - l.length) 0))) s2 hr2
    refine ⟨p, r, nv l, nv (List.replicate (3 - l.length) 0), rfl, rfl, ?_, upd_same, sl_le (m := 3) (by rw [nv_len, nv_len, List.length_replicate]; omega), fun t ht => ?_⟩
    · rw [upd_ne (ne_of_none ((upd_ne (ne_of_none upd_same hq)).trans upd_same) hr2), upd_ne (ne_of_none upd_same hq)]
      exact upd_same
    refine k _ t (same_new s3 ht) (s3.free ht) ?_
    rw [nv_append]
    exact upd_same
/-! #### is_great -/
def spIsGreat : Sp := fun vs H Q _ => ∃ n : Nat, vs = [.int (n : Int)] ∧ RetV (.bl (decide (3 < n))) H Q
theorem scIsGreat : FnScope ["number"] ["number"] (defScope sIsGreat) := ⟨rfl, rfl, rfl, by decide +kernel, rfl, by decide +kernel, by decide +kernel⟩
theorem okIsGreat {f : Addr} {fd : FuncData} (F : Fun K "is_great" "is_great" sIsGreat f fd) (g_SMALLEST_GREAT : IntC mg "SMALLEST_GREAT" (4)) : FnOk P w K mg base CX0 1 f fd ["number"] (spIsGreat) := by
  refine F.ok scIsGreat (fun vs H Q E h => ?_) (fun cdv A outer s H vs Q E hr h => ?_)
  · obtain ⟨n, rfl, k⟩ := h
    rfl
  · obtain ⟨n, rfl, k⟩ := h
    refine ⟨_, (pss_one (ps_ret (pe_cmpR op_ge (pv 0) (pe_const g_SMALLEST_GREAT) (nomark _)))), ?_⟩
    refine ⟨_, rfl, _, _, rfl, rfl, ?_⟩
    have q := k H (Same.refl H)
    rw [show decide (3 < n) = decide ((4 : Int) ≤ (n : Int)) from decide_eq_decide.mpr (by omega)] at q
    exact q
/-! #### great_ones -/
def spGreatOnes (K : PySem.W.Frag) : Sp := fun vs H Q _ => ∃ (a : Addr) (l : List Nat), vs = [.ref a] ∧ SqL K H a (nv l) ∧ l.length ≤ 8 ∧ ∀ g, IsGreat l g → RetL (nv g) H Q
theorem scGreatOnes : FnScope ["numbers", "found", "number"] ["numbers"] (defScope sGreatOnes) := ⟨rfl, rfl, rfl, by decide +kernel, rfl, by decide +kernel, by decide +kernel⟩
theorem okGreatOnes {f : Addr} {fd : FuncData} (F : Fun K "great_ones" "great_ones" sGreatOnes f fd) (n_sorted : mg "sorted" = none) (c_is_great : Callee P w K mg base "is_great" 1 ["number"] (spIsGreat)) : FnOk P w K mg base CX0 2 f fd ["numbers"] (spGreatOnes K) := by
  refine F.ok scGreatOnes (fun vs H Q E h => ?_) (fun cdv A outer s H vs Q E hr h => ?_)
  · obtain ⟨a, l, rfl, hs, hl, k⟩ := h
    rfl
  · obtain ⟨a, l, rfl, hs, hl, k⟩ := h
    refine ⟨_, (pss_cons (ps_set (i := 1) scGreatOnes.nd rfl (Or.inl rfl) (pe_lst pa_nil)) (pss_cons (ps_for PassesOwn.never rfl (pi_list (pe_callB cr_sorted rfl n_sorted boot_sorted (pa_cons (pv 0) pa_nil))) (pg_name (i := 2) scGreatOnes.nd rfl (Or.inl rfl)) (pss_one (ps_if (PW.pt (pw_and (pt_val (pe_go c_is_great (hr.mono (by decide)) (pa_cons (pv 2) pa_nil))) (pw_and1 (pt_cmpR op_notIn_seq (pv 2) (pv 1) (by rfl))))) (pss_one (ps_expr (pe_bm PySem.F.plainAttrs_list PySem.F.slot_list_append PySem.F.type_list_append mt_append (pv 1) (pa_cons (pv 2) pa_nil)))) pss_nil))) (pss_one (ps_ret (pv 1))))), ?_⟩
    refine ⟨sl_le (m := 0) (Nat.le_refl _), fun f hf => ?_⟩
    have s1 := same_new (o := .lst []) (Same.refl H) hf
    refine ⟨_, rfl, a, l.map fun n : Nat => (n : Int), rfl, by rw [← nv_ints]; exact s1.seq hs, by rw [List.length_map]; omega, fun ns p perm up hp => ?_⟩
    obtain ⟨l', rfl, perm'⟩ := perm_nv perm
    have up' := up_nv up
    rw [← nv_ints]
    have s2 := same_new (o := .lst (nv l')) s1 hp
    have f2 : upd (upd H f (.lst [])) p (.lst (nv l')) f = some (.lst []) := (upd_ne (ne_of_none upd_same hp)).trans upd_same
    have fp : f ≠ p := ne_of_none (H := upd H f (.lst [])) upd_same hp
    refine ⟨p, rfl, ⟨_, SqL.of upd_same⟩, for_list (K := K) (a := p) (xs := nv l') (fun i σ H' => ∃ (v : Option V) (g : List Nat), σ = [some (.ref a), some (.ref f), v] ∧ Same H H' ∧ H' p = some (.lst (nv l')) ∧ H' f = some (.lst (nv g)) ∧ IsGreat (l'.take i) g)
      ⟨none, [], rfl, s2, upd_same, f2, by rw [List.take_zero]; exact IsGreat.nil⟩ (fun i σ H' _ ⟨_, _, _, _, hp', _, _⟩ => SqL.of hp') ?_ ?_⟩
    · rintro i y σ H' hi ⟨v, g, rfl, s3, hp3, hf3, ig⟩
      obtain ⟨n, hn, rfl⟩ := nv_get hi
      have tk := take_more hn
      refine ⟨_, rfl, n, rfl, fun H4 s4 => ⟨_, rfl, ?_⟩⟩
      by_cases c : 3 < n
      · rw [decide_eq_true c]
        refine iteT ⟨_, rfl, _, rfl, f, nv g, rfl, .inl (SqL.of (s4 _ _ hf3)), rfl, nv_flat g, _, rfl, ?_⟩
        show (if (!inV (V.int (n : Int)) (nv g)) = true then _ else _)
        rw [inV_nat]
        by_cases c2 : n ∈ g
        · rw [decide_eq_true c2]
          refine iteF ⟨_, g, rfl, s3.trans s4, s4 _ _ hp3, s4 _ _ hf3, ?_⟩
          rw [tk]
          exact great_skip ig (.inr c2)
        · rw [decide_eq_false c2]
          refine iteT ⟨_, rfl, .inl ⟨rfl, _, SqL.of (s4 _ _ hf3)⟩, _, rfl, f, nv g, _, rfl, rfl, s4 _ _ hf3, ?_, ?_⟩
          · rw [nv_len]
            have := ig.few
            rw [List.length_take] at this
            have := perm'.length_eq
            exact sl_lt (m := 8) (by omega)
          · refine ⟨_, g ++ [n], rfl, same_own (s3.trans s4) hf, (upd_ne (Ne.symm fp)).trans (s4 _ _ hp3), ?_, ?_⟩
            · rw [nv_one]
              exact upd_same
            · rw [tk]
              exact great_add ig c c2 (up_take up' hn)
      · rw [decide_eq_false c]
        refine iteF (iteF ⟨_, g, rfl, s3.trans s4, s4 _ _ hp3, s4 _ _ hf3, ?_⟩)
        rw [tk]
        exact great_skip ig (.inl c)
    · rintro σ H' ⟨v, g, rfl, s3, hp3, hf3, ig⟩
      rw [nv_len, List.take_length] at ig
      exact ⟨_, rfl, k g (ig.of_perm perm') H' f s3 hf hf3⟩
/-! #### how_many_less -/
def spHowManyLess (K : PySem.W.Frag) : Sp := fun vs H Q _ => ∃ (a : Addr) (l : List Nat) (b : Nat), vs = [.ref a, .int (b : Int)] ∧ SqL K H a (nv l) ∧ l.length ≤ 100 ∧ RetV (.int ((l.filter fun m => decide (m < b)).length : Nat)) H Q
theorem scHowManyLess : FnScope ["numbers", "bound", "number"] ["numbers", "bound"] (defScope sHowManyLess) := ⟨rfl, rfl, rfl, by decide +kernel, rfl, by decide +kernel, by decide +kernel⟩
theorem okHowManyLess {f : Addr} {fd : FuncData} (F : Fun K "how_many_less" "how_many_less" sHowManyLess f fd) (n_len : mg "len" = none) : FnOk P w K mg base CX0 1 f fd ["numbers", "bound"] (spHowManyLess K) := by
  refine F.ok scHowManyLess (fun vs H Q E h => ?_) (fun cdv A outer s H vs Q E hr h => ?_)
  · obtain ⟨a, l, b, rfl, hs, hl, k⟩ := h
    rfl
  · obtain ⟨a, l, b, rfl, hs, hl, k⟩ := h
    refine ⟨_, (pss_one (ps_ret (pe_callB call_len rfl n_len boot_len (pa_cons (pe_lc (own := [("number", 2)]) rfl scHowManyLess.nd (pi_list (pv 0)) (blkOk_by (own := [("number", 2)]) (N := ["numbers", "bound", "number"]) (sc := defScope sHowManyLess) (by decide +kernel)) (fun _ _ _ _ _ => pg_name (i := 2) scHowManyLess.nd rfl (Or.inl rfl)) (fun _ _ _ _ _ => pts_one (pt_cmpR op_lt (pv 2) (pv 1) (nomark _))) (fun _ _ _ _ _ => pv 2)) pa_nil)))), ?_⟩
    refine ⟨_, rfl, a, rfl, ⟨_, hs⟩, fun D hD => lc_list (K := K) (a := a) (xs := nv l) (fun i H' => Same H H' ∧ H' D = some (.lst (nv ((l.take i).filter fun m => decide (m < b))))) ⟨same_new (Same.refl H) hD, upd_same⟩ (fun i H' _ h => h.1.seq hs) ?_ ?_⟩
    · rintro i y H' hi ⟨s1, hD1⟩
      obtain ⟨n, hn, rfl⟩ := nv_get hi
      have tk := take_more hn
      refine ⟨rfl, _, rfl, _, rfl, _, _, rfl, rfl, _, rfl, ?_⟩
      by_cases c : n < b
      · rw [decide_eq_true (show (n : Int) < (b : Int) by omega)]
        refine iteT ⟨_, rfl, _, hD1, ?_, same_own s1 hD, ?_⟩
        · rw [nv_len]
          have := List.length_filter_le (fun m => decide (m < b)) (l.take i)
          rw [List.length_take] at this
          exact sl_lt (m := 100) (by omega)
        · rw [tk, List.filter_append, List.filter_cons_of_pos (by simpa using c), List.filter_nil, nv_one]
          exact upd_same
      · rw [decide_eq_false (show ¬ (n : Int) < (b : Int) by omega)]
        refine iteF ⟨s1, ?_⟩
        rw [tk, List.filter_append, List.filter_cons_of_neg (by simpa using c), List.filter_nil, List.append_nil]
        exact hD1
    · rintro H' ⟨s1, hD1⟩
      rw [nv_len, List.take_length] at hD1
      refine ⟨_, _, rfl, .inl ⟨_, SqL.of hD1, rfl⟩, ?_⟩
      rw [nv_len]
      exact k H' s1
/-! #### told_as -/
def spToldAs (K : PySem.W.Frag) : Sp := fun vs H Q _ => ∃ (a : Addr) (n : Nat) (g : List Nat), vs = [.int (n : Int), .ref a] ∧ SqL K H a (nv g) ∧ g.length ≤ 100 ∧ RetV (.int (told g n : Nat)) H Q
theorem scToldAs : FnScope ["number", "great"] ["number", "great"] (defScope sToldAs) := ⟨rfl, rfl, rfl, by decide +kernel, rfl, by decide +kernel, by decide +kernel⟩
theorem okToldAs {f : Addr} {fd : FuncData} (F : Fun K "told_as" "told_as" sToldAs f fd) (g_SMALLEST_GREAT : IntC mg "SMALLEST_GREAT" (4)) (c_is_great : Callee P w K mg base "is_great" 1 ["number"] (spIsGreat)) (c_how_many_less : Callee P w K mg base "how_many_less" 1 ["numbers", "bound"] (spHowManyLess K)) : FnOk P w K mg base CX0 2 f fd ["number", "great"] (spToldAs K) := by
  refine F.ok scToldAs (fun vs H Q E h => ?_) (fun cdv A outer s H vs Q E hr h => ?_)
  · obtain ⟨a, n, g, rfl, hs, hl, k⟩ := h
    rfl
  · obtain ⟨a, n, g, rfl, hs, hl, k⟩ := h
    refine ⟨_, (pss_cons (ps_if (pt_val (pe_go c_is_great (hr.mono (by decide)) (pa_cons (pv 0) pa_nil))) (pss_one (ps_ret (pe_op op_add (pe_const g_SMALLEST_GREAT) (pe_go c_how_many_less (hr.mono (by decide)) (pa_cons (pv 1) (pa_cons (pv 0) pa_nil)))))) pss_nil) (pss_one (ps_ret (pv 0)))), ?_⟩
    refine ⟨_, rfl, n, rfl, fun H1 s1 => ⟨_, rfl, ?_⟩⟩
    by_cases c : 3 < n
    · rw [decide_eq_true c]
      refine iteT ⟨_, rfl, _, rfl, a, g, n, rfl, s1.seq hs, hl, fun H2 s2 => ⟨_, _, rfl, rfl, ?_⟩⟩
      have q := k H2 (s1.trans s2)
      rw [show told g n = 4 + (g.filter fun m => decide (m < n)).length from if_pos c] at q
      exact q
    · rw [decide_eq_false c]
      refine iteF ⟨_, rfl, ?_⟩
      have q := k H1 s1
      rw [show told g n = n from if_neg c] at q
      exact q
/-! #### shape_of -/
def spShapeOf (K : PySem.W.Frag) : Sp := fun vs H Q _ => ∃ (a : Addr) (l : List Nat), vs = [.ref a] ∧ SqL K H a (nv l) ∧ l.length ≤ 8 ∧ RetL (nv (Kp126.shapeOf l)) H Q
theorem scShapeOf : FnScope ["numbers", "great", "number"] ["numbers"] (defScope sShapeOf) := ⟨rfl, rfl, rfl, by decide +kernel, rfl, by decide +kernel, by decide +kernel⟩
theorem okShapeOf {f : Addr} {fd : FuncData} (F : Fun K "shape_of" "shape_of" sShapeOf f fd) (c_great_ones : Callee P w K mg base "great_ones" 2 ["numbers"] (spGreatOnes K)) (c_told_as : Callee P w K mg base "told_as" 2 ["number", "great"] (spToldAs K)) : FnOk P w K mg base CX0 3 f fd ["numbers"] (spShapeOf K) := by
  refine F.ok scShapeOf (fun vs H Q E h => ?_) (fun cdv A outer s H vs Q E hr h => ?_)
  · obtain ⟨a, l, rfl, hs, hl, k⟩ := h
    rfl
  · obtain ⟨a, l, rfl, hs, hl, k⟩ := h
    refine ⟨_, (pss_cons (ps_set (i := 1) scShapeOf.nd rfl (Or.inr rfl) (pe_go c_great_ones (hr.mono (by decide)) (pa_cons (pv 0) pa_nil))) (pss_one (ps_ret (pe_lc (own := [("number", 2)]) rfl scShapeOf.nd (pi_list (pv 0)) (blkOk_by (own := [("number", 2)]) (N := ["numbers", "great", "number"]) (sc := defScope sShapeOf) (by decide +kernel)) (fun _ _ _ _ _ => pg_name (i := 2) scShapeOf.nd rfl (Or.inl rfl)) (fun _ _ _ _ _ => pts_nil) (fun _ _ _ _ _ => (pe_go c_told_as (hr.mono (by decide)) (pa_cons (pv 2) (pa_cons (pv 1) pa_nil)))))))), ?_⟩
    refine ⟨_, rfl, a, l, rfl, hs, hl, fun g ig H1 q s1 nq hq => ?_⟩
    refine ⟨_, rfl, a, rfl, ⟨_, s1.seq hs⟩, fun D hD => lc_list (K := K) (a := a) (xs := nv l) (fun i H' => Same H1 H' ∧ H' D = some (.lst (nv ((l.take i).map (told g))))) ⟨same_new (Same.refl H1) hD, upd_same⟩ (fun i H' _ h => h.1.seq (s1.seq hs)) ?_ ?_⟩
    · rintro i y H' hi ⟨s2, hD2⟩
      obtain ⟨n, hn, rfl⟩ := nv_get hi
      have tk := take_more hn
      have few := ig.few
      refine ⟨rfl, yes_go ⟨_, rfl, _, rfl, q, n, g, rfl, SqL.of (s2 _ _ hq), by omega, fun H3 s3 => ⟨_, s3 _ _ hD2, ?_, same_own (s2.trans s3) hD, ?_⟩⟩⟩
      · rw [nv_len, List.length_map, List.length_take]
        exact sl_lt (m := 8) (by omega)
      · rw [tk, List.map_append, List.map_cons, List.map_nil, nv_one]
        exact upd_same
    · rintro H' ⟨s2, hD2⟩
      rw [nv_len, List.take_length, shape_told ig] at hD2
      exact k H' D (s1.trans s2) (s1.free hD) hD2
/-! #### is_many -/
def spIsMany : Sp := fun vs H Q _ => ∃ n : Nat, vs = [.int (n : Int)] ∧ RetV (.bl (Kp126.okVars n)) H Q
theorem scIsMany : FnScope ["variables"] ["variables"] (defScope sIsMany) := ⟨rfl, rfl, rfl, by decide +kernel, rfl, by decide +kernel, by decide +kernel⟩
theorem okIsMany {f : Addr} {fd : FuncData} (F : Fun K "is_many" "is_many" sIsMany f fd) (g_MOST_VARIABLES : IntC mg "MOST_VARIABLES" (3)) : FnOk P w K mg base CX0 1 f fd ["variables"] (spIsMany) := by
  refine F.ok scIsMany (fun vs H Q E h => ?_) (fun cdv A outer s H vs Q E hr h => ?_)
  · obtain ⟨n, rfl, k⟩ := h
    rfl
  · obtain ⟨n, rfl, k⟩ := h
    refine ⟨_, (pss_one (ps_ret (pe_chain op_le op_le pe_int (pv 0) (pe_const g_MOST_VARIABLES)))), ?_⟩
    refine ⟨_, rfl, _, _, rfl, rfl, _, rfl, ?_⟩
    have q := k H (Same.refl H)
    have e3 : decide (n ≤ Kp126.VARS) = decide ((n : Int) ≤ 3) := decide_eq_decide.mpr (by show n ≤ 3 ↔ _; omega)
    by_cases c : 1 ≤ n
    · rw [decide_eq_true (show (1 : Int) ≤ (n : Int) by omega)]
      rw [show Kp126.okVars n = decide ((n : Int) ≤ 3) by unfold Kp126.okVars; rw [decide_eq_true c, e3]; rfl] at q
      exact iteT ⟨_, _, rfl, rfl, q⟩
    · rw [decide_eq_false (show ¬ (1 : Int) ≤ (n : Int) by omega)]
      rw [show Kp126.okVars n = false by unfold Kp126.okVars; rw [decide_eq_false c]; rfl] at q
      exact iteF q
/-! #### ts_of -/
def spTsOf (K : PySem.W.Frag) : Sp := fun vs H Q _ => ∃ (a : Addr) (l : List Nat), vs = [.ref a] ∧ SqL K H a (nv l) ∧ l.length ≤ 8 ∧ Due (Kp126.answer (.of l.length l)) Q
theorem scTsOf : FnScope ["x"] ["x"] (defScope sTsOf) := ⟨rfl, rfl, rfl, by decide +kernel, rfl, by decide +kernel, by decide +kernel⟩
theorem okTsOf {f : Addr} {fd : FuncData} (F : Fun K "ts_of" "ts_of" sTsOf f fd) (n_len : mg "len" = none) (c_is_many : Callee P w K mg base "is_many" 1 ["variables"] (spIsMany)) (c_refused : Callee P w K mg base "refused" 2 [] (spRefused)) (c_with_shape : Callee P w K mg base "with_shape" 1 ["number", "at"] (spWithShape K)) (c_filled : Callee P w K mg base "filled" 1 ["held"] (spFilled K)) (c_shape_of : Callee P w K mg base "shape_of" 3 ["numbers"] (spShapeOf K)) : FnOk P w K mg base CX0 4 f fd ["x"] (spTsOf K) := by
  refine F.ok scTsOf (fun vs H Q E h => ?_) (fun cdv A outer s H vs Q E hr h => ?_)
  · obtain ⟨a, l, rfl, hs, hl, k⟩ := h
    rfl
  · obtain ⟨a, l, rfl, hs, hl, k⟩ := h
    refine ⟨_, (pss_cons (ps_if (pt_not (pt_val (pe_go c_is_many (hr.mono (by decide)) (pa_cons (pe_callB call_len rfl n_len boot_len (pa_cons (pv 0) pa_nil)) pa_nil)))) (pss_one (ps_ret (pe_go0 c_refused (hr.mono (by decide))))) pss_nil) (pss_one (ps_ret (pe_go c_with_shape (hr.mono (by decide)) (pa_cons pe_int (pa_cons (pe_go c_filled (hr.mono (by decide)) (pa_cons (pe_go c_shape_of (hr.mono (by decide)) (pa_cons (pv 0) pa_nil)) pa_nil)) pa_nil)))))), ?_⟩
    refine ⟨_, rfl, _, _, rfl, .inl ⟨_, hs, rfl⟩, l.length, by rw [nv_len]; rfl, fun H1 s1 => ⟨_, rfl, ?_⟩⟩
    cases ok : Kp126.okVars l.length with
    | false =>
      refine iteT ⟨rfl, fun H2 p s2 np hp => k.num ?_ hp⟩
      exact if_pos ok
    | true =>
      obtain ⟨n1, n3⟩ := ok_vars ok
      have len : (Kp126.shapeOf l).length = l.length := List.length_map ..
      refine iteF ⟨_, rfl, a, l, rfl, s1.seq hs, hl, fun H2 p s2 np hp => ?_⟩
      refine ⟨p, _, rfl, SqL.of hp, by omega, fun H3 q s3 nq hq => ?_⟩
      refine ⟨q, 0, _, rfl, SqL.of hq, by rw [List.length_append, List.length_replicate]; omega, fun H4 r s4 nr hr4 => ?_⟩
      exact k.shape (n := 0) (s := Kp126.shapeOf l) (if_neg (by rw [ok]; exact Bool.noConfusion)) hr4
end
theorem all_mk {P : Program} {w : World} {K : PySem.W.Frag} {h : Heap} {mg : Str → Option Value} {fa f_number_alone f_refused f_with_shape f_filled f_is_great f_great_ones f_how_many_less f_told_as f_shape_of f_is_many f_ts_of : Addr} (X : K.In h) (G : h.Ns mainGlobals mg) (hfa : mg "ts_of" = some (.ref fa))
    {od_number_alone an_number_alone : Option Addr} {sl_number_alone : Array (Option Value)} {oc_number_alone kV_number_alone dc_number_alone pm_number_alone cd_number_alone ct_number_alone : Value}
    {od_refused an_refused : Option Addr} {sl_refused : Array (Option Value)} {oc_refused kV_refused dc_refused pm_refused cd_refused ct_refused : Value}
    {od_with_shape an_with_shape : Option Addr} {sl_with_shape : Array (Option Value)} {oc_with_shape kV_with_shape dc_with_shape pm_with_shape cd_with_shape ct_with_shape : Value}
    {od_filled an_filled : Option Addr} {sl_filled : Array (Option Value)} {oc_filled kV_filled dc_filled pm_filled cd_filled ct_filled : Value}
    {od_is_great an_is_great : Option Addr} {sl_is_great : Array (Option Value)} {oc_is_great kV_is_great dc_is_great pm_is_great cd_is_great ct_is_great : Value}
    {od_great_ones an_great_ones : Option Addr} {sl_great_ones : Array (Option Value)} {oc_great_ones kV_great_ones dc_great_ones pm_great_ones cd_great_ones ct_great_ones : Value}
    {od_how_many_less an_how_many_less : Option Addr} {sl_how_many_less : Array (Option Value)} {oc_how_many_less kV_how_many_less dc_how_many_less pm_how_many_less cd_how_many_less ct_how_many_less : Value}
    {od_told_as an_told_as : Option Addr} {sl_told_as : Array (Option Value)} {oc_told_as kV_told_as dc_told_as pm_told_as cd_told_as ct_told_as : Value}
    {od_shape_of an_shape_of : Option Addr} {sl_shape_of : Array (Option Value)} {oc_shape_of kV_shape_of dc_shape_of pm_shape_of cd_shape_of ct_shape_of : Value}
    {od_is_many an_is_many : Option Addr} {sl_is_many : Array (Option Value)} {oc_is_many kV_is_many dc_is_many pm_is_many cd_is_many ct_is_many : Value}
    {od_ts_of an_ts_of : Option Addr} {sl_ts_of : Array (Option Value)} {oc_ts_of kV_ts_of dc_ts_of pm_ts_of cd_ts_of ct_ts_of : Value}
    {t_NOT_SO : Tok}
    {t_MANY_AT : Tok}
    {t_SMALLEST_GREAT : Tok}
    {t_MOST_VARIABLES : Tok}
   
    (a_number_alone : PySem.W.nsIn K mainGlobals "number_alone" = some (some (.ref f_number_alone)))
    (l_number_alone : K.lookup f_number_alone = some ⟨oc_number_alone, od_number_alone, .func (PySem.W.fnOf "number_alone" "number_alone" (defArgs sNumberAlone) (defBody sNumberAlone) (defScope sNumberAlone) .none kV_number_alone dc_number_alone pm_number_alone an_number_alone cd_number_alone ct_number_alone), sl_number_alone⟩)
    (c_number_alone : PySem.W.codeIn K cd_number_alone "number_alone" = true) (k_number_alone : PySem.W.keepIn K (.ref f_number_alone) = true)
    (a_refused : PySem.W.nsIn K mainGlobals "refused" = some (some (.ref f_refused)))
    (l_refused : K.lookup f_refused = some ⟨oc_refused, od_refused, .func (PySem.W.fnOf "refused" "refused" (defArgs sRefused) (defBody sRefused) (defScope sRefused) .none kV_refused dc_refused pm_refused an_refused cd_refused ct_refused), sl_refused⟩)
    (c_refused : PySem.W.codeIn K cd_refused "refused" = true) (k_refused : PySem.W.keepIn K (.ref f_refused) = true)
    (a_with_shape : PySem.W.nsIn K mainGlobals "with_shape" = some (some (.ref f_with_shape)))
    (l_with_shape : K.lookup f_with_shape = some ⟨oc_with_shape, od_with_shape, .func (PySem.W.fnOf "with_shape" "with_shape" (defArgs sWithShape) (defBody sWithShape) (defScope sWithShape) .none kV_with_shape dc_with_shape pm_with_shape an_with_shape cd_with_shape ct_with_shape), sl_with_shape⟩)
    (c_with_shape : PySem.W.codeIn K cd_with_shape "with_shape" = true) (k_with_shape : PySem.W.keepIn K (.ref f_with_shape) = true)
    (a_filled : PySem.W.nsIn K mainGlobals "filled" = some (some (.ref f_filled)))
    (l_filled : K.lookup f_filled = some ⟨oc_filled, od_filled, .func (PySem.W.fnOf "filled" "filled" (defArgs sFilled) (defBody sFilled) (defScope sFilled) .none kV_filled dc_filled pm_filled an_filled cd_filled ct_filled), sl_filled⟩)
    (c_filled : PySem.W.codeIn K cd_filled "filled" = true) (k_filled : PySem.W.keepIn K (.ref f_filled) = true)
    (a_is_great : PySem.W.nsIn K mainGlobals "is_great" = some (some (.ref f_is_great)))
    (l_is_great : K.lookup f_is_great = some ⟨oc_is_great, od_is_great, .func (PySem.W.fnOf "is_great" "is_great" (defArgs sIsGreat) (defBody sIsGreat) (defScope sIsGreat) .none kV_is_great dc_is_great pm_is_great an_is_great cd_is_great ct_is_great), sl_is_great⟩)
    (c_is_great : PySem.W.codeIn K cd_is_great "is_great" = true) (k_is_great : PySem.W.keepIn K (.ref f_is_great) = true)
    (a_great_ones : PySem.W.nsIn K mainGlobals "great_ones" = some (some (.ref f_great_ones)))
    (l_great_ones : K.lookup f_great_ones = some ⟨oc_great_ones, od_great_ones, .func (PySem.W.fnOf "great_ones" "great_ones" (defArgs sGreatOnes) (defBody sGreatOnes) (defScope sGreatOnes) .none kV_great_ones dc_great_ones pm_great_ones an_great_ones cd_great_ones ct_great_ones), sl_great_ones⟩)
    (c_great_ones : PySem.W.codeIn K cd_great_ones "great_ones" = true) (k_great_ones : PySem.W.keepIn K (.ref f_great_ones) = true)
    (a_how_many_less : PySem.W.nsIn K mainGlobals "how_many_less" = some (some (.ref f_how_many_less)))
    (l_how_many_less : K.lookup f_how_many_less = some ⟨oc_how_many_less, od_how_many_less, .func (PySem.W.fnOf "how_many_less" "how_many_less" (defArgs sHowManyLess) (defBody sHowManyLess) (defScope sHowManyLess) .none kV_how_many_less dc_how_many_less pm_how_many_less an_how_many_less cd_how_many_less ct_how_many_less), sl_how_many_less⟩)
    (c_how_many_less : PySem.W.codeIn K cd_how_many_less "how_many_less" = true) (k_how_many_less : PySem.W.keepIn K (.ref f_how_many_less) = true)
    (a_told_as : PySem.W.nsIn K mainGlobals "told_as" = some (some (.ref f_told_as)))
    (l_told_as : K.lookup f_told_as = some ⟨oc_told_as, od_told_as, .func (PySem.W.fnOf "told_as" "told_as" (defArgs sToldAs) (defBody sToldAs) (defScope sToldAs) .none kV_told_as dc_told_as pm_told_as an_told_as cd_told_as ct_told_as), sl_told_as⟩)
    (c_told_as : PySem.W.codeIn K cd_told_as "told_as" = true) (k_told_as : PySem.W.keepIn K (.ref f_told_as) = true)
    (a_shape_of : PySem.W.nsIn K mainGlobals "shape_of" = some (some (.ref f_shape_of)))
    (l_shape_of : K.lookup f_shape_of = some ⟨oc_shape_of, od_shape_of, .func (PySem.W.fnOf "shape_of" "shape_of" (defArgs sShapeOf) (defBody sShapeOf) (defScope sShapeOf) .none kV_shape_of dc_shape_of pm_shape_of an_shape_of cd_shape_of ct_shape_of), sl_shape_of⟩)
    (c_shape_of : PySem.W.codeIn K cd_shape_of "shape_of" = true) (k_shape_of : PySem.W.keepIn K (.ref f_shape_of) = true)
    (a_is_many : PySem.W.nsIn K mainGlobals "is_many" = some (some (.ref f_is_many)))
    (l_is_many : K.lookup f_is_many = some ⟨oc_is_many, od_is_many, .func (PySem.W.fnOf "is_many" "is_many" (defArgs sIsMany) (defBody sIsMany) (defScope sIsMany) .none kV_is_many dc_is_many pm_is_many an_is_many cd_is_many ct_is_many), sl_is_many⟩)
    (c_is_many : PySem.W.codeIn K cd_is_many "is_many" = true) (k_is_many : PySem.W.keepIn K (.ref f_is_many) = true)
    (a_ts_of : PySem.W.nsIn K mainGlobals "ts_of" = some (some (.ref f_ts_of)))
    (l_ts_of : K.lookup f_ts_of = some ⟨oc_ts_of, od_ts_of, .func (PySem.W.fnOf "ts_of" "ts_of" (defArgs sTsOf) (defBody sTsOf) (defScope sTsOf) .none kV_ts_of dc_ts_of pm_ts_of an_ts_of cd_ts_of ct_ts_of), sl_ts_of⟩)
    (c_ts_of : PySem.W.codeIn K cd_ts_of "ts_of" = true) (k_ts_of : PySem.W.keepIn K (.ref f_ts_of) = true)
    (g_NOT_SO : PySem.W.nsIn K mainGlobals "NOT_SO" = some (some (.int (-22) t_NOT_SO)))
    (g_MANY_AT : PySem.W.nsIn K mainGlobals "MANY_AT" = some (some (.int (3) t_MANY_AT)))
    (g_SMALLEST_GREAT : PySem.W.nsIn K mainGlobals "SMALLEST_GREAT" = some (some (.int (4) t_SMALLEST_GREAT)))
    (g_MOST_VARIABLES : PySem.W.nsIn K mainGlobals "MOST_VARIABLES" = some (some (.int (3) t_MOST_VARIABLES)))
    (n_len : PySem.W.nsIn K mainGlobals "len" = some none)
    (n_list : PySem.W.nsIn K mainGlobals "list" = some none)
    (n_sorted : PySem.W.nsIn K mainGlobals "sorted" = some none)
    : ∃ fd : FuncData, (∀ (s : Shared) (us : List Value), us.length = (["x"] : List Str).length → BindsTo s fd ⟨us, []⟩ ((["x"] : List Str).zip us)) ∧ ∀ base : Heap, K.In base → base.Ns mainGlobals mg → FnOk P w K mg base CX0 4 fa fd ["x"] (spTsOf K) := by
  have e := hfa.symm.trans (PySem.W.mg_of X G a_ts_of)
  cases e
  have G_NOT_SO : IntC mg "NOT_SO" (-22) := ⟨_, PySem.W.mg_of X G g_NOT_SO⟩
  have G_MANY_AT : IntC mg "MANY_AT" (3) := ⟨_, PySem.W.mg_of X G g_MANY_AT⟩
  have G_SMALLEST_GREAT : IntC mg "SMALLEST_GREAT" (4) := ⟨_, PySem.W.mg_of X G g_SMALLEST_GREAT⟩
  have G_MOST_VARIABLES : IntC mg "MOST_VARIABLES" (3) := ⟨_, PySem.W.mg_of X G g_MOST_VARIABLES⟩
  have N_len : mg "len" = none := PySem.W.mg_none_of X G n_len
  have N_list : mg "list" = none := PySem.W.mg_none_of X G n_list
  have N_sorted : mg "sorted" = none := PySem.W.mg_none_of X G n_sorted
  have F_number_alone := fun_mk (st := sNumberAlone) l_number_alone c_number_alone k_number_alone
  have b_number_alone := F_number_alone.binds (ps := ["number"]) fun _ _ _ _ _ _ us hl => match us, hl with | [_], _ => rfl
  have K_number_alone : ∀ base : Heap, Callee P w K mg base "number_alone" 1 ["number"] (spNumberAlone) := fun base => ⟨_, _, okNumberAlone F_number_alone, PySem.W.mg_of X G a_number_alone, k_number_alone, b_number_alone⟩
  have F_refused := fun_mk (st := sRefused) l_refused c_refused k_refused
  have b_refused := F_refused.binds (ps := []) fun _ _ _ _ _ _ us hl => match us, hl with | [], _ => rfl
  have K_refused : ∀ base : Heap, Callee P w K mg base "refused" 2 [] (spRefused) := fun base => ⟨_, _, okRefused F_refused G_NOT_SO (K_number_alone base), PySem.W.mg_of X G a_refused, k_refused, b_refused⟩
  have F_with_shape := fun_mk (st := sWithShape) l_with_shape c_with_shape k_with_shape
  have b_with_shape := F_with_shape.binds (ps := ["number", "at"]) fun _ _ _ _ _ _ us hl => match us, hl with | [_, _], _ => rfl
  have K_with_shape : ∀ base : Heap, Callee P w K mg base "with_shape" 1 ["number", "at"] (spWithShape K) := fun base => ⟨_, _, okWithShape F_with_shape N_len N_list, PySem.W.mg_of X G a_with_shape, k_with_shape, b_with_shape⟩
  have F_filled := fun_mk (st := sFilled) l_filled c_filled k_filled
  have b_filled := F_filled.binds (ps := ["held"]) fun _ _ _ _ _ _ us hl => match us, hl with | [_], _ => rfl
  have K_filled : ∀ base : Heap, Callee P w K mg base "filled" 1 ["held"] (spFilled K) := fun base => ⟨_, _, okFilled F_filled G_MANY_AT N_len N_list, PySem.W.mg_of X G a_filled, k_filled, b_filled⟩
  have F_is_great := fun_mk (st := sIsGreat) l_is_great c_is_great k_is_great
  have b_is_great := F_is_great.binds (ps := ["number"]) fun _ _ _ _ _ _ us hl => match us, hl with | [_], _ => rfl
  have K_is_great : ∀ base : Heap, Callee P w K mg base "is_great" 1 ["number"] (spIsGreat) := fun base => ⟨_, _, okIsGreat F_is_great G_SMALLEST_GREAT, PySem.W.mg_of X G a_is_great, k_is_great, b_is_great⟩
  have F_great_ones := fun_mk (st := sGreatOnes) l_great_ones c_great_ones k_great_ones
  have b_great_ones := F_great_ones.binds (ps := ["numbers"]) fun _ _ _ _ _ _ us hl => match us, hl with | [_], _ => rfl
  have K_great_ones : ∀ base : Heap, Callee P w K mg base "great_ones" 2 ["numbers"] (spGreatOnes K) := fun base => ⟨_, _, okGreatOnes F_great_ones N_sorted (K_is_great base), PySem.W.mg_of X G a_great_ones, k_great_ones, b_great_ones⟩
  have F_how_many_less := fun_mk (st := sHowManyLess) l_how_many_less c_how_many_less k_how_many_less
  have b_how_many_less := F_how_many_less.binds (ps := ["numbers", "bound"]) fun _ _ _ _ _ _ us hl => match us, hl with | [_, _], _ => rfl
  have K_how_many_less : ∀ base : Heap, Callee P w K mg base "how_many_less" 1 ["numbers", "bound"] (spHowManyLess K) := fun base => ⟨_, _, okHowManyLess F_how_many_less N_len, PySem.W.mg_of X G a_how_many_less, k_how_many_less, b_how_many_less⟩
  have F_told_as := fun_mk (st := sToldAs) l_told_as c_told_as k_told_as
  have b_told_as := F_told_as.binds (ps := ["number", "great"]) fun _ _ _ _ _ _ us hl => match us, hl with | [_, _], _ => rfl
  have K_told_as : ∀ base : Heap, Callee P w K mg base "told_as" 2 ["number", "great"] (spToldAs K) := fun base => ⟨_, _, okToldAs F_told_as G_SMALLEST_GREAT (K_is_great base) (K_how_many_less base), PySem.W.mg_of X G a_told_as, k_told_as, b_told_as⟩
  have F_shape_of := fun_mk (st := sShapeOf) l_shape_of c_shape_of k_shape_of
  have b_shape_of := F_shape_of.binds (ps := ["numbers"]) fun _ _ _ _ _ _ us hl => match us, hl with | [_], _ => rfl
  have K_shape_of : ∀ base : Heap, Callee P w K mg base "shape_of" 3 ["numbers"] (spShapeOf K) := fun base => ⟨_, _, okShapeOf F_shape_of (K_great_ones base) (K_told_as base), PySem.W.mg_of X G a_shape_of, k_shape_of, b_shape_of⟩
  have F_is_many := fun_mk (st := sIsMany) l_is_many c_is_many k_is_many
  have b_is_many := F_is_many.binds (ps := ["variables"]) fun _ _ _ _ _ _ us hl => match us, hl with | [_], _ => rfl
  have K_is_many : ∀ base : Heap, Callee P w K mg base "is_many" 1 ["variables"] (spIsMany) := fun base => ⟨_, _, okIsMany F_is_many G_MOST_VARIABLES, PySem.W.mg_of X G a_is_many, k_is_many, b_is_many⟩
  have F_ts_of := fun_mk (st := sTsOf) l_ts_of c_ts_of k_ts_of
  exact ⟨_, fun s us hu => match us, hu with | [_], _ => .of_eq rfl, fun base _ _ => okTsOf F_ts_of N_len (K_is_many base) (K_refused base) (K_with_shape base) (K_filled base) (K_shape_of base)⟩
end Sh
open PySem PySem.W PyProof.Rows
set_option maxRecDepth 100000 in
set_option maxHeartbeats 8000000 in
theorem PySem.Challenge.cw_shapestep_s01_ts_of_holds : PySem.Challenge.rw_shapestep_s01_ts_of.Holds := by
  w_on; k_headS; (case hw => exact ⟨[.list []], by decide +kernel, by decide +kernel⟩)
  k_fillS
  refine L2.walk_specK (r := PySem.Challenge.rw_shapestep_s01_ts_of) (k := 4) (CX := L2.CX0) (ps := ["x"]) (sp := fun K => Sh.spTsOf K) (by decide +kernel) rfl rfl ⟨rfl, by decide, by decide⟩ (fun w h Y => PySem.W.kIn_of Y) ?F ?S (fun _ _ _ _ z => z)
  case F =>
    intro w mg fa h Y KX G hmg
    refine' Sh.all_mk KX G hmg ?a_number_alone ?l_number_alone ?c_number_alone ?k_number_alone ?a_refused ?l_refused ?c_refused ?k_refused ?a_with_shape ?l_with_shape ?c_with_shape ?k_with_shape ?a_filled ?l_filled ?c_filled ?k_filled ?a_is_great ?l_is_great ?c_is_great ?k_is_great ?a_great_ones ?l_great_ones ?c_great_ones ?k_great_ones ?a_how_many_less ?l_how_many_less ?c_how_many_less ?k_how_many_less ?a_told_as ?l_told_as ?c_told_as ?k_told_as ?a_shape_of ?l_shape_of ?c_shape_of ?k_shape_of ?a_is_many ?l_is_many ?c_is_many ?k_is_many ?a_ts_of ?l_ts_of ?c_ts_of ?k_ts_of ?g_NOT_SO ?g_MANY_AT ?g_SMALLEST_GREAT ?g_MOST_VARIABLES ?n_len ?n_list ?n_sorted
    (case a_number_alone => k_is)
    (case l_number_alone => k_is)
    (case c_number_alone => k_is)
    (case k_number_alone => k_is)
    (case a_refused => k_is)
    (case l_refused => k_is)
    (case c_refused => k_is)
    (case k_refused => k_is)
    (case a_with_shape => k_is)
    (case l_with_shape => k_is)
    (case c_with_shape => k_is)
    (case k_with_shape => k_is)
    (case a_filled => k_is)
    (case l_filled => k_is)
    (case c_filled => k_is)
    (case k_filled => k_is)
    (case a_is_great => k_is)
    (case l_is_great => k_is)
    (case c_is_great => k_is)
    (case k_is_great => k_is)
    (case a_great_ones => k_is)
    (case l_great_ones => k_is)
    (case c_great_ones => k_is)
    (case k_great_ones => k_is)
    (case a_how_many_less => k_is)
    (case l_how_many_less => k_is)
    (case c_how_many_less => k_is)
    (case k_how_many_less => k_is)
    (case a_told_as => k_is)
    (case l_told_as => k_is)
    (case c_told_as => k_is)
    (case k_told_as => k_is)
    (case a_shape_of => k_is)
    (case l_shape_of => k_is)
    (case c_shape_of => k_is)
    (case k_shape_of => k_is)
    (case a_is_many => k_is)
    (case l_is_many => k_is)
    (case c_is_many => k_is)
    (case k_is_many => k_is)
    (case a_ts_of => k_is)
    (case l_ts_of => k_is)
    (case c_ts_of => k_is)
    (case k_ts_of => k_is)
    (case g_NOT_SO => k_is)
    (case g_MANY_AT => k_is)
    (case g_SMALLEST_GREAT => k_is)
    (case g_MOST_VARIABLES => k_is)
    (case n_len => k_is)
    (case n_list => k_is)
    (case n_sorted => k_is)
  case S =>
    intro K H xs a hO hwi hask hx
    obtain ⟨l, _⟩ := a
    have q : ((Codec.inLen 0 8 l && l.all (Codec.inInt 0 9223372036854775807)) && true) = true := hwi
    simp only [Bool.and_eq_true] at q
    obtain ⟨⟨hlen, hall⟩, _⟩ := q
    have pall : ∀ z ∈ l, 0 ≤ z := fun z hz => (Codec.inInt_iff.mp (List.all_eq_true.mp hall z hz)).1
    have len : (Kp126Neutral.nats l).length = l.length := List.length_map ..
    obtain ⟨len1, len2⟩ := Codec.inNat_iff.mp hlen
    cases hx with
    | cons hl hx =>
    cases hx
    cases hl with
    | lst hs ha =>
    have e := L2.ints_dw l _ ha
    subst e
    rw [Sh.nats_nv pall] at hs
    exact ⟨_, Kp126Neutral.nats l, rfl, hs, by omega, Sh.dw_due _ fun H' v h => h⟩
