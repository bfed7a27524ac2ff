import PyProof.Rows.All
import Wide.All
import OpenK.AllK
import Wide.FinOn
import HandS.ForMost
import HandS.Lambda
import HandS.Walk
import KE.GoesEnum
import HandS.SortKw
import KE.SortKeyHeap
import KE.KSortKey
import HandS.TupAny
import HandS.IsInst
import HandS.Conv
import HandS.EndTab
import HandS.HeadWalk
import KE.KNestM
import PySem.Challenge.RW_allbide_k46_whole_shifted_and_mirrored
set_option Elab.async false
set_option linter.all false
set_option maxRecDepth 100000
set_option maxHeartbeats 4000000
/-! ## KMath -/
/-! The plain law: what the functions of the program work out, over lists of steps, and why shifting or mirroring changes nothing. -/
namespace K46
/-- a step: it raises (true) or lowers; its event; its time -/
abbrev Step := Bool × Int × Int
def commute (s o : Step) : Bool :=
  if s.1 = o.1 then true
  else if s.1 = true then (decide (s.2.1 = o.2.1) && decide (s.2.2 ≤ o.2.2)) else (decide (o.2.1 = s.2.1) && decide (o.2.2 ≤ s.2.2))
def stronger (s o : Step) : Bool := if s.1 = true then decide (o.2.2 < s.2.2) else decide (s.2.2 < o.2.2)
def alikeS (s o : Step) : Bool := decide (s.1 = o.1) && decide (s.2.1 = o.2.1)
def mid (S : List Step) (i b : Nat) : List Step := (S.drop (b + 1)).take (i - (b + 1))
def idleOf (S : List Step) (i b : Nat) (s o : Step) : Bool :=
  if i = b then false
  else if alikeS s o = false then false
  else if i < b then !stronger s o
  else stronger o s && (mid S i b).all (commute s)
def mkIdle (S : List Step) (i b : Nat) : Bool :=
  match S[i]?, S[b]? with
  | some s, some o => idleOf S i b s o
  | _, _ => false
def whyIdle (S : List Step) (i : Nat) : Option Nat := (List.range S.length).find? fun b => mkIdle S i b
def idleSteps (S : List Step) : List Nat := (List.range S.length).filter fun i => (whyIdle S i).isSome
def firstIdle (S : List Step) : Option (Nat × Nat) := (List.range S.length).findSome? fun i => (whyIdle S i).map fun b => (i, b)
def sub (S : List Step) (left : List Nat) : List Step := left.filterMap fun a => S[a]?
def redFuel (S : List Step) : Nat → List Nat → List (Nat × Nat) → List (Nat × Nat) × List Nat
  | 0, left, found => (found, left)
  | n + 1, left, found =>
    match firstIdle (sub S left) with
    | none => (found, left)
    | some p => redFuel S n (left.eraseIdx p.1) (found ++ [(left.getD p.1 0, left.getD p.2 0)])
def red (S : List Step) : List (Nat × Nat) × List Nat := redFuel S S.length (List.range S.length) []
def maxL (l : List Int) : Int := l.foldl max (-1)
def aheadAt (S : List Step) (lv : List Int) (n k : Nat) : Option Int :=
  match S[k]?, S[n]? with
  | some a, some b => if commute a b = true then none else lv[k]?
  | _, _ => none
def ahead (S : List Step) (lv : List Int) (n m : Nat) : List Int := (List.range m).filterMap fun k => aheadAt S lv n k
def levelsTo (S : List Step) : Nat → List Int
  | 0 => []
  | n + 1 => levelsTo S n ++ [maxL (ahead S (levelsTo S n) n n) + 1]
def levels (S : List Step) : List Int := levelsTo S S.length
def layer (S : List Step) (l : Int) : List Step := ((S.zip (levels S)).filter fun p => decide (p.2 = l)).map (·.1)
def nLayers (S : List Step) : Nat := (maxL (levels S) + 1).toNat
def layersOf (S : List Step) : List (List Step) := (List.range (nLayers S)).map fun (i : Nat) => layer S (i : Int)
/-- the step put later by n (g = 1), or mirrored and put later (g = -1) -/
def turnT (n g : Int) (s : Step) : Step := (if g < 0 then !s.1 else s.1, s.2.1, g * s.2.2 + n)
/-- a change of the steps that keeps what the program asks of them -/
structure Keeps (T : Step → Step) : Prop where
  com : ∀ s o, commute (T s) (T o) = commute s o
  str : ∀ s o, alikeS s o = true → stronger (T s) (T o) = stronger s o
  ali : ∀ s o, alikeS (T s) (T o) = alikeS s o
theorem keeps_later (n : Int) : Keeps (turnT n 1) := by
  have e : ∀ s : Step, turnT n 1 s = (s.1, s.2.1, s.2.2 + n) := fun s => by
    unfold turnT
    simp
  refine ⟨fun s o => ?_, fun s o _ => ?_, fun s o => ?_⟩
  · rw [e, e]
    unfold commute
    simp
  · rw [e, e]
    unfold stronger
    simp
  · rw [e, e]
    unfold alikeS
    simp
theorem keeps_mirror (n : Int) : Keeps (turnT n (-1)) := by
  have e : ∀ s : Step, turnT n (-1) s = (!s.1, s.2.1, -s.2.2 + n) := fun s => by
    unfold turnT
    simp
  refine ⟨fun s o => ?_, fun s o h => ?_, fun s o => ?_⟩
  · rw [e, e]
    obtain ⟨b, x, t⟩ := s
    obtain ⟨b', x', t'⟩ := o
    unfold commute
    cases b <;> cases b' <;> simp [eq_comm]
  · rw [e, e]
    obtain ⟨b, x, t⟩ := s
    obtain ⟨b', x', t'⟩ := o
    unfold stronger
    cases b <;> cases b' <;> simp_all [alikeS]
  · rw [e, e]
    obtain ⟨b, x, t⟩ := s
    obtain ⟨b', x', t'⟩ := o
    unfold alikeS
    cases b <;> cases b' <;> simp
section
variable {T : Step → Step} (K : Keeps T)
include K
theorem idleOf_map (S : List Step) (i b : Nat) (s o : Step) : idleOf (S.map T) i b (T s) (T o) = idleOf S i b s o := by
  unfold idleOf
  rw [K.ali]
  by_cases h1 : i = b
  · rw [if_pos h1, if_pos h1]
  · rw [if_neg h1, if_neg h1]
    by_cases h2 : alikeS s o = false
    · rw [if_pos h2, if_pos h2]
    · rw [if_neg h2, if_neg h2]
      have h3 : alikeS s o = true := by simpa using h2
      have h4 : alikeS o s = true := by
        unfold alikeS at h3 ⊢
        simp only [Bool.and_eq_true, decide_eq_true_eq] at h3 ⊢
        exact ⟨h3.1.symm, h3.2.symm⟩
      rw [K.str _ _ h3, K.str _ _ h4]
      have e : (mid (S.map T) i b).all (commute (T s)) = (mid S i b).all (commute s) := by
        unfold mid
        rw [← List.map_drop, ← List.map_take, List.all_map]
        congr 1
        funext x
        exact K.com s x
      rw [e]
theorem mkIdle_map (S : List Step) (i b : Nat) : mkIdle (S.map T) i b = mkIdle S i b := by
  unfold mkIdle
  rw [List.getElem?_map, List.getElem?_map]
  cases h1 : S[i]? with
  | none => rfl
  | some s =>
    cases h2 : S[b]? with
    | none => rfl
    | some o => exact idleOf_map K S i b s o
theorem whyIdle_map (S : List Step) (i : Nat) : whyIdle (S.map T) i = whyIdle S i := by
  unfold whyIdle
  rw [List.length_map]
  congr 1
  funext b
  exact mkIdle_map K S i b
theorem idleSteps_map (S : List Step) : idleSteps (S.map T) = idleSteps S := by
  unfold idleSteps
  rw [List.length_map]
  congr 1
  funext i
  rw [whyIdle_map K]
theorem firstIdle_map (S : List Step) : firstIdle (S.map T) = firstIdle S := by
  unfold firstIdle
  rw [List.length_map]
  congr 1
  funext i
  rw [whyIdle_map K]
theorem sub_map (S : List Step) (left : List Nat) : sub (S.map T) left = (sub S left).map T := by
  unfold sub
  rw [List.map_filterMap]
  congr 1
  funext a
  rw [List.getElem?_map]
theorem redFuel_map (S : List Step) : ∀ (n : Nat) (left : List Nat) (found : List (Nat × Nat)), redFuel (S.map T) n left found = redFuel S n left found
  | 0, _, _ => rfl
  | n + 1, left, found => by
    unfold redFuel
    rw [sub_map K, firstIdle_map K]
    cases firstIdle (sub S left) with
    | none => rfl
    | some p => exact redFuel_map S n _ _
theorem red_map (S : List Step) : red (S.map T) = red S := by
  unfold red
  rw [List.length_map]
  exact redFuel_map K S _ _ _
theorem aheadAt_map (S : List Step) (lv : List Int) (n k : Nat) : aheadAt (S.map T) lv n k = aheadAt S lv n k := by
  unfold aheadAt
  rw [List.getElem?_map, List.getElem?_map]
  cases S[k]? with
  | none => rfl
  | some a =>
    cases S[n]? with
    | none => rfl
    | some b =>
      show (if commute (T a) (T b) = true then none else lv[k]?) = if commute a b = true then none else lv[k]?
      rw [K.com]
theorem levelsTo_map (S : List Step) : ∀ n, levelsTo (S.map T) n = levelsTo S n
  | 0 => rfl
  | n + 1 => by
    unfold levelsTo
    rw [levelsTo_map S n]
    have e : ahead (S.map T) (levelsTo S n) n n = ahead S (levelsTo S n) n n := by
      unfold ahead
      congr 1
      funext k
      exact aheadAt_map K S _ n k
    rw [e]
theorem levels_map (S : List Step) : levels (S.map T) = levels S := by
  unfold levels
  rw [List.length_map]
  exact levelsTo_map K S _
theorem layer_map (S : List Step) (l : Int) : layer (S.map T) l = (layer S l).map T := by
  unfold layer
  rw [levels_map K]
  have e : (S.map T).zip (levels S) = (S.zip (levels S)).map fun p => (T p.1, p.2) := by
    have h := List.zip_map (f := T) (g := fun x : Int => x) (l₁ := S) (l₂ := levels S)
    rw [show (levels S).map (fun x : Int => x) = levels S from List.map_id' _] at h
    rw [h] <;> rfl
  rw [e, List.filter_map, List.map_map, List.map_map]
  rfl
theorem layersOf_map (S : List Step) : layersOf (S.map T) = (layersOf S).map (List.map T) := by
  unfold layersOf nLayers
  rw [levels_map K, List.map_map]
  apply List.map_congr_left
  intro i _
  exact layer_map K S _
end
/-! ### what the walk asks -/
theorem redFuel_none {S : List Step} {n : Nat} {left : List Nat} {found : List (Nat × Nat)} (h : firstIdle (sub S left) = none) : redFuel S n left found = (found, left) := by
  cases n with
  | zero => rfl
  | succ n =>
    unfold redFuel
    rw [h]
theorem redFuel_some {S : List Step} {n : Nat} {left : List Nat} {found : List (Nat × Nat)} {p : Nat × Nat} (h : firstIdle (sub S left) = some p) :
    redFuel S (n + 1) left found = redFuel S n (left.eraseIdx p.1) (found ++ [(left.getD p.1 0, left.getD p.2 0)]) := by
  show (match firstIdle (sub S left) with
    | none => (found, left)
    | some p => redFuel S n (left.eraseIdx p.1) (found ++ [(left.getD p.1 0, left.getD p.2 0)])) = _
  rw [h]
theorem whyIdle_lt {S : List Step} {i b : Nat} (h : whyIdle S i = some b) : b < S.length := by
  have := List.mem_of_find?_eq_some h
  simpa using this
theorem firstIdle_lt {S : List Step} {p : Nat × Nat} (h : firstIdle S = some p) : p.1 < S.length ∧ p.2 < S.length := by
  unfold firstIdle at h
  obtain ⟨i, hi, e⟩ := List.exists_of_findSome?_eq_some h
  cases e2 : whyIdle S i with
  | none =>
    rw [e2] at e
    cases e
  | some b =>
    rw [e2] at e
    have e3 : (i, b) = p := Option.some.inj e
    rw [← e3]
    exact ⟨by simpa using hi, whyIdle_lt e2⟩
/-- the first of range n for which f holds, told turn by turn -/
theorem find_range {f : Nat → Bool} : ∀ {n i : Nat}, i < n → (∀ j, j < i → f j = false) → f i = true → (List.range n).find? f = some i := by
  intro n i hi hb ht
  rw [List.find?_range_eq_some]
  refine ⟨ht, by simpa using hi, fun j hj => ?_⟩
  rw [hb j hj]
  rfl
theorem find_none {f : Nat → Bool} {n : Nat} (hb : ∀ j, j < n → f j = false) : (List.range n).find? f = none := by
  rw [List.find?_eq_none]
  intro x hx
  rw [hb x (by simpa using hx)]
  exact Bool.false_ne_true
theorem findSome_range {α : Type} {f : Nat → Option α} {n i : Nat} {y : α} (hi : i < n) (hb : ∀ j, j < i → f j = none) (ht : f i = some y) : (List.range n).findSome? f = some y := by
  rw [List.findSome?_eq_some_iff]
  refine ⟨List.range i, i, (List.range (n - i - 1)).map (· + (i + 1)), ?_, ht, fun x hx => hb x (by simpa using hx)⟩
  have e : n = (i + 1) + (n - i - 1) := by omega
  rw [show List.range n = List.range ((i + 1) + (n - i - 1)) from by rw [← e], List.range_add, List.range_succ]
  simp [Nat.add_comm]
theorem findSome_none {α : Type} {f : Nat → Option α} {n : Nat} (hb : ∀ j, j < n → f j = none) : (List.range n).findSome? f = none := by
  rw [List.findSome?_eq_none_iff]
  intro x hx
  exact hb x (by simpa using hx)
theorem sub_length {S : List Step} : ∀ {left : List Nat}, (∀ a ∈ left, a < S.length) → (sub S left).length = left.length
  | [], _ => rfl
  | a :: r, h => by
    have ha : a < S.length := h a (List.mem_cons_self ..)
    have e : S[a]? = some S[a] := List.getElem?_eq_getElem ha
    unfold sub
    rw [List.filterMap_cons, e]
    show (sub S r).length + 1 = r.length + 1
    rw [sub_length fun x hx => h x (List.mem_cons_of_mem _ hx)]
theorem sub_snoc {S : List Step} {l : List Nat} {a : Nat} {s : Step} (h : S[a]? = some s) : sub S (l ++ [a]) = sub S l ++ [s] := by
  unfold sub
  rw [List.filterMap_append, List.filterMap_cons, h]
  rfl
theorem maxL_snoc (l : List Int) (x : Int) : maxL (l ++ [x]) = max (maxL l) x := by
  unfold maxL
  rw [List.foldl_append]
  rfl
theorem fold_ge : ∀ (l : List Int) (a : Int), a ≤ l.foldl max a ∧ (∀ x ∈ l, x ≤ l.foldl max a) ∧ (l.foldl max a = a ∨ l.foldl max a ∈ l)
  | [], a => ⟨Int.le_refl _, (fun x hx => by cases hx), .inl rfl⟩
  | y :: r, a => by
    obtain ⟨h1, h2, h3⟩ := fold_ge r (max a y)
    show a ≤ r.foldl max (max a y) ∧ (∀ x ∈ y :: r, x ≤ r.foldl max (max a y)) ∧ (r.foldl max (max a y) = a ∨ r.foldl max (max a y) ∈ y :: r)
    refine ⟨by omega, fun x hx => ?_, ?_⟩
    · rcases List.mem_cons.mp hx with e | e
      · rw [e]
        omega
      · exact h2 x e
    · rcases h3 with e | e
      · by_cases q : a ≤ y
        · right
          rw [e, Int.max_eq_right q]
          exact List.mem_cons_self ..
        · left
          rw [e, Int.max_eq_left (by omega)]
      · exact .inr (List.mem_cons_of_mem _ e)
/-- what max([-1] + l) is -/
theorem maxL_is {l : List Int} {m : Int} (h1 : m ∈ [-1] ++ l) (h2 : ∀ y, y ∈ [-1] ++ l → y ≤ m) : m = maxL l := by
  obtain ⟨a1, a2, a3⟩ := fold_ge l (-1)
  have b1 : (-1 : Int) ≤ m := h2 _ (by simp)
  have b2 : maxL l ≤ m := by
    rcases a3 with e | e
    · unfold maxL
      rw [e]
      exact b1
    · exact h2 _ (List.mem_append_right _ e)
  have b3 : m ≤ maxL l := by
    rcases List.mem_append.mp h1 with e | e
    · have e' : m = -1 := by simpa using e
      rw [e']
      exact a1
    · exact a2 m e
  omega
theorem maxL_ge (l : List Int) : -1 ≤ maxL l := (fold_ge l (-1)).1
theorem maxL_le {l : List Int} {b : Int} (hb : -1 ≤ b) (h : ∀ x ∈ l, x ≤ b) : maxL l ≤ b := by
  rcases (fold_ge l (-1)).2.2 with e | e
  · unfold maxL
    rw [e]
    exact hb
  · exact h _ e
theorem levelsTo_length (S : List Step) : ∀ n, (levelsTo S n).length = n
  | 0 => rfl
  | n + 1 => by
    unfold levelsTo
    rw [List.length_append, levelsTo_length S n]
    rfl
theorem levels_length (S : List Step) : (levels S).length = S.length := levelsTo_length S _
theorem levelsTo_le (S : List Step) : ∀ n, ∀ x ∈ levelsTo S n, x ≤ (n : Int)
  | 0, x, h => by cases h
  | n + 1, x, h => by
    unfold levelsTo at h
    have b : ∀ y ∈ levelsTo S n, y ≤ (n : Int) := levelsTo_le S n
    rcases List.mem_append.mp h with e | e
    · have := b x e
      omega
    · have e' : x = maxL (ahead S (levelsTo S n) n n) + 1 := by simpa using e
      have c : maxL (ahead S (levelsTo S n) n n) ≤ (n : Int) := by
        refine maxL_le (by omega) fun y hy => ?_
        unfold ahead at hy
        obtain ⟨k, _, hk⟩ := List.mem_filterMap.mp hy
        unfold aheadAt at hk
        split at hk
        · split at hk
          · cases hk
          · exact b y (List.mem_of_getElem? hk)
        · cases hk
      omega
theorem nLayers_le (S : List Step) : maxL (levels S) ≤ (S.length : Int) := maxL_le (by omega) (levelsTo_le S S.length)
theorem layer_length (S : List Step) (l : Int) : (layer S l).length ≤ S.length := by
  unfold layer
  rw [List.length_map]
  refine Nat.le_trans (List.length_filter_le ..) ?_
  rw [List.length_zip]
  omega
end K46

/-! ## KDat -/
/-! Data on the abstract heap: how steps, lists of steps and their like stand there, and what keeps them. -/
namespace K46
open PySem PySem.Spec PyProof.Rows L2
/-- what is read as a tuple, a list, there, is so here -/
structure Kp (H H' : Hp) : Prop where
  tup : ∀ a xs, Rd H a (.tup xs) → Rd H' a (.tup xs)
  lst : ∀ a xs, Rd H a (.lst xs) → Rd H' a (.lst xs)
/-- the tuples alone -/
def Kt (H H' : Hp) : Prop := ∀ a xs, Rd H a (.tup xs) → Rd H' a (.tup xs)
theorem Kp.refl (H : Hp) : Kp H H := ⟨fun _ _ h => h, fun _ _ h => h⟩
theorem Kp.trans {H H1 H2 : Hp} (a : Kp H H1) (b : Kp H1 H2) : Kp H H2 := ⟨fun c x h => b.tup c x (a.tup c x h), fun c x h => b.lst c x (a.lst c x h)⟩
theorem Kt.trans {H H1 H2 : Hp} (a : Kt H H1) (b : Kt H1 H2) : Kt H H2 := fun c x h => b c x (a c x h)
theorem Kt.refl (H : Hp) : Kt H H := fun _ _ h => h
theorem Kp.kt {H H' : Hp} (k : Kp H H') : Kt H H' := k.tup
theorem kp_ext {H H' : Hp} (e : LamX.ExtN H H') : Kp H H' := by
  refine ⟨fun a xs h => ?_, fun a xs h => ?_⟩
  · rcases h with h | ⟨o, h⟩
    · exact .inl (e _ _ h (fun ps z => by cases z))
    · exact .inr ⟨o, e _ _ h (fun ps z => by cases z)⟩
  · rcases h with h | ⟨o, h⟩
    · exact .inl (e _ _ h (fun ps z => by cases z))
    · exact .inr ⟨o, e _ _ h (fun ps z => by cases z)⟩
theorem kp_same {H H' : Hp} (e : Same H H') : Kp H H' := kp_ext (LamX.ExtN.of e)
theorem same_new {H : Hp} {p : Addr} {o : HO} (h : H p = none) : Same H (upd H p o) := fun b x e => by
  rw [upd_ne (ne_of_none e h)]
  exact e
theorem kp_new {H : Hp} {p : Addr} {o : HO} (h : H p = none) : Kp H (upd H p o) := kp_same (same_new h)
theorem kt_lst {H : Hp} {p : Addr} {zs : List V} {o : HO} (h : H p = some (.lst zs)) : Kt H (upd H p o) := fun a xs r => by
  have ne : a ≠ p := by
    intro e
    rw [e] at r
    rcases r with r | ⟨q, r⟩
    · rw [h] at r
      cases r
    · rw [h] at r
      cases r
  rcases r with r | ⟨q, r⟩
  · exact .inl (by rw [upd_ne ne]; exact r)
  · exact .inr ⟨q, by rw [upd_ne ne]; exact r⟩
section
variable {K : PySem.W.Frag} {H H' : Hp}
theorem Kt.seq (k : Kt H H') {a : Addr} {xs : List V} (h : SqT K H a xs) : SqT K H' a xs := by
  rcases h with h | h
  · exact .inl (k _ _ h)
  · exact .inr h
theorem Kp.seqT (k : Kp H H') {a : Addr} {xs : List V} (h : SqT K H a xs) : SqT K H' a xs := k.kt.seq h
theorem Kp.seqL (k : Kp H H') {a : Addr} {xs : List V} (h : SqL K H a xs) : SqL K H' a xs := by
  rcases h with h | h
  · exact .inl (k.lst _ _ h)
  · exact .inr h
mutual
/-- no list within -/
def noL : PyData → Bool
  | .none => true
  | .bool _ => true
  | .int _ => true
  | .str _ => true
  | .list _ => false
  | .tuple ds => noLs ds
  | .dict _ => false
def noLs : List PyData → Bool
  | [] => true
  | d :: r => noL d && noLs r
end
mutual
theorem Dp.kt (k : Kt H H') : ∀ (d : PyData) (v : V), noL d = true → Dp K H v d → Dp K H' v d
  | .none, _, _, h => by cases h; exact .non
  | .bool _, _, _, h => by cases h; exact .bl _
  | .int _, _, _, h => by cases h; exact .int _
  | .str _, _, _, h => by cases h; exact .str _
  | .list _, _, z, _ => by
    have z' : false = true := z
    cases z'
  | .dict _, _, z, _ => by
    have z' : false = true := z
    cases z'
  | .tuple ds, _, z, h => by
    have z' : noLs ds = true := z
    cases h with
    | tup h1 h2 => exact .tup (k.seq h1) (DpAll.kt k ds _ z' h2)
theorem DpAll.kt (k : Kt H H') : ∀ (ds : List PyData) (vs : List V), noLs ds = true → DpAll K H vs ds → DpAll K H' vs ds
  | [], _, _, h => by cases h; exact .nil
  | d :: r, _, z, h => by
    have z' : (noL d && noLs r) = true := z
    rw [Bool.and_eq_true] at z'
    cases h with
    | cons h1 h2 => exact .cons (Dp.kt k d _ z'.1 h1) (DpAll.kt k r _ z'.2 h2)
end
mutual
theorem Dp.kp (k : Kp H H') : ∀ (d : PyData) (v : V), Dp K H v d → Dp K H' v d
  | .none, _, h => by cases h; exact .non
  | .bool _, _, h => by cases h; exact .bl _
  | .int _, _, h => by cases h; exact .int _
  | .str _, _, h => by cases h; exact .str _
  | .list ds, _, h => by
    cases h with
    | lst h1 h2 => exact .lst (k.seqL h1) (DpAll.kp k ds _ h2)
  | .dict _, _, h => by cases h
  | .tuple ds, _, h => by
    cases h with
    | tup h1 h2 => exact .tup (k.seqT h1) (DpAll.kp k ds _ h2)
theorem DpAll.kp (k : Kp H H') : ∀ (ds : List PyData) (vs : List V), DpAll K H vs ds → DpAll K H' vs ds
  | [], _, h => by cases h; exact .nil
  | d :: r, _, h => by
    cases h with
    | cons h1 h2 => exact .cons (Dp.kp k d _ h1) (DpAll.kp k r _ h2)
end
theorem dpAll_len : ∀ {vs : List V} {ds : List PyData}, DpAll K H vs ds → vs.length = ds.length
  | _, _, .nil => rfl
  | _, _, .cons _ t => congrArg (· + 1) (dpAll_len t)
theorem dpAll_snoc : ∀ {vs : List V} {ds : List PyData} {v : V} {d : PyData}, DpAll K H vs ds → Dp K H v d → DpAll K H (vs ++ [v]) (ds ++ [d])
  | _, _, _, _, .nil, h => .cons h .nil
  | _, _, _, _, .cons h1 t, h => .cons h1 (dpAll_snoc t h)
theorem dpAll_get : ∀ {vs : List V} {ds : List PyData} {i : Nat} {v : V} {d : PyData}, DpAll K H vs ds → vs[i]? = some v → ds[i]? = some d → Dp K H v d
  | _, _, _, _, _, .nil, h, _ => by simp at h
  | _, _, 0, _, _, .cons h1 t, e1, e2 => by
    simp at e1 e2
    rw [← e1, ← e2]
    exact h1
  | _, _, i + 1, _, _, .cons h1 t, e1, e2 => dpAll_get (i := i) t (by simpa using e1) (by simpa using e2)
theorem dpAll_at {vs : List V} {ds : List PyData} {i : Nat} {d : PyData} (h : DpAll K H vs ds) (e : ds[i]? = some d) : ∃ v, vs[i]? = some v ∧ Dp K H v d := by
  have hi : i < vs.length := by
    rw [dpAll_len h]
    exact (List.getElem?_eq_some_iff.mp e).1
  exact ⟨vs[i], List.getElem?_eq_getElem hi, dpAll_get h (List.getElem?_eq_getElem hi) e⟩
theorem dpAll_take : ∀ {vs : List V} {ds : List PyData} (n : Nat), DpAll K H vs ds → DpAll K H (vs.take n) (ds.take n)
  | _, _, 0, _ => .nil
  | _, _, n + 1, .nil => .nil
  | _, _, n + 1, .cons h t => .cons h (dpAll_take n t)
theorem dpAll_drop : ∀ {vs : List V} {ds : List PyData} (n : Nat), DpAll K H vs ds → DpAll K H (vs.drop n) (ds.drop n)
  | _, _, 0, h => h
  | _, _, n + 1, .nil => .nil
  | _, _, n + 1, .cons _ t => dpAll_drop n t
theorem dpAll_map_get {α : Type} {f : α → PyData} {vs : List V} {bs : List α} {i : Nat} {v : V} (h : DpAll K H vs (bs.map f)) (e : vs[i]? = some v) : ∃ b, bs[i]? = some b ∧ Dp K H v (f b) := by
  have hi : i < bs.length := by
    have e1 := dpAll_len h
    rw [List.length_map] at e1
    have e2 := (List.getElem?_eq_some_iff.mp e).1
    omega
  refine ⟨bs[i], List.getElem?_eq_getElem hi, dpAll_get h e ?_⟩
  rw [List.getElem?_map, List.getElem?_eq_getElem hi] <;> rfl
theorem dpAll_ints : ∀ ns : List Int, DpAll K H (ns.map V.int) (ns.map PyData.int)
  | [] => .nil
  | n :: r => .cons (.int n) (dpAll_ints r)
theorem dp_tup {v : V} {ds : List PyData} (h : Dp K H v (.tuple ds)) : ∃ a xs, v = .ref a ∧ SqT K H a xs ∧ DpAll K H xs ds := by
  cases h with
  | tup h1 h2 => exact ⟨_, _, rfl, h1, h2⟩
theorem dp_lst {v : V} {ds : List PyData} (h : Dp K H v (.list ds)) : ∃ a xs, v = .ref a ∧ SqL K H a xs ∧ DpAll K H xs ds := by
  cases h with
  | lst h1 h2 => exact ⟨_, _, rfl, h1, h2⟩
end
/-! ### steps -/
def kw (b : Bool) : Str := if b = true then "raise" else "lower"
theorem kw_ne : ¬ (("raise" : Str) = "lower") := by decide +kernel
theorem kw_eq {a b : Bool} : kw a = kw b ↔ a = b := by
  cases a <;> cases b <;> simp [kw, kw_ne, Ne.symm (show ("raise" : Str) ≠ "lower" from kw_ne)]
def encS (s : Step) : PyData := .tuple [.str (kw s.1), .int s.2.1, .int s.2.2]
def encP (p : Nat × Nat) : PyData := .tuple [.int (p.1 : Int), .int (p.2 : Int)]
def encN (n : Nat) : PyData := .int (n : Int)
theorem noL_S (s : Step) : noL (encS s) = true := rfl
theorem noL_P (s : Nat × Nat) : noL (encP s) = true := rfl
theorem noLs_map {α : Type} {f : α → PyData} (h : ∀ a, noL (f a) = true) : ∀ l : List α, noLs (l.map f) = true
  | [] => rfl
  | a :: r => by
    show (noL (f a) && noLs (r.map f)) = true
    rw [h a, noLs_map h r]
    rfl
section
variable {K : PySem.W.Frag} {H H' : Hp}
/-- a step, opened -/
theorem dp_step {v : V} {s : Step} (h : Dp K H v (encS s)) : ∃ a, v = .ref a ∧ SqT K H a [.str (kw s.1), .int s.2.1, .int s.2.2] := by
  obtain ⟨a, xs, e, h1, h2⟩ := dp_tup h
  cases h2 with
  | cons x1 h2 =>
    cases h2 with
    | cons x2 h2 =>
      cases h2 with
      | cons x3 h2 =>
        cases h2
        cases x1
        cases x2
        cases x3
        exact ⟨a, e, h1⟩
theorem dp_step_of {a : Addr} {s : Step} (h : SqT K H a [.str (kw s.1), .int s.2.1, .int s.2.2]) : Dp K H (.ref a) (encS s) :=
  .tup h (.cons (.str _) (.cons (.int _) (.cons (.int _) .nil)))
theorem dp_pair {v : V} {p : Nat × Nat} (h : Dp K H v (encP p)) : ∃ a, v = .ref a ∧ SqT K H a [.int (p.1 : Int), .int (p.2 : Int)] := by
  obtain ⟨a, xs, e, h1, h2⟩ := dp_tup h
  cases h2 with
  | cons x1 h2 =>
    cases h2 with
    | cons x2 h2 =>
      cases h2
      cases x1
      cases x2
      exact ⟨a, e, h1⟩
theorem dp_pair_of {a : Addr} {p : Nat × Nat} (h : SqT K H a [.int (p.1 : Int), .int (p.2 : Int)]) : Dp K H (.ref a) (encP p) :=
  .tup h (.cons (.int _) (.cons (.int _) .nil))
theorem dpS_kt (k : Kt H H') {vs : List V} {S : List Step} (h : DpAll K H vs (S.map encS)) : DpAll K H' vs (S.map encS) := DpAll.kt k _ _ (noLs_map noL_S S) h
theorem dpP_kt (k : Kt H H') {vs : List V} {S : List (Nat × Nat)} (h : DpAll K H vs (S.map encP)) : DpAll K H' vs (S.map encP) := DpAll.kt k _ _ (noLs_map noL_P S) h
end
/-- a sequence of steps, a tuple or a list -/
def SqS (K : PySem.W.Frag) (H : Hp) (v : V) (S : List Step) : Prop := ∃ a xs, v = .ref a ∧ (SqL K H a xs ∨ SqT K H a xs) ∧ DpAll K H xs (S.map encS)
theorem SqS.kp {K : PySem.W.Frag} {H H' : Hp} (k : Kp H H') {v : V} {S : List Step} (h : SqS K H v S) : SqS K H' v S := by
  obtain ⟨a, xs, e, h1, h2⟩ := h
  exact ⟨a, xs, e, h1.elim (fun z => .inl (k.seqL z)) (fun z => .inr (k.seqT z)), DpAll.kp k _ _ h2⟩
theorem SqS.tup {K : PySem.W.Frag} {H : Hp} {v : V} {S : List Step} (h : Dp K H v (.tuple (S.map encS))) : SqS K H v S := by
  obtain ⟨a, xs, e, h1, h2⟩ := dp_tup h
  exact ⟨a, xs, e, .inr h1, h2⟩
/-! ### data that are equal are so to == -/
mutual
def shp : PyData → Bool
  | .none => true
  | .bool _ => true
  | .int _ => true
  | .str _ => true
  | .list ds => shps ds
  | .tuple ds => shps ds
  | .dict _ => false
def shps : List PyData → Bool
  | [] => true
  | d :: r => shp d && shps r
end
end K46

/-! ## KIter -/
/-! enumerate of a tuple; zip of a tuple and a list. -/
namespace PySem
set_option maxHeartbeats 1000000 in
theorem k46_meets_enum {v : Value} {o : Obj} {H : Heap → Prop} (B : Begins v o H) :
    Meets (Builtin.«enumerate.__new__» ⟨[.type "enumerate", v], []⟩) (fun _ R s => H s.heap ∧
      R (.ok (.ret (.ref (s.heap.push o).objs.size))) { s with heap := (s.heap.push o).push { cls := .type "enumerate", data := .fields #[.none, .bool false, .ref s.heap.objs.size, rawInt 0, .none, .none] } }) :=
  .of_wp fun prog w A R s h => by
    obtain ⟨hp, g, d, tk, os⟩ := s; obtain ⟨h1, h⟩ := h
    have hsub := sub_enumerate
    have q1 : ∀ {A' : Around} {E : Value → Shared → Prop} {Q : Value → Shared → Prop}, Q (.ref hp.objs.size) ⟨hp.push o, g, d, tk, os⟩ → wpAny (model prog w) A' (pyIter v) Q E ⟨hp, g, d, tk, os⟩ :=
      fun q => B.iter prog w _ _ ⟨hp, g, d, tk, os⟩ _ h1 q
    wp_walk using q1
    refine wpAny_stack_any fun st => wpAny_pure ?_
    split
    · rename_i c _ _ _ _ _
      cases (c == Value.type "enumerate")
      · wp_walk using q1
        exact ⟨_, rfl, h⟩
      · wp_walk using q1
        exact ⟨_, rfl, h⟩
    · wp_walk using q1
      exact ⟨_, rfl, h⟩
section
variable {prog : Program} {w : World} {A : Around} {E : Value → Shared → Prop} {s : Shared}
theorem k46_call_enum {v : Value} {o : Obj} {H : Heap → Prop} {Q : Value → Shared → Prop} (B : Begins v o H) (h1 : H s.heap)
    (h : ∀ h', IsEnum h' (s.heap.objs.size + 1) s.heap.objs.size 0 .none → h'.get? s.heap.objs.size = some o → h'.objs.size = s.heap.objs.size + 2 →
      (∀ b o, s.heap.get? b = some o → h'.get? b = some o) → Q (.ref (s.heap.objs.size + 1)) { s with heap := h' }) :
    wpAny (model prog w) A (call (.type "enumerate") [v]) Q E s := by
  refine callType_new F.called_enumerate (by decide) (F.typeCall_enumerate_1 _) (F.newCall_enumerate_1 _) (fun obj => F.args_object_init_2 obj _) F.entry_enumerate_new
    (k46_meets_enum B) ⟨h1, ?_⟩
  have hz : (s.heap.push o).objs.size = s.heap.objs.size + 1 := Heap.size_push ..
  show _ ∧ _
  rw [hz]
  have he : IsEnum ((s.heap.push o).push { cls := .type "enumerate", data := .fields #[.none, .bool false, .ref s.heap.objs.size, rawInt 0, .none, .none] }) (s.heap.objs.size + 1) s.heap.objs.size 0 .none := by
    have := Heap.get?_push_size (s.heap.push o) (o := { cls := .type "enumerate", data := .fields #[.none, .bool false, .ref s.heap.objs.size, rawInt 0, .none, .none] }) rfl
    rw [hz] at this; exact this
  refine ⟨⟨_, he, rfl⟩, h _ he (Heap.get?_push_of_some _ (Heap.get?_push_size _ B.free)) (by rw [Heap.size_push, hz]) fun b o x => Heap.get?_push_of_some _ (Heap.get?_push_of_some _ x)⟩
end
end PySem
namespace K46
open PySem PySem.Spec PyProof.Rows L2
/-- enumerate over the tuple at a, of n items -/
def IteT (K : PySem.W.Frag) (a : Addr) (n : Nat) : It :=
  ⟨fun i H => i < n ∧ ∃ (xs : List V) (x : V), SqT K H a xs ∧ xs.length = n ∧ xs[i]? = some x,
    fun i H v H' => ∃ T x, v = .ref T ∧ H T = none ∧ H' = upd H T (.tup [.int (i : Nat), x]) ∧ ∀ xs, SqT K H a xs → xs[i]? = some x,
    fun i H => n ≤ i ∧ ∃ xs : List V, SqT K H a xs ∧ xs.length = n⟩
theorem turn_enumT {P : Program} {w : World} {K : PySem.W.Frag} {elts : List Expr} {kk : Nat} {tpos : Pos} (a e it : Addr) (n : Nat) (hea : e ≠ a) (hai : a ≠ it) (hne : e ≠ it) :
    Turn P w K (.Tuple elts kk tpos) (IteT K a n) [e, it] e (fun i h => (∃ old, IsEnum h e it ((i : Nat) : Int) old) ∧ h.IsTupleIter it a i ∧ i ≤ n) where
  mem := by simp
  obj := fun i h st b hb => by
    obtain ⟨⟨old, he⟩, ⟨o, ho, hc, hd⟩, _⟩ := st
    have e' : b = e ∨ b = it := by simpa using hb
    rcases e' with z | z
    · rw [z]; exact ⟨_, he, fun v q => nomatch q⟩
    · rw [z]; exact ⟨o, ho, fun v q => by rw [hd] at q; cases q⟩
  keep := fun i h h' st k => let ⟨⟨old, he⟩, hi, hn⟩ := st; ⟨⟨old, k e (by simp) _ he⟩, hi.at fun o q => k it (by simp) o q, hn⟩
  item := by
    intro X hP hw hK hc i pins s σ H E I hf st hg
    subst hP hw hK
    obtain ⟨⟨old, he⟩, hit, hin⟩ := st
    obtain ⟨hlt, xs, x, hq, hxl, hx⟩ := hg
    obtain ⟨its, rv, p, hz⟩ := I.tuple hq
    have hl := rv.length
    have hel : e < s.heap.objs.size := Heap.lt_size he
    have hil : it < s.heap.objs.size := by obtain ⟨_, q, _⟩ := hit; exact Heap.lt_size q
    have hid : X.A.in1.handled = none := I.ok.hd hc
    have D := Draws.tuple (prog := X.prog) (w := X.w) (A := X.A.in1) hid it a hai its.toArray
    refine wpAny_pyNext_enum_itemD D he ⟨hit, p⟩ (by simp; omega) hne (by simp; exact ⟨hne, hea⟩) fun u h' tk hu ho hst hT hsz hk => ?_
    obtain ⟨hit', _⟩ := hst
    obtain ⟨u', hu', ru⟩ := rv.get hx
    have eu : u = u' := by
      have q : its[i]? = some u := by simpa using hu
      rw [q] at hu'
      exact Option.some.inj hu'
    subst eu
    refine ⟨_, rfl, wpAny_letOwnedTupleGo_enum (s := { s with heap := h', toks := tk + 1 }) ho fun h'' he' sb => ?_⟩
    have hT2 : h''.get? s.heap.objs.size = some { cls := .type "tuple", data := .seq #[.int i tk, u] } := (sb.2 _ (Nat.ne_of_gt hel)).trans hT
    have new : ObjOk X.prog X.w (upd H s.heap.objs.size (.tup [.int (i : Nat), x])) h'' s.heap.objs.size (.tup [.int (i : Nat), x]) :=
      ⟨by show 2 ≤ sizeLine; decide, [.int i tk, u], .cons ⟨_, rfl⟩ (.cons ru .nil), ⟨_, hT2, rfl, _, rfl⟩⟩
    have I1 : Inv X pins σ (upd H s.heap.objs.size (.tup [.int (i : Nat), x])) { s with heap := h'', toks := tk + 1 } :=
      I.turnedNew (ch := [e, it]) (fun b ob hb q => (sb.2 b (fun z => hb (by simp [z]))).trans (hk b ob (fun z => hb (by simp [z])) (fun z => hb (by simp [z])) q)) hf (Nat.le_refl _) new
    refine ⟨.ref s.heap.objs.size, _, I1, rfl, ⟨_, x, rfl, I.hok.fresh (Nat.le_refl _), rfl, fun ys hy => by rw [I.tuple_inj hy hq]; exact hx⟩, ⟨⟨u, ?_⟩, hit'.at fun o q => (sb.2 it (Ne.symm hne)).trans q, hlt⟩, fun b hb => ?_⟩
    · have e1 : ((i + 1 : Nat) : Int) = (i : Int) + 1 := by omega
      rw [e1]; exact he'
    · have hb' : b < s.heap.objs.size := by
        have e' : b = e ∨ b = it := by simpa using hb
        rcases e' with z | z
        · rw [z]; exact hel
        · rw [z]; exact hil
      rw [upd_ne (Nat.ne_of_lt hb')]
      exact (hf b hb).1
  done := by
    intro X hP hw hK hc i pins s σ H E I hf st hg
    subst hP hw hK
    obtain ⟨⟨old, he⟩, hit, hin⟩ := st
    obtain ⟨hle, xs, hq, hxl⟩ := hg
    obtain ⟨its, rv, p, hz⟩ := I.tuple hq
    obtain ⟨f0, f1, f2, f3, f4, f5⟩ := hf it (by simp)
    have hl := rv.length
    have hid : X.A.in1.handled = none := I.ok.hd hc
    have D := Draws.tuple (prog := X.prog) (w := X.w) (A := X.A.in1) hid it a hai its.toArray
    have en : i = its.toArray.size := by
      rw [List.size_toArray]
      omega
    subst en
    exact wpAny_pyNext_enum_endD D he ⟨hit, p⟩ fun h' eb => ⟨rfl, I.turned (t' := s.toks) (fun b o hb q => eb b o hb q) f0 f1 f3 f4 f5⟩
  self := fun A i s Q E st h => let ⟨⟨_, he⟩, _⟩ := st; wpAny_pyIter_enum he h
def iEnumT (K : PySem.W.Frag) (ta : TA) : TI := fun σ H R => ta σ H fun vs H1 => ∃ a xs, vs = [.ref a] ∧ SqT K H1 a xs ∧ R (IteT K a xs.length) H1
theorem pi_enumT {X : Cx} {e : Expr} {ta : TA} {p pos tpos : Pos} {elts : List Expr} {kk : Nat} (hg : Gl X "enumerate") (hm : X.mg "enumerate" = none) (ha : PA X [e] ta) (hs : starEach [e] X.env = [(false, eval e X.env)] := by rfl) :
    PI X (.Tuple elts kk tpos) (.Call (.Name "enumerate" p) [e] [] pos) (iEnumT X.K ta) := by
  refine ⟨fun pins s σ H R I h => ?_⟩
  refine Call_ (ld_blt I hg hm boot_enumerate (PyProof.Rows.callWith_type1 (thn (ha.run pos pins s σ H _ I h) fun us s1 ⟨vs, H1, I1, r1, q1⟩ => ?_) hs rfl))
  obtain ⟨a, xs, ex, hq, q⟩ := q1
  subst ex
  cases r1 with
  | cons r rr =>
    cases rr
    cases r
    obtain ⟨its, rv, p', hz⟩ := I1.tuple hq
    obtain ⟨oa, hoa, _⟩ := id p'
    have hal : a < s1.heap.objs.size := Heap.lt_size hoa
    refine k46_call_enum (begins_tuple a its.toArray) p' fun h' he hit hsz hk => wpAny_pyIter_enum he ?_
    have I2 : Inv X pins σ H1 { s1 with heap := h' } := I1.kept (t' := s1.toks) hk
    refine ⟨s1.heap.objs.size + 1, [s1.heap.objs.size + 1, s1.heap.objs.size], _, _, H1, rfl, I2, turn_enumT a (s1.heap.objs.size + 1) s1.heap.objs.size xs.length (Nat.ne_of_gt (Nat.lt_succ_of_lt hal)) (Nat.ne_of_lt hal) (Nat.succ_ne_self _), ⟨⟨.none, he⟩, ⟨_, hit, rfl, rfl⟩, Nat.zero_le _⟩, fun b hb => ?_, q⟩
    have e' : b = s1.heap.objs.size + 1 ∨ b = s1.heap.objs.size := by simpa using hb
    have hle : s1.heap.objs.size ≤ b := by
      rcases e' with z | z
      · rw [z]; exact Nat.le_add_right _ _
      · rw [z]; exact Nat.le_refl _
    exact I1.fpOk hle (I1.hok.fresh hle)
theorem walk_enumT {K : PySem.W.Frag} {a : Addr} {xs : List V} : Walk (IteT K a xs.length) xs.length (fun H => SqT K H a xs) (YPair (fun i => some (.int (i : Nat))) (fun i => xs[i]?)) := by
  refine ⟨fun i H hi h => ⟨hi, xs, xs[i], h, rfl, List.getElem?_eq_getElem hi⟩, fun H h => ⟨Nat.le_refl _, xs, h, rfl⟩, fun i H v H' hi h y => ?_⟩
  obtain ⟨T, x, e1, e2, e3, e4⟩ := y
  exact ⟨T, .int (i : Nat), x, e1, e2, e3, rfl, e4 xs h⟩
/-! ### zip of a tuple and a list of one length n -/
def ItzM (K : PySem.W.Frag) (a b : Addr) (n : Nat) : It :=
  ⟨fun i H => i < n ∧ ∃ (xs ys : List V) (x y : V), SqT K H a xs ∧ SqL K H b ys ∧ xs.length = n ∧ ys.length = n ∧ xs[i]? = some x ∧ ys[i]? = some y,
    fun i H v H' => ∃ T x y, v = .ref T ∧ H T = none ∧ H' = upd H T (.tup [x, y]) ∧ (∀ xs, SqT K H a xs → xs[i]? = some x) ∧ ∀ ys, SqL K H b ys → ys[i]? = some y,
    fun i H => n ≤ i ∧ ∃ xs ys : List V, SqT K H a xs ∧ SqL K H b ys ∧ xs.length = n ∧ ys.length = n⟩
theorem turn_zipM {P : Program} {w : World} {K : PySem.W.Frag} {elts : List Expr} {kk : Nat} {tpos : Pos} {a b z TI TO i1 i2 : Addr} {n : Nat} (S : ZipSep2 z TI TO i1 i2 [i1, a] [i2, b]) (hai : a ≠ i1) (hbi : b ≠ i2) :
    Turn P w K (.Tuple elts kk tpos) (ItzM K a b n) [z, TI, TO, i1, i2] z (fun i h => IsZip h z TI TO .none ∧ IsPair h TI (.ref i1) (.ref i2) ∧ (∃ x y, IsPair h TO x y) ∧ h.IsTupleIter i1 a i ∧ h.IsListIter i2 b i ∧ i ≤ n) where
  mem := by simp
  obj := fun i h st c hc => by
    obtain ⟨hz, hTI, ⟨x, y, hTO⟩, ⟨o1, e1, _, d1⟩, ⟨o2, e2, _, d2⟩, _⟩ := st
    have e' : c = z ∨ c = TI ∨ c = TO ∨ c = i1 ∨ c = i2 := by simpa using hc
    rcases e' with q | q | q | q | q
    · rw [q]; exact ⟨_, hz, fun v q => nomatch q⟩
    · rw [q]; exact ⟨_, hTI, fun v q => nomatch q⟩
    · rw [q]; exact ⟨_, hTO, fun v q => nomatch q⟩
    · rw [q]; exact ⟨o1, e1, fun v q => by rw [d1] at q; cases q⟩
    · rw [q]; exact ⟨o2, e2, fun v q => by rw [d2] at q; cases q⟩
  keep := fun i h h' st k => by
    obtain ⟨hz, hTI, ⟨x, y, hTO⟩, h1, h2, hn⟩ := st
    exact ⟨k z (by simp) _ hz, k TI (by simp) _ hTI, ⟨x, y, k TO (by simp) _ hTO⟩, h1.at fun o q => k i1 (by simp) o q, h2.at fun o q => k i2 (by simp) o q, hn⟩
  item := by
    intro X hP hw hK hc i pins s σ H E I hf st hg
    subst hP hw hK
    obtain ⟨hz, hTI, ⟨x0, y0, hTO⟩, h1, h2, hin⟩ := st
    obtain ⟨hlt, xs, ys, x, y, hqx, hqy, hlx, hly, hx, hy⟩ := hg
    obtain ⟨its, rv, p, _⟩ := I.tuple hqx
    obtain ⟨its2, rv2, p2, _⟩ := I.list hqy
    have l1 := rv.length
    have l2 := rv2.length
    obtain ⟨u', hu', ru⟩ := rv.get hx
    obtain ⟨u2', hu2', ru2⟩ := rv2.get hy
    have hzl : z < s.heap.objs.size := Heap.lt_size hz
    have hid : X.A.in1.handled = none := I.ok.hd hc
    have D1 := Draws.tuple (prog := X.prog) (w := X.w) (A := X.A.in1) hid i1 a hai its.toArray
    have D2 := Draws.list (prog := X.prog) (w := X.w) (A := X.A.in1) hid i2 b hbi its2.toArray
    refine wpAny_pyNext_zipD2_item S D1 D2 hz hTI hTO ⟨h1, p⟩ ⟨h2, p2.isList⟩ (by simp; omega) (by simp; omega) fun u u2 h' tk hu hu2 z' TO' st1 st2 hT hsz hk => ?_
    obtain ⟨h1', _⟩ := st1
    obtain ⟨h2', _⟩ := st2
    have eu : u = u' := by
      have q : its[i]? = some u := by simpa using hu
      rw [q] at hu'
      exact Option.some.inj hu'
    have eu2 : u2 = u2' := by
      have q : its2[i]? = some u2 := by simpa using hu2
      rw [q] at hu2'
      exact Option.some.inj hu2'
    subst eu
    subst eu2
    refine ⟨_, rfl, wpAny_letOwnedTupleGo_zip (s := { s with heap := h', toks := tk }) z' fun h'' z'' sb => ?_⟩
    have hT2 : h''.get? s.heap.objs.size = some { cls := .type "tuple", data := .seq #[u, u2] } := (sb.2 _ (Nat.ne_of_gt hzl)).trans hT
    have new : ObjOk X.prog X.w (upd H s.heap.objs.size (.tup [x, y])) h'' s.heap.objs.size (.tup [x, y]) :=
      ⟨by show 2 ≤ sizeLine; decide, [u, u2], .cons ru (.cons ru2 .nil), ⟨_, hT2, rfl, _, rfl⟩⟩
    have I1 : Inv X pins σ (upd H s.heap.objs.size (.tup [x, y])) { s with heap := h'', toks := tk } :=
      I.turnedNew (t' := tk) (ch := [z, TI, TO, i1, i2]) (fun c o hb q => (sb.2 c (fun q' => hb (by simp [q']))).trans (hk c o (fun q' => hb (by simp [q'])) (fun q' => hb (by simp [q'])) (fun q' => hb (by simp [q'])) (fun q' => hb (by simp [q'])) q)) hf (Nat.le_refl _) new
    refine ⟨.ref s.heap.objs.size, _, I1, rfl, ⟨_, x, y, rfl, I.hok.fresh (Nat.le_refl _), rfl, fun l hl => by rw [I.tuple_inj hl hqx]; exact hx, fun l hl => by rw [I.list_inj hl hqy]; exact hy⟩, ⟨z'', ?_, ⟨u, u2, ?_⟩, ?_, ?_, hlt⟩, fun c hcm => ?_⟩
    · exact (sb.2 _ S.TIz).trans (hk _ _ S.TIz S.TITO S.TIi1 S.TIi2 hTI)
    · exact (sb.2 _ S.TOz).trans TO'
    · exact h1'.at fun o q => (sb.2 _ S.zi1.symm).trans q
    · exact h2'.at fun o q => (sb.2 _ S.zi2.symm).trans q
    · have hlt : c < s.heap.objs.size := by
        have e' : c = z ∨ c = TI ∨ c = TO ∨ c = i1 ∨ c = i2 := by simpa using hcm
        rcases e' with q | q | q | q | q
        · rw [q]; exact hzl
        · rw [q]; exact Heap.lt_size hTI
        · rw [q]; exact Heap.lt_size hTO
        · rw [q]; obtain ⟨_, e1, _⟩ := h1; exact Heap.lt_size e1
        · rw [q]; obtain ⟨_, e2, _⟩ := h2; exact Heap.lt_size e2
      rw [upd_ne (Nat.ne_of_lt hlt)]
      exact (hf c hcm).1
  done := by
    intro X hP hw hK hc i pins s σ H E I hf st hg
    subst hP hw hK
    obtain ⟨hz, hTI, ⟨x0, y0, hTO⟩, h1, h2, hin⟩ := st
    obtain ⟨hle, xs, ys, hqx, hqy, hlx, hly⟩ := hg
    obtain ⟨its, rv, p, _⟩ := I.tuple hqx
    obtain ⟨its2, rv2, p2, _⟩ := I.list hqy
    have l1 := rv.length
    have l2 := rv2.length
    have hid : X.A.in1.handled = none := I.ok.hd hc
    have D1 := Draws.tuple (prog := X.prog) (w := X.w) (A := X.A.in1) hid i1 a hai its.toArray
    have D2 := Draws.list (prog := X.prog) (w := X.w) (A := X.A.in1) hid i2 b hbi its2.toArray
    exact wpAny_pyNext_zipD2_end S D1 D2 hz hTI hTO ⟨h1, p⟩ ⟨h2, p2.isList⟩ (by simp; omega) (by simp; omega) (.inl (by simp; omega)) fun h' tk hk => ⟨rfl, I.turnedL (t' := tk) (ch := [z, TI, TO, i1, i2]) (fun c o hb q =>
      hk c o (fun q' => hb (by simp [q'])) (fun q' => hb (by simp [q'])) (fun q' => hb (by simp [q'])) (fun q' => hb (by simp [q'])) q) hf⟩
  self := fun A i s Q E st h => wpAny_pyIter_zip st.1 h
def iZipM (K : PySem.W.Frag) (ta : TA) : TI := fun σ H R => ta σ H fun vs H1 => ∃ a b xs ys, vs = [.ref a, .ref b] ∧ SqT K H1 a xs ∧ SqL K H1 b ys ∧ xs.length = ys.length ∧ R (ItzM K a b xs.length) H1
theorem pi_zipM {X : Cx} {e e2 : Expr} {ta : TA} {p pos tpos : Pos} {elts : List Expr} {kk : Nat} (hg : Gl X "zip") (hm : X.mg "zip" = none) (ha : PA X [e, e2] ta)
    (hs : starEach [e, e2] X.env = (false, eval e X.env) :: starEach [e2] X.env := by rfl) (hpl : (backTo pos (starEach [e2] X.env)).any (·.1) = false := by rfl) :
    PI X (.Tuple elts kk tpos) (.Call (.Name "zip" p) [e, e2] [] pos) (iZipM X.K ta) := by
  refine ⟨fun pins s σ H R I h => ?_⟩
  refine Call_ (ld_blt I hg hm PyProof.Rows.boot_zip (PyProof.Rows.callWith_type1 (thn (ha.run pos pins s σ H _ I h) fun us s1 ⟨vs, H1, I1, r1, q1⟩ => ?_) hs hpl))
  obtain ⟨a, b, xs, ys, ex, hqx, hqy, hxy, q⟩ := q1
  subst ex
  cases r1 with
  | cons r rr =>
    cases rr with
    | cons r' rr =>
      cases rr
      cases r
      cases r'
      obtain ⟨its, rv, p1, _⟩ := I1.tuple hqx
      obtain ⟨its2, rv2, p2, _⟩ := I1.list hqy
      obtain ⟨o1, ho1, _⟩ := id p1
      have ha1 : a < s1.heap.objs.size := Heap.lt_size ho1
      have hb1 : b < s1.heap.objs.size := p2.lt
      have fresh5 : ∀ c, c ∈ [s1.heap.objs.size + 4, s1.heap.objs.size + 2, s1.heap.objs.size + 3, s1.heap.objs.size, s1.heap.objs.size + 1] → FpOk X pins H1 c := fun c hcm => by
        have e' : c = s1.heap.objs.size + 4 ∨ c = s1.heap.objs.size + 2 ∨ c = s1.heap.objs.size + 3 ∨ c = s1.heap.objs.size ∨ c = s1.heap.objs.size + 1 := by simpa using hcm
        have hle : s1.heap.objs.size ≤ c := by
          rcases e' with z | z | z | z | z
          · rw [z]; exact Nat.le_add_right _ _
          · rw [z]; exact Nat.le_add_right _ _
          · rw [z]; exact Nat.le_add_right _ _
          · rw [z]; exact Nat.le_refl _
          · rw [z]; exact Nat.le_add_right _ _
        exact I1.fpOk hle (I1.hok.fresh hle)
      refine zip_begins2 (begins_tuple a its.toArray) (begins_list b its2.toArray) p1 p2.isList fun h' hz hTI hTO h1 h2 hsz hk => wpAny_pyIter_zip hz ?_
      have I2 : Inv X pins σ H1 { s1 with heap := h' } := I1.kept (t' := s1.toks) hk
      have S : ZipSep2 (s1.heap.objs.size + 4) (s1.heap.objs.size + 2) (s1.heap.objs.size + 3) s1.heap.objs.size (s1.heap.objs.size + 1) [s1.heap.objs.size, a] [s1.heap.objs.size + 1, b] :=
        zip_sep2 (fun c hc => by
          have e : c = a := by simpa using hc
          rw [e]; exact ha1) (fun c hc => by
          have e : c = b := by simpa using hc
          rw [e]; exact hb1)
      exact ⟨s1.heap.objs.size + 4, [s1.heap.objs.size + 4, s1.heap.objs.size + 2, s1.heap.objs.size + 3, s1.heap.objs.size, s1.heap.objs.size + 1], _, _, H1, rfl, I2,
        turn_zipM (n := xs.length) S (Nat.ne_of_lt ha1) (Nat.ne_of_lt (Nat.lt_succ_of_lt hb1)), ⟨hz, hTI, ⟨_, _, hTO⟩, ⟨_, h1, rfl, rfl⟩, ⟨_, h2, rfl, rfl⟩, Nat.zero_le _⟩, fresh5, q⟩
theorem walk_zipM {K : PySem.W.Frag} {a b : Addr} {xs ys : List V} (hl : xs.length = ys.length) : Walk (ItzM K a b xs.length) xs.length (fun H => SqT K H a xs ∧ SqL K H b ys) (YPair (fun i => xs[i]?) (fun i => ys[i]?)) := by
  refine ⟨fun i H hi h => ⟨hi, xs, ys, xs[i], ys[i]'(by omega), h.1, h.2, rfl, hl.symm, List.getElem?_eq_getElem hi, List.getElem?_eq_getElem (by omega)⟩, fun H h => ⟨Nat.le_refl _, xs, ys, h.1, h.2, rfl, hl.symm⟩, fun i H v H' hi h y => ?_⟩
  obtain ⟨T, x, y', e1, e2, e3, e4, e5⟩ := y
  exact ⟨T, x, y', e1, e2, e3, e4 xs h.1, e5 ys h.2⟩
end K46

/-! ## KSort -/
/-! sorted of steps: a list or a tuple of them. -/
namespace PySem.W
open PySem PySem.Calls PyProof.Rows
section
variable {prog : Program} {w : World} {A : Around} {E : Value → Shared → Prop} {s : Shared}
/-- sorted(xs, ..), xs a list or a tuple: list.sort(..) on a new list of xs's items -/
theorem k46_sorted {l : Addr} {T : String} {o : Obj} {n : Nat} {vs : List Value} {kw : List (Str × Value)} {Q : Value → Shared → Prop} (hT : T = "list" ∨ T = "tuple") (ho : s.heap.get? l = some o) (hc : o.cls = .type T) (hd : o.data = .seq vs.toArray n)
    (hL : vs.length ≤ sizeLine) (ha1 : argsOk "sorted" ⟨[.ref l], kw⟩) (ha2 : ∀ x, argsOk "list.sort" ⟨[.ref x], kw⟩)
    (body : ∀ (h' : Heap) (E' : Value → Shared → Prop), (∀ b o, s.heap.get? b = some o → h'.get? b = some o) →
      wpAny (model prog w) A.in1.in1 (Builtin.«list.sort» ⟨[.ref h'.objs.size], kw⟩) (fun f s' => f = .done (.ret .none) ∧ Q (.ref h'.objs.size) s') E' { s with heap := h'.push (seqObj "list" vs.toArray 0) }) :
    wpAny (model prog w) A (call (.builtin "sorted") [.ref l] kw) Q E s := by
  refine call_function_entry_kw kind_sorted plain_sorted entry_sorted ha1 ?_
  unfold Builtin.«sorted»
  refine wpAny_bind (m := checkCount "sorted" 1 1 _) (wpAny_pure ?_)
  refine wpAny_bind (wpAny_collect_seq l hT ho hc hd (fun h' hk => ?_) (by rw [List.size_toArray]; exact hL))
  refine wpAny_bind (wpAny_newList ?_ (by simpa using hL))
  have e : vs.toArray.toList = vs := by simp
  rw [e]
  show wpAny _ _ _ _ _ { s with heap := h'.push (seqObj "list" vs.toArray 0) }
  refine wpAny_bind (wpAny_holding (wpAny_call_entry_kw slot_list_sort ⟨_, Heap.get?_push_size _ rfl, rfl⟩ entry_list_sort ?body (ha2 _)))
  case body =>
    show wpAny (model prog w) A.in1.in1 (Builtin.«list.sort» ⟨[.ref h'.objs.size], kw⟩) _ _ _
    refine wpAny_mono (body h' _ hk) (fun f s' hf => ?_) fun _ _ e => e
    obtain ⟨rfl, hq⟩ := hf
    exact ⟨_, rfl, wpAny_pure ⟨_, rfl, hq⟩⟩
end
end PySem.W
namespace K46
open PySem PySem.Spec PyProof.Rows L2
open PySem.W (EachIs dataLe AllAlike Sortable)
def sortS (S : List Step) : List Step := S.mergeSort (dataLe false encS)
theorem depthS (s : Step) : (encS s).depth = 1 := by
  simp [encS, PyData.depth, PyData.depthAll]
theorem alikeDS (s o : Step) : PySem.W.alike (encS s) (encS o) = true := by
  simp [encS, PySem.W.alike, PySem.W.alikeAll]
theorem allAlikeS (S : List Step) : AllAlike (S.map encS) := AllAlike.of alikeDS
theorem sortableS (S : List Step) : Sortable (S.map encS) := Sortable.tuples fun s => ⟨_, _, rfl⟩
section
variable {X : Cx} {pins : List (Addr × Obj)} {σ : L2.St} {H : Hp} {s : Shared}
/-- what a value of Python stands for -/
def IsS (K : PySem.W.Frag) (H : Hp) (u : Value) (b : Step) : Prop := ∃ x : V, RelV x u ∧ Dp K H x (encS b)
theorem each_of {K : PySem.W.Frag} : ∀ {xs : List V} {us : List Value} {S : List Step}, Vals xs us → DpAll K H xs (S.map encS) → EachIs (IsS K H) us S
  | _, _, [], r, h => by
    have h' : DpAll K H _ [] := h
    cases h'
    cases r
    exact .nil
  | _, _, b :: S, r, h => by
    have h' : DpAll K H _ (encS b :: S.map encS) := h
    cases h' with
    | cons h1 h2 =>
      cases r with
      | cons r1 r2 => exact .cons ⟨_, r1, h1⟩ (each_of r2 h2)
theorem of_each {K : PySem.W.Frag} : ∀ {us : List Value} {S : List Step}, EachIs (IsS K H) us S → ∃ xs : List V, Vals xs us ∧ DpAll K H xs (S.map encS)
  | _, _, .nil => ⟨[], .nil, .nil⟩
  | _, _, .cons ⟨x, r1, h1⟩ t => by
    obtain ⟨xs, r2, h2⟩ := of_each t
    exact ⟨x :: xs, .cons r1 r2, .cons h1 h2⟩
/-- a list or a tuple, as an object -/
theorem Inv.seqObj_at (I : Inv X pins σ H s) {a : Addr} {xs : List V} (h : SqL X.K H a xs ∨ SqT X.K H a xs) :
    ∃ (us : List Value) (T : String) (o : Obj) (n : Nat), Vals xs us ∧ (T = "list" ∨ T = "tuple") ∧ s.heap.get? a = some o ∧ o.cls = .type T ∧ o.data = .seq us.toArray n ∧ xs.length ≤ sizeLine := by
  rcases h with h | h
  · obtain ⟨its, r, p, z⟩ := I.list h
    obtain ⟨o, ho, hc, n, hd⟩ := p.isList
    exact ⟨its, "list", o, n, r, .inl rfl, ho, hc, hd, z⟩
  · obtain ⟨its, r, ⟨o, ho, hc, n, hd⟩, z⟩ := I.tuple h
    exact ⟨its, "tuple", o, n, r, .inr rfl, ho, hc, hd, z⟩
def rSortedSt (K : PySem.W.Frag) : List V → Hp → VK → Prop := fun vs H Q => ∃ (a : Addr) (xs : List V) (S : List Step), vs = [V.ref a] ∧ (SqL K H a xs ∨ SqT K H a xs) ∧ DpAll K H xs (S.map encS) ∧
  ∀ (ys : List V) (p : Addr), DpAll K H ys ((sortS S).map encS) → H p = none → Q (.ref p) (upd H p (.lst ys))
theorem cr_sortedSt {k : Nat} (hr : Room k X.A) : CallR X (.builtin "sorted") (rSortedSt X.K) := by
  intro pins s σ H vs us Q I r h
  obtain ⟨a, xs, S, rfl, hs, hd, q⟩ := h
  obtain rfl := Vals.ref1 r
  obtain ⟨its, T, o, n, rv, hT, ho, hc, hda, hz⟩ := Inv.seqObj_at I hs
  have hl := rv.length
  have hlS : its.length = S.length := by
    have e := dpAll_len hd
    rw [List.length_map] at e
    omega
  have e1 : EachIs (IsS X.K H) its S := each_of rv hd
  obtain ⟨as, ra⟩ := Dp.readsAll I _ _ _ hd rv
  have e2 : EachIs (fun v b => ∃ as, Reads s.heap v (encS b) as) its S := PySem.W.readsAll_each encS ra
  refine PySem.W.k46_sorted hT ho hc hda (by omega) (PyProof.Rows.args_sorted1 _) (fun _ => PyProof.Rows.args_list_sort _) fun h' E' hk => ?_
  have hk2 : ∀ b o, s.heap.get? b = some o → (PySem.W.sortingHeap (h'.push (seqObj "list" its.toArray 0)) h'.objs.size its).get? b = some o := fun b o e =>
    PySem.W.sortingHeap_old (Nat.ne_of_lt (Heap.lt_size (hk b o e))) (Heap.get?_push_of_some _ (hk b o e))
  have e3 : EachIs (fun v b => ∃ as, Reads (PySem.W.sortingHeap (h'.push (seqObj "list" its.toArray 0)) h'.objs.size its) v (encS b) as) its S :=
    e2.mono fun _ _ ⟨as, r⟩ => ⟨as, PyProof.Rows.Reads.keeps hk2 r⟩
  have hu : ∀ d, d ∈ S.map encS → X.A.in1.in1.units + d.depth < cLine := fun d hm => by
    obtain ⟨b, _, e⟩ := List.mem_map.mp hm
    rw [← e, depthS]
    have h1 := hr.units
    have h2 : X.A.in1.in1.units = X.A.units + 2 := rfl
    omega
  have at_ : (h'.push (seqObj "list" its.toArray 0)).get? h'.objs.size = some (seqObj "list" its.toArray 0) := Heap.get?_push_size _ rfl
  refine PySem.W.list_sort_vals (s := { s with heap := h'.push (seqObj "list" its.toArray 0) }) (κ := PySem.W.dataKind (PySem.W.sortingHeap (h'.push (seqObj "list" its.toArray 0)) h'.objs.size its) (S.map encS)) at_
    (PySem.W.SortsAt.data (s := { s with heap := PySem.W.sortingHeap (h'.push (seqObj "list" its.toArray 0)) h'.objs.size its }) (PySem.W.each_map (R := fun v d => ∃ as, Reads (PySem.W.sortingHeap (h'.push (seqObj "list" its.toArray 0)) h'.objs.size its) v d as) encS e3) (allAlikeS S) (sortableS S) hu) (by omega) ⟨rfl, ?_⟩
  have eo := PySem.W.sortVals_data (R := IsS X.K H) (h' := PySem.W.sortingHeap (h'.push (seqObj "list" its.toArray 0)) h'.objs.size its) false e1 e3 (allAlikeS S)
  obtain ⟨ys, ry, dy⟩ := of_each eo
  have ly : ys.length ≤ sizeLine := by
    have z1 := dpAll_len dy
    rw [List.length_map, List.length_mergeSort] at z1
    omega
  have I1 : Inv X pins σ H { s with heap := h' } := I.kept (t' := s.toks) hk
  obtain ⟨ep, he⟩ := PyProof.Rows.sortedHeap_at (vs := its) (out := (PySem.W.sortVals (PySem.W.dataKind (PySem.W.sortingHeap (h'.push (seqObj "list" its.toArray 0)) h'.objs.size its) (S.map encS)) false its its).toArray) at_
  have I2 := I1.laid (a := h'.objs.size) (o := .lst ys) (t' := s.toks) (h' := PyProof.Rows.sortedHeap (h'.push (seqObj "list" its.toArray 0)) h'.objs.size its (PySem.W.sortVals (PySem.W.dataKind (PySem.W.sortingHeap (h'.push (seqObj "list" its.toArray 0)) h'.objs.size its) (S.map encS)) false its its).toArray)
    (fun b u e => by
      have hb : b < h'.objs.size := Heap.lt_size e
      rw [PyProof.Rows.sortedHeap_old (Nat.ne_of_lt hb) (by rw [PyProof.Rows.size_push']; exact Nat.lt_succ_of_lt hb)]
      exact Heap.get?_push_of_some _ e) (Nat.le_refl _) ⟨ly, _, ep, ry, he⟩
  exact ⟨.ref _, _, I2, rfl, q ys _ dy (I1.hok.fresh (Nat.le_refl _))⟩
end
/-! ### two rows of the same steps, sorted, are one -/
theorem lexLt_cons {x y : PyData} (h : PySem.W.alike x y = true) (xs ys : List PyData) : PySem.W.dataLt (.tuple (x :: xs)) (.tuple (y :: ys)) = if PyData.eqv x y = true then PySem.W.dataLt (.tuple xs) (.tuple ys) else PySem.W.dataLt x y := by
  rw [PySem.W.dataLt_tuple, PySem.W.dataLt_tuple]
  exact PySem.W.dataLt_cons h xs ys
theorem str_tot {x y : Str} (h1 : ¬ x.cps.toList < y.cps.toList) (h2 : ¬ y.cps.toList < x.cps.toList) : x.cps.toList = y.cps.toList :=
  List.le_antisymm (List.not_lt.mp h2) (List.not_lt.mp h1)
theorem kw_inj {a b : Bool} (h : (kw a).cps.toList = (kw b).cps.toList) : a = b := by
  have e : kw a = kw b := by
    cases ha : kw a with
    | mk c =>
      cases hb : kw b with
      | mk d =>
        rw [ha, hb] at h
        have h' : c.toList = d.toList := h
        have : c = d := by
          rw [← Array.toArray_toList (xs := c), ← Array.toArray_toList (xs := d), h']
        rw [this]
  exact kw_eq.mp e
theorem leS_antisymm {s o : Step} (h1 : dataLe false encS s o = true) (h2 : dataLe false encS o s = true) : s = o := by
  obtain ⟨b, x, t⟩ := s
  obtain ⟨b', x', t'⟩ := o
  rw [PySem.W.dataLe_eq] at h1 h2
  have q1 : PySem.W.dataLt (encS (b', x', t')) (encS (b, x, t)) = false := by simpa using h1
  have q2 : PySem.W.dataLt (encS (b, x, t)) (encS (b', x', t')) = false := by simpa using h2
  unfold encS at q1 q2
  rw [lexLt_cons (by simp [PySem.W.alike])] at q1 q2
  by_cases hb : kw b = kw b'
  · have eb : b = b' := kw_eq.mp hb
    subst eb
    rw [if_pos (by simp [PyData.eqv])] at q1 q2
    rw [lexLt_cons (by simp [PySem.W.alike])] at q1 q2
    by_cases hx : x = x'
    · subst hx
      rw [if_pos (by simp [PyData.eqv])] at q1 q2
      rw [lexLt_cons (by simp [PySem.W.alike])] at q1 q2
      by_cases ht : t = t'
      · rw [ht]
      · rw [if_neg (by simp [PyData.eqv]; omega), PySem.W.dataLt_int] at q1 q2
        simp at q1 q2
        omega
    · rw [if_neg (by simp [PyData.eqv]; omega), PySem.W.dataLt_int] at q1 q2
      simp at q1 q2
      omega
  · rw [if_neg (by simp [PyData.eqv]; exact fun e => hb e.symm), PySem.W.dataLt_str] at q1
    rw [if_neg (by simp [PyData.eqv]; exact hb), PySem.W.dataLt_str] at q2
    have := kw_inj (str_tot (x := kw b) (y := kw b') (by simpa using q2) (by simpa using q1))
    exact absurd (kw_eq.mpr this) hb
theorem leS_total : PySem.W.TotalLe (dataLe false encS) := PySem.W.sortLe_total _ _ _
theorem sortS_perm {S S' : List Step} (h : S.Perm S') : sortS S = sortS S' := by
  unfold sortS
  refine PySem.W.sort_one leS_total _ _ (PySem.W.sort_pairwise leS_total S) (PySem.W.sort_pairwise leS_total S') fun c => ?_
  rw [PySem.W.sort_stable leS_total, PySem.W.sort_stable leS_total]
  have e : PySem.W.sameRank (dataLe false encS) c = fun a => decide (a = c) := by
    funext a
    unfold PySem.W.sameRank
    by_cases q : a = c
    · subst q
      rw [leS_total.refl]
      simp
    · rw [decide_eq_false q]
      cases h1 : dataLe false encS c a with
      | false => rfl
      | true =>
        cases h2 : dataLe false encS a c with
        | false => rfl
        | true => exact absurd (leS_antisymm h2 h1) q
  rw [e]
  have h1 : (S.filter fun a => decide (a = c)).Perm (S'.filter fun a => decide (a = c)) := h.filter _
  have all_c : ∀ L : List Step, L.filter (fun a => decide (a = c)) = List.replicate (L.filter fun a => decide (a = c)).length c := fun L => by
    rw [List.eq_replicate_iff]
    exact ⟨rfl, fun b hb => by simpa using (List.mem_filter.mp hb).2⟩
  rw [all_c S, all_c S', h1.length_eq]
theorem sortS_length (S : List Step) : (sortS S).length = S.length := List.length_mergeSort _
theorem sortS_is (S : List Step) : (sortS S).Perm S := List.mergeSort_perm _ _
end K46

/-! ## KLamb -/
/-! sorted(steps, key=lambda step: (step[0] == "lower", step[1], step[2])): some arrangement of the steps. -/
namespace K46
open PySem PySem.Spec PyProof.Rows L2 LamX
open PySem.W (EachIs dataLe AllAlike Sortable)
/-! ### the lambda, as an object -/
structure LF where
  qual : Str
  params : Arguments
  body : Expr
  scope : Scope
  cl : List (Str × Addr)
  c : Addr
def LamO (f : Addr) (F : LF) : HO := .ext fun h => ∃ pm ctv : Value, h.get? f = some (PySem.W.kla_obj "<lambda>" F.qual F.params F.body F.scope F.cl pm F.c ctv)
theorem lamO_at {P : Program} {w : World} {H : Hp} {h : Heap} {f : Addr} {F : LF} (hok : HOk P w H h) (e : H f = some (LamO f F)) : ∃ pm ctv : Value, h.get? f = some (PySem.W.kla_obj "<lambda>" F.qual F.params F.body F.scope F.cl pm F.c ctv) := by
  obtain ⟨z, _, _⟩ := hok f _ e
  exact z
theorem codeO_rec {P : Program} {w : World} {H : Hp} {h : Heap} {c : Addr} {q : Str} (hok : HOk P w H h) (e : H c = some (CodeO c q)) : h.CodeRec (.ref c) q := by
  obtain ⟨⟨oc, vs, t, h1, h2, h3⟩, _, _⟩ := hok c _ e
  exact ⟨c, oc, vs, t, rfl, h1, h2, h3⟩
section
variable {X : Cx} {pins : List (Addr × Obj)} {σ : L2.St} {H : Hp} {s : Shared}
theorem inv_lam {F : LF} {o : Obj} {t' : Nat} {pm ctv : Value} (I : Inv X pins σ H s) (ho : o = PySem.W.kla_obj "<lambda>" F.qual F.params F.body F.scope F.cl pm F.c ctv) :
    Inv X pins σ (upd H s.heap.objs.size (LamO s.heap.objs.size F)) { s with heap := s.heap.push o, toks := t' } := by
  subst ho
  refine I.laid (a := s.heap.objs.size) (fun b u e => Heap.get?_push_of_some _ e) (Nat.le_refl _) ?_
  have e : (s.heap.push (PySem.W.kla_obj "<lambda>" F.qual F.params F.body F.scope F.cl pm F.c ctv)).get? s.heap.objs.size = some (PySem.W.kla_obj "<lambda>" F.qual F.params F.body F.scope F.cl pm F.c ctv) := Heap.get?_push_size _ rfl
  exact ⟨⟨pm, ctv, e⟩, ⟨_, e⟩, fun h1 h2 ⟨d, p, z⟩ st => ⟨d, p, st _ z⟩⟩
theorem lamo_make {T : List (Addr × Str)} {c P : Addr} {params : Arguments} {body : Expr} {scope : Scope} {pos : Pos} {E : Value → Shared → Prop} {Q : Value → Shared → Prop} (I : Inv X pins σ H s) (TB : TabB X.base X.mg c P) (hcode : X.env.code = .ref c)
    (hm : (P, X.env.qual ++ "<lambda>") ∈ T) (hu : ∀ p ∈ T, p.1 = P → p.2 = X.env.qual ++ "<lambda>") (hT : Tabs T H) (hdef : defaultsOf params X.env = ([], [])) (hfree : ∀ y ∈ scope.names, y.2 = .free → ∃ c, X.env.cells.lookup y.1 = some c)
    (h : ∀ (f c' : Addr) (H1 : Hp) (s' : Shared), Inv X pins σ H1 s' → ExtN H H1 → Tabs T H1 → H1 f = some (LamO f ⟨X.env.qual ++ "<lambda>", params, body, scope, cloFrom X.env.cells scope.names [], c'⟩) → H1 c' = some (CodeO c' (X.env.qual ++ "<lambda>")) → Q (.ref f) s') :
    wpAny (model X.prog X.w) X.A (eval (.Lambda params body scope pos) X.env) Q E s := by
  obtain ⟨ps, hP, ht, ha⟩ := hT _ hm
  refine PySem.W.kla_eval hdef ?_
  have bP : s.heap.BuiltinsAt X.mg P := TB.bm.keeps I.bk
  have hP' : s.heap.get? P = some { cls := .none, data := .fields ps } := I.hok P _ hP
  cases hc : codeAmong pos ps.toList with
  | none =>
    refine PySem.W.kla_makeFunction (mg := X.mg) (c := c) (P := P) (ps := ps) (closure_ok hfree) I.ok.glob (I.mod.glob.keeps I.bk) hcode (TB.code.keeps I.bk) hP' ht hc TB.gP bP fun c' ctv h' tk hx hge hlt hrec htb => ?_
    obtain ⟨c2, oc, vs, t, e2, hoc, hd, hv⟩ := hrec
    cases e2
    have nC : H c' = none := I.hok.fresh hge
    have I1 := inv_table (t' := tk) (more := #[rawInt pos.line, rawInt pos.col, .ref c']) (h' := h') I hP (fun b o hb e => hx b o hb e) htb hge ⟨oc, vs, t, hoc, hd, hv⟩
    have hE : ExtN H (upd (upd H P (.tbl (ps ++ #[rawInt pos.line, rawInt pos.col, .ref c']))) c' (CodeO c' (X.env.qual ++ "<lambda>"))) := fun b o e n => by
      rw [upd_ne (ne_of_none e nC), upd_ne (fun z => n ps (Option.some.inj (e.symm.trans (by rw [z]; exact hP))))]
      exact e
    have eL : (ps ++ #[rawInt pos.line, rawInt pos.col, .ref c']).toList = ps.toList ++ [rawInt pos.line, rawInt pos.col, .ref c'] := by simp
    have T1 : Tabs T (upd (upd H P (.tbl (ps ++ #[rawInt pos.line, rawInt pos.col, .ref c']))) c' (CodeO c' (X.env.qual ++ "<lambda>"))) := fun p hp => by
      by_cases hb : p.1 = P
      · rw [hu p hp hb, hb]
        refine ⟨_, by rw [upd_ne (ne_of_none hP nC), upd_same], by rw [eL]; exact PySem.TriplesOk_snoc _ _ _ _ ht, fun p' cv hcv => ?_⟩
        rw [eL] at hcv
        rcases among_app _ ht hcv with z | z
        · obtain ⟨c0, e1, e2⟩ := ha p' cv z
          exact ⟨c0, e1, hE _ _ e2 codeO_ne⟩
        · exact ⟨c', z, upd_same⟩
      · obtain ⟨ps', a1, a2, a3⟩ := hT p hp
        refine ⟨ps', by rw [upd_ne (ne_of_none a1 nC), upd_ne hb]; exact a1, a2, fun p' cv hcv => ?_⟩
        obtain ⟨c0, e1, e2⟩ := a3 p' cv hcv
        exact ⟨c0, e1, hE _ _ e2 codeO_ne⟩
    have nF := I1.hok.fresh (Nat.le_refl _)
    have I2 := inv_lam (F := ⟨X.env.qual ++ "<lambda>", params, body, scope, cloFrom X.env.cells scope.names [], c'⟩) (t' := tk) (pm := (X.mg "__name__").getD .none) (ctv := ctv) I1 rfl
    refine h h'.objs.size c' _ _ I2 (fun b o e n => ?_) (T1.ext fun b o e => ?_) upd_same ?_
    · have e1 := hE b o e n
      exact (upd_ne (ne_of_none e1 nF)).trans e1
    · exact (upd_ne (ne_of_none e nF)).trans e
    · exact (upd_ne (Nat.ne_of_lt hlt)).trans upd_same
  | some cv =>
    obtain ⟨c', e, hco⟩ := ha pos cv hc
    subst e
    refine PySem.W.kla_makeFunctionHit (mg := X.mg) (c := c) (P := P) (ps := ps) (closure_ok hfree) I.ok.glob (I.mod.glob.keeps I.bk) hcode (TB.code.keeps I.bk) hP' ht hc bP fun ctv h' tk hx hsz => ?_
    have I1 : Inv X pins σ H { s with heap := h', toks := tk } := I.kept hx
    have nF : H h'.objs.size = none := I1.hok.fresh (Nat.le_refl _)
    have I2 := inv_lam (F := ⟨X.env.qual ++ "<lambda>", params, body, scope, cloFrom X.env.cells scope.names [], c'⟩) (t' := tk) (pm := (X.mg "__name__").getD .none) (ctv := ctv) I1 rfl
    refine h h'.objs.size c' _ _ I2 (fun b o e n => ?_) (hT.ext fun b o e => ?_) upd_same ?_
    · exact (upd_ne (ne_of_none e nF)).trans e
    · exact (upd_ne (ne_of_none e nF)).trans e
    · exact (upd_ne (ne_of_none hco nF)).trans hco
end
def tLamo (T : List (Addr × Str)) (mk : Addr → LF) : TE := fun σ H Q => Tabs T H ∧ ∀ (f c' : Addr) (H1 : Hp), ExtN H H1 → Tabs T H1 → H1 f = some (LamO f (mk c')) → H1 c' = some (CodeO c' (mk c').qual) → Q (.ref f) H1
theorem pe_lamo {X : Cx} {T : List (Addr × Str)} {c P : Addr} {params : Arguments} {body : Expr} {scope : Scope} {pos : Pos} (TB : TabB X.base X.mg c P) (hcode : X.env.code = .ref c)
    (hm : (P, X.env.qual ++ "<lambda>") ∈ T) (hu : ∀ p ∈ T, p.1 = P → p.2 = X.env.qual ++ "<lambda>") (hdef : defaultsOf params X.env = ([], [])) (hfree : ∀ y ∈ scope.names, y.2 ≠ .free) :
    PE X (.Lambda params body scope pos) (tLamo T fun c' => ⟨X.env.qual ++ "<lambda>", params, body, scope, cloFrom X.env.cells scope.names [], c'⟩) := by
  refine ⟨fun pins s σ H Q I h => ?_⟩
  obtain ⟨hT, h⟩ := h
  exact lamo_make I TB hcode hm hu hT hdef (fun y hy e => absurd e (hfree y hy)) fun f c' H1 s' I1 eN T1 f1 c1 => ⟨.ref f, H1, I1, rfl, h f c' H1 eN T1 f1 c1⟩
/-! ### its call -/
def keyD (s : Step) : PyData := .tuple [.bool (kw s.1 == ("lower" : Str)), .int s.2.1, .int s.2.2]
/-- the lambda's text -/
structure IsKey (params : Arguments) (body : Expr) (scope : Scope) : Prop where
  bind : ∀ (q : Str) (cl : List (Str × Addr)) (pm cv ctv v : Value), bindArgs (PySem.W.kla_fn "<lambda>" q params body scope cl pm cv ctv) ⟨[v], []⟩ = pure [((Str.ofString "step" : Str), v)]
  body : ∃ (k0 k1 k2 k3 k4 : Nat) (p0 p1 p2 p3 p4 p5 p6 p7 p8 p9 p10 p11 : Pos), body = .Tuple [.Compare (.Subscript (.Name "step" p0) (.Constant (.int 0) k0 p1) p2) [.Eq] [.Constant (.str "lower") k1 p3] p4,
    .Subscript (.Name "step" p5) (.Constant (.int 1) k2 p6) p7, .Subscript (.Name "step" p8) (.Constant (.int 2) k3 p9) p10] k4 p11
  names : scope.names = [(Str.ofString "step", .local)]
  kind : scope.kind = .function
  co : scope.isCoroutine = false
  gen : scope.isGenerator = false
section
variable {prog : Program} {w : World} {A : Around} {s : Shared}
theorem at3 {E : Value → Shared → Prop} {env : Env} {t : Addr} {m : Str → Option Value} {its : Array Value} {i : Nat} {k : Nat} {p0 p1 p2 : Pos} {x : Value} {Q : Value → Shared → Prop} (hk : env.scope.kind = .function) (hl : env.kindOf "step" = some .local) (hn : s.heap.Ns env.locals m) (hv : m "step" = some (.ref t))
    (ht : IsTup s.heap t its) (hz : its.size ≤ 1000) (hx : its[i]? = some x) (h : ∀ tk, Q x { s with toks := tk }) : wpAny (model prog w) A (eval (.Subscript (.Name "step" p0) (.Constant (.int (i : Int)) k p1) p2) env) Q E s := by
  refine Subscript_ (wpAny_Name (wpAny_loadName_local hk hl hn hv (wpAny_Constant_int ?_)))
  have hi : i < its.size := (Array.getElem?_eq_some_iff.mp hx).1
  have ht' : IsTup (Shared.heap { s with toks := s.toks + 1 }) t its := ht
  refine subscriptTail_builtinR (x := x) ht'.typeIs slot_tuple_getitem.lookup (PyProof.Rows.getItem_tuple (j := i) (Q := fun r s' => r = x ∧ Q r s') ht' (by omega) (by omega) ?_ hx ⟨rfl, h _⟩) rfl
  have e : ixN its.size (i : Int) = some i := by
    unfold ixN
    rw [if_pos (by omega), if_pos (by omega)]
    rfl
  exact (ixN_seq e).1
theorem lam_turn {F : LF} (hK : IsKey F.params F.body F.scope) {f t : Addr} {pm ctv : Value} {its : Array Value} {x : Step} {t0 t1 t2 : Tok} (ho : s.heap.get? f = some (PySem.W.kla_obj "<lambda>" F.qual F.params F.body F.scope F.cl pm F.c ctv)) (hc : s.heap.CodeRec (.ref F.c) F.qual)
    (ht : IsTup s.heap t its) (hi : its = #[.str (kw x.1) t0, .int x.2.1 t1, .int x.2.2 t2]) (hr : A.depth < recursionLimit) (hn : s.heap.NoLimit) :
    wpAny (model prog w) A (call (.ref f) [.ref t]) (PySem.W.KeyPure (keyD x) s) (fun _ _ => False) s := by
  refine wpAny_call ?_
  refine PySem.W.kla_callFunE hr ho rfl hK.co hK.gen rfl hc ?_
  rw [hK.bind]
  have hne : ∀ y ∈ F.scope.names, y.2 ≠ .cell := fun y hy => by
    rw [hK.names] at hy
    have e : y = (Str.ofString "step", .local) := by simpa using hy
    rw [e]
    exact fun z => nomatch z
  have hl0 : F.scope.names.lookup (Str.ofString "step") = some .local := by
    rw [hK.names] <;> rfl
  have hloc : ∀ y ∈ ([((Str.ofString "step" : Str), .ref t)] : List (Str × Value)), F.scope.names.lookup y.1 = some .local := fun y hy => by
    have e : y = ((Str.ofString "step" : Str), .ref t) := by simpa using hy
    rw [e]
    exact hl0
  refine wpAny_pure (wpAny_newFunctionEnv hne hloc (fun h1 hns hsb => ⟨hn.fresh _ hsb, ?_⟩) hK.kind)
  have kp : ∀ b o, s.heap.get? b = some o → h1.get? b = some o := fun b o e => hsb.extBut b o (Nat.ne_of_lt (Heap.lt_size e)) (Heap.get?_push_of_some _ e)
  show codeAny _ _ (.expr F.body (PySem.W.envX F.qual F.scope s.heap.objs.size f (.ref F.c) F.cl)) _ _
  refine PySem.W.kla_codeExpr ?_
  obtain ⟨k0, k1, k2, k3, k4, p0, p1, p2, p3, p4, p5, p6, p7, p8, p9, p10, p11, hb⟩ := hK.body
  rw [hb]
  obtain ⟨ot, hot, hct, nt, hdt⟩ := ht
  have hm : (fun x : Str => ([((Str.ofString "step" : Str), .ref t)] : List (Str × Value)).reverse.lookup x) "step" = some (.ref t) := by rfl
  refine wpAny_Tuple_spliced ?_
  show wpAny _ _ (spliced [(false, eval (.Compare (.Subscript (.Name "step" p0) (.Constant (.int ((0 : Nat) : Int)) k0 p1) p2) [.Eq] [.Constant (.str "lower") k1 p3] p4) _), (false, eval (.Subscript (.Name "step" p5) (.Constant (.int ((1 : Nat) : Int)) k2 p6) p7) _), (false, eval (.Subscript (.Name "step" p8) (.Constant (.int ((2 : Nat) : Int)) k3 p9) p10) _)]) _ _ _
  have hz : its.size ≤ 1000 := by
    rw [hi]
    show 3 ≤ 1000
    decide
  have g0 : its[0]? = some (.str (kw x.1) t0) := by
    rw [hi] <;> rfl
  have g1 : its[1]? = some (.int x.2.1 t1) := by
    rw [hi] <;> rfl
  have g2 : its[2]? = some (.int x.2.2 t2) := by
    rw [hi] <;> rfl
  refine Calls.spliced_cons (wpAny_Compare1 (at3 (i := 0) hK.kind hl0 hns hm ⟨ot, kp _ _ hot, hct, nt, hdt⟩ hz g0 fun tk => Calls.Constant_str (PyProof.Rows.eq_str ?_)))
  refine Calls.spliced_cons (at3 (i := 1) hK.kind hl0 hns hm ⟨ot, kp _ _ hot, hct, nt, hdt⟩ hz g1 fun tk => ?_)
  refine Calls.spliced_cons (at3 (i := 2) hK.kind hl0 hns hm ⟨ot, kp _ _ hot, hct, nt, hdt⟩ hz g2 fun tk => Calls.spliced_nil ⟨by show 3 ≤ sizeLine; decide, ?_⟩)
  refine ⟨_, tk, rfl, fun b o e => Heap.get?_push_of_some _ (kp b o e), ?_⟩
  have hT : (h1.push { cls := .type "tuple", data := .seq (List.toArray [.bool (kw x.1 == ("lower" : Str)), .int x.2.1 t1, .int x.2.2 t2]) }).get? h1.objs.size = some { cls := .type "tuple", data := .seq (List.toArray [.bool (kw x.1 == ("lower" : Str)), .int x.2.1 t1, .int x.2.2 t2]) } := Heap.get?_push_size _ rfl
  have r : Reads (h1.push { cls := .type "tuple", data := .seq (List.toArray [.bool (kw x.1 == ("lower" : Str)), .int x.2.1 t1, .int x.2.2 t2]) }) (.ref h1.objs.size) (keyD x) ([] ++ ([] ++ ([] ++ []))) :=
    .tuple hT rfl rfl (.cons (.bool _) (.cons (.int _ _) (.cons (.int _ _) .nil)))
  exact r
end
/-! ### the rule -/
theorem depthK (s : Step) : (keyD s).depth = 1 := by
  simp [keyD, PyData.depth, PyData.depthAll]
theorem allAlikeK (S : List Step) : AllAlike (S.map keyD) := AllAlike.of fun s o => by
  simp [keyD, PySem.W.alike, PySem.W.alikeAll]
theorem sortableK (S : List Step) : Sortable (S.map keyD) := Sortable.tuples fun s => ⟨_, _, rfl⟩
def rSortedKey (K : PySem.W.Frag) : List V → List V → Hp → VK → Prop := fun vs zs H Q => ∃ (a : Addr) (xs : List V) (S : List Step) (f : Addr) (F : LF), vs = [V.ref a] ∧ zs = [V.ref f] ∧ (SqL K H a xs ∨ SqT K H a xs) ∧ DpAll K H xs (S.map encS) ∧
  H f = some (LamO f F) ∧ H F.c = some (CodeO F.c F.qual) ∧ IsKey F.params F.body F.scope ∧
  ∀ (ys : List V) (S' : List Step) (p : Addr), S'.Perm S → DpAll K H ys (S'.map encS) → H p = none → Q (.ref p) (upd H p (.lst ys))
theorem step_tup {X : Cx} {pins : List (Addr × Obj)} {σ : L2.St} {H : Hp} {s : Shared} (I : Inv X pins σ H s) {u : Value} {b : Step} (h : IsS X.K H u b) :
    ∃ t its t0 t1 t2, u = .ref t ∧ IsTup s.heap t its ∧ its = #[.str (kw b.1) t0, .int b.2.1 t1, .int b.2.2 t2] := by
  obtain ⟨x, rx, d⟩ := h
  obtain ⟨a, rfl, hq⟩ := dp_step d
  cases rx
  obtain ⟨its, rv, ht, _⟩ := I.tuple hq
  cases rv with
  | cons r1 rv =>
    cases rv with
    | cons r2 rv =>
      cases rv with
      | cons r3 rv =>
        cases rv
        obtain ⟨t0, rfl⟩ := r1
        obtain ⟨t1, rfl⟩ := r2
        obtain ⟨t2, rfl⟩ := r3
        exact ⟨a, _, t0, t1, t2, rfl, ht, rfl⟩
theorem cr_sortedKeySt {X : Cx} {k : Nat} (hr : Room k X.A) : CallRK X (.builtin "sorted") [Str.ofString "key"] (rSortedKey X.K) := by
  intro pins s σ H vs zs us ws Q I r rz h
  obtain ⟨a, xs, S, f, F, rfl, rfl, hs, hd, hf, hc, hK, q⟩ := h
  obtain rfl := Vals.ref1 r
  obtain rfl := Vals.ref1 rz
  obtain ⟨its, T, o, n, rv, hT, ho, hcl, hda, hz⟩ := Inv.seqObj_at I hs
  have hl := rv.length
  have hlS : its.length = S.length := by
    have e := dpAll_len hd
    rw [List.length_map] at e
    omega
  have e1 : EachIs (IsS X.K H) its S := each_of rv hd
  obtain ⟨pm, ctv, hfo⟩ := lamO_at I.hok hf
  have hrec := codeO_rec I.hok hc
  show wpAny _ _ (call (.builtin "sorted") [.ref a] [(Str.ofString "key", .ref f)]) _ _ _
  refine PySem.W.k46_sorted hT ho hcl hda (by omega) (PyProof.Rows.ksk_s1 _ _) (fun _ => PyProof.Rows.ksk_l1 _ _) fun h' E' hk => ?_
  rw [PyProof.Rows.ksk_t1]
  have hu : ∀ d, d ∈ S.map keyD → X.A.in1.in1.units + d.depth < cLine := fun d hm => by
    obtain ⟨b, _, e⟩ := List.mem_map.mp hm
    rw [← e, depthK]
    have h1 := hr.units
    have h2 : X.A.in1.in1.units = X.A.units + 2 := rfl
    omega
  have at_ : (h'.push (seqObj "list" its.toArray 0)).get? h'.objs.size = some (seqObj "list" its.toArray 0) := Heap.get?_push_size _ rfl
  have kp0 : ∀ {g : Heap}, PySem.W.KeepsBut h'.objs.size (h'.push (seqObj "list" its.toArray 0)) g → ∀ b o, s.heap.get? b = some o → g.get? b = some o := fun {g} kp b o e =>
    kp b o (Nat.ne_of_lt (Heap.lt_size (hk b o e))) (Heap.get?_push_of_some _ (hk b o e))
  refine PySem.W.keyH_tree (kz := S.map keyD) (s := { s with heap := h'.push (seqObj "list" its.toArray 0) }) at_ (by rw [List.length_map]; omega) (by omega) (allAlikeK S) (sortableK S) hu
    (PySem.W.keyH_turns (k := keyD) (R := IsS X.K H) (s := { s with heap := h'.push (seqObj "list" its.toArray 0) }) e1 fun v x hR hx g tk kp => ?_) fun g tk out c kp hD ko => ⟨rfl, ?_⟩
  · obtain ⟨t, it3, t0, t1, t2, rfl, ⟨ot, hot, hrest⟩, hi⟩ := step_tup I hR
    obtain ⟨c0, oc, cvs, ct, e0, e1', e2', e3'⟩ := hrec
    have hdp := hr.depth
    exact lam_turn (s := { s with heap := g, toks := tk }) hK (kp0 kp _ _ hfo) ⟨c0, oc, cvs, ct, e0, kp0 kp _ _ e1', e2', e3'⟩ ⟨ot, kp0 kp _ _ hot, hrest⟩ hi hdp (I.nolimit.keeps (kp0 kp))
  · have lo : out.length = S.length := by
      have z := ko.length (by rw [List.length_map]; omega)
      omega
    have eo := PySem.W.keyedOut_each keyD ko e1
    obtain ⟨ys, ry, dy⟩ := of_each eo
    have ly : ys.length ≤ sizeLine := by
      have z1 := ry.length
      omega
    have I1 : Inv X pins σ H { s with heap := h' } := I.kept (t' := s.toks) hk
    have I2 := I1.laid (a := h'.objs.size) (o := .lst ys) (t' := tk) (h' := g) (fun b u e => kp b u (Nat.ne_of_lt (Heap.lt_size e)) (Heap.get?_push_of_some _ e)) (Nat.le_refl _) ⟨ly, _, c, ry, hD⟩
    exact ⟨.ref _, _, I2, rfl, q ys _ _ (List.mergeSort_perm _ _) dy (I1.hok.fresh (Nat.le_refl _))⟩
end K46

/-! ## KTop -/
/-! The text by places; what the top has written; a def that keeps a promise. -/
namespace K46
open PySem PySem.Spec PyProof.Rows L2
def topS (i : Nat) : Stmt := PySem.Challenge.pw_allbide_k46_whole_shifted_and_mirrored.main.body.getD i (.Pass ⟨0, 0, 0, 0⟩)
abbrev sIsInt : Stmt := topS 4
abbrev sEvT : Stmt := topS 9
abbrev sIsStep : Stmt := topS 10
abbrev sAreSteps : Stmt := topS 11
abbrev sCheck : Stmt := topS 12
abbrev sCommute : Stmt := topS 13
abbrev sLayersIn : Stmt := topS 14
abbrev sLayers : Stmt := topS 15
abbrev sStronger : Stmt := topS 17
abbrev sMakesIdle : Stmt := topS 18
abbrev sWhyIdle : Stmt := topS 19
abbrev sIdleSteps : Stmt := topS 20
abbrev sFirstIdle : Stmt := topS 21
abbrev sReductionOf : Stmt := topS 22
abbrev sRemainingOf : Stmt := topS 23
abbrev sRemaining : Stmt := topS 24
abbrev sReduction : Stmt := topS 25
abbrev sStream : Stmt := topS 27
abbrev sNext : Stmt := topS 28
abbrev sSomeSteps : Stmt := topS 32
abbrev sNames : Stmt := topS 38
abbrev sLaw : Stmt := topS 39
/-- the built-in names that the top leaves alone, its constants -/
structure Tx (mg : Str → Option Value) : Prop where
  isinstance : mg "isinstance" = none
  int : mg "int" = none
  bool : mg "bool" = none
  tuple : mg "tuple" = none
  len : mg "len" = none
  str : mg "str" = none
  all : mg "all" = none
  enumerate : mg "enumerate" = none
  range : mg "range" = none
  max : mg "max" = none
  zip : mg "zip" = none
  sorted : mg "sorted" = none
  list : mg "list" = none
  abs : mg "abs" = none
  mostEvent : ∃ t, mg "MOST_EVENT" = some (.int 5 t)
  mostTime : ∃ t, mg "MOST_TIME" = some (.int 500 t)
  mostSteps : ∃ t, mg "MOST_STEPS" = some (.int 16 t)
/-- the def of the name x keeps the promise sp -/
def Cal (P : Program) (w : World) (K : PySem.W.Frag) (mg : Str → Option Value) (base : Heap) (k : Nat) (x : Str) (ps : List Str) (sp : Sp) : Prop :=
  ∃ (f : Addr) (fd : FuncData), mg x = some (.ref f) ∧ PySem.W.keepIn K (.ref f) = true ∧ Binds K fd ps [] ∧ FnOk P w K mg base CX0 k f fd ps sp
theorem pe_cal {X : Cx} {k : Nat} {x : Str} {ps : List Str} {sp : Sp} {p pos : Pos} {e : Expr} {es : List Expr} {t : TA} (C : Cal X.prog X.w X.K X.mg X.base k x ps sp) (hr : Room k X.A) (hg : Gl X x) (ha : PA X (e :: es) t)
    (hdb : (x == ("__debug__" : Str)) = false := by decide) (he : starEach (e :: es) X.env = (false, eval e X.env) :: starEach es X.env := by rfl) (hpl : (backTo pos (starEach es X.env)).any (·.1) = false := by rfl) :
    PE X (.Call (.Name x p) (e :: es) [] pos) (tCall sp [] E0 t) := by
  obtain ⟨f, fd, g, kp, b, F⟩ := C
  exact pe_call F hr hg g kp b .nil pass0 ha hdb he hpl
theorem iteD {c A B : Prop} [Decidable c] (hc : c) (h : A) : if decide c = true then A else B := by
  rw [if_pos (decide_eq_true hc)]
  exact h
theorem iteDN {c A B : Prop} [Decidable c] (hc : ¬ c) (h : B) : if decide c = true then A else B := by
  rw [if_neg (by rw [decide_eq_false hc]; exact Bool.false_ne_true)]
  exact h
theorem iteB {b : Bool} {A B : Prop} (h1 : b = true → A) (h2 : b = false → B) : if b = true then A else B := by
  cases b with
  | true => exact iteT (h1 rfl)
  | false => exact iteF (h2 rfl)
end K46

/-! ## KF1 -/
/-! is_integer, is_event_time, is_step, are_steps, check_steps. -/
namespace K46
open PySem PySem.Spec PyProof.Rows L2
section
variable {P : Program} {w : World} {K : PySem.W.Frag} {mg : Str → Option Value} {base : Heap}
def spIsInt : Sp := fun vs H Q _ => ∃ i : Int, vs = [.int i] ∧ Q (.bl true) H
theorem scIsInt : FnScope ["value"] ["value"] (defScope sIsInt) := ⟨rfl, rfl, rfl, by decide +kernel, rfl, by decide +kernel, by decide +kernel⟩
theorem cal_isInt {f : Addr} {fd : FuncData} (F : Fun K "is_integer" "is_integer" sIsInt f fd) (g : mg "is_integer" = some (.ref f)) (T : Tx mg) : Cal P w K mg base 1 "is_integer" ["value"] spIsInt := by
  refine ⟨f, fd, g, F.kp, F.binds fun _ _ _ _ _ _ us hl => match us, hl with | [_], _ => rfl, F.ok scIsInt (fun vs H Q E h => ?_) (fun cdv A outer s H vs Q E hr h => ?_)⟩
  · obtain ⟨i, rfl, _⟩ := h
    rfl
  · obtain ⟨i, rfl, q⟩ := h
    refine ⟨_, (pss_one (ps_ret (pe_and (pe_callB call_isi (by rfl) T.isinstance (by decide +kernel) (pa_cons (pv 0) (pa_cons (pe_bltn (v := .ty "int") (by rfl) T.int (by decide +kernel) rfl) pa_nil))) (pe_one (pe_not (pe_callB call_isi (by rfl) T.isinstance (by decide +kernel) (pa_cons (pv 0) (pa_cons (pe_bltn (v := .ty "bool") (by rfl) T.bool (by decide +kernel) rfl) pa_nil)))))))), ?_⟩
    refine ⟨_, rfl, .int i, .ty "int", .type "int", .type "int", true, rfl, .ty _, .base (.int i), kit_ty (by decide +kernel), true, rfl, iteT ?_⟩
    exact ⟨_, rfl, .int i, .ty "bool", .type "int", .type "bool", false, rfl, .ty _, .base (.int i), kit_ty (by decide +kernel), false, rfl, q⟩
def spEvT : Sp := fun vs H Q _ => ∃ e t : Int, vs = [.int e, .int t] ∧ (0 ≤ e ∧ e ≤ 5) ∧ (-500 ≤ t ∧ t ≤ 500) ∧ Q (.bl true) H
theorem scEvT : FnScope ["event", "time"] ["event", "time"] (defScope sEvT) := ⟨rfl, rfl, rfl, by decide +kernel, rfl, by decide +kernel, by decide +kernel⟩
theorem cal_evT {f : Addr} {fd : FuncData} (F : Fun K "is_event_time" "is_event_time" sEvT f fd) (g : mg "is_event_time" = some (.ref f)) (T : Tx mg) (C1 : Cal P w K mg base 1 "is_integer" ["value"] spIsInt) : Cal P w K mg base 2 "is_event_time" ["event", "time"] spEvT := by
  refine ⟨f, fd, g, F.kp, F.binds fun _ _ _ _ _ _ us hl => match us, hl with | [_, _], _ => rfl, F.ok scEvT (fun vs H Q E h => ?_) (fun cdv A outer s H vs Q E hr h => ?_)⟩
  · obtain ⟨e, t, rfl, _⟩ := h
    rfl
  · obtain ⟨e, t, rfl, ⟨e0, e5⟩, ⟨t0, t5⟩, q⟩ := h
    obtain ⟨_, mE⟩ := T.mostEvent
    obtain ⟨_, mT⟩ := T.mostTime
    refine ⟨_, (pss_cons (ps_if (PW.pt (pw_or (pt_not (pt_val (pe_cal C1 (hr.mono (by decide)) (by rfl) (pa_cons (pv 0) pa_nil)))) (pw_or1 (pt_not (pt_chain op_le op_le pe_int (pv 0) (pe_glob (v := .int 5) (by rfl) mE ⟨_, rfl⟩)))))) (pss_one (ps_ret pe_bl)) pss_nil)
      (pss_one (ps_ret (pe_and (pe_cal C1 (hr.mono (by decide)) (by rfl) (pa_cons (pv 1) pa_nil)) (pe_one (pe_chain op_le op_le (pe_un un_neg (pe_glob (v := .int 500) (by rfl) mT ⟨_, rfl⟩)) (pv 1) (pe_glob (v := .int 500) (by rfl) mT ⟨_, rfl⟩))))))), ?_⟩
    refine ⟨_, rfl, e, rfl, true, rfl, iteF ?_⟩
    refine ⟨_, rfl, _, _, rfl, rfl, _, rfl, iteD e0 ⟨_, _, rfl, rfl, _, rfl, iteNS e5 ?_⟩⟩
    refine ⟨_, rfl, t, rfl, true, rfl, iteT ?_⟩
    refine ⟨_, rfl, _, rfl, _, _, rfl, rfl, _, rfl, iteD t0 ⟨_, _, rfl, rfl, ?_⟩⟩
    show Q (.bl (decide (t ≤ 500))) H
    rw [decide_eq_true t5]
    exact q
def okS (s : Step) : Prop := (0 ≤ s.2.1 ∧ s.2.1 ≤ 5) ∧ (-500 ≤ s.2.2 ∧ s.2.2 ≤ 500)
def spIsStep (K : PySem.W.Frag) : Sp := fun vs H Q _ => ∃ (v : V) (s : Step), vs = [v] ∧ Dp K H v (encS s) ∧ okS s ∧ ∀ H', Same H H' → Q (.bl true) H'
theorem scIsStep : FnScope ["value"] ["value"] (defScope sIsStep) := ⟨rfl, rfl, rfl, by decide +kernel, rfl, by decide +kernel, by decide +kernel⟩
theorem tyT {H : Hp} {a : Addr} {xs : List V} (h : SqT K H a xs) : TyX K H (.ref a) (.type "tuple") := by
  rcases h with (h | ⟨o, h⟩) | ⟨o, its, n, h1, h2, _⟩
  · exact .base (.tup h)
  · exact .fTuple h
  · exact .kTuple h1 h2
theorem inKw (b : Bool) : inV (.str (kw b)) [.str "raise", .str "lower"] = true := by
  cases b <;> decide +kernel
theorem cal_isStep {f : Addr} {fd : FuncData} (F : Fun K "is_step" "is_step" sIsStep f fd) (g : mg "is_step" = some (.ref f)) (T : Tx mg) (C1 : Cal P w K mg base 2 "is_event_time" ["event", "time"] spEvT) : Cal P w K mg base 3 "is_step" ["value"] (spIsStep K) := by
  refine ⟨f, fd, g, F.kp, F.binds fun _ _ _ _ _ _ us hl => match us, hl with | [_], _ => rfl, F.ok scIsStep (fun vs H Q E h => ?_) (fun cdv A outer s H vs Q E hr h => ?_)⟩
  · obtain ⟨v, s, rfl, _⟩ := h
    rfl
  · obtain ⟨v, s, rfl, hd, ⟨oe, ot⟩, q⟩ := h
    obtain ⟨a, rfl, hq⟩ := dp_step hd
    refine ⟨_, (pss_cons (ps_if (PW.pt (pw_or (pt_not (pt_val (pe_callB call_isi (by rfl) T.isinstance (by decide +kernel) (pa_cons (pv 0) (pa_cons (pe_bltn (v := .ty "tuple") (by rfl) T.tuple (by decide +kernel) rfl) pa_nil))))) (pw_or (pt_cmpR op_ne (pe_callB call_len_seq (by rfl) T.len (by decide +kernel) (pa_cons (pv 0) pa_nil)) pe_int (nomark _)) (pw_or1 (pt_not (pt_val (pe_callB call_isi (by rfl) T.isinstance (by decide +kernel) (pa_cons (pe_ix ix_tup (pv 0) pe_int (fun _ _ => rfl)) (pa_cons (pe_bltn (v := .ty "str") (by rfl) T.str (by decide +kernel) rfl) pa_nil))))))))) (pss_one (ps_ret pe_bl)) pss_nil)
      (pss_one (ps_ret (pe_and (pe_cmpR op_in_seq (pe_ix ix_tup (pv 0) pe_int (fun _ _ => rfl)) (pe_tup (pa_cons pe_str (pa_cons pe_str pa_nil))) (by rfl)) (pe_one (pe_cal C1 (hr.mono (by decide)) (by rfl) (pa_cons (pe_ix ix_tup (pv 0) pe_int (fun _ _ => rfl)) (pa_cons (pe_ix ix_tup (pv 0) pe_int (fun _ _ => rfl)) pa_nil)))))))), ?_⟩
    refine ⟨_, rfl, .ref a, .ty "tuple", .type "tuple", .type "tuple", true, rfl, .ty _, tyT hq, kit_ty (by decide +kernel), true, rfl, iteF ?_⟩
    refine ⟨_, rfl, a, _, rfl, .inr hq, rfl, _, rfl, iteNS rfl ?_⟩
    refine ⟨_, rfl, a, _, _, _, rfl, rfl, hq, atI_nat (j := 0) rfl, .str (kw s.1), .ty "str", .type "str", .type "str", true, rfl, .ty _, .base (.str _), kit_ty (by decide +kernel), true, rfl, iteF ?_⟩
    refine ⟨_, rfl, a, _, _, _, rfl, rfl, hq, atI_nat (j := 0) rfl, by show 2 ≤ sizeLine; decide, fun p np => ?_⟩
    refine ⟨p, _, rfl, .inr (SqT.of upd_same), rfl, rfl, true, congrArg V.bl (inKw s.1), iteT ?_⟩
    have hq' := (kp_new (o := .tup [.str "raise", .str "lower"]) np).seqT hq
    refine ⟨_, rfl, a, _, _, _, rfl, rfl, hq', atI_nat (j := 1) rfl, _, rfl, a, _, _, _, rfl, rfl, hq', atI_nat (j := 2) rfl, s.2.1, s.2.2, rfl, oe, ot, ?_⟩
    exact q _ (same_new np)
def spAreSteps (K : PySem.W.Frag) (r : V) : Sp := fun vs H Q _ => ∃ (v : V) (S : List Step), vs = [v] ∧ Dp K H v (.tuple (S.map encS)) ∧ S.length ≤ 16 ∧ (∀ s ∈ S, okS s) ∧ ∀ H', Same H H' → Q r H'
theorem scAreSteps : FnScope ["value", "one"] ["value"] (defScope sAreSteps) := ⟨rfl, rfl, rfl, by decide +kernel, rfl, by decide +kernel, by decide +kernel⟩
theorem all_true (n : Nat) : (List.replicate n true).all id = true := by
  rw [List.all_eq_true]
  intro x hx
  exact (List.mem_replicate.mp hx).2
theorem cal_areSteps {f : Addr} {fd : FuncData} (F : Fun K "are_steps" "are_steps" sAreSteps f fd) (g : mg "are_steps" = some (.ref f)) (T : Tx mg) (C1 : Cal P w K mg base 3 "is_step" ["value"] (spIsStep K)) : Cal P w K mg base 4 "are_steps" ["value"] (spAreSteps K (.bl true)) := by
  refine ⟨f, fd, g, F.kp, F.binds fun _ _ _ _ _ _ us hl => match us, hl with | [_], _ => rfl, F.ok scAreSteps (fun vs H Q E h => ?_) (fun cdv A outer s H vs Q E hr h => ?_)⟩
  · obtain ⟨v, S, rfl, _⟩ := h
    rfl
  · obtain ⟨v, S, rfl, hd, hl, ho, q⟩ := h
    obtain ⟨a, xs, rfl, hq, hx⟩ := dp_tup hd
    obtain ⟨_, mS⟩ := T.mostSteps
    have hlx : xs.length = S.length := by
      rw [dpAll_len hx, List.length_map]
    refine ⟨_, (pss_one (ps_ret (pe_and (pe_callB call_isi (by rfl) T.isinstance (by decide +kernel) (pa_cons (pv 0) (pa_cons (pe_bltn (v := .ty "tuple") (by rfl) T.tuple (by decide +kernel) rfl) pa_nil))) (pe_and (pe_cmpR op_le (pe_callB call_len_seq (by rfl) T.len (by decide +kernel) (pa_cons (pv 0) pa_nil)) (pe_glob (v := .int 16) (by rfl) mS ⟨_, rfl⟩) (nomark _)) (pe_one (pe_callB (cr_all rfl) (by rfl) T.all (by decide +kernel) (pa_cons (pe_lc (own := [("one", 1)]) (g := gName 1) (tt := tYes) rfl scAreSteps.nd (pi_tup (pv 0)) (blkOk_by (own := [("one", 1)]) (N := ["value", "one"]) (sc := defScope sAreSteps) (by decide +kernel)) (fun _ _ _ _ _ => (pg_name (i := 1) scAreSteps.nd rfl (Or.inl rfl))) (fun _ _ _ _ _ => pts_nil) (fun _ _ _ _ _ => (pe_cal C1 (hr.mono (by decide)) (by rfl) (pa_cons (pv 1) pa_nil)))) pa_nil))))))), ?_⟩
    refine ⟨_, rfl, .ref a, .ty "tuple", .type "tuple", .type "tuple", true, rfl, .ty _, tyT hq, kit_ty (by decide +kernel), true, rfl, iteT ?_⟩
    refine ⟨_, rfl, a, _, rfl, .inr hq, _, _, rfl, rfl, _, rfl, iteD (by omega) ?_⟩
    refine ⟨_, rfl, a, rfl, ⟨_, hq⟩, fun D nD => lc_it walk_tup (fun i H' => Same H H' ∧ H' D = some (.lst ((List.replicate i true).map V.bl))) ⟨same_new nD, upd_same⟩ (fun i H' hi ⟨s1, _⟩ => (kp_same s1).seqT hq) (fun i x H1 H2 hi ⟨s1, e1⟩ y => ?_) (fun H' ⟨s1, e1⟩ => ?_)⟩
    · obtain ⟨rfl, hxi⟩ := y
      obtain ⟨b, hb, db⟩ := dpAll_map_get hx hxi
      refine ⟨rfl, x, rfl, x, b, rfl, Dp.kp (kp_same s1) _ _ db, ho b (List.mem_of_getElem? hb), fun H3 s3 => ?_⟩
      refine ⟨_, s3 _ _ e1, by rw [List.length_map, List.length_replicate]; exact small1000 (by omega), fun c o e => ?_, ?_⟩
      · rw [upd_ne (ne_of_none e nD)]
        exact s3 _ _ (s1 _ _ e)
      · rw [upd_same, List.replicate_succ', List.map_append]
        rfl
    · refine ⟨D, _, rfl, .inl (.inl e1), ?_⟩
      show Q (.bl ((List.replicate xs.length true).all id)) H'
      rw [all_true]
      exact q H' s1
theorem scCheck : FnScope ["steps"] ["steps"] (defScope sCheck) := ⟨rfl, rfl, rfl, by decide +kernel, rfl, by decide +kernel, by decide +kernel⟩
theorem cal_check {f : Addr} {fd : FuncData} (F : Fun K "check_steps" "check_steps" sCheck f fd) (g : mg "check_steps" = some (.ref f)) (T : Tx mg) (C1 : Cal P w K mg base 4 "are_steps" ["value"] (spAreSteps K (.bl true))) : Cal P w K mg base 5 "check_steps" ["steps"] (spAreSteps K .non) := by
  refine ⟨f, fd, g, F.kp, F.binds fun _ _ _ _ _ _ us hl => match us, hl with | [_], _ => rfl, F.ok scCheck (fun vs H Q E h => ?_) (fun cdv A outer s H vs Q E hr h => ?_)⟩
  · obtain ⟨v, S, rfl, _⟩ := h
    rfl
  · obtain ⟨v, S, rfl, hd, hl, ho, q⟩ := h
    refine ⟨_, (pss_one (ps_if (pt_not (pt_val (pe_cal C1 (hr.mono (by decide)) (by rfl) (pa_cons (pv 0) pa_nil)))) (pss_one ps_never) pss_nil)), ?_⟩
    exact ⟨_, rfl, v, S, rfl, hd, hl, ho, fun H' s1 => ⟨true, rfl, iteF (q H' s1)⟩⟩
end
end K46

/-! ## KF2 -/
/-! do_commute, is_stronger, makes_idle. -/
namespace K46
open PySem PySem.Spec PyProof.Rows L2
section
variable {P : Program} {w : World} {K : PySem.W.Frag} {mg : Str → Option Value} {base : Heap}
def spCommute (K : PySem.W.Frag) : Sp := fun vs H Q _ => ∃ (v u : V) (s o : Step), vs = [v, u] ∧ Dp K H v (encS s) ∧ Dp K H u (encS o) ∧ ∀ H', Same H H' → Q (.bl (commute s o)) H'
theorem scCommute : FnScope ["one", "other", "first", "second"] ["one", "other"] (defScope sCommute) := ⟨rfl, rfl, rfl, by decide +kernel, rfl, by decide +kernel, by decide +kernel⟩
theorem vstr_kw {a b : Bool} : V.str (kw a) = V.str (kw b) ↔ a = b := ⟨fun e => kw_eq.mp (V.str.inj e), fun e => by rw [e]⟩
theorem vstr_raise {a : Bool} : V.str (kw a) = V.str "raise" ↔ a = true := vstr_kw (a := a) (b := true)
theorem cal_commute {f : Addr} {fd : FuncData} (F : Fun K "do_commute" "do_commute" sCommute f fd) (g : mg "do_commute" = some (.ref f)) : Cal P w K mg base 1 "do_commute" ["one", "other"] (spCommute K) := by
  refine ⟨f, fd, g, F.kp, F.binds fun _ _ _ _ _ _ us hl => match us, hl with | [_, _], _ => rfl, F.ok scCommute (fun vs H Q E h => ?_) (fun cdv A outer s H vs Q E hr h => ?_)⟩
  · obtain ⟨v, u, s, o, rfl, _⟩ := h
    rfl
  · obtain ⟨v, u, s, o, rfl, hv, hu, q⟩ := h
    obtain ⟨a, rfl, ha⟩ := dp_step hv
    obtain ⟨b, rfl, hb⟩ := dp_step hu
    refine ⟨_, (pss_cons (ps_if (pt_cmpR op_eq (pe_ix ix_tup (pv 0) pe_int (fun _ _ => rfl)) (pe_ix ix_tup (pv 1) pe_int (fun _ _ => rfl)) (nomark _)) (pss_one (ps_ret pe_bl)) pss_nil)
      (pss_cons (ps_asg (pe_ifExp (pt_cmpR op_eq (pe_ix ix_tup (pv 0) pe_int (fun _ _ => rfl)) pe_str (nomark _)) (pe_tup (pa_cons (pv 0) (pa_cons (pv 1) pa_nil))) (pe_tup (pa_cons (pv 1) (pa_cons (pv 0) pa_nil)))) (pg_tup rfl (pgs_cons (pg_name (i := 2) scCommute.nd rfl (Or.inl rfl)) (pgs_cons (pg_name (i := 3) scCommute.nd rfl (Or.inl rfl)) pgs_nil))))
      (pss_one (ps_ret (pe_and (pe_cmpR op_eq (pe_ix ix_tup (pv 2) pe_int (fun _ _ => rfl)) (pe_ix ix_tup (pv 3) pe_int (fun _ _ => rfl)) (nomark _)) (pe_one (pe_cmpR op_le (pe_ix ix_tup (pv 2) pe_int (fun _ _ => rfl)) (pe_ix ix_tup (pv 3) pe_int (fun _ _ => rfl)) (nomark _)))))))), ?_⟩
    refine ⟨_, rfl, a, _, _, _, rfl, rfl, ha, atI_nat (j := 0) rfl, _, rfl, b, _, _, _, rfl, rfl, hb, atI_nat (j := 0) rfl, rfl, _, rfl, ?_⟩
    by_cases e0 : s.1 = o.1
    · refine iteD (vstr_kw.mpr e0) ?_
      have e1 : commute s o = true := if_pos e0
      have q' := q H (Same.refl H)
      rw [e1] at q'
      exact q'
    · refine iteDN (fun z => e0 (vstr_kw.mp z)) ?_
      refine ⟨_, rfl, a, _, _, _, rfl, rfl, ha, atI_nat (j := 0) rfl, rfl, _, rfl, ?_⟩
      by_cases e1 : s.1 = true
      · refine iteD (vstr_raise.mpr e1) ?_
        refine ⟨_, rfl, _, rfl, by show 2 ≤ sizeLine; decide, fun p np => ?_⟩
        have k := kp_new (o := .tup [.ref a, .ref b]) np
        have ha' := k.seqT ha
        have hb' := k.seqT hb
        refine ⟨p, _, rfl, SqT.of upd_same, rfl, .ref a, _, rfl, .ref b, _, rfl, rfl, ?_⟩
        have ec : commute s o = (decide (s.2.1 = o.2.1) && decide (s.2.2 ≤ o.2.2)) := by
          unfold commute
          rw [if_neg e0, if_pos e1]
        refine ⟨_, rfl, a, _, _, _, rfl, rfl, ha', atI_nat (j := 1) rfl, _, rfl, b, _, _, _, rfl, rfl, hb', atI_nat (j := 1) rfl, rfl, _, rfl, ?_⟩
        by_cases e2 : s.2.1 = o.2.1
        · refine iteD (by rw [e2]) ?_
          refine ⟨_, rfl, a, _, _, _, rfl, rfl, ha', atI_nat (j := 2) rfl, _, rfl, b, _, _, _, rfl, rfl, hb', atI_nat (j := 2) rfl, _, _, rfl, rfl, ?_⟩
          have q' := q _ (same_new (o := .tup [.ref a, .ref b]) np)
          rw [ec, decide_eq_true e2, Bool.true_and] at q'
          exact q'
        · refine iteDN (fun z => e2 (V.int.inj z)) ?_
          have q' := q _ (same_new (o := .tup [.ref a, .ref b]) np)
          rw [ec, decide_eq_false e2, Bool.false_and] at q'
          exact q'
      · refine iteDN (fun z => e1 (vstr_raise.mp z)) ?_
        refine ⟨_, rfl, _, rfl, by show 2 ≤ sizeLine; decide, fun p np => ?_⟩
        have k := kp_new (o := .tup [.ref b, .ref a]) np
        have ha' := k.seqT ha
        have hb' := k.seqT hb
        refine ⟨p, _, rfl, SqT.of upd_same, rfl, .ref b, _, rfl, .ref a, _, rfl, rfl, ?_⟩
        have ec : commute s o = (decide (o.2.1 = s.2.1) && decide (o.2.2 ≤ s.2.2)) := by
          unfold commute
          rw [if_neg e0, if_neg e1]
        refine ⟨_, rfl, b, _, _, _, rfl, rfl, hb', atI_nat (j := 1) rfl, _, rfl, a, _, _, _, rfl, rfl, ha', atI_nat (j := 1) rfl, rfl, _, rfl, ?_⟩
        by_cases e2 : o.2.1 = s.2.1
        · refine iteD (by rw [e2]) ?_
          refine ⟨_, rfl, b, _, _, _, rfl, rfl, hb', atI_nat (j := 2) rfl, _, rfl, a, _, _, _, rfl, rfl, ha', atI_nat (j := 2) rfl, _, _, rfl, rfl, ?_⟩
          have q' := q _ (same_new (o := .tup [.ref b, .ref a]) np)
          rw [ec, decide_eq_true e2, Bool.true_and] at q'
          exact q'
        · refine iteDN (fun z => e2 (V.int.inj z)) ?_
          have q' := q _ (same_new (o := .tup [.ref b, .ref a]) np)
          rw [ec, decide_eq_false e2, Bool.false_and] at q'
          exact q'
def spStronger (K : PySem.W.Frag) : Sp := fun vs H Q _ => ∃ (v u : V) (s o : Step), vs = [v, u] ∧ Dp K H v (encS s) ∧ Dp K H u (encS o) ∧ Q (.bl (stronger s o)) H
theorem scStronger : FnScope ["one", "other"] ["one", "other"] (defScope sStronger) := ⟨rfl, rfl, rfl, by decide +kernel, rfl, by decide +kernel, by decide +kernel⟩
theorem cal_stronger {f : Addr} {fd : FuncData} (F : Fun K "is_stronger" "is_stronger" sStronger f fd) (g : mg "is_stronger" = some (.ref f)) : Cal P w K mg base 1 "is_stronger" ["one", "other"] (spStronger K) := by
  refine ⟨f, fd, g, F.kp, F.binds fun _ _ _ _ _ _ us hl => match us, hl with | [_, _], _ => rfl, F.ok scStronger (fun vs H Q E h => ?_) (fun cdv A outer s H vs Q E hr h => ?_)⟩
  · obtain ⟨v, u, s, o, rfl, _⟩ := h
    rfl
  · obtain ⟨v, u, s, o, rfl, hv, hu, q⟩ := h
    obtain ⟨a, rfl, ha⟩ := dp_step hv
    obtain ⟨b, rfl, hb⟩ := dp_step hu
    refine ⟨_, (pss_one (ps_ret (pe_ifExp (pt_cmpR op_eq (pe_ix ix_tup (pv 0) pe_int (fun _ _ => rfl)) pe_str (nomark _)) (pe_cmpR op_gt (pe_ix ix_tup (pv 0) pe_int (fun _ _ => rfl)) (pe_ix ix_tup (pv 1) pe_int (fun _ _ => rfl)) (nomark _)) (pe_cmpR op_lt (pe_ix ix_tup (pv 0) pe_int (fun _ _ => rfl)) (pe_ix ix_tup (pv 1) pe_int (fun _ _ => rfl)) (nomark _))))), ?_⟩
    refine ⟨_, rfl, a, _, _, _, rfl, rfl, ha, atI_nat (j := 0) rfl, rfl, _, rfl, ?_⟩
    by_cases e1 : s.1 = true
    · refine iteD (vstr_raise.mpr e1) ?_
      refine ⟨_, rfl, a, _, _, _, rfl, rfl, ha, atI_nat (j := 2) rfl, _, rfl, b, _, _, _, rfl, rfl, hb, atI_nat (j := 2) rfl, _, _, rfl, rfl, ?_⟩
      have ec : stronger s o = decide (o.2.2 < s.2.2) := if_pos e1
      rw [ec] at q
      exact q
    · refine iteDN (fun z => e1 (vstr_raise.mp z)) ?_
      refine ⟨_, rfl, a, _, _, _, rfl, rfl, ha, atI_nat (j := 2) rfl, _, rfl, b, _, _, _, rfl, rfl, hb, atI_nat (j := 2) rfl, _, _, rfl, rfl, ?_⟩
      have ec : stronger s o = decide (s.2.2 < o.2.2) := if_neg e1
      rw [ec] at q
      exact q
end
end K46

/-! ## KF3 -/
/-! makes_idle. -/
namespace K46
open PySem PySem.Spec PyProof.Rows L2
section
variable {P : Program} {w : World} {K : PySem.W.Frag} {mg : Str → Option Value} {base : Heap}
theorem pi_or {X : Cx} {tg e : Expr} {wi wi' : TI} (a : PI X tg e wi) (b : PI X tg e wi') : PI X tg e (fun σ H R => wi σ H R ∨ wi' σ H R) :=
  ⟨fun pins s σ H R I h => h.elim (a.run pins s σ H R I) (b.run pins s σ H R I)⟩
theorem sq_of {H : Hp} {v : V} {S : List Step} (h : SqS K H v S) : ∃ a xs, v = .ref a ∧ (SqL K H a xs ∨ SqT K H a xs) ∧ DpAll K H xs (S.map encS) ∧ xs.length = S.length := by
  obtain ⟨a, xs, e, h1, h2⟩ := h
  exact ⟨a, xs, e, h1, h2, by rw [dpAll_len h2, List.length_map]⟩
/-- a sequence, asked at a place -/
theorem ix_sq {H : Hp} {a : Addr} {xs : List V} {i : Nat} {v : V} {Q : VK} (h : SqL K H a xs ∨ SqT K H a xs) (e : xs[i]? = some v) (q : Q v H) : rIx K (.ref a) (.int (i : Int)) H Q := by
  rcases h with h | h
  · exact .inl ⟨a, xs, _, v, rfl, rfl, h, atI_nat e, q⟩
  · exact .inr (.inl ⟨a, xs, _, v, rfl, rfl, h, atI_nat e, q⟩)
theorem cut_nat (xs : List V) {i b : Nat} (hi : i ≤ xs.length) (hb : b ≤ xs.length) : cutV xs (some (b : Int)) (some (i : Int)) = (xs.drop b).take (i - b) := by
  unfold cutV
  rw [HT.sIx_nat, HT.sIx_nat, Nat.min_eq_left hi, Nat.min_eq_left hb]
theorem two_shaped (s : Step) : SeqAt.shaped (.tuple [.str (kw s.1), .int s.2.1]) = true := by
  have h : ∀ b : Bool, PyData.strOk (kw b) = true := by decide +kernel
  simp [SeqAt.shaped, PyData.canLay0, PyData.canLayAll0, PyData.depth, PyData.depthAll, h]
theorem two_eqv (s o : Step) : PyData.eqv (.tuple [.str (kw s.1), .int s.2.1]) (.tuple [.str (kw o.1), .int o.2.1]) = alikeS s o := by
  obtain ⟨b, x, t⟩ := s
  obtain ⟨b', x', t'⟩ := o
  have h : ∀ b b' : Bool, ((kw b : Str) == kw b') = decide (b = b') := by
    intro b b'
    cases b <;> cases b' <;> decide +kernel
  simp only [PyData.eqv, PyData.eqvAll, alikeS, h, Bool.and_true]
  rfl
def spMakesIdle (K : PySem.W.Frag) : Sp := fun vs H Q _ => ∃ (v : V) (S : List Step) (i b : Nat), vs = [v, .int (i : Int), .int (b : Int)] ∧ SqS K H v S ∧ S.length ≤ 100 ∧ i < S.length ∧ b < S.length ∧ ∀ H', Same H H' → Q (.bl (mkIdle S i b)) H'
theorem scMakesIdle : FnScope ["steps", "index", "by", "step", "other", "between"] ["steps", "index", "by"] (defScope sMakesIdle) := ⟨rfl, rfl, rfl, by decide +kernel, rfl, by decide +kernel, by decide +kernel⟩
theorem cal_makesIdle {f : Addr} {fd : FuncData} (F : Fun K "makes_idle" "makes_idle" sMakesIdle f fd) (g : mg "makes_idle" = some (.ref f)) (T : Tx mg) (C1 : Cal P w K mg base 1 "is_stronger" ["one", "other"] (spStronger K)) (C2 : Cal P w K mg base 1 "do_commute" ["one", "other"] (spCommute K)) :
    Cal P w K mg base 2 "makes_idle" ["steps", "index", "by"] (spMakesIdle K) := by
  refine ⟨f, fd, g, F.kp, F.binds fun _ _ _ _ _ _ us hl => match us, hl with | [_, _, _], _ => rfl, F.ok scMakesIdle (fun vs H Q E h => ?_) (fun cdv A outer s H vs Q E hr h => ?_)⟩
  · obtain ⟨v, S, i, b, rfl, _⟩ := h
    rfl
  · obtain ⟨v, S, i, b, rfl, hS, hS100, hi, hb, q⟩ := h
    obtain ⟨a, xs, rfl, hq, hx, hlx⟩ := sq_of hS
    obtain ⟨st, est⟩ : ∃ st, S[i]? = some st := ⟨_, List.getElem?_eq_getElem hi⟩
    obtain ⟨ot, eot⟩ : ∃ ot, S[b]? = some ot := ⟨_, List.getElem?_eq_getElem hb⟩
    have em : mkIdle S i b = idleOf S i b st ot := by
      unfold mkIdle
      rw [est, eot]
    rw [em] at q
    obtain ⟨vi, evi, dvi⟩ := dpAll_at hx (show (S.map encS)[i]? = some (encS st) by rw [List.getElem?_map, est]; rfl)
    obtain ⟨vb, evb, dvb⟩ := dpAll_at hx (show (S.map encS)[b]? = some (encS ot) by rw [List.getElem?_map, eot]; rfl)
    refine ⟨_, (pss_cons (ps_asg (pe_tup (pa_cons (pe_ix ix_seq (pv 0) (pv 1) (fun _ _ => rfl)) (pa_cons (pe_ix ix_seq (pv 0) (pv 2) (fun _ _ => rfl)) pa_nil))) (pg_tup rfl (pgs_cons (pg_name (i := 3) scMakesIdle.nd rfl (Or.inr rfl)) (pgs_cons (pg_name (i := 4) scMakesIdle.nd rfl (Or.inl rfl)) pgs_nil))))
      (pss_cons (ps_if (PW.pt (pw_or (pt_cmpR op_eq (pv 1) (pv 2) (nomark _)) (pw_or1 (pt_cmpR (op_neD hr.units) (pe_slice sl_tupA (pv 3) po_none (po_some pe_int)) (pe_slice sl_tupA (pv 4) po_none (po_some pe_int)) (nomark _))))) (pss_one (ps_ret pe_bl)) pss_nil)
      (pss_cons (ps_if (pt_cmpR op_gt (pv 2) (pv 1) (nomark _)) (pss_one (ps_ret (pe_not (pe_cal C1 (hr.mono (by decide)) (by rfl) (pa_cons (pv 3) (pa_cons (pv 4) pa_nil)))))) pss_nil)
      (pss_one (ps_ret (pe_and (pe_cal C1 (hr.mono (by decide)) (by rfl) (pa_cons (pv 4) (pa_cons (pv 3) pa_nil))) (pe_one (pe_callB (cr_all rfl) (by rfl) T.all (by decide +kernel) (pa_cons (pe_lc (own := [("between", 5)]) (g := gName 5) (tt := tYes) rfl scMakesIdle.nd (pi_or (pi_list (pe_slice (SlR.or sl_list sl_tupA) (pv 0) (po_some (pe_op op_add (pv 2) pe_int)) (po_some (pv 1)))) (pi_tup (pe_slice (SlR.or sl_list sl_tupA) (pv 0) (po_some (pe_op op_add (pv 2) pe_int)) (po_some (pv 1))))) (blkOk_by (own := [("between", 5)]) (N := ["steps", "index", "by", "step", "other", "between"]) (sc := defScope sMakesIdle) (by decide +kernel)) (fun _ _ _ _ _ => (pg_name (i := 5) scMakesIdle.nd rfl (Or.inl rfl))) (fun _ _ _ _ _ => pts_nil) (fun _ _ _ _ _ => (pe_cal C2 (hr.mono (by decide)) (by rfl) (pa_cons (pv 3) (pa_cons (pv 5) pa_nil))))) pa_nil))))))))), ?_⟩
    refine ⟨_, rfl, _, rfl, ix_sq hq evi ⟨_, rfl, _, rfl, ix_sq hq evb ⟨by show 2 ≤ sizeLine; decide, fun p np => ?_⟩⟩⟩
    have s1 : Same H (upd H p (.tup [vi, vb])) := same_new np
    refine ⟨p, _, rfl, SqT.of upd_same, rfl, vi, _, rfl, vb, _, rfl, rfl, ?_⟩
    refine ⟨_, rfl, _, rfl, rfl, _, rfl, ?_⟩
    by_cases eib : i = b
    · refine iteD (by rw [eib]) ?_
      have q' := q _ s1
      have e1 : idleOf S i b st ot = false := if_pos eib
      rw [e1] at q'
      exact q'
    · refine iteDN (fun z => eib (by have := V.int.inj z; omega)) ?_
      obtain ⟨ai, rfl, hai⟩ := dp_step (Dp.kp (kp_same s1) _ _ dvi)
      obtain ⟨ab, rfl, hab⟩ := dp_step (Dp.kp (kp_same s1) _ _ dvb)
      refine ⟨_, rfl, 2, rfl, ai, _, rfl, hai, fun z => absurd z.2 (show ¬ ((2 : Nat) = 3) by decide), fun _ p2 np2 => ?_⟩
      have s2 := s1.trans (same_new (o := .tup [.str (kw st.1), .int st.2.1]) np2)
      have k2 := kp_new (o := .tup [.str (kw st.1), .int st.2.1]) np2
      refine ⟨_, rfl, 2, rfl, ab, _, rfl, k2.seqT hab, fun z => absurd z.2 (show ¬ ((2 : Nat) = 3) by decide), fun _ p3 np3 => ?_⟩
      have s3 := s2.trans (same_new (o := .tup [.str (kw ot.1), .int ot.2.1]) np3)
      have k3 := kp_new (o := .tup [.str (kw ot.1), .int ot.2.1]) np3
      refine ⟨.tuple [.str (kw st.1), .int st.2.1], .tuple [.str (kw ot.1), .int ot.2.1], .tup (k3.seqT (SqT.of upd_same)) (.cons (.str _) (.cons (.int _) .nil)), .tup (SqT.of upd_same) (.cons (.str _) (.cons (.int _) .nil)), two_shaped st, two_shaped ot, _, rfl, ?_⟩
      rw [two_eqv]
      by_cases eal : alikeS st ot = true
      · rw [eal]
        refine iteF ?_
        have e1 : idleOf S i b st ot = if i < b then !stronger st ot else stronger ot st && (mid S i b).all (commute st) := by
          unfold idleOf
          rw [if_neg eib, if_neg (by rw [eal]; exact Bool.noConfusion)]
        rw [e1] at q
        have d1 := Dp.kp (kp_same s3) _ _ dvi
        have d2 := Dp.kp (kp_same s3) _ _ dvb
        refine ⟨_, rfl, _, rfl, _, _, rfl, rfl, _, rfl, ?_⟩
        by_cases elt : i < b
        · refine iteD (by omega) ?_
          rw [if_pos elt] at q
          exact ⟨_, rfl, _, rfl, _, _, _, _, rfl, d1, d2, _, rfl, q _ s3⟩
        · refine iteDN (by omega) ?_
          rw [if_neg elt] at q
          refine ⟨_, rfl, _, rfl, _, _, _, _, rfl, d2, d1, _, rfl, ?_⟩
          refine iteB (fun est' => ?_) (fun est' => ?_)
          · rw [est'] at q
            simp only [Bool.true_and] at q
            have hbi : b < i := by omega
            have hlm : (mid S i b).length ≤ 100 := by
              unfold mid
              rw [List.length_take, List.length_drop]
              omega
            have turn : ∀ (ys : List V) (H4 H' : Hp) (D : Addr) (j : Nat) (x : V), Same H H4 → DpAll K H4 ys ((mid S i b).map encS) → H4 D = none → Same H4 H' → H' D = some (.lst ((((mid S i b).take j).map (commute st)).map V.bl)) → ys[j]? = some x →
                spCommute K [.ref ai, x] H' (fun y H5 => ∃ acc, H5 D = some (.lst acc) ∧ acc.length < sizeLine ∧ (Same H4 (upd H5 D (.lst (acc ++ [y]))) ∧ (upd H5 D (.lst (acc ++ [y]))) D = some (.lst ((((mid S i b).take (j + 1)).map (commute st)).map V.bl)))) E0 := by
              intro ys H4 H' D j x s4 dy nD z1 z2 hxj
              obtain ⟨o', ho', do'⟩ := dpAll_map_get dy hxj
              refine ⟨_, _, st, o', rfl, Dp.kp (kp_same (s4.trans z1)) _ _ dvi, Dp.kp (kp_same z1) _ _ do', fun H5 s5 => ?_⟩
              refine ⟨_, s5 _ _ z2, ?_, fun c o e => ?_, ?_⟩
              · rw [List.length_map, List.length_map, List.length_take]
                exact small1000 (by omega)
              · rw [upd_ne (ne_of_none e nD)]
                exact s5 _ _ (z1 _ _ e)
              · rw [upd_same, List.take_add_one, ho', List.map_append, List.map_append]
                rfl
            have done : ∀ (ys : List V) (H4 H' : Hp) (D : Addr), Same H H4 → DpAll K H4 ys ((mid S i b).map encS) → Same H4 H' → H' D = some (.lst ((((mid S i b).take ys.length).map (commute st)).map V.bl)) → rAll K [.ref D] H' Q := by
              intro ys H4 H' D s4 dy z1 z2
              have hly : ys.length = (mid S i b).length := by rw [dpAll_len dy, List.length_map]
              rw [hly, List.take_length] at z2
              refine ⟨D, _, rfl, .inl (.inl z2), ?_⟩
              have e9 : ((mid S i b).map (commute st)).all id = (mid S i b).all (commute st) := by
                rw [List.all_map]
                rfl
              rw [e9]
              exact q H' (s4.trans z1)
            have hcut : ∀ H4, Same H H4 → DpAll K H4 (cutV xs (some ((b : Int) + 1)) (some (i : Int))) ((mid S i b).map encS) := fun H4 s4 => by
              have e8 : ((b : Int) + 1) = ((b + 1 : Nat) : Int) := by omega
              rw [e8, cut_nat xs (by omega) (by omega)]
              unfold mid
              rw [List.map_take, List.map_drop]
              exact dpAll_take _ (dpAll_drop _ (DpAll.kp (kp_same s4) _ _ hx))
            rcases hq with hL | hT
            · refine .inl ⟨_, rfl, _, rfl, _, _, rfl, rfl, _, rfl, _, rfl, _, rfl, .inl ⟨a, xs, rfl, (kp_same s3).seqL hL, fun p4 np4 => ?_⟩⟩
              have s4 := s3.trans (same_new (o := .lst (cutV xs (some ((b : Int) + 1)) (some (i : Int)))) np4)
              refine ⟨p4, rfl, ⟨_, .inl (.inl upd_same)⟩, fun D nD => lc_it walk_list (fun j H' => Same _ H' ∧ H' D = some (.lst ((((mid S i b).take j).map (commute st)).map V.bl))) ⟨same_new nD, upd_same⟩ (fun j H' _ z => (kp_same z.1).seqL (SqL.of upd_same)) (fun j x H' H'' hj z y => ?_) (fun H' z => done _ _ H' D s4 (hcut _ s4) z.1 z.2)⟩
              obtain ⟨rfl, hxj⟩ := y
              exact ⟨rfl, _, rfl, x, rfl, turn _ _ _ D j x s4 (hcut _ s4) nD z.1 z.2 hxj⟩
            · refine .inr ⟨_, rfl, _, rfl, _, _, rfl, rfl, _, rfl, _, rfl, _, rfl, .inr ⟨a, xs, rfl, (kp_same s3).seqT hT, fun hw => ?_, fun _ p4 np4 => ?_⟩⟩
              · have ew : cutV xs (some ((b : Int) + 1)) (some (i : Int)) = xs := by
                  unfold cutV
                  rw [hw.1, hw.2, List.drop_zero, Nat.sub_zero, List.take_length]
                have hc3 := hcut _ s3
                rw [ew] at hc3
                refine ⟨a, rfl, ⟨_, (kp_same s3).seqT hT⟩, fun D nD => lc_it walk_tup (fun j H' => Same _ H' ∧ H' D = some (.lst ((((mid S i b).take j).map (commute st)).map V.bl))) ⟨same_new nD, upd_same⟩ (fun j H' _ z => (kp_same (s3.trans z.1)).seqT hT) (fun j x H' H'' hj z y => ?_) (fun H' z => done _ _ H' D s3 hc3 z.1 z.2)⟩
                obtain ⟨rfl, hxj⟩ := y
                exact ⟨rfl, _, rfl, x, rfl, turn _ _ _ D j x s3 hc3 nD z.1 z.2 hxj⟩
              · have s4 := s3.trans (same_new (o := .tup (cutV xs (some ((b : Int) + 1)) (some (i : Int)))) np4)
                refine ⟨p4, rfl, ⟨_, SqT.of upd_same⟩, fun D nD => lc_it walk_tup (fun j H' => Same _ H' ∧ H' D = some (.lst ((((mid S i b).take j).map (commute st)).map V.bl))) ⟨same_new nD, upd_same⟩ (fun j H' _ z => (kp_same z.1).seqT (SqT.of upd_same)) (fun j x H' H'' hj z y => ?_) (fun H' z => done _ _ H' D s4 (hcut _ s4) z.1 z.2)⟩
                obtain ⟨rfl, hxj⟩ := y
                exact ⟨rfl, _, rfl, x, rfl, turn _ _ _ D j x s4 (hcut _ s4) nD z.1 z.2 hxj⟩
          · rw [est'] at q
            exact q _ s3
      · have eal' : alikeS st ot = false := by simpa using eal
        rw [eal']
        refine iteT ?_
        have e1 : idleOf S i b st ot = false := by
          unfold idleOf
          rw [if_neg eib, if_pos eal']
        rw [e1] at q
        exact q _ s3
end
end K46

/-! ## KF4 -/
/-! why_idle, first_idle, idle_steps. -/
namespace K46
open PySem PySem.Spec PyProof.Rows L2
section
variable {P : Program} {w : World} {K : PySem.W.Frag} {mg : Str → Option Value} {base : Heap}
def optV : Option Nat → V
  | none => .non
  | some n => .int (n : Int)
def spWhyIdle (K : PySem.W.Frag) : Sp := fun vs H Q _ => ∃ (v : V) (S : List Step) (i : Nat), vs = [v, .int (i : Int)] ∧ SqS K H v S ∧ S.length ≤ 100 ∧ i < S.length ∧ ∀ H', Same H H' → Q (optV (whyIdle S i)) H'
theorem scWhyIdle : FnScope ["steps", "index", "by"] ["steps", "index"] (defScope sWhyIdle) := ⟨rfl, rfl, rfl, by decide +kernel, rfl, by decide +kernel, by decide +kernel⟩
theorem walk_upto {n : Nat} : Walk (Itr 0 n) n (fun _ => True) (YFn fun i => .int (i : Int)) := walk_range.mono (fun _ _ => trivial) fun i H x H' _ _ y => ⟨y.1, y.2.trans (congrArg V.int (Int.zero_add _))⟩
theorem cal_whyIdle {f : Addr} {fd : FuncData} (F : Fun K "why_idle" "why_idle" sWhyIdle f fd) (g : mg "why_idle" = some (.ref f)) (T : Tx mg) (C1 : Cal P w K mg base 2 "makes_idle" ["steps", "index", "by"] (spMakesIdle K)) :
    Cal P w K mg base 3 "why_idle" ["steps", "index"] (spWhyIdle K) := by
  refine ⟨f, fd, g, F.kp, F.binds fun _ _ _ _ _ _ us hl => match us, hl with | [_, _], _ => rfl, F.ok scWhyIdle (fun vs H Q E h => ?_) (fun cdv A outer s H vs Q E hr h => ?_)⟩
  · obtain ⟨v, S, i, rfl, _⟩ := h
    rfl
  · obtain ⟨v, S, i, rfl, hS, hl, hi, q⟩ := h
    obtain ⟨a, xs, rfl, hq, hx, hlx⟩ := sq_of hS
    refine ⟨_, (pss_cons (ps_for PassesOwn.never rfl (pi_range1 (by rfl) T.range (pa_cons (pe_callB call_len_seq (by rfl) T.len (by decide +kernel) (pa_cons (pv 0) pa_nil)) pa_nil)) (pg_name (i := 2) scWhyIdle.nd rfl (Or.inl rfl))
      (pss_one (ps_if (pt_val (pe_cal C1 (hr.mono (by decide)) (by rfl) (pa_cons (pv 0) (pa_cons (pv 1) (pa_cons (pv 2) pa_nil))))) (pss_one (ps_ret (pv 2))) pss_nil)))
      (pss_one (ps_ret pe_non))), ?_⟩
    refine ⟨_, rfl, a, xs, rfl, hq, _, rfl, by omega, by omega, for_it (n := xs.length) walk_upto (fun j σ H' => (∃ y, σ = [some (.ref a), some (.int (i : Int)), y]) ∧ Same H H' ∧ ∀ k, k < j → mkIdle S i k = false) ⟨⟨none, rfl⟩, Same.refl H, fun k hk => absurd hk (Nat.not_lt_zero _)⟩ (fun _ _ _ _ _ => trivial) ?_ ?_⟩
    · rintro j x σ H1 H2 hj ⟨⟨y, rfl⟩, s1, hm⟩ ⟨rfl, rfl⟩
      refine ⟨_, rfl, _, rfl, _, rfl, _, S, i, j, rfl, SqS.kp (kp_same s1) hS, hl, hi, by omega, fun H3 s3 => ⟨_, rfl, iteB (fun e => ?_) (fun e => ?_)⟩⟩
      · refine ⟨_, rfl, ?_⟩
        have e1 : whyIdle S i = some j := find_range (by omega) hm e
        have q' := q H3 (s1.trans s3)
        rw [e1] at q'
        exact q'
      · refine ⟨⟨_, rfl⟩, s1.trans s3, fun k hk => ?_⟩
        by_cases ek : k = j
        · rw [ek]
          exact e
        · exact hm k (by omega)
    · rintro σ H1 ⟨⟨y, rfl⟩, s1, hm⟩
      have e1 : whyIdle S i = none := find_none fun j hj => hm j (by omega)
      have q' := q H1 s1
      rw [e1] at q'
      exact q'
def spFirstIdle (K : PySem.W.Frag) : Sp := fun vs H Q _ => ∃ (v : V) (S : List Step), vs = [v] ∧ SqS K H v S ∧ S.length ≤ 100 ∧ (firstIdle S = none → ∀ H', Same H H' → Q .non H') ∧ ∀ p, firstIdle S = some p → ∀ H' u, Same H H' → Dp K H' u (encP p) → Q u H'
theorem scFirstIdle : FnScope ["steps", "index", "by"] ["steps"] (defScope sFirstIdle) := ⟨rfl, rfl, rfl, by decide +kernel, rfl, by decide +kernel, by decide +kernel⟩
theorem cal_firstIdle {f : Addr} {fd : FuncData} (F : Fun K "first_idle" "first_idle" sFirstIdle f fd) (g : mg "first_idle" = some (.ref f)) (T : Tx mg) (C1 : Cal P w K mg base 3 "why_idle" ["steps", "index"] (spWhyIdle K)) :
    Cal P w K mg base 4 "first_idle" ["steps"] (spFirstIdle K) := by
  refine ⟨f, fd, g, F.kp, F.binds fun _ _ _ _ _ _ us hl => match us, hl with | [_], _ => rfl, F.ok scFirstIdle (fun vs H Q E h => ?_) (fun cdv A outer s H vs Q E hr h => ?_)⟩
  · obtain ⟨v, S, rfl, _⟩ := h
    rfl
  · obtain ⟨v, S, rfl, hS, hl, q1, q2⟩ := h
    obtain ⟨a, xs, rfl, hq, hx, hlx⟩ := sq_of hS
    refine ⟨_, (pss_cons (ps_for PassesOwn.never rfl (pi_range1 (by rfl) T.range (pa_cons (pe_callB call_len_seq (by rfl) T.len (by decide +kernel) (pa_cons (pv 0) pa_nil)) pa_nil)) (pg_name (i := 1) scFirstIdle.nd rfl (Or.inl rfl))
      (pss_cons (ps_set (i := 2) scFirstIdle.nd rfl (Or.inl rfl) (pe_cal C1 (hr.mono (by decide)) (by rfl) (pa_cons (pv 0) (pa_cons (pv 1) pa_nil))))
      (pss_one (ps_if (pt_cmpR op_notN (pv 2) pe_non (nomark _)) (pss_one (ps_ret (pe_tup (pa_cons (pv 1) (pa_cons (pv 2) pa_nil))))) pss_nil))))
      (pss_one (ps_ret pe_non))), ?_⟩
    refine ⟨_, rfl, a, xs, rfl, hq, _, rfl, by omega, by omega, for_it (n := xs.length) walk_upto (fun j σ H' => (∃ y z, σ = [some (.ref a), y, z]) ∧ Same H H' ∧ ∀ k, k < j → whyIdle S k = none) ⟨⟨none, none, rfl⟩, Same.refl H, fun k hk => absurd hk (Nat.not_lt_zero _)⟩ (fun _ _ _ _ _ => trivial) ?_ ?_⟩
    · rintro j x σ H1 H2 hj ⟨⟨y, z, rfl⟩, s1, hm⟩ ⟨rfl, rfl⟩
      refine ⟨_, rfl, _, rfl, _, S, j, rfl, SqS.kp (kp_same s1) hS, hl, by omega, fun H3 s3 => ⟨_, rfl, rfl, _, rfl, ?_⟩⟩
      cases e : whyIdle S j with
      | none =>
        refine iteF ⟨⟨_, _, rfl⟩, s1.trans s3, fun k hk => ?_⟩
        by_cases ek : k = j
        · rw [ek]
          exact e
        · exact hm k (by omega)
      | some b =>
        refine iteT ⟨_, rfl, _, rfl, by show 2 ≤ sizeLine; decide, fun p np => ?_⟩
        have e1 : firstIdle S = some (j, b) := findSome_range (i := j) (by omega) (fun k hk => by rw [hm k hk]; rfl) (by rw [e]; rfl)
        exact q2 _ e1 _ _ ((s1.trans s3).trans (same_new np)) (dp_pair_of (p := (j, b)) (SqT.of upd_same))
    · rintro σ H1 ⟨⟨y, z, rfl⟩, s1, hm⟩
      have e1 : firstIdle S = none := findSome_none fun j hj => by
        rw [hm j (by omega)]
        rfl
      exact q1 e1 H1 s1
def spIdleSteps (K : PySem.W.Frag) : Sp := fun vs H Q _ => ∃ (v : V) (S : List Step), vs = [v] ∧ Dp K H v (.tuple (S.map encS)) ∧ S.length ≤ 16 ∧ (∀ s ∈ S, okS s) ∧ ∀ H' u, Same H H' → Dp K H' u (.tuple ((idleSteps S).map encN)) → Q u H'
theorem scIdleSteps : FnScope ["steps", "index"] ["steps"] (defScope sIdleSteps) := ⟨rfl, rfl, rfl, by decide +kernel, rfl, by decide +kernel, by decide +kernel⟩
theorem dp_ns {H : Hp} : ∀ l : List Nat, DpAll K H (l.map fun (n : Nat) => V.int (n : Int)) (l.map encN)
  | [] => .nil
  | n :: r => .cons (.int _) (dp_ns r)
theorem optV_non (o : Option Nat) : (!decide (optV o = V.non)) = o.isSome := by
  cases o with
  | none => rfl
  | some n => rfl
theorem cal_idleSteps {f : Addr} {fd : FuncData} (F : Fun K "idle_steps" "idle_steps" sIdleSteps f fd) (g : mg "idle_steps" = some (.ref f)) (T : Tx mg) (C1 : Cal P w K mg base 3 "why_idle" ["steps", "index"] (spWhyIdle K)) (C2 : Cal P w K mg base 5 "check_steps" ["steps"] (spAreSteps K .non)) :
    Cal P w K mg base 6 "idle_steps" ["steps"] (spIdleSteps K) := by
  refine ⟨f, fd, g, F.kp, F.binds fun _ _ _ _ _ _ us hl => match us, hl with | [_], _ => rfl, F.ok scIdleSteps (fun vs H Q E h => ?_) (fun cdv A outer s H vs Q E hr h => ?_)⟩
  · obtain ⟨v, S, rfl, _⟩ := h
    rfl
  · obtain ⟨v, S, rfl, hd, hl, ho, q⟩ := h
    have hS := SqS.tup hd
    obtain ⟨a, xs, rfl, hq, hx, hlx⟩ := sq_of hS
    refine ⟨_, (pss_cons (ps_expr (pe_cal C2 (hr.mono (by decide)) (by rfl) (pa_cons (pv 0) pa_nil)))
      (pss_one (ps_ret (pe_callTy call_tuple_of (by rfl) T.tuple (by decide +kernel) (pa_cons (pe_lc (own := [("index", 1)]) (g := gName 1) rfl scIdleSteps.nd (pi_range1 (by rfl) T.range (pa_cons (pe_callB call_len_seq (by rfl) T.len (by decide +kernel) (pa_cons (pv 0) pa_nil)) pa_nil)) (blkOk_by (own := [("index", 1)]) (N := ["steps", "index"]) (sc := defScope sIdleSteps) (by decide +kernel)) (fun _ _ _ _ _ => (pg_name (i := 1) scIdleSteps.nd rfl (Or.inl rfl))) (fun _ _ _ _ _ => pts_one (pt_cmpR op_notN (pe_cal C1 (hr.mono (by decide)) (by rfl) (pa_cons (pv 0) (pa_cons (pv 1) pa_nil))) pe_non (nomark _))) (fun _ _ _ _ _ => (pv 1))) pa_nil))))), ?_⟩
    refine ⟨_, rfl, _, S, rfl, hd, hl, ho, fun H1 s1 => ?_⟩
    have hS1 := SqS.kp (kp_same s1) hS
    refine ⟨_, rfl, a, xs, rfl, hq.elim (fun z => .inl ((kp_same s1).seqL z)) (fun z => .inr ((kp_same s1).seqT z)), _, rfl, by omega, by omega, fun D nD => lc_it (n := xs.length) walk_upto (fun j H' => Same H1 H' ∧ H' D = some (.lst (((List.range j).filter fun i => (whyIdle S i).isSome).map fun (n : Nat) => V.int (n : Int)))) ⟨same_new nD, upd_same⟩ (fun _ _ _ _ => trivial) ?_ ?_⟩
    · rintro j x H2 H3 hj ⟨s2, e2⟩ ⟨rfl, rfl⟩
      refine ⟨rfl, _, rfl, _, rfl, _, S, j, rfl, SqS.kp (kp_same s2) hS1, by omega, by omega, fun H4 s4 => ⟨rfl, _, rfl, ?_⟩⟩
      rw [optV_non]
      have er : (List.range (j + 1)).filter (fun i => (whyIdle S i).isSome) = (List.range j).filter (fun i => (whyIdle S i).isSome) ++ (if (whyIdle S j).isSome = true then [j] else []) := by
        rw [List.range_succ, List.filter_append]
        congr 1
        by_cases h : (whyIdle S j).isSome = true
        · rw [if_pos h, List.filter_cons_of_pos (p := fun i => (whyIdle S i).isSome) h]
          rfl
        · rw [if_neg h, List.filter_cons_of_neg (p := fun i => (whyIdle S i).isSome) h]
          rfl
      refine iteB (fun e => ?_) (fun e => ?_)
      · refine ⟨_, rfl, _, s4 _ _ e2, ?_, fun c o z => ?_, ?_⟩
        · rw [List.length_map]
          exact small1000 (Nat.le_trans (List.length_filter_le ..) (by rw [List.length_range]; omega))
        · rw [upd_ne (ne_of_none z nD)]
          exact s4 _ _ (s2 _ _ z)
        · rw [upd_same, er, if_pos e, List.map_append]
          rfl
      · refine ⟨s2.trans s4, ?_⟩
        rw [er, if_neg (by rw [e]; exact Bool.false_ne_true), List.append_nil]
        exact s4 _ _ e2
    · rintro H2 ⟨s2, e2⟩
      refine ⟨D, _, rfl, .inl ⟨.inl (.inl e2), fun l nl => ?_⟩⟩
      have e3 : idleSteps S = (List.range xs.length).filter fun i => (whyIdle S i).isSome := by
        rw [hlx]
        rfl
      refine q _ _ ((s1.trans s2).trans (same_new nl)) (.tup (SqT.of upd_same) ?_)
      rw [e3]
      exact dp_ns _
end
end K46

/-! ## KF5 -/
/-! reduction_of, remaining_of, remaining, reduction. -/
namespace K46
open PySem PySem.Spec PyProof.Rows L2
section
variable {P : Program} {w : World} {K : PySem.W.Frag} {mg : Str → Option Value} {base : Heap}
def intV (n : Nat) : V := .int (n : Int)
theorem erase_map {α β : Type} (f : α → β) : ∀ (l : List α) (i : Nat), (l.map f).eraseIdx i = (l.eraseIdx i).map f
  | [], _ => rfl
  | a :: r, 0 => rfl
  | a :: r, i + 1 => congrArg (f a :: ·) (erase_map f r i)
theorem seq_ix {i n : Nat} (h : i < n) : seqIndex? (i : Int) n = some i := by
  have e : ixN n (i : Int) = some i := by
    unfold ixN
    rw [if_pos (by omega), if_pos (by omega)]
    rfl
  exact (ixN_seq e).1
theorem rgV_upto (n : Nat) : rgV 0 (n : Int) = (List.range n).map intV := by
  unfold rgV
  have e : ((n : Int) - 0).toNat = n := by omega
  rw [e]
  apply List.map_congr_left
  intro i _
  exact congrArg V.int (Int.zero_add _)
theorem getD_of {l : List Nat} {i : Nat} (h : i < l.length) : (l.map intV)[i]? = some (intV (l.getD i 0)) := by
  rw [List.getElem?_map, List.getElem?_eq_getElem h, List.getD_eq_getElem?_getD, List.getElem?_eq_getElem h]
  rfl
theorem dp_nat {H : Hp} : ∀ l : List Nat, DpAll K H (l.map intV) (l.map encN)
  | [] => .nil
  | n :: r => .cons (.int _) (dp_nat r)
def redD (r : List (Nat × Nat) × List Nat) : PyData := .tuple [.tuple (r.1.map encP), .list (r.2.map encN)]
/-- between two turns of reduction_of's while -/
def RedW (K : PySem.W.Frag) (S : List Step) (H : Hp) (a l fo : Addr) (m : Nat) (σ : L2.St) (H' : Hp) : Prop :=
  ∃ (left : List Nat) (found : List (Nat × Nat)) (fs : List V) (y : Option V), σ = [some (.ref a), some (.ref l), some (.ref fo), y, none] ∧ Same H H' ∧ H' l = some (.lst (left.map intV)) ∧ H' fo = some (.lst fs) ∧ DpAll K H' fs (found.map encP) ∧
    (∀ x ∈ left, x < S.length) ∧ m = left.length ∧ left.length + found.length ≤ 100 ∧ redFuel S left.length left found = red S
def spReductionOf (K : PySem.W.Frag) : Sp := fun vs H Q _ => ∃ (v : V) (S : List Step), vs = [v] ∧ SqS K H v S ∧ S.length ≤ 100 ∧ ∀ H' u, Same H H' → Dp K H' u (redD (red S)) → Q u H'
theorem scReductionOf : FnScope ["steps", "left", "found", "pair", "at"] ["steps"] (defScope sReductionOf) := ⟨rfl, rfl, rfl, by decide +kernel, rfl, by decide +kernel, by decide +kernel⟩
theorem cal_reductionOf {f : Addr} {fd : FuncData} (F : Fun K "reduction_of" "reduction_of" sReductionOf f fd) (g : mg "reduction_of" = some (.ref f)) (T : Tx mg) (C1 : Cal P w K mg base 4 "first_idle" ["steps"] (spFirstIdle K)) :
    Cal P w K mg base 5 "reduction_of" ["steps"] (spReductionOf K) := by
  refine ⟨f, fd, g, F.kp, F.binds fun _ _ _ _ _ _ us hl => match us, hl with | [_], _ => rfl, F.ok scReductionOf (fun vs H Q E h => ?_) (fun cdv A outer s H vs Q E hr h => ?_)⟩
  · obtain ⟨v, S, rfl, _⟩ := h
    rfl
  · obtain ⟨v, S, rfl, hS, hl, q⟩ := h
    obtain ⟨a, xs, rfl, hq, hx, hlx⟩ := sq_of hS
    refine ⟨_, (pss_cons (ps_set (i := 1) scReductionOf.nd rfl (Or.inl rfl) (pe_listRg rfl (by rfl) T.list (prg_1 (by rfl) T.range (pe_callB call_len_seq (by rfl) T.len (by decide +kernel) (pa_cons (pv 0) pa_nil)))))
      (pss_cons (ps_set (i := 2) scReductionOf.nd rfl (Or.inl rfl) (pe_lst pa_nil))
      (pss_one (ps_while PassesOwn.never (pt_val pe_bl)
      (pss_cons (ps_set (i := 3) scReductionOf.nd rfl (Or.inl rfl) (pe_cal C1 (hr.mono (by decide)) (by rfl) (pa_cons (pe_lc (own := [("at", 4)]) (g := gName 4) (tt := tYes) rfl scReductionOf.nd (pi_list (pv 1)) (blkOk_by (own := [("at", 4)]) (N := ["steps", "left", "found", "pair", "at"]) (sc := defScope sReductionOf) (by decide +kernel)) (fun _ _ _ _ _ => (pg_name (i := 4) scReductionOf.nd rfl (Or.inl rfl))) (fun _ _ _ _ _ => pts_nil) (fun _ _ _ _ _ => (pe_ix (r := rIx K) ix_seq (pv 0) (pv 4) (fun _ _ => rfl)))) pa_nil)))
      (pss_cons (ps_if (pt_cmpR op_isN (pv 3) pe_non (nomark _)) (pss_one (ps_ret (pe_tup (pa_cons (pe_callTy call_tuple_of (by rfl) T.tuple (by decide +kernel) (pa_cons (pv 2) pa_nil)) (pa_cons (pv 1) pa_nil))))) pss_nil)
      (pss_cons (ps_expr (pe_bm PySem.F.plainAttrs_list PySem.F.slot_list_append PySem.F.type_list_append mt_append (pv 2) (pa_cons (pe_tup (pa_cons (pe_ix ix_list (pv 1) (pe_ix ix_tup (pv 3) pe_int (fun _ _ => rfl)) (fun _ _ => rfl)) (pa_cons (pe_ix ix_list (pv 1) (pe_ix ix_tup (pv 3) pe_int (fun _ _ => rfl)) (fun _ _ => rfl)) pa_nil))) pa_nil)))
      (pss_one (ps_expr (pe_bm PySem.F.plainAttrs_list PySem.F.slot_list_pop PySem.F.type_list_pop mt_popAt (pv 1) (pa_cons (pe_ix ix_tup (pv 3) pe_int (fun _ _ => rfl)) pa_nil))))))))))), ?_⟩
    refine ⟨_, rfl, a, xs, rfl, hq, _, rfl, RgOk.of_le (by omega) (by omega) (by omega) (by omega), fun l nl => ?_⟩
    rw [rgV_upto]
    have s1 : Same H (upd H l (.lst ((List.range xs.length).map intV))) := same_new nl
    refine ⟨Nat.zero_le _, fun fo nfo => ?_⟩
    have s2 := s1.trans (same_new (o := .lst []) nfo)
    have nlf : l ≠ fo := ne_of_none upd_same nfo
    have nl0 : ∀ b o, H b = some o → b ≠ l := fun b o e => ne_of_none e nl
    have nf0 : ∀ b o, H b = some o → b ≠ fo := fun b o e => ne_of_none (s1 _ _ e) nfo
    refine ⟨RedW K S H a l fo, ⟨(List.range xs.length).length, List.range xs.length, [], [], none, rfl, s2, by rw [upd_ne nlf, upd_same], upd_same, .nil, fun x h => by rw [← hlx]; simpa using h, rfl, by simp; omega, by rw [List.length_range, hlx]; rfl⟩, ?_⟩
    rintro m σ H1 ⟨left, found, fs, y, rfl, t1, el, ef, dfs, hlt, rfl, hlen, hred⟩
    refine ⟨true, rfl, iteT ⟨fun σ' H' => ∃ m', m' < left.length ∧ RedW K S H a l fo m' σ' H', fun _ _ h => h, ?_⟩⟩
    have hsl : (sub S left).length = left.length := sub_length hlt
    -- pair = first_idle([steps[at] for at in left])
    refine ⟨_, rfl, l, rfl, ⟨_, .inl (.inl el)⟩, fun D nD => lc_it walk_list (fun j H2 => Same H1 H2 ∧ ∃ zs, H2 D = some (.lst zs) ∧ DpAll K H2 zs ((sub S (left.take j)).map encS)) ⟨same_new nD, [], upd_same, .nil⟩ (fun j H2 _ z => .inl (.inl (z.1 _ _ el))) ?_ ?_⟩
    · rintro j x H2 H3 hj ⟨t2, zs, ez, dz⟩ ⟨rfl, hxj⟩
      rw [List.length_map] at hj
      have ex : x = intV left[j] := by
        rw [List.getElem?_map, List.getElem?_eq_getElem hj] at hxj
        exact (Option.some.inj hxj).symm
      subst ex
      have hin : left[j] < S.length := hlt _ (List.getElem_mem hj)
      obtain ⟨v, ev, dv⟩ := dpAll_at hx (show (S.map encS)[left[j]]? = some (encS S[left[j]]) by rw [List.getElem?_map, List.getElem?_eq_getElem hin]; rfl)
      have hq2 : SqL K H3 a xs ∨ SqT K H3 a xs := hq.elim (fun z => .inl ((kp_same (t1.trans t2)).seqL z)) (fun z => .inr ((kp_same (t1.trans t2)).seqT z))
      have hzl : zs.length ≤ 100 := by
        have e := dpAll_len dz
        rw [List.length_map, sub_length fun x hx => hlt x (List.mem_of_mem_take hx), List.length_take] at e
        omega
      refine ⟨rfl, _, rfl, _, rfl, ix_sq hq2 ev ⟨zs, ez, small1000 (by omega), fun c o e => ?_, _, upd_same, ?_⟩⟩
      · rw [upd_ne (ne_of_none e nD)]
        exact t2 _ _ e
      · have et : sub S (left.take (j + 1)) = sub S (left.take j) ++ [S[left[j]]] := by
          rw [List.take_add_one, List.getElem?_eq_getElem hj]
          exact sub_snoc (List.getElem?_eq_getElem hin)
        rw [et, List.map_append]
        have k3 : Kt H3 (upd H3 D (.lst (zs ++ [v]))) := kt_lst ez
        exact dpAll_snoc (dpS_kt k3 dz) (Dp.kt k3 _ _ (noL_S _) (Dp.kp (kp_same (t1.trans t2)) _ _ dv))
    · rintro H2 ⟨t2, zs, ez, dz⟩
      rw [List.length_map, List.take_length] at dz
      refine ⟨_, sub S left, rfl, ⟨D, zs, rfl, .inl (.inl (.inl ez)), dz⟩, by omega, fun ep H3 t3 => ?_, fun p ep H3 u t3 du => ?_⟩
      · -- none: return (tuple(found), left)
        have t13 := t2.trans t3
        refine ⟨_, rfl, rfl, _, rfl, iteD rfl ?_⟩
        refine ⟨_, rfl, fo, fs, rfl, .inl ⟨.inl (.inl (t13 _ _ ef)), fun t nt => ⟨_, rfl, by show 2 ≤ sizeLine; decide, fun r nr => ?_⟩⟩⟩
        have t4 : Same H3 (upd H3 t (.tup fs)) := same_new nt
        have t5 := t4.trans (same_new (o := .tup [.ref t, .ref l]) nr)
        have er : red S = (found, left) := by rw [← hred, redFuel_none ep]
        refine q _ _ ((t1.trans t13).trans t5) ?_
        rw [er]
        exact .tup (SqT.of upd_same) (.cons (.tup ((kp_new (o := .tup [.ref t, .ref l]) nr).seqT (SqT.of upd_same)) (DpAll.kp (kp_same (t13.trans t5)) _ _ dfs))
          (.cons (.lst (.inl (.inl ((t13.trans t5) _ _ el))) (dp_nat left)) .nil))
      · -- some p
        have t13 := t2.trans t3
        obtain ⟨t, rfl, hT⟩ := dp_pair du
        obtain ⟨p1, p2⟩ := firstIdle_lt ep
        rw [hsl] at p1 p2
        have el3 := t13 _ _ el
        have ef3 := t13 _ _ ef
        refine ⟨_, rfl, rfl, _, rfl, iteDN (fun z => by cases z) ?_⟩
        refine ⟨_, rfl, .inl ⟨rfl, _, .inl (.inl ef3)⟩, ?_⟩
        refine ⟨_, rfl, _, rfl, t, _, _, _, rfl, rfl, hT, atI_nat (j := 0) rfl, l, _, _, _, rfl, rfl, .inl (.inl el3), atI_nat (getD_of p1), ?_⟩
        refine ⟨_, rfl, _, rfl, t, _, _, _, rfl, rfl, hT, atI_nat (j := 1) rfl, l, _, _, _, rfl, rfl, .inl (.inl el3), atI_nat (getD_of p2), by show 2 ≤ sizeLine; decide, fun r nr => ?_⟩
        have t4 : Same H3 (upd H3 r (.tup [intV (left.getD p.1 0), intV (left.getD p.2 0)])) := same_new nr
        have hfl : fs.length = found.length := by rw [dpAll_len dfs, List.length_map]
        refine ⟨fo, fs, _, rfl, rfl, t4 _ _ ef3, small1000 (by omega), ?_⟩
        have kt5 : Kt (upd H3 r (.tup [intV (left.getD p.1 0), intV (left.getD p.2 0)])) (upd (upd H3 r (.tup [intV (left.getD p.1 0), intV (left.getD p.2 0)])) fo (.lst (fs ++ [.ref r]))) := kt_lst (t4 _ _ ef3)
        have el5 : (upd (upd H3 r (.tup [intV (left.getD p.1 0), intV (left.getD p.2 0)])) fo (.lst (fs ++ [.ref r]))) l = some (.lst (left.map intV)) := by
          rw [upd_ne nlf]
          exact t4 _ _ el3
        refine ⟨_, rfl, .inl ⟨rfl, _, .inl (.inl el5)⟩, _, rfl, t, _, _, _, rfl, rfl, (Kt.trans (kp_same t4).kt kt5).seq hT, atI_nat (j := 0) rfl, ?_⟩
        refine ⟨l, _, _, p.1, _, rfl, rfl, el5, by omega, by omega, seq_ix (by rw [List.length_map]; exact p1), getD_of p1, ?_⟩
        have kt6 := Kt.trans kt5 (kt_lst (o := .lst ((left.map intV).eraseIdx p.1)) el5)
        refine ⟨(left.eraseIdx p.1).length, by rw [List.length_eraseIdx]; split <;> omega, left.eraseIdx p.1, found ++ [(left.getD p.1 0, left.getD p.2 0)], fs ++ [.ref r], _, rfl, fun b o e => ?_, by rw [upd_same, erase_map], by rw [upd_ne (Ne.symm nlf), upd_same], ?_, fun x hx => hlt x (List.mem_of_mem_eraseIdx hx), rfl, ?_, ?_⟩
        · rw [upd_ne (nl0 b o e), upd_ne (nf0 b o e)]
          exact t4 _ _ (t13 _ _ (t1 _ _ e))
        · rw [List.map_append]
          refine dpAll_snoc (dpP_kt kt6 (dpP_kt (kp_same t4).kt (dpP_kt (kp_same t13).kt dfs))) ?_
          exact Dp.kt kt6 _ _ (noL_P _) (dp_pair_of (p := (left.getD p.1 0, left.getD p.2 0)) (SqT.of upd_same))
        · rw [List.length_append, List.length_eraseIdx, if_pos p1]
          show left.length - 1 + (found.length + 1) ≤ 100
          omega
        · rw [← hred]
          have en : left.length = (left.eraseIdx p.1).length + 1 := by
            rw [List.length_eraseIdx, if_pos p1]
            omega
          rw [en, redFuel_some ep]
end
end K46

/-! ## KF6 -/
/-! remaining_of, remaining, reduction. -/
namespace K46
open PySem PySem.Spec PyProof.Rows L2
theorem redFuel_left {S : List Step} : ∀ (n : Nat) (left : List Nat) (found : List (Nat × Nat)), (∀ x ∈ left, x < S.length) → (∀ x ∈ (redFuel S n left found).2, x < S.length) ∧ (redFuel S n left found).2.length ≤ left.length
  | 0, left, found, h => ⟨h, Nat.le_refl _⟩
  | n + 1, left, found, h => by
    cases e : firstIdle (sub S left) with
    | none =>
      rw [redFuel_none e]
      exact ⟨h, Nat.le_refl _⟩
    | some p =>
      rw [redFuel_some e]
      obtain ⟨h1, h2⟩ := redFuel_left n (left.eraseIdx p.1) (found ++ [(left.getD p.1 0, left.getD p.2 0)]) fun x hx => h x (List.mem_of_mem_eraseIdx hx)
      refine ⟨h1, Nat.le_trans h2 ?_⟩
      rw [List.length_eraseIdx]
      split <;> omega
theorem red_left (S : List Step) : (∀ x ∈ (red S).2, x < S.length) ∧ (red S).2.length ≤ S.length := by
  have h := redFuel_left (S := S) S.length (List.range S.length) [] fun x hx => by simpa using hx
  rw [List.length_range] at h
  exact h
section
variable {P : Program} {w : World} {K : PySem.W.Frag} {mg : Str → Option Value} {base : Heap}
theorem dp_red {H : Hp} {u : V} {r : List (Nat × Nat) × List Nat} (h : Dp K H u (redD r)) : ∃ t x y, u = .ref t ∧ SqT K H t [x, y] ∧ Dp K H x (.tuple (r.1.map encP)) ∧ Dp K H y (.list (r.2.map encN)) := by
  obtain ⟨t, xs, e, h1, h2⟩ := dp_tup h
  cases h2 with
  | cons x1 h2 =>
    cases h2 with
    | cons x2 h2 =>
      cases h2
      exact ⟨t, _, _, e, h1, x1, x2⟩
theorem dp_nats {H : Hp} : ∀ {ns : List Nat} {ys : List V}, DpAll K H ys (ns.map encN) → ys = ns.map intV
  | [], _, h => by
    have h' : DpAll K H _ [] := h
    cases h'
    rfl
  | n :: r, _, h => by
    have h' : DpAll K H _ (encN n :: r.map encN) := h
    cases h' with
    | cons h1 h2 =>
      have h1' : Dp K H _ (.int (n : Int)) := h1
      cases h1'
      rw [dp_nats h2]
      rfl
def spRemainingOf (K : PySem.W.Frag) : Sp := fun vs H Q _ => ∃ (v : V) (S : List Step), vs = [v] ∧ SqS K H v S ∧ S.length ≤ 100 ∧ ∀ H' u, Same H H' → Dp K H' u (.tuple ((sub S (red S).2).map encS)) → Q u H'
theorem scRemainingOf : FnScope ["steps", "at"] ["steps"] (defScope sRemainingOf) := ⟨rfl, rfl, rfl, by decide +kernel, rfl, by decide +kernel, by decide +kernel⟩
theorem cal_remainingOf {f : Addr} {fd : FuncData} (F : Fun K "remaining_of" "remaining_of" sRemainingOf f fd) (g : mg "remaining_of" = some (.ref f)) (T : Tx mg) (C1 : Cal P w K mg base 5 "reduction_of" ["steps"] (spReductionOf K)) :
    Cal P w K mg base 6 "remaining_of" ["steps"] (spRemainingOf K) := by
  refine ⟨f, fd, g, F.kp, F.binds fun _ _ _ _ _ _ us hl => match us, hl with | [_], _ => rfl, F.ok scRemainingOf (fun vs H Q E h => ?_) (fun cdv A outer s H vs Q E hr h => ?_)⟩
  · obtain ⟨v, S, rfl, _⟩ := h
    rfl
  · obtain ⟨v, S, rfl, hS, hl, q⟩ := h
    obtain ⟨a, xs, rfl, hq, hx, hlx⟩ := sq_of hS
    obtain ⟨hlt, hll⟩ := red_left S
    refine ⟨_, (pss_one (ps_ret (pe_callTy call_tuple_of (by rfl) T.tuple (by decide +kernel) (pa_cons (pe_lc (own := [("at", 1)]) (g := gName 1) (tt := tYes) rfl scRemainingOf.nd (pi_list (pe_ix ix_tup (pe_cal C1 (hr.mono (by decide)) (by rfl) (pa_cons (pv 0) pa_nil)) pe_int (fun _ _ => rfl))) (blkOk_by (own := [("at", 1)]) (N := ["steps", "at"]) (sc := defScope sRemainingOf) (by decide +kernel)) (fun _ _ _ _ _ => (pg_name (i := 1) scRemainingOf.nd rfl (Or.inl rfl))) (fun _ _ _ _ _ => pts_nil) (fun _ _ _ _ _ => (pe_ix (r := rIx K) ix_seq (pv 0) (pv 1) (fun _ _ => rfl)))) pa_nil)))), ?_⟩
    refine ⟨_, rfl, _, S, rfl, hS, hl, fun H1 u s1 du => ?_⟩
    obtain ⟨t, x, y, rfl, hT, _, dy⟩ := dp_red du
    obtain ⟨l, ys, rfl, hL, dys⟩ := dp_lst dy
    have eys := dp_nats dys
    subst eys
    refine ⟨t, _, _, _, rfl, rfl, hT, atI_nat (j := 1) rfl, l, rfl, ⟨_, hL⟩, fun D nD => lc_it walk_list (fun j H2 => Same H1 H2 ∧ ∃ zs, H2 D = some (.lst zs) ∧ DpAll K H2 zs ((sub S ((red S).2.take j)).map encS)) ⟨same_new nD, [], upd_same, .nil⟩ (fun j H2 _ z => (kp_same z.1).seqL hL) ?_ ?_⟩
    · rintro j x H2 H3 hj ⟨t2, zs, ez, dz⟩ ⟨rfl, hxj⟩
      rw [List.length_map] at hj
      have ex : x = intV (red S).2[j] := by
        rw [List.getElem?_map, List.getElem?_eq_getElem hj] at hxj
        exact (Option.some.inj hxj).symm
      subst ex
      have hin : (red S).2[j] < S.length := hlt _ (List.getElem_mem hj)
      obtain ⟨v, ev, dv⟩ := dpAll_at hx (show (S.map encS)[(red S).2[j]]? = some (encS S[(red S).2[j]]) by rw [List.getElem?_map, List.getElem?_eq_getElem hin]; rfl)
      have hq2 : SqL K H3 a xs ∨ SqT K H3 a xs := hq.elim (fun z => .inl ((kp_same (s1.trans t2)).seqL z)) (fun z => .inr ((kp_same (s1.trans t2)).seqT z))
      have hzl : zs.length ≤ 100 := by
        have e := dpAll_len dz
        rw [List.length_map, sub_length fun x hx => hlt x (List.mem_of_mem_take hx), List.length_take] at e
        omega
      refine ⟨rfl, _, rfl, _, rfl, ix_sq hq2 ev ⟨zs, ez, small1000 (by omega), fun c o e => ?_, _, upd_same, ?_⟩⟩
      · rw [upd_ne (ne_of_none e nD)]
        exact t2 _ _ e
      · have et : sub S ((red S).2.take (j + 1)) = sub S ((red S).2.take j) ++ [S[(red S).2[j]]] := by
          rw [List.take_add_one, List.getElem?_eq_getElem hj]
          exact sub_snoc (List.getElem?_eq_getElem hin)
        rw [et, List.map_append]
        have k3 : Kt H3 (upd H3 D (.lst (zs ++ [v]))) := kt_lst ez
        exact dpAll_snoc (dpS_kt k3 dz) (Dp.kt k3 _ _ (noL_S _) (Dp.kp (kp_same (s1.trans t2)) _ _ dv))
    · rintro H2 ⟨t2, zs, ez, dz⟩
      rw [List.length_map, List.take_length] at dz
      refine ⟨D, zs, rfl, .inl ⟨.inl (.inl ez), fun r nr => ?_⟩⟩
      exact q _ _ ((s1.trans t2).trans (same_new nr)) (.tup (SqT.of upd_same) (dpS_kt (kp_new nr).kt dz))
def spRemaining (K : PySem.W.Frag) : Sp := fun vs H Q _ => ∃ (v : V) (S : List Step), vs = [v] ∧ Dp K H v (.tuple (S.map encS)) ∧ S.length ≤ 16 ∧ (∀ s ∈ S, okS s) ∧ ∀ H' u, Same H H' → Dp K H' u (.tuple ((sub S (red S).2).map encS)) → Q u H'
theorem scRemaining : FnScope ["steps"] ["steps"] (defScope sRemaining) := ⟨rfl, rfl, rfl, by decide +kernel, rfl, by decide +kernel, by decide +kernel⟩
theorem cal_remaining {f : Addr} {fd : FuncData} (F : Fun K "remaining" "remaining" sRemaining f fd) (g : mg "remaining" = some (.ref f)) (T : Tx mg) (C1 : Cal P w K mg base 6 "remaining_of" ["steps"] (spRemainingOf K)) (C2 : Cal P w K mg base 5 "check_steps" ["steps"] (spAreSteps K .non)) :
    Cal P w K mg base 7 "remaining" ["steps"] (spRemaining K) := by
  refine ⟨f, fd, g, F.kp, F.binds fun _ _ _ _ _ _ us hl => match us, hl with | [_], _ => rfl, F.ok scRemaining (fun vs H Q E h => ?_) (fun cdv A outer s H vs Q E hr h => ?_)⟩
  · obtain ⟨v, S, rfl, _⟩ := h
    rfl
  · obtain ⟨v, S, rfl, hd, hl, ho, q⟩ := h
    refine ⟨_, (pss_cons (ps_expr (pe_cal C2 (hr.mono (by decide)) (by rfl) (pa_cons (pv 0) pa_nil)))
      (pss_one (ps_ret (pe_cal C1 (hr.mono (by decide)) (by rfl) (pa_cons (pv 0) pa_nil))))), ?_⟩
    refine ⟨_, rfl, _, S, rfl, hd, hl, ho, fun H1 s1 => ⟨_, rfl, _, S, rfl, SqS.tup (Dp.kp (kp_same s1) _ _ hd), by omega, fun H2 u s2 du => q _ _ (s1.trans s2) du⟩⟩
def spReduction (K : PySem.W.Frag) : Sp := fun vs H Q _ => ∃ (v : V) (S : List Step), vs = [v] ∧ Dp K H v (.tuple (S.map encS)) ∧ S.length ≤ 16 ∧ (∀ s ∈ S, okS s) ∧ ∀ H' u, Same H H' → Dp K H' u (.tuple ((red S).1.map encP)) → Q u H'
theorem scReduction : FnScope ["steps"] ["steps"] (defScope sReduction) := ⟨rfl, rfl, rfl, by decide +kernel, rfl, by decide +kernel, by decide +kernel⟩
theorem cal_reduction {f : Addr} {fd : FuncData} (F : Fun K "reduction" "reduction" sReduction f fd) (g : mg "reduction" = some (.ref f)) (T : Tx mg) (C1 : Cal P w K mg base 5 "reduction_of" ["steps"] (spReductionOf K)) (C2 : Cal P w K mg base 5 "check_steps" ["steps"] (spAreSteps K .non)) :
    Cal P w K mg base 6 "reduction" ["steps"] (spReduction K) := by
  refine ⟨f, fd, g, F.kp, F.binds fun _ _ _ _ _ _ us hl => match us, hl with | [_], _ => rfl, F.ok scReduction (fun vs H Q E h => ?_) (fun cdv A outer s H vs Q E hr h => ?_)⟩
  · obtain ⟨v, S, rfl, _⟩ := h
    rfl
  · obtain ⟨v, S, rfl, hd, hl, ho, q⟩ := h
    refine ⟨_, (pss_cons (ps_expr (pe_cal C2 (hr.mono (by decide)) (by rfl) (pa_cons (pv 0) pa_nil)))
      (pss_one (ps_ret (pe_ix ix_tup (pe_cal C1 (hr.mono (by decide)) (by rfl) (pa_cons (pv 0) pa_nil)) pe_int (fun _ _ => rfl))))), ?_⟩
    refine ⟨_, rfl, _, S, rfl, hd, hl, ho, fun H1 s1 => ⟨_, rfl, _, S, rfl, SqS.tup (Dp.kp (kp_same s1) _ _ hd), by omega, fun H2 u s2 du => ?_⟩⟩
    obtain ⟨t, x, y, rfl, hT, dx, _⟩ := dp_red du
    exact ⟨t, _, _, _, rfl, rfl, hT, atI_nat (j := 0) rfl, q _ _ (s1.trans s2) dx⟩
end
end K46

/-! ## KF7 -/
/-! layers_in, layers. -/
namespace K46
open PySem PySem.Spec PyProof.Rows L2
open LamX (Tabs ExtN TabB)
inductive LayP : List (List Step) → List (List Step) → Prop
  | nil : LayP [] []
  | cons {a b : List Step} {A B : List (List Step)} : a.Perm b → LayP A B → LayP (a :: A) (b :: B)
theorem LayP.snoc {A B : List (List Step)} {a b : List Step} (h : LayP A B) (p : a.Perm b) : LayP (A ++ [a]) (B ++ [b]) := by
  induction h with
  | nil => exact .cons p .nil
  | cons q _ ih => exact .cons q ih
theorem LayP.rows {α : Type} {f : List Step → α} (hf : ∀ a b : List Step, a.Perm b → f a = f b) {A B : List (List Step)} (h : LayP A B) : A.map f = B.map f := by
  induction h with
  | nil => rfl
  | cons q _ ih => rw [List.map_cons, List.map_cons, hf _ _ q, ih]
theorem LayP.length {A B : List (List Step)} (h : LayP A B) : A.length = B.length := by
  induction h with
  | nil => rfl
  | cons q _ ih => rw [List.length_cons, List.length_cons, ih]
theorem ahead_succ (S : List Step) (lv : List Int) (n m : Nat) : ahead S lv n (m + 1) = ahead S lv n m ++ (aheadAt S lv n m).toList := by
  unfold ahead
  rw [List.range_succ, List.filterMap_append]
  congr 1
theorem ahead_length (S : List Step) (lv : List Int) (n m : Nat) : (ahead S lv n m).length ≤ m := by
  unfold ahead
  refine Nat.le_trans (List.length_filterMap_le ..) ?_
  rw [List.length_range]
  exact Nat.le_refl m
theorem aheadAt_of {S : List Step} {lv : List Int} {n k : Nat} {a b : Step} {l : Int} (ha : S[k]? = some a) (hb : S[n]? = some b) (hl : lv[k]? = some l) : aheadAt S lv n k = if commute a b = true then none else some l := by
  unfold aheadAt
  rw [ha, hb]
  show (if commute a b = true then none else lv[k]?) = _
  rw [hl]
def layK (S : List Step) (l : Int) (k : Nat) : List Step := (((S.zip (levels S)).take k).filter fun p => decide (p.2 = l)).map (·.1)
theorem layK_succ {S : List Step} {l : Int} {k : Nat} {s : Step} {m : Int} (hs : S[k]? = some s) (hm : (levels S)[k]? = some m) : layK S l (k + 1) = layK S l k ++ (if m = l then [s] else []) := by
  have e : (S.zip (levels S))[k]? = some (s, m) := by
    rw [List.getElem?_zip_eq_some]
    exact ⟨hs, hm⟩
  unfold layK
  rw [List.take_add_one, e, List.filter_append, List.map_append]
  congr 1
  by_cases h : m = l
  · rw [if_pos h]
    show (List.filter (fun p => decide (p.2 = l)) [(s, m)]).map (·.1) = [s]
    rw [List.filter_cons_of_pos (p := fun p : Step × Int => decide (p.2 = l)) (decide_eq_true h)]
    rfl
  · rw [if_neg h]
    show (List.filter (fun p => decide (p.2 = l)) [(s, m)]).map (·.1) = []
    rw [List.filter_cons_of_neg (p := fun p : Step × Int => decide (p.2 = l)) (by simpa using h)]
    rfl
theorem layK_full (S : List Step) (l : Int) : layK S l S.length = layer S l := by
  unfold layK layer
  rw [List.take_of_length_le]
  rw [List.length_zip]
  omega
theorem layK_length (S : List Step) (l : Int) (k : Nat) : (layK S l k).length ≤ k := by
  unfold layK
  rw [List.length_map]
  refine Nat.le_trans (List.length_filter_le ..) ?_
  rw [List.length_take]
  omega
def encLay (l : List Step) : PyData := .tuple (l.map encS)
theorem noL_lay (l : List Step) : noL (encLay l) = true := noLs_map noL_S l
theorem tabs_lst {T : List (Addr × Str)} {H : Hp} {fo : Addr} {fs ys : List V} (t : Tabs T H) (e : H fo = some (.lst fs)) : Tabs T (upd H fo (.lst ys)) := fun p hp => by
  obtain ⟨ps, h1, h2, h3⟩ := t p hp
  have n1 : p.1 ≠ fo := fun z => by
    rw [z, e] at h1
    cases h1
  refine ⟨ps, (upd_ne n1).trans h1, h2, fun pos cv hc => ?_⟩
  obtain ⟨c, e1, e2⟩ := h3 pos cv hc
  have n2 : c ≠ fo := fun z => by
    rw [z, e] at e2
    cases e2
  exact ⟨c, e1, (upd_ne n2).trans e2⟩
def Tb (P : Addr) : List (Addr × Str) := [(P, ("layers_in" ++ ".<locals>." : Str) ++ "<lambda>")]
section
variable {P : Program} {w : World} {K : PySem.W.Frag} {mg : Str → Option Value} {base : Heap}
structure FunC (K : PySem.W.Frag) (x qual : Str) (st : Stmt) (c f : Addr) (fd : FuncData) : Prop where
  ex : ∃ (oc : Value) (od : Option Addr) (kV doc pm : Value) (an : Option Addr) (ct : Value) (osl : Array (Option Value)),
    fd = PySem.W.fnOf x qual (defArgs st) (defBody st) (defScope st) .none kV doc pm an (.ref c) ct ∧ K.lookup f = some ⟨oc, od, .func fd, osl⟩ ∧ PySem.W.codeIn K (.ref c) qual = true
  kp : PySem.W.keepIn K (.ref f) = true
theorem FunC.toFun {x qual : Str} {st : Stmt} {c f : Addr} {fd : FuncData} (F : FunC K x qual st c f fd) : Fun K x qual st f fd := by
  obtain ⟨oc, od, kV, doc, pm, an, ct, osl, h1, h2, h3⟩ := F.ex
  exact ⟨⟨oc, od, kV, doc, pm, an, .ref c, ct, osl, h1, h2, h3⟩, F.kp⟩
theorem FunC.ok {x qual : Str} {st : Stmt} {c f : Addr} {fd : FuncData} {N ps : List Str} {k : Nat} {sp : Sp} (F : FunC K x qual st c f fd) (S : FnScope N ps (defScope st)) (len : ∀ vs H Q E, sp vs H Q E → vs.length = ps.length)
    (hbody : ∀ (A : Around) (outer : List Env) (s : Shared) (H : Hp) (vs : List V) (Q : VK) (E : XK), Room k (A.deeper (envOfC qual (defScope st) s.heap.objs.size f (.ref c))) → sp vs H Q E →
      ∃ t, PSs (cxOf CX0 P w K mg base N qual (defScope st) f (.ref c) A outer s H E).nox (defBody st) t ∧ t { nx := fun _ H' => Q .non H', rt := Q } (start N vs) H) : FnOk P w K mg base CX0 (k + 1) f fd ps sp := by
  obtain ⟨oc, od, kV, doc, pm, an, ct, osl, rfl, lk, hcd⟩ := F.ex
  refine fn_of lk hcd S len fun A outer s H vs Q E hr hsp => ?_
  obtain ⟨t, h, q⟩ := hbody A outer s H vs Q E hr hsp
  exact ⟨t, h.nox, q⟩
def spLayersIn (K : PySem.W.Frag) (Pt : Addr) : Sp := fun vs H Q _ => ∃ (v : V) (S : List Step), vs = [v] ∧ Dp K H v (.tuple (S.map encS)) ∧ S.length ≤ 16 ∧ Tabs (Tb Pt) H ∧
  ∀ H' u M, ExtN H H' → Tabs (Tb Pt) H' → LayP M (layersOf S) → Dp K H' u (.tuple (M.map encLay)) → Q u H'
theorem scLayersIn : FnScope ["steps", "levels", "at", "step", "ahead", "found", "level", "layer", "k", "own"] ["steps"] (defScope sLayersIn) := ⟨rfl, rfl, rfl, by decide +kernel, rfl, by decide +kernel, by decide +kernel⟩
theorem cal_layersIn {Pt c f : Addr} {fd : FuncData} (F : FunC K "layers_in" "layers_in" sLayersIn c f fd) (g : mg "layers_in" = some (.ref f)) (TB : TabB base mg c Pt) (T : Tx mg) (C1 : Cal P w K mg base 1 "do_commute" ["one", "other"] (spCommute K)) :
    Cal P w K mg base 3 "layers_in" ["steps"] (spLayersIn K Pt) := by
  refine ⟨f, fd, g, F.kp, F.toFun.binds fun _ _ _ _ _ _ us hl => match us, hl with | [_], _ => rfl, F.ok scLayersIn (fun vs H Q E h => ?_) (fun A outer s H vs Q E hr h => ?_)⟩
  · obtain ⟨v, S, rfl, _⟩ := h
    rfl
  · obtain ⟨v, S, rfl, hd, hl, hTb, q⟩ := h
    obtain ⟨a, xs, rfl, hT, hx⟩ := dp_tup hd
    have hlx : xs.length = S.length := by rw [dpAll_len hx, List.length_map]
    have hm : (Pt, ("layers_in" ++ ".<locals>." : Str) ++ "<lambda>") ∈ Tb Pt := List.mem_cons_self ..
    have hu : ∀ p ∈ Tb Pt, p.1 = Pt → p.2 = ("layers_in" ++ ".<locals>." : Str) ++ "<lambda>" := fun p hp _ => by
      have e : p = (Pt, ("layers_in" ++ ".<locals>." : Str) ++ "<lambda>") := by simpa [Tb] using hp
      rw [e]
    refine ⟨_, (pss_cons (ps_set (i := 1) scLayersIn.nd rfl (Or.inr rfl) (pe_lst pa_nil))
      (pss_cons (ps_for PassesOwn.never rfl (pi_enumT (by rfl) T.enumerate (pa_cons (pv 0) pa_nil)) (pg_tup rfl (pgs_cons (pg_name (i := 2) scLayersIn.nd rfl (Or.inl rfl)) (pgs_cons (pg_name (i := 3) scLayersIn.nd rfl (Or.inr rfl)) pgs_nil)))
      (pss_cons (ps_setLc (i := 4) (own := [("k", 8)]) (g := gName 8) rfl scLayersIn.nd rfl rfl (sw_true rfl rfl rfl (by decide +kernel)) (pi_range1 (by rfl) T.range (pa_cons (pv 2) pa_nil)) (blkOk_by (own := [("k", 8)]) (N := ["steps", "levels", "at", "step", "ahead", "found", "level", "layer", "k", "own"]) (sc := defScope sLayersIn) (by decide +kernel)) (fun _ _ _ _ _ => (pg_name (i := 8) scLayersIn.nd rfl (Or.inl rfl))) (fun _ _ _ _ _ => pts_one (pt_not (pt_val (pe_cal C1 (hr.mono (by decide)) (by rfl) (pa_cons (pe_ix (r := rIxT K) ix_tup (pv 0) (pv 8) (fun _ _ => rfl)) (pa_cons (pv 3) pa_nil)))))) (fun _ _ _ _ _ => (pe_ix (r := rIxL K) ix_list (pv 1) (pv 8) (fun _ _ => rfl))))
      (pss_one (ps_expr (pe_bm PySem.F.plainAttrs_list PySem.F.slot_list_append PySem.F.type_list_append mt_append (pv 1) (pa_cons (pe_op op_add (pe_callB (cr_max rfl) (by rfl) T.max (by decide +kernel) (pa_cons (pe_op op_cat (pe_lst (pa_cons (pe_un un_neg pe_int) pa_nil)) (pv 4)) pa_nil)) pe_int) pa_nil))))))
      (pss_cons (ps_set (i := 5) scLayersIn.nd rfl (Or.inl rfl) (pe_lst pa_nil))
      (pss_cons (ps_for PassesOwn.never rfl (pi_range1 (by rfl) T.range (pa_cons (pe_op op_add (pe_callB (cr_max rfl) (by rfl) T.max (by decide +kernel) (pa_cons (pe_op op_cat (pe_lst (pa_cons (pe_un un_neg pe_int) pa_nil)) (pv 1)) pa_nil)) pe_int) pa_nil)) (pg_name (i := 6) scLayersIn.nd rfl (Or.inr rfl))
      (pss_cons (ps_setLc (i := 7) (own := [("step", 3), ("own", 9)]) (g := gTup K 2 (gCons (gName 3) (gCons (gName 9) gNil))) rfl scLayersIn.nd rfl rfl (sw_true rfl rfl rfl (by decide +kernel)) (pi_zipM (by rfl) T.zip (pa_cons (pv 0) (pa_cons (pv 1) pa_nil))) (blkOk_by (own := [("step", 3), ("own", 9)]) (N := ["steps", "levels", "at", "step", "ahead", "found", "level", "layer", "k", "own"]) (sc := defScope sLayersIn) (by decide +kernel)) (fun _ _ _ _ _ => (pg_tup rfl (pgs_cons (pg_name (i := 3) scLayersIn.nd rfl (Or.inl rfl)) (pgs_cons (pg_name (i := 9) scLayersIn.nd rfl (Or.inl rfl)) pgs_nil)))) (fun _ _ _ _ _ => pts_one (pt_cmpR op_eq (pv 9) (pv 6) (nomark _))) (fun _ _ _ _ _ => (pv 3)))
      (pss_one (ps_expr (pe_bm PySem.F.plainAttrs_list PySem.F.slot_list_append PySem.F.type_list_append mt_append (pv 5) (pa_cons (pe_callTy call_tuple_of (by rfl) T.tuple (by decide +kernel) (pa_cons (pe_callBK (cr_sortedKeySt hr) (by rfl) T.sorted (by decide +kernel) (pa_cons (pv 7) pa_nil) (pk_cons (pe_lamo TB rfl hm hu rfl (by decide +kernel)) pk_nil)) pa_nil)) pa_nil))))))
      (pss_one (ps_ret (pe_callTy call_tuple_of (by rfl) T.tuple (by decide +kernel) (pa_cons (pv 5) pa_nil)))))))), ?_⟩
    refine ⟨Nat.zero_le _, fun lv nlv => ?_⟩
    have s0 : Same H (upd H lv (.lst [])) := same_new nlv
    refine ⟨_, rfl, a, xs, rfl, (kp_same s0).seqT hT, ?_⟩
    refine for_it walk_enumT (fun j σ H' => (∃ y2 y3 y4, σ = [some (.ref a), some (.ref lv), y2, y3, y4, none, none, none, none, none]) ∧ Same H H' ∧ H' lv = some (.lst ((levelsTo S j).map V.int))) ⟨⟨none, none, none, rfl⟩, s0, upd_same⟩ (fun j σ H' _ z => (kp_same z.2.1).seqT hT) ?_ ?_
    · rintro j x σ H1 H2 hj ⟨⟨y2, y3, y4, rfl⟩, s1, elv⟩ ⟨T1, x1, x2, rfl, nT1, rfl, e1, e2⟩
      have e1' : V.int ((j : Nat) : Int) = x1 := Option.some.inj e1
      subst e1'
      have hjS : j < S.length := by omega
      have eSj : S[j]? = some S[j] := List.getElem?_eq_getElem hjS
      have dj : Dp K H x2 (encS S[j]) := dpAll_get hx e2 (by rw [List.getElem?_map, eSj]; rfl)
      have s2 : Same H (upd H1 T1 (.tup [.int ((j : Nat) : Int), x2])) := s1.trans (same_new nT1)
      have elv2 : (upd H1 T1 (.tup [.int ((j : Nat) : Int), x2])) lv = some (.lst ((levelsTo S j).map V.int)) := same_new nT1 _ _ elv
      refine ⟨T1, _, rfl, SqT.of upd_same, rfl, _, _, rfl, _, _, rfl, rfl, ?_⟩
      refine ⟨_, rfl, _, rfl, by omega, by omega, fun D nD => lc_it (n := j) walk_upto (fun k H3 => Same H H3 ∧ H3 lv = some (.lst ((levelsTo S j).map V.int)) ∧ H3 D = some (.lst ((ahead S (levelsTo S j) j k).map V.int))) ⟨s2.trans (same_new nD), same_new nD _ _ elv2, upd_same⟩ (fun _ _ _ _ => trivial) ?_ ?_⟩
      · rintro k x H3 H4 hk ⟨s3, el3, eD⟩ ⟨rfl, rfl⟩
        have hkS : k < S.length := by omega
        have eSk : S[k]? = some S[k] := List.getElem?_eq_getElem hkS
        obtain ⟨v, ev, dv⟩ := dpAll_at hx (show (S.map encS)[k]? = some (encS S[k]) by rw [List.getElem?_map, eSk]; rfl)
        have hkl : k < (levelsTo S j).length := by rw [levelsTo_length]; exact hk
        have elk : (levelsTo S j)[k]? = some (levelsTo S j)[k] := List.getElem?_eq_getElem hkl
        have hal := ahead_length S (levelsTo S j) j k
        refine ⟨rfl, _, rfl, _, rfl, a, _, _, _, rfl, rfl, (kp_same s3).seqT hT, atI_nat ev, _, rfl, v, x2, S[k], S[j], rfl, Dp.kp (kp_same s3) _ _ dv, Dp.kp (kp_same s3) _ _ dj, fun H5 s5 => ⟨_, rfl, ?_⟩⟩
        have ea := aheadAt_of eSk eSj elk
        refine iteB (fun e => ?_) (fun e => ?_)
        · have ec : commute S[k] S[j] = false := by simpa using e
          rw [ec, if_neg Bool.false_ne_true] at ea
          refine ⟨_, rfl, _, rfl, lv, _, _, _, rfl, rfl, .inl (.inl (s5 _ _ el3)), atI_nat (show ((levelsTo S j).map V.int)[k]? = some (.int (levelsTo S j)[k]) by rw [List.getElem?_map, elk]; rfl), _, s5 _ _ eD, ?_, fun c o z => ?_, ?_, ?_⟩
          · rw [List.length_map]
            exact small1000 (by omega)
          · rw [upd_ne (ne_of_none (same_new nT1 _ _ (s1 _ _ z)) nD)]
            exact s5 _ _ (s3 _ _ z)
          · rw [upd_ne (ne_of_none elv2 nD)]
            exact s5 _ _ el3
          · rw [upd_same, ahead_succ, ea, List.map_append]
            rfl
        · have ec : commute S[k] S[j] = true := by simpa using e
          rw [ec, if_pos rfl] at ea
          refine ⟨s3.trans s5, s5 _ _ el3, ?_⟩
          rw [ahead_succ, ea]
          show H5 D = some (.lst ((ahead S (levelsTo S j) j k ++ []).map V.int))
          rw [List.append_nil]
          exact s5 _ _ eD
      · rintro H3 ⟨s3, el3, eD⟩
        have hal := ahead_length S (levelsTo S j) j j
        have hll := levelsTo_length S j
        refine ⟨_, rfl, .inl ⟨rfl, _, .inl (.inl el3)⟩, ?_⟩
        refine ⟨_, rfl, by show 1 ≤ sizeLine; decide, fun p np => ⟨_, rfl, p, D, _, _, rfl, rfl, upd_same, same_new np _ _ eD, ?_, fun r nr => ?_⟩⟩
        · rw [List.length_map]
          exact Nat.le_of_lt (small1000 (show 1 + _ ≤ 1000 by omega))
        · refine ⟨r, [-1] ++ ahead S (levelsTo S j) j j, rfl, .inl (.inl upd_same), List.length_pos_iff.mpr (by simp), fun m m1 m2 => ?_⟩
          have em := maxL_is m1 m2
          subst em
          refine ⟨_, _, rfl, rfl, ?_⟩
          have s4 : Same H3 _ := same_new (o := .lst [V.int (-1)]) np
          have s5 := s4.trans (same_new (o := .lst ([V.int (-1)] ++ (ahead S (levelsTo S j) j j).map V.int)) nr)
          refine ⟨lv, _, _, rfl, rfl, s5 _ _ el3, ?_, ⟨_, _, _, rfl⟩, fun b o z => ?_, ?_⟩
          · rw [List.length_map, hll]
            exact small1000 (by omega)
          · rw [upd_ne (ne_of_none z nlv)]
            exact s5 _ _ (s3 _ _ z)
          · rw [upd_same]
            show _ = some (HO.lst ((levelsTo S j ++ [maxL (ahead S (levelsTo S j) j j) + 1]).map V.int))
            rw [List.map_append]
            rfl
    · rintro σ H1 ⟨⟨y2, y3, y4, rfl⟩, s1, elv⟩
      rw [hlx] at elv
      have elv' : H1 lv = some (.lst ((levels S).map V.int)) := elv
      have hll := levels_length S
      refine ⟨Nat.zero_le _, fun fo nfo => ?_⟩
      have s2 := s1.trans (same_new (o := .lst []) nfo)
      have el2 := same_new (o := .lst []) nfo _ _ elv'
      refine ⟨_, rfl, by show 1 ≤ sizeLine; decide, fun p np => ⟨_, rfl, p, lv, _, _, rfl, rfl, upd_same, same_new np _ _ el2, ?_, fun r nr => ?_⟩⟩
      · rw [List.length_map]
        exact Nat.le_of_lt (small1000 (show 1 + _ ≤ 1000 by omega))
      refine ⟨r, [-1] ++ levels S, rfl, .inl (.inl upd_same), List.length_pos_iff.mpr (by simp), fun m m1 m2 => ?_⟩
      have em := maxL_is m1 m2
      subst em
      have b1 := maxL_ge (levels S)
      have b2 := nLayers_le S
      have s4 : Same (upd H1 fo (.lst [])) _ := same_new (o := .lst [V.int (-1)]) np
      have s5 := s4.trans (same_new (o := .lst ([V.int (-1)] ++ (levels S).map V.int)) nr)
      have s6 := s2.trans s5
      refine ⟨_, _, rfl, rfl, _, rfl, by omega, by omega, ?_⟩
      refine for_it (n := nLayers S) walk_upto (fun i σ H' => (∃ y2 y3 y4 y6 y7, σ = [some (.ref a), some (.ref lv), y2, y3, y4, some (.ref fo), y6, y7, none, none]) ∧ ExtN H H' ∧ Tabs (Tb Pt) H' ∧ H' lv = some (.lst ((levels S).map V.int)) ∧ ∃ fs M, H' fo = some (.lst fs) ∧ DpAll K H' fs (M.map encLay) ∧ LayP M ((List.range i).map fun (i : Nat) => layer S (i : Int)))
        ⟨⟨_, _, _, _, _, rfl⟩, ExtN.of s6, hTb.ext s6, s5 _ _ el2, [], [], s5 _ _ upd_same, .nil, .nil⟩ (fun _ _ _ _ _ => trivial) ?_ ?_
      · rintro i x σ H2 H3 hi ⟨⟨y2, y3, y4, y6, y7, rfl⟩, x2, t2, el3, fs, M, ef, dfs, hM⟩ ⟨rfl, rfl⟩
        have hT3 := (kp_ext x2).seqT hT
        have hLl : SqL K H3 lv ((levels S).map V.int) := .inl (.inl el3)
        have hzl : xs.length = ((levels S).map V.int).length := by rw [List.length_map, hll, hlx]
        refine ⟨_, rfl, _, rfl, a, lv, _, _, rfl, hT3, hLl, hzl, fun D nD => lc_it (walk_zipM hzl) (fun k H4 => Same H3 H4 ∧ ∃ zs, H4 D = some (.lst zs) ∧ DpAll K H4 zs ((layK S (i : Int) k).map encS)) ⟨same_new nD, [], upd_same, ?_⟩ (fun k H4 _ z => ⟨(kp_same z.1).seqT hT3, (kp_same z.1).seqL hLl⟩) ?_ ?_⟩
        · have e0 : layK S (i : Int) 0 = [] := by
            unfold layK
            rw [List.take_zero]
            rfl
          rw [e0]
          exact .nil
        · rintro k x H4 H5 hk ⟨s4, zs, ez, dz⟩ ⟨T1, x1, xl, rfl, nT1, rfl, e1, e2⟩
          have hkS : k < S.length := by omega
          have eSk : S[k]? = some S[k] := List.getElem?_eq_getElem hkS
          have dk : Dp K H x1 (encS S[k]) := dpAll_get hx e1 (by rw [List.getElem?_map, eSk]; rfl)
          have hkl : k < (levels S).length := by omega
          have elk : (levels S)[k]? = some (levels S)[k] := List.getElem?_eq_getElem hkl
          have exl : xl = V.int (levels S)[k] := by
            have e3 : ((levels S).map V.int)[k]? = some xl := e2
            rw [List.getElem?_map, elk] at e3
            exact (Option.some.inj e3).symm
          subst exl
          have s5 : Same H4 (upd H4 T1 (.tup [x1, .int (levels S)[k]])) := same_new nT1
          have hlk := layK_length S (i : Int) k
          have hzz : zs.length ≤ 100 := by
            have e := dpAll_len dz
            rw [List.length_map] at e
            omega
          refine ⟨T1, _, rfl, SqT.of upd_same, rfl, _, _, rfl, _, _, rfl, rfl, rfl, _, rfl, _, rfl, rfl, _, rfl, ?_⟩
          have eL := layK_succ (l := (i : Int)) eSk elk
          by_cases he : (levels S)[k] = (i : Int)
          · rw [if_pos he] at eL
            refine iteD (by rw [he]) ?_
            refine ⟨_, rfl, zs, s5 _ _ ez, small1000 (by omega), fun c o z => ?_, _, upd_same, ?_⟩
            · rw [upd_ne (ne_of_none z nD)]
              exact s5 _ _ (s4 _ _ z)
            · rw [eL, List.map_append]
              have k3 := (kp_same s5).kt.trans (kt_lst (o := .lst (zs ++ [x1])) (s5 _ _ ez))
              exact dpAll_snoc (dpS_kt k3 dz) (Dp.kt k3 _ _ (noL_S _) (Dp.kp ((kp_ext x2).trans (kp_same s4)) _ _ dk))
          · rw [if_neg he, List.append_nil] at eL
            refine iteDN (fun z => he (V.int.inj z)) ?_
            refine ⟨s4.trans s5, zs, s5 _ _ ez, ?_⟩
            rw [eL]
            exact DpAll.kp (kp_same s5) _ _ dz
        · rintro H4 ⟨s4, zs, ez, dz⟩
          rw [hlx, layK_full] at dz
          have ly := layer_length S (i : Int)
          have nDfo : D ≠ fo := fun z => by
            rw [z] at nD
            rw [nD] at ef
            cases ef
          refine ⟨_, rfl, .inl ⟨rfl, _, .inl (.inl (s4 _ _ ef))⟩, ?_⟩
          refine ⟨_, rfl, t2.ext s4, fun f1 c1 H5 x5 t5 ef1 ec1 => ?_⟩
          refine ⟨D, zs, layer S (i : Int), f1, _, rfl, rfl, .inl (.inl (.inl (x5 _ _ ez (fun _ z => by cases z)))), DpAll.kp (kp_ext x5) _ _ dz, ef1, ec1, ⟨fun _ _ _ _ _ _ => rfl, ⟨_, _, _, _, _, _, _, _, _, _, _, _, _, _, _, _, _, rfl⟩, rfl, rfl, rfl, rfl⟩, fun ys S' p hp dys np => ?_⟩
          refine ⟨p, ys, rfl, .inl ⟨.inl (.inl upd_same), fun t nt => ?_⟩⟩
          have ef5 := x5 _ _ (s4 _ _ ef) (fun _ z => by cases z)
          have hfl : fs.length = i := by
            rw [dpAll_len dfs, List.length_map, hM.length, List.length_map, List.length_range]
          have hin : i ≤ 100 := by
            have e : nLayers S = (maxL (levels S) + 1).toNat := rfl
            omega
          have sA : Same H5 (upd H5 p (.lst ys)) := same_new np
          have sB : Same H5 (upd (upd H5 p (.lst ys)) t (.tup ys)) := sA.trans (same_new nt)
          refine ⟨fo, fs, _, rfl, rfl, sB _ _ ef5, small1000 (by omega), ⟨_, _, _, _, _, rfl⟩, ?_, ?_, ?_, fs ++ [.ref t], M ++ [S'], upd_same, ?_, ?_⟩
          · refine fun b o z nt2 => ?_
            rw [upd_ne (ne_of_none (s1 _ _ z) nfo)]
            exact sB _ _ (x5 _ _ (s4 _ _ (x2 _ _ z nt2)) nt2)
          · exact tabs_lst (t5.ext sB) (sB _ _ ef5)
          · rw [upd_ne (ne_of_none elv' nfo)]
            exact sB _ _ (x5 _ _ (s4 _ _ el3) (fun _ z => by cases z))
          · rw [List.map_append]
            have k6 : Kt (upd (upd H5 p (.lst ys)) t (.tup ys)) _ := kt_lst (o := .lst (fs ++ [.ref t])) (sB _ _ ef5)
            refine dpAll_snoc (DpAll.kt k6 _ _ (noLs_map noL_lay M) (DpAll.kp (((kp_same s4).trans (kp_ext x5)).trans (kp_same sB)) _ _ dfs)) ?_
            exact Dp.kt k6 _ _ (noL_lay S') (.tup (SqT.of upd_same) (DpAll.kp (kp_same sB) _ _ dys))
          · rw [List.range_succ, List.map_append]
            exact hM.snoc hp
      · rintro σ H2 ⟨⟨y2, y3, y4, y6, y7, rfl⟩, x2, t2, el2, fs, M, ef, dfs, hM⟩
        refine ⟨_, rfl, fo, fs, rfl, .inl ⟨.inl (.inl ef), fun t nt => ?_⟩⟩
        exact q _ _ M (x2.trans (ExtN.of (same_new nt))) (t2.ext (same_new nt)) hM (.tup (SqT.of upd_same) (DpAll.kp (kp_new nt) _ _ dfs))
def spLayers (K : PySem.W.Frag) (Pt : Addr) : Sp := fun vs H Q _ => ∃ (v : V) (S : List Step), vs = [v] ∧ Dp K H v (.tuple (S.map encS)) ∧ S.length ≤ 16 ∧ (∀ s ∈ S, okS s) ∧ Tabs (Tb Pt) H ∧
  ∀ H' u M, ExtN H H' → Tabs (Tb Pt) H' → LayP M (layersOf S) → Dp K H' u (.tuple (M.map encLay)) → Q u H'
theorem scLayers : FnScope ["steps"] ["steps"] (defScope sLayers) := ⟨rfl, rfl, rfl, by decide +kernel, rfl, by decide +kernel, by decide +kernel⟩
theorem cal_layers {Pt : Addr} {f : Addr} {fd : FuncData} (F : Fun K "layers" "layers" sLayers f fd) (g : mg "layers" = some (.ref f)) (T : Tx mg) (C1 : Cal P w K mg base 3 "layers_in" ["steps"] (spLayersIn K Pt)) (C2 : Cal P w K mg base 5 "check_steps" ["steps"] (spAreSteps K .non)) :
    Cal P w K mg base 6 "layers" ["steps"] (spLayers K Pt) := by
  refine ⟨f, fd, g, F.kp, F.binds fun _ _ _ _ _ _ us hl => match us, hl with | [_], _ => rfl, F.ok scLayers (fun vs H Q E h => ?_) (fun cdv A outer s H vs Q E hr h => ?_)⟩
  · obtain ⟨v, S, rfl, _⟩ := h
    rfl
  · obtain ⟨v, S, rfl, hd, hl, ho, ht, q⟩ := h
    refine ⟨_, (pss_cons (ps_expr (pe_cal C2 (hr.mono (by decide)) (by rfl) (pa_cons (pv 0) pa_nil)))
      (pss_one (ps_ret (pe_cal C1 (hr.mono (by decide)) (by rfl) (pa_cons (pv 0) pa_nil))))), ?_⟩
    exact ⟨_, rfl, _, S, rfl, hd, hl, ho, fun H1 s1 => ⟨_, rfl, _, S, rfl, Dp.kp (kp_same s1) _ _ hd, hl, ht.ext s1, fun H2 u M x2 t2 hM du => q _ _ M ((ExtN.of s1).trans x2) t2 hM du⟩⟩
end
end K46

/-! ## KF8 -/
/-! _law_stream, _law_next, _law_some_steps. -/
namespace K46
open PySem PySem.Spec PyProof.Rows L2
open LamX (Tabs ExtN TabB)
/-- all but what lies at p stays -/
def SameB (p : Addr) (H H' : Hp) : Prop := ∀ b o, b ≠ p → H b = some o → H' b = some o
theorem SameB.refl (p : Addr) (H : Hp) : SameB p H H := fun _ _ _ e => e
theorem SameB.trans {p : Addr} {H H1 H2 : Hp} (a : SameB p H H1) (b : SameB p H1 H2) : SameB p H H2 := fun c o n e => b c o n (a c o n e)
theorem SameB.upd (p : Addr) (H : Hp) (o : HO) : SameB p H (upd H p o) := fun b u n e => (upd_ne n).trans e
theorem SameB.of {p : Addr} {H H' : Hp} (s : Same H H') : SameB p H H' := fun b o _ e => s b o e
/-- the stream's list at p: the script, the cell, the place -/
def StreamAt (H : Hp) (p l : Addr) : Prop := ∃ (ns : List Int) (c k : Int), H p = some (.lst [.ref l, .int c, .int k]) ∧ H l = some (.lst (ns.map V.int)) ∧ l ≠ p ∧ 0 ≤ k
theorem StreamAt.same {H H' : Hp} {p l : Addr} (h : StreamAt H p l) (s : Same H H') : StreamAt H' p l := by
  obtain ⟨ns, c, k, h1, h2, h3, h4⟩ := h
  exact ⟨ns, c, k, s _ _ h1, s _ _ h2, h3, h4⟩
theorem StreamAt.lst {H : Hp} {p l : Addr} (h : StreamAt H p l) : ∃ zs, H p = some (.lst zs) := by
  obtain ⟨ns, c, k, h1, _⟩ := h
  exact ⟨_, h1⟩
theorem kt_sameB {p : Addr} {zs : List V} {H H' : Hp} (e : H p = some (.lst zs)) (s : SameB p H H') : Kt H H' := fun a xs r => by
  have n : ∀ o, H a = some o → (∀ ys, o ≠ .lst ys) → a ≠ p := fun o h1 h2 z => by
    rw [z, e] at h1
    exact h2 zs (Option.some.inj h1).symm
  rcases r with z | ⟨o, z⟩
  · exact .inl (s _ _ (n _ z fun ys q => by cases q) z)
  · exact .inr ⟨o, s _ _ (n _ z fun ys q => by cases q) z⟩
theorem tabs_sameB {T : List (Addr × Str)} {p : Addr} {zs : List V} {H H' : Hp} (t : Tabs T H) (e : H p = some (.lst zs)) (s : SameB p H H') : Tabs T H' := fun q hq => by
  obtain ⟨ps, h1, h2, h3⟩ := t q hq
  have n : ∀ a o, H a = some o → (∀ ys, o ≠ .lst ys) → a ≠ p := fun a o h1 h2 z => by
    rw [z, e] at h1
    exact h2 zs (Option.some.inj h1).symm
  refine ⟨ps, s _ _ (n _ _ h1 fun ys z => by cases z) h1, h2, fun pos cv hc => ?_⟩
  obtain ⟨c, e1, e2⟩ := h3 pos cv hc
  exact ⟨c, e1, s _ _ (n _ _ e2 fun ys z => by cases z) e2⟩
section
variable {P : Program} {w : World} {K : PySem.W.Frag} {mg : Str → Option Value} {base : Heap}
def spStream (K : PySem.W.Frag) : Sp := fun vs H Q _ => ∃ (a : Addr) (ns : List Int), vs = [.ref a] ∧ SqL K H a (ns.map V.int) ∧ ∀ H' p l, Same H H' → StreamAt H' p l → H p = none → H l = none → Q (.ref p) H'
theorem scStream : FnScope ["_law_script"] ["_law_script"] (defScope sStream) := ⟨rfl, rfl, rfl, by decide +kernel, rfl, by decide +kernel, by decide +kernel⟩
theorem cal_stream {f : Addr} {fd : FuncData} (F : Fun K "_law_stream" "_law_stream" sStream f fd) (g : mg "_law_stream" = some (.ref f)) (T : Tx mg) :
    Cal P w K mg base 1 "_law_stream" ["_law_script"] (spStream K) := by
  refine ⟨f, fd, g, F.kp, F.binds fun _ _ _ _ _ _ us hl => match us, hl with | [_], _ => rfl, F.ok scStream (fun vs H Q E h => ?_) (fun cdv A outer s H vs Q E hr h => ?_)⟩
  · obtain ⟨a, ns, rfl, _⟩ := h
    rfl
  · obtain ⟨a, ns, rfl, hL, q⟩ := h
    refine ⟨_, (pss_one (ps_ret (pe_lst (pa_cons (pe_callTy call_list_of (by rfl) T.list (by decide +kernel) (pa_cons (pv 0) pa_nil)) (pa_cons pe_int (pa_cons pe_int pa_nil)))))), ?_⟩
    refine ⟨_, rfl, a, _, rfl, .inl hL, fun l nl => ⟨by show 3 ≤ sizeLine; decide, fun p np => ?_⟩⟩
    have nlp : l ≠ p := ne_of_none upd_same np
    have np0 : H p = none := by rw [upd_ne (Ne.symm nlp)] at np; exact np
    exact q _ p l ((same_new nl).trans (same_new np)) ⟨ns, 0, 0, upd_same, same_new np _ _ upd_same, nlp, by decide⟩ np0 nl
theorem pos31 : (0 : Int) < 2147483647 := by decide
def spNext (K : PySem.W.Frag) : Sp := fun vs H Q _ => ∃ (p l : Addr) (m : Int), vs = [.ref p, .int m] ∧ 0 < m ∧ m < 1073741824 ∧ StreamAt H p l ∧ ∀ H' d, 0 ≤ d → d < m → SameB p H H' → StreamAt H' p l → Q (.int d) H'
theorem scNext : FnScope ["_law_stream_here", "_law_many", "_law_k", "_law_cell", "_law_digit"] ["_law_stream_here", "_law_many"] (defScope sNext) := ⟨rfl, rfl, rfl, by decide +kernel, rfl, by decide +kernel, by decide +kernel⟩
theorem cal_next {f : Addr} {fd : FuncData} (F : Fun K "_law_next" "_law_next" sNext f fd) (g : mg "_law_next" = some (.ref f)) (T : Tx mg) :
    Cal P w K mg base 1 "_law_next" ["_law_stream_here", "_law_many"] (spNext K) := by
  refine ⟨f, fd, g, F.kp, F.binds fun _ _ _ _ _ _ us hl => match us, hl with | [_, _], _ => rfl, F.ok scNext (fun vs H Q E h => ?_) (fun cdv A outer s H vs Q E hr h => ?_)⟩
  · obtain ⟨p, l, m, rfl, _⟩ := h
    rfl
  · obtain ⟨p, l, m, rfl, m0, m1, ⟨ns, c, k, hp, hL, nlp, hk⟩, q⟩ := h
    refine ⟨_, (pss_cons (ps_if (pt_cmpR op_eq (pe_ix ix_list (pv 0) pe_int (fun _ _ => rfl)) pe_int (nomark _)) (pss_cons (ps_set (i := 2) scNext.nd rfl (Or.inl rfl) (pe_ix ix_list (pv 0) pe_int (fun _ _ => rfl)))
      (pss_cons (ps_set (i := 3) scNext.nd rfl (Or.inl rfl) (pe_op op_add pe_int (pv 2)))
      (pss_cons (ps_if (pt_cmpR op_lt (pv 2) (pe_callB call_len_seq (by rfl) T.len (by decide +kernel) (pa_cons (pe_ix ix_list (pv 0) pe_int (fun _ _ => rfl)) pa_nil)) (nomark _)) (pss_one (ps_set (i := 3) scNext.nd rfl (Or.inl rfl) (pe_callB call_abs (by rfl) T.abs (by decide +kernel) (pa_cons (pe_ix ix_list (pe_ix ix_list (pv 0) pe_int (fun _ _ => rfl)) (pv 2) (fun _ _ => rfl)) pa_nil)))) pss_nil)
      (pss_cons (ps_if (pt_cmpR op_lt (pv 3) (pe_op op_pow pe_int pe_int) (nomark _)) (pss_cons (ps_set (i := 3) scNext.nd rfl (Or.inl rfl) (pe_op op_mod (pe_callTy call_int1 (by rfl) T.int (by decide +kernel) (pa_cons (pe_op op_add (pe_op op_add (pe_op op_mul (pv 3) pe_int) (pe_op op_mul (pv 2) pe_int)) pe_int) pa_nil)) pe_int))
      (pss_one (ps_set (i := 3) scNext.nd rfl (Or.inl rfl) (pe_op op_add (pe_op op_mul (pe_op op_mod (pe_callTy call_int1 (by rfl) T.int (by decide +kernel) (pa_cons (pe_op op_add (pe_op op_mul (pv 3) pe_int) pe_int) pa_nil)) pe_int) pe_int) (pv 3))))) pss_nil)
      (pss_cons (ps_asg (pv 3) (pg_sub (pv 0) pe_int set_list))
      (pss_one (ps_asg (pe_op op_add (pv 2) pe_int) (pg_sub (pv 0) pe_int set_list)))))))) pss_nil)
      (pss_cons (ps_set (i := 4) scNext.nd rfl (Or.inl rfl) (pe_op op_mod (pe_callTy call_int1 (by rfl) T.int (by decide +kernel) (pa_cons (pe_ix ix_list (pv 0) pe_int (fun _ _ => rfl)) pa_nil)) (pv 1)))
      (pss_cons (ps_asg (pe_op op_fdiv (pe_ix ix_list (pv 0) pe_int (fun _ _ => rfl)) (pv 1)) (pg_sub (pv 0) pe_int set_list))
      (pss_one (ps_ret (pv 4)))))), ?_⟩
    obtain ⟨kn, rfl⟩ := Int.eq_ofNat_of_zero_le hk
    -- the tail: the digit; the cell divided
    have tail : ∀ (H1 : Hp) (c1 k1 : Int), SameB p H H1 → H1 p = some (.lst [.ref l, .int c1, .int k1]) → 0 ≤ k1 → Q (.int (c1 % m)) (upd H1 p (.lst [.ref l, .int (c1 / m), .int k1])) := fun H1 c1 k1 s1 hp1 hk1 =>
      q _ _ (Int.emod_nonneg _ (by omega)) (Int.emod_lt_of_pos _ m0) (s1.trans (SameB.upd _ _ _)) ⟨ns, _, _, upd_same, (upd_ne nlp).trans (s1 _ _ nlp hL), nlp, hk1⟩
    refine ⟨_, rfl, p, _, _, _, rfl, rfl, .inl (.inl hp), atI_nat (j := 1) rfl, rfl, _, rfl, ?_⟩
    by_cases hc : c = 0
    · refine iteD (by rw [hc]) ?_
      refine ⟨_, rfl, p, _, _, _, rfl, rfl, .inl (.inl hp), atI_nat (j := 2) rfl, ?_⟩
      refine ⟨_, rfl, _, _, rfl, rfl, ?_⟩
      refine ⟨_, rfl, _, rfl, p, _, _, _, rfl, rfl, .inl (.inl hp), atI_nat (j := 0) rfl, l, _, rfl, .inl (.inl (.inl hL)), _, _, rfl, rfl, _, rfl, ?_⟩
      have hnl : ((ns.map V.int).length : Int) = (ns.length : Int) := by rw [List.length_map]
      refine iteB (fun e => ?_) (fun e => ?_)
      · have hk1 : kn < ns.length := by
          have e1 := of_decide_eq_true e
          omega
        refine ⟨_, rfl, p, _, _, _, rfl, rfl, .inl (.inl hp), atI_nat (j := 0) rfl, _, rfl, l, _, _, _, rfl, rfl, .inl (.inl hL), atI_nat (show (ns.map V.int)[kn]? = some (.int ns[kn]) by rw [List.getElem?_map, List.getElem?_eq_getElem hk1]; rfl), _, rfl, ?_⟩
        refine ⟨_, rfl, _, _, rfl, rfl, ⟨by decide, by decide, by decide⟩, _, _, rfl, rfl, _, rfl, iteB (fun e => ?_) (fun e => ?_)⟩
        · refine ⟨_, rfl, _, _, rfl, rfl, .inr ⟨by decide, by decide⟩, _, rfl, _, _, rfl, rfl, .inr ⟨by decide, by decide⟩, _, _, rfl, rfl, _, _, rfl, rfl, .inl ⟨_, rfl, _, _, rfl, rfl, pos31, ?_⟩⟩
          refine ⟨_, rfl, _, _, rfl, rfl, .inr ⟨by decide, by decide⟩, _, _, rfl, rfl, .inl ⟨_, rfl, _, _, rfl, rfl, pos31, _, _, rfl, rfl, .inr ⟨by decide, by decide⟩, _, rfl, _, _, rfl, rfl, ?_⟩⟩
          refine ⟨_, rfl, _, rfl, p, _, _, _, rfl, rfl, hp, rfl, ?_⟩
          refine ⟨_, rfl, _, _, rfl, rfl, _, rfl, p, _, _, _, rfl, rfl, upd_same, rfl, ?_⟩
          refine ⟨_, rfl, p, _, _, _, rfl, rfl, .inl (.inl upd_same), atI_nat (j := 1) rfl, .inl ⟨_, rfl, _, rfl, _, _, rfl, rfl, m0, ?_⟩⟩
          refine ⟨_, rfl, p, _, _, _, rfl, rfl, .inl (.inl upd_same), atI_nat (j := 1) rfl, _, rfl, _, _, rfl, rfl, ⟨m0, m1⟩, _, rfl, p, _, _, _, rfl, rfl, upd_same, rfl, ?_⟩
          exact ⟨_, rfl, tail _ _ _ ((SameB.upd _ _ _).trans (SameB.upd _ _ _)) upd_same (by omega)⟩
        · refine ⟨_, rfl, _, rfl, p, _, _, _, rfl, rfl, hp, rfl, ?_⟩
          refine ⟨_, rfl, _, _, rfl, rfl, _, rfl, p, _, _, _, rfl, rfl, upd_same, rfl, ?_⟩
          refine ⟨_, rfl, p, _, _, _, rfl, rfl, .inl (.inl upd_same), atI_nat (j := 1) rfl, .inl ⟨_, rfl, _, rfl, _, _, rfl, rfl, m0, ?_⟩⟩
          refine ⟨_, rfl, p, _, _, _, rfl, rfl, .inl (.inl upd_same), atI_nat (j := 1) rfl, _, rfl, _, _, rfl, rfl, ⟨m0, m1⟩, _, rfl, p, _, _, _, rfl, rfl, upd_same, rfl, ?_⟩
          exact ⟨_, rfl, tail _ _ _ ((SameB.upd _ _ _).trans (SameB.upd _ _ _)) upd_same (by omega)⟩
      · obtain ⟨b0, hb0⟩ : ∃ b0, decide (((7 : Int) + (kn : Int)) < (10 : Int) ^ (18 : Int).toNat) = b0 := ⟨_, rfl⟩
        refine ⟨_, rfl, _, _, rfl, rfl, ⟨by decide, by decide, by decide⟩, _, _, rfl, rfl, b0, congrArg V.bl hb0, iteB (fun e => ?_) (fun e => ?_)⟩
        · refine ⟨_, rfl, _, _, rfl, rfl, .inr ⟨by decide, by decide⟩, _, rfl, _, _, rfl, rfl, .inr ⟨by decide, by decide⟩, _, _, rfl, rfl, _, _, rfl, rfl, .inl ⟨_, rfl, _, _, rfl, rfl, pos31, ?_⟩⟩
          refine ⟨_, rfl, _, _, rfl, rfl, .inr ⟨by decide, by decide⟩, _, _, rfl, rfl, .inl ⟨_, rfl, _, _, rfl, rfl, pos31, _, _, rfl, rfl, .inr ⟨by decide, by decide⟩, _, rfl, _, _, rfl, rfl, ?_⟩⟩
          refine ⟨_, rfl, _, rfl, p, _, _, _, rfl, rfl, hp, rfl, ?_⟩
          refine ⟨_, rfl, _, _, rfl, rfl, _, rfl, p, _, _, _, rfl, rfl, upd_same, rfl, ?_⟩
          refine ⟨_, rfl, p, _, _, _, rfl, rfl, .inl (.inl upd_same), atI_nat (j := 1) rfl, .inl ⟨_, rfl, _, rfl, _, _, rfl, rfl, m0, ?_⟩⟩
          refine ⟨_, rfl, p, _, _, _, rfl, rfl, .inl (.inl upd_same), atI_nat (j := 1) rfl, _, rfl, _, _, rfl, rfl, ⟨m0, m1⟩, _, rfl, p, _, _, _, rfl, rfl, upd_same, rfl, ?_⟩
          exact ⟨_, rfl, tail _ _ _ ((SameB.upd _ _ _).trans (SameB.upd _ _ _)) upd_same (by omega)⟩
        · refine ⟨_, rfl, _, rfl, p, _, _, _, rfl, rfl, hp, rfl, ?_⟩
          refine ⟨_, rfl, _, _, rfl, rfl, _, rfl, p, _, _, _, rfl, rfl, upd_same, rfl, ?_⟩
          refine ⟨_, rfl, p, _, _, _, rfl, rfl, .inl (.inl upd_same), atI_nat (j := 1) rfl, .inl ⟨_, rfl, _, rfl, _, _, rfl, rfl, m0, ?_⟩⟩
          refine ⟨_, rfl, p, _, _, _, rfl, rfl, .inl (.inl upd_same), atI_nat (j := 1) rfl, _, rfl, _, _, rfl, rfl, ⟨m0, m1⟩, _, rfl, p, _, _, _, rfl, rfl, upd_same, rfl, ?_⟩
          exact ⟨_, rfl, tail _ _ _ ((SameB.upd _ _ _).trans (SameB.upd _ _ _)) upd_same (by omega)⟩
    · refine iteDN (fun z => hc (V.int.inj z)) ?_
      refine ⟨_, rfl, p, _, _, _, rfl, rfl, .inl (.inl hp), atI_nat (j := 1) rfl, .inl ⟨_, rfl, _, rfl, _, _, rfl, rfl, m0, ?_⟩⟩
      refine ⟨_, rfl, p, _, _, _, rfl, rfl, .inl (.inl hp), atI_nat (j := 1) rfl, _, rfl, _, _, rfl, rfl, ⟨m0, m1⟩, _, rfl, p, _, _, _, rfl, rfl, hp, rfl, ?_⟩
      exact ⟨_, rfl, tail H c kn (SameB.refl _ _) hp hk⟩
end
end K46

/-! ## KF9 -/
/-! _law_some_steps, _law_names. -/
namespace K46
open PySem PySem.Spec PyProof.Rows L2
open LamX (Tabs ExtN TabB)
theorem word_at {d : Int} (h0 : 0 ≤ d) (h1 : d < 2) : ∃ b : Bool, atI [V.str "raise", V.str "lower"] d = some (.str (kw b)) := by
  have h : d = 0 ∨ d = 1 := by omega
  rcases h with h | h
  · exact ⟨true, by rw [h]; rfl⟩
  · exact ⟨false, by rw [h]; rfl⟩
def smallS (ev : Int) (s : Step) : Prop := 0 ≤ s.2.1 ∧ s.2.1 < ev ∧ -3 ≤ s.2.2 ∧ s.2.2 ≤ 3
section
variable {P : Program} {w : World} {K : PySem.W.Frag} {mg : Str → Option Value} {base : Heap}
def spSomeSteps (K : PySem.W.Frag) : Sp := fun vs H Q _ => ∃ (p l : Addr) (ev m : Int), vs = [.ref p, .int ev, .int m] ∧ 0 < ev ∧ ev < 100 ∧ 0 ≤ m ∧ m ≤ 16 ∧ StreamAt H p l ∧
  ∀ H' u (S : List Step), SameB p H H' → StreamAt H' p l → Dp K H' u (.tuple (S.map encS)) → S.length ≤ 16 → (∀ s ∈ S, smallS ev s) → Q u H'
theorem scSomeSteps : FnScope ["_law_stream_here", "_law_events", "_law_most", "_law_found", "_law_k", "_law_word"] ["_law_stream_here", "_law_events", "_law_most"] (defScope sSomeSteps) := ⟨rfl, rfl, rfl, by decide +kernel, rfl, by decide +kernel, by decide +kernel⟩
theorem cal_someSteps {f : Addr} {fd : FuncData} (F : Fun K "_law_some_steps" "_law_some_steps" sSomeSteps f fd) (g : mg "_law_some_steps" = some (.ref f)) (T : Tx mg) (C1 : Cal P w K mg base 1 "_law_next" ["_law_stream_here", "_law_many"] (spNext K)) :
    Cal P w K mg base 2 "_law_some_steps" ["_law_stream_here", "_law_events", "_law_most"] (spSomeSteps K) := by
  refine ⟨f, fd, g, F.kp, F.binds fun _ _ _ _ _ _ us hl => match us, hl with | [_, _, _], _ => rfl, F.ok scSomeSteps (fun vs H Q E h => ?_) (fun cdv A outer s H vs Q E hr h => ?_)⟩
  · obtain ⟨p, l, ev, m, rfl, _⟩ := h
    rfl
  · obtain ⟨p, l, ev, m, rfl, e0, e1, m0, m1, hst, q⟩ := h
    obtain ⟨zs, hp⟩ := hst.lst
    refine ⟨_, (pss_cons (ps_set (i := 3) scSomeSteps.nd rfl (Or.inl rfl) (pe_lst pa_nil))
      (pss_cons (ps_for PassesOwn.never rfl (pi_range1 (by rfl) T.range (pa_cons (pe_cal C1 (hr.mono (by decide)) (by rfl) (pa_cons (pv 0) (pa_cons (pe_op op_add (pv 2) pe_int) pa_nil))) pa_nil)) (pg_name (i := 4) scSomeSteps.nd rfl (Or.inl rfl))
      (pss_cons (ps_set (i := 5) scSomeSteps.nd rfl (Or.inl rfl) (pe_ix ix_list (pe_lst (pa_cons pe_str (pa_cons pe_str pa_nil))) (pe_cal C1 (hr.mono (by decide)) (by rfl) (pa_cons (pv 0) (pa_cons pe_int pa_nil))) (fun _ _ => rfl)))
      (pss_one (ps_expr (pe_bm PySem.F.plainAttrs_list PySem.F.slot_list_append PySem.F.type_list_append mt_append (pv 3) (pa_cons (pe_tup (pa_cons (pv 5) (pa_cons (pe_cal C1 (hr.mono (by decide)) (by rfl) (pa_cons (pv 0) (pa_cons (pv 1) pa_nil))) (pa_cons (pe_op op_sub (pe_cal C1 (hr.mono (by decide)) (by rfl) (pa_cons (pv 0) (pa_cons pe_int pa_nil))) pe_int) pa_nil)))) pa_nil))))))
      (pss_one (ps_ret (pe_callTy call_tuple_of (by rfl) T.tuple (by decide +kernel) (pa_cons (pv 3) pa_nil)))))), ?_⟩
    refine ⟨Nat.zero_le _, fun fo nfo => ?_⟩
    have nfp : fo ≠ p := (ne_of_none hp nfo).symm
    have s0 : Same H (upd H fo (.lst [])) := same_new nfo
    have nlf : l ≠ fo := by
      obtain ⟨ns, cc, kk, h1, h2, h3, h4⟩ := hst
      exact ne_of_none h2 nfo
    refine ⟨_, rfl, _, rfl, _, _, rfl, rfl, p, l, m + 1, rfl, by omega, by omega, hst.same s0, fun H1 d d0 d1 s1 t1 => ⟨d, rfl, by omega, by omega, ?_⟩⟩
    refine for_it (n := d.toNat) walk_upto (fun i σ H' => (∃ y z, σ = [some (.ref p), some (.int ev), some (.int m), some (.ref fo), y, z]) ∧ SameB p H H' ∧ StreamAt H' p l ∧ ∃ (fs : List V) (S : List Step), H' fo = some (.lst fs) ∧ DpAll K H' fs (S.map encS) ∧ S.length = i ∧ ∀ s ∈ S, smallS ev s)
      ⟨⟨_, _, rfl⟩, (SameB.of s0).trans s1, t1, [], [], s1 _ _ nfp upd_same, .nil, rfl, fun s hs => by cases hs⟩ (fun _ _ _ _ _ => trivial) ?_ ?_
    · rintro i x σ H2 H3 hi ⟨⟨y, z, rfl⟩, s2, t2, fs, S, ef, dfs, hl, hS⟩ ⟨rfl, rfl⟩
      obtain ⟨zs2, hp2⟩ := t2.lst
      refine ⟨by show 2 ≤ sizeLine; decide, fun r nr => ?_⟩
      have sr : Same H3 (upd H3 r (.lst [.str "raise", .str "lower"])) := same_new nr
      have nrp : r ≠ p := (ne_of_none hp2 nr).symm
      refine ⟨_, rfl, p, l, 2, rfl, by decide, by decide, t2.same sr, fun H4 d4 a0 a1 s4 t4 => ?_⟩
      obtain ⟨b, hb⟩ := word_at a0 a1
      refine ⟨r, _, _, _, rfl, rfl, .inl (.inl (s4 _ _ nrp upd_same)), hb, ?_⟩
      have s34 : SameB p H3 H4 := (SameB.of sr).trans s4
      refine ⟨_, rfl, .inl ⟨rfl, _, .inl (.inl (s34 _ _ nfp ef))⟩, ?_⟩
      refine ⟨_, rfl, _, rfl, _, rfl, p, l, ev, rfl, e0, by omega, t4, fun H5 d5 b0 b1 s5 t5 => ?_⟩
      refine ⟨_, rfl, p, l, 7, rfl, by decide, by decide, t5, fun H6 d6 c0 c1 s6 t6 => ?_⟩
      refine ⟨_, _, rfl, rfl, by show 3 ≤ sizeLine; decide, fun t nt => ?_⟩
      have s36 : SameB p H3 H6 := (s34.trans s5).trans s6
      have st : Same H6 (upd H6 t (.tup [.str (kw b), .int d5, .int (d6 - 3)])) := same_new nt
      have ef6 := st _ _ (s36 _ _ nfp ef)
      have hfl : fs.length = i := by rw [dpAll_len dfs, List.length_map, hl]
      refine ⟨fo, fs, _, rfl, rfl, ef6, small1000 (by omega), ⟨_, _, rfl⟩, ?_, ?_, fs ++ [.ref t], S ++ [(b, d5, d6 - 3)], upd_same, ?_, ?_, ?_⟩
      · exact fun c o n z => by
          rw [upd_ne (ne_of_none z nfo)]
          exact st _ _ (s36 _ _ n (s2 _ _ n z))
      · obtain ⟨ns, cc, kk, h1, h2, h3, h4⟩ := t6.same st
        exact ⟨ns, cc, kk, (upd_ne nfp.symm).trans h1, (upd_ne nlf).trans h2, h3, h4⟩
      · rw [List.map_append]
        have k1 : Kt H3 H6 := kt_sameB hp2 s36
        have k2 : Kt H3 _ := (k1.trans (kp_same st).kt).trans (kt_lst (o := .lst (fs ++ [.ref t])) ef6)
        exact dpAll_snoc (dpS_kt k2 dfs) (dp_step_of (s := (b, d5, d6 - 3)) ((kt_lst ef6).seq (SqT.of upd_same)))
      · rw [List.length_append, hl]
        rfl
      · intro s hs
        rcases List.mem_append.mp hs with e | e
        · exact hS s e
        · have e' : s = (b, d5, d6 - 3) := by simpa using e
          rw [e']
          exact ⟨b0, b1, by show -3 ≤ d6 - 3; omega, by show d6 - 3 ≤ 3; omega⟩
    · rintro σ H2 ⟨⟨y, z, rfl⟩, s2, t2, fs, S, ef, dfs, hl, hS⟩
      refine ⟨_, rfl, fo, fs, rfl, .inl ⟨.inl (.inl ef), fun t nt => ?_⟩⟩
      exact q _ _ S (s2.trans (SameB.of (same_new nt))) (t2.same (same_new nt)) (.tup (SqT.of upd_same) (DpAll.kp (kp_new nt) _ _ dfs)) (by omega) hS
def encRow (n g : Int) (l : List Step) : PyData := .list ((sortS (l.map (turnT n g))).map encS)
def spNames (K : PySem.W.Frag) : Sp := fun vs H Q _ => ∃ (v : V) (n g : Int) (M : List (List Step)), vs = [v, .int n, .int g] ∧ (g = 1 ∨ g = -1) ∧ Dp K H v (.tuple (M.map encLay)) ∧ (∀ m ∈ M, m.length ≤ 16) ∧ M.length ≤ 100 ∧
  ∀ H' u, Same H H' → Dp K H' u (.list (M.map (encRow n g))) → Q u H'
theorem scNames : FnScope ["_law_told", "_law_number", "_law_sign", "_law_found", "_law_layer", "_law_rows", "_law_word", "_law_event", "_law_time", "_law_turned"] ["_law_told", "_law_number", "_law_sign"] (defScope sNames) := ⟨rfl, rfl, rfl, by decide +kernel, rfl, by decide +kernel, by decide +kernel⟩
theorem cal_names {f : Addr} {fd : FuncData} (F : Fun K "_law_names" "_law_names" sNames f fd) (g : mg "_law_names" = some (.ref f)) (T : Tx mg) :
    Cal P w K mg base 1 "_law_names" ["_law_told", "_law_number", "_law_sign"] (spNames K) := by
  refine ⟨f, fd, g, F.kp, F.binds fun _ _ _ _ _ _ us hl => match us, hl with | [_, _, _], _ => rfl, F.ok scNames (fun vs H Q E h => ?_) (fun cdv A outer s H vs Q E hr h => ?_)⟩
  · obtain ⟨v, n, g, M, rfl, _⟩ := h
    rfl
  · obtain ⟨v, n, g, M, rfl, hg, hd, hM, hMl, q⟩ := h
    obtain ⟨a, xs, rfl, hT, hx⟩ := dp_tup hd
    have hlx : xs.length = M.length := by rw [dpAll_len hx, List.length_map]
    refine ⟨_, (pss_cons (ps_set (i := 3) scNames.nd rfl (Or.inl rfl) (pe_lst pa_nil))
      (pss_cons (ps_for PassesOwn.never rfl (pi_tup (pv 0)) (pg_name (i := 4) scNames.nd rfl (Or.inl rfl))
      (pss_cons (ps_set (i := 5) scNames.nd rfl (Or.inl rfl) (pe_lst pa_nil))
      (pss_cons (ps_for PassesOwn.never rfl (pi_tup (pv 4)) (pg_tup rfl (pgs_cons (pg_name (i := 6) scNames.nd rfl (Or.inl rfl)) (pgs_cons (pg_name (i := 7) scNames.nd rfl (Or.inl rfl)) (pgs_cons (pg_name (i := 8) scNames.nd rfl (Or.inl rfl)) pgs_nil))))
      (pss_cons (ps_set (i := 9) scNames.nd rfl (Or.inl rfl) (pv 6))
      (pss_cons (ps_if (pt_cmpR op_lt (pv 2) pe_int (nomark _)) (pss_one (ps_set (i := 9) scNames.nd rfl (Or.inl rfl) (pe_ix ix_list (pe_lst (pa_cons pe_str (pa_cons pe_str pa_nil))) (pe_callTy call_int1 (by rfl) T.int (by decide +kernel) (pa_cons (pe_cmpR op_eq (pv 6) pe_str (nomark _)) pa_nil)) (fun _ _ => rfl)))) pss_nil)
      (pss_one (ps_expr (pe_bm PySem.F.plainAttrs_list PySem.F.slot_list_append PySem.F.type_list_append mt_append (pv 5) (pa_cons (pe_tup (pa_cons (pv 9) (pa_cons (pv 7) (pa_cons (pe_op op_add (pe_op op_mul (pv 2) (pv 8)) (pv 1)) pa_nil)))) pa_nil)))))))
      (pss_one (ps_expr (pe_bm PySem.F.plainAttrs_list PySem.F.slot_list_append PySem.F.type_list_append mt_append (pv 3) (pa_cons (pe_callB (cr_sortedSt hr) (by rfl) T.sorted (by decide +kernel) (pa_cons (pv 5) pa_nil)) pa_nil)))))))
      (pss_one (ps_ret (pv 3))))), ?_⟩
    refine ⟨Nat.zero_le _, fun fo nfo => ?_⟩
    have s0 : Same H (upd H fo (.lst [])) := same_new nfo
    refine ⟨_, rfl, a, rfl, ⟨xs, (kp_same s0).seqT hT⟩, ?_⟩
    refine for_it walk_tup (fun i σ H' => (∃ y4 y5 y6 y7 y8 y9, σ = [some (.ref a), some (.int n), some (.int g), some (.ref fo), y4, y5, y6, y7, y8, y9]) ∧ Same H H' ∧ ∃ fs : List V, H' fo = some (.lst fs) ∧ fs.length = i ∧ ∀ H'', SameB fo H' H'' → DpAll K H'' fs ((M.take i).map (encRow n g)))
      ⟨⟨_, _, _, _, _, _, rfl⟩, s0, [], upd_same, rfl, fun H2 _ => .nil⟩ (fun i σ H' _ z => (kp_same z.2.1).seqT hT) ?_ ?_
    · rintro i x σ H2 H3 hi ⟨⟨y4, y5, y6, y7, y8, y9, rfl⟩, s2, fs, ef, hfl, dfs⟩ ⟨rfl, hxi⟩
      have hiM : i < M.length := by omega
      have eM : M[i]? = some M[i] := List.getElem?_eq_getElem hiM
      have dl : Dp K H x (encLay M[i]) := dpAll_get hx hxi (by rw [List.getElem?_map, eM]; rfl)
      obtain ⟨b, zs, rfl, hTb, hz⟩ := dp_tup dl
      have hml : M[i].length ≤ 16 := hM _ (List.getElem_mem hiM)
      have hlz : zs.length = M[i].length := by rw [dpAll_len hz, List.length_map]
      refine ⟨Nat.zero_le _, fun ro nro => ?_⟩
      have nrf : ro ≠ fo := (ne_of_none ef nro).symm
      have s3 : Same H3 (upd H3 ro (.lst [])) := same_new nro
      refine ⟨_, rfl, b, rfl, ⟨zs, (kp_same (s2.trans s3)).seqT hTb⟩, ?_⟩
      refine for_it walk_tup (fun j σ H' => (∃ y6 y7 y8 y9, σ = [some (.ref a), some (.int n), some (.int g), some (.ref fo), some (.ref b), some (.ref ro), y6, y7, y8, y9]) ∧ Same H3 H' ∧ ∃ rs : List V, H' ro = some (.lst rs) ∧ DpAll K H' rs (((M[i].take j).map (turnT n g)).map encS))
        ⟨⟨_, _, _, _, rfl⟩, s3, [], upd_same, .nil⟩ (fun j σ H' _ z => (kp_same (s2.trans z.2.1)).seqT hTb) ?_ ?_
      · rintro j x σ H4 H5 hj ⟨⟨y6, y7, y8, y9, rfl⟩, s4, rs, er, drs⟩ ⟨rfl, hxj⟩
        have hjM : j < M[i].length := by omega
        have eS : M[i][j]? = some M[i][j] := List.getElem?_eq_getElem hjM
        have ds : Dp K H x (encS M[i][j]) := dpAll_get hz hxj (by rw [List.getElem?_map, eS]; rfl)
        obtain ⟨t, rfl, hTt⟩ := dp_step ds
        have hTt5 := (kp_same (s2.trans s4)).seqT hTt
        have hrl : rs.length ≤ 16 := by
          rw [dpAll_len drs, List.length_map, List.length_map, List.length_take]
          omega
        -- what is left to say when the turned step is appended
        have fin : ∀ (H6 : Hp) (t6 : Addr) (u : Bool), Same H5 H6 → H6 t6 = none → u = (turnT n g M[i][j]).1 → 
            Same H3 (upd (upd H6 t6 (.tup [.str (kw u), .int M[i][j].2.1, .int (g * M[i][j].2.2 + n)])) ro (.lst (rs ++ [.ref t6]))) ∧ ∃ rs' : List V, (upd (upd H6 t6 (.tup [.str (kw u), .int M[i][j].2.1, .int (g * M[i][j].2.2 + n)])) ro (.lst (rs ++ [.ref t6]))) ro = some (.lst rs') ∧
              DpAll K (upd (upd H6 t6 (.tup [.str (kw u), .int M[i][j].2.1, .int (g * M[i][j].2.2 + n)])) ro (.lst (rs ++ [.ref t6]))) rs' (((M[i].take (j + 1)).map (turnT n g)).map encS) := fun H6 t6 u s6 n6 hu => by
          have st : Same H6 (upd H6 t6 (.tup [.str (kw u), .int M[i][j].2.1, .int (g * M[i][j].2.2 + n)])) := same_new n6
          have er6 := st _ _ (s6 _ _ er)
          refine ⟨fun c o z => ?_, _, upd_same, ?_⟩
          · rw [upd_ne (ne_of_none z nro)]
            exact st _ _ (s6 _ _ (s4 _ _ z))
          · rw [List.take_add_one, eS, List.map_append, List.map_append]
            refine dpAll_snoc (dpS_kt (((kp_same s6).kt.trans (kp_same st).kt).trans (kt_lst er6)) drs) ?_
            refine dp_step_of (s := turnT n g M[i][j]) ?_
            rw [← hu]
            exact (kt_lst er6).seq (SqT.of upd_same)
        refine ⟨t, _, rfl, hTt5, rfl, _, _, rfl, _, _, rfl, _, _, rfl, rfl, ?_⟩
        refine ⟨_, rfl, ?_⟩
        refine ⟨_, rfl, _, _, rfl, rfl, _, rfl, ?_⟩
        rcases hg with hg | hg
        · refine iteDN (by omega) ?_
          refine ⟨_, rfl, .inl ⟨rfl, _, .inl (.inl er)⟩, _, rfl, _, rfl, _, rfl, _, rfl, _, _, rfl, rfl, .inl ⟨by omega, by omega⟩, _, rfl, _, _, rfl, rfl, by show 3 ≤ sizeLine; decide, fun t6 n6 => ?_⟩
          obtain ⟨f1, f2⟩ := fin H5 t6 M[i][j].1 (Same.refl _) n6 (by rw [hg]; rfl)
          exact ⟨ro, rs, _, rfl, rfl, same_new n6 _ _ er, small1000 (by omega), ⟨_, _, _, _, rfl⟩, f1, f2⟩
        · refine iteD (by omega) ?_
          refine ⟨by show 2 ≤ sizeLine; decide, fun r nr => ?_⟩
          have hb : atI [V.str "raise", V.str "lower"] (if decide (V.str (kw M[i][j].1) = V.str "raise") = true then 1 else 0) = some (.str (kw (!M[i][j].1))) := by
            cases M[i][j].1 <;> rfl
          refine ⟨_, rfl, rfl, .inr ⟨_, rfl, r, _, _, _, rfl, rfl, .inl (.inl upd_same), hb, ?_⟩⟩
          have sr : Same H5 (upd H5 r (.lst [.str "raise", .str "lower"])) := same_new nr
          refine ⟨_, rfl, .inl ⟨rfl, _, .inl (.inl (sr _ _ er))⟩, _, rfl, _, rfl, _, rfl, _, rfl, _, _, rfl, rfl, .inl ⟨by omega, by omega⟩, _, rfl, _, _, rfl, rfl, by show 3 ≤ sizeLine; decide, fun t6 n6 => ?_⟩
          obtain ⟨f1, f2⟩ := fin _ t6 (!M[i][j].1) sr n6 (by rw [hg]; rfl)
          exact ⟨ro, rs, _, rfl, rfl, same_new n6 _ _ (sr _ _ er), small1000 (by omega), ⟨_, _, _, _, rfl⟩, f1, f2⟩
      · rintro σ H4 ⟨⟨y6, y7, y8, y9, rfl⟩, s4, rs, er, drs⟩
        rw [hlz, List.take_length] at drs
        refine ⟨_, rfl, .inl ⟨rfl, _, .inl (.inl (s4 _ _ ef))⟩, ?_⟩
        refine ⟨_, rfl, ro, rs, M[i].map (turnT n g), rfl, .inl (.inl (.inl er)), drs, fun ys p dys np => ?_⟩
        have sp : Same H4 (upd H4 p (.lst ys)) := same_new np
        have ef5 := sp _ _ (s4 _ _ ef)
        have npf : p ≠ fo := (ne_of_none (s4 _ _ ef) np).symm
        refine ⟨fo, fs, _, rfl, rfl, ef5, small1000 (by omega), ⟨_, _, _, _, _, _, rfl⟩, fun c o z => ?_, fs ++ [.ref p], upd_same, by rw [List.length_append, hfl]; rfl, fun H6 s6 => ?_⟩
        · rw [upd_ne (ne_of_none z nfo)]
          exact sp _ _ (s4 _ _ (s2 _ _ z))
        · rw [List.take_add_one, eM, List.map_append]
          have s7 : SameB fo H3 H6 := ((SameB.of s4).trans (SameB.of sp)).trans ((SameB.upd _ _ _).trans s6)
          refine dpAll_snoc (dfs H6 s7) ?_
          have k6 : Kt H4 H6 := kt_sameB (s4 _ _ ef) ((SameB.of sp).trans ((SameB.upd _ _ _).trans s6))
          exact .lst (.inl (.inl (s6 _ _ npf ((upd_ne npf).trans upd_same)))) (dpS_kt k6 dys)
    · rintro σ H2 ⟨⟨y4, y5, y6, y7, y8, y9, rfl⟩, s2, fs, ef, hfl, dfs⟩
      refine ⟨_, rfl, q H2 _ s2 (.lst (.inl (.inl ef)) ?_)⟩
      have d := dfs H2 (SameB.refl _ _)
      rw [hlx, List.take_length] at d
      exact d
end
end K46

/-! ## KF10 -/
/-! the law. -/
namespace K46
open PySem PySem.Spec PyProof.Rows L2
open LamX (Tabs ExtN TabB)
/-! ### data are shaped -/
theorem canLay_map {α : Type} {f : α → PyData} (h : ∀ a, (f a).canLay0 = true) : ∀ l : List α, PyData.canLayAll0 (l.map f) = true
  | [] => rfl
  | a :: r => by
    show ((f a).canLay0 && PyData.canLayAll0 (r.map f)) = true
    rw [h a, canLay_map h r]
    rfl
theorem depth_map {α : Type} {f : α → PyData} {n : Nat} (h : ∀ a, (f a).depth ≤ n) : ∀ l : List α, PyData.depthAll (l.map f) ≤ n
  | [] => by simp [PyData.depthAll]
  | a :: r => by
    have h1 := h a
    have h2 := depth_map h r
    rw [List.map_cons, PyData.depthAll]
    omega
theorem canLay_S (s : Step) : (encS s).canLay0 = true := by
  have h : PyData.strOk (kw s.1) = true := by cases s.1 <;> decide +kernel
  show (PyData.strOk (kw s.1) && (true && (true && true))) = true
  rw [h]
  rfl
theorem shaped_of {d : PyData} (h1 : d.canLay0 = true) (h2 : d.depth ≤ 64) : SeqAt.shaped d = true := by
  unfold SeqAt.shaped
  rw [h1, decide_eq_true h2]
  rfl
theorem eqv_self {d : PyData} (h : SeqAt.shaped d = true) : PyData.eqv d d = true := SeqAt.eqv_refl d (SeqAt.canLay_of_shaped h)
theorem shaped_N (l : List Nat) : SeqAt.shaped (.tuple (l.map encN)) = true := by
  refine shaped_of (canLay_map (fun _ => rfl) l) ?_
  have h := depth_map (f := encN) (n := 0) (fun a => by simp [encN, PyData.depth]) l
  rw [PyData.depth]
  omega
theorem shaped_P (l : List (Nat × Nat)) : SeqAt.shaped (.tuple (l.map encP)) = true := by
  refine shaped_of (canLay_map (fun _ => rfl) l) ?_
  have h := depth_map (f := encP) (n := 1) (fun a => by simp [encP, PyData.depth, PyData.depthAll]) l
  rw [PyData.depth]
  omega
theorem shaped_R (n g : Int) (M : List (List Step)) : SeqAt.shaped (.list (M.map (encRow n g))) = true := by
  refine shaped_of (canLay_map (f := encRow n g) (fun l => canLay_map canLay_S (sortS (l.map (turnT n g)))) M) ?_
  have h := depth_map (f := encRow n g) (n := 2) (fun l => by
    have h := depth_map (f := encS) (n := 1) (fun s => by rw [depthS]; exact Nat.le_refl _) (sortS (l.map (turnT n g)))
    unfold encRow
    rw [PyData.depth]
    omega) M
  rw [PyData.depth]
  omega
/-! ### the rows agree -/
def encRow0 (l : List Step) : PyData := .list ((sortS l).map encS)
theorem LayP.le {A B : List (List Step)} {n : Nat} (h : LayP A B) (hb : ∀ b ∈ B, b.length ≤ n) : ∀ a ∈ A, a.length ≤ n := by
  induction h with
  | nil => intro a ha; cases ha
  | cons q _ ih =>
    intro a ha
    rcases List.mem_cons.mp ha with e | e
    · rw [e, q.length_eq]
      exact hb _ (List.mem_cons_self ..)
    · exact ih (fun b hb' => hb b (List.mem_cons_of_mem _ hb')) a e
theorem layers_le (S : List Step) : ∀ b ∈ layersOf S, b.length ≤ S.length := fun b hb => by
  unfold layersOf at hb
  obtain ⟨i, _, rfl⟩ := List.mem_map.mp hb
  exact layer_length S _
theorem layers_len (S : List Step) : (layersOf S).length ≤ S.length + 1 := by
  unfold layersOf
  rw [List.length_map, List.length_range]
  have h := nLayers_le S
  unfold nLayers
  omega
theorem rows_agree {S : List Step} {n g : Int} (k : Keeps (turnT n g)) {M M2 : List (List Step)} (h1 : LayP M (layersOf S)) (h2 : LayP M2 (layersOf (S.map (turnT n g)))) : M.map (encRow n g) = M2.map encRow0 := by
  have e1 : M.map (encRow n g) = (layersOf S).map (encRow n g) := h1.rows fun a b p => by
    unfold encRow
    rw [sortS_perm (p.map (turnT n g))]
  have e2 : M2.map encRow0 = (layersOf (S.map (turnT n g))).map encRow0 := h2.rows fun a b p => by
    unfold encRow0
    rw [sortS_perm p]
  rw [e1, e2, layersOf_map k, List.map_map]
  rfl
theorem mem_okS {S : List Step} {ev : Int} {n g : Int} (hS : ∀ s ∈ S, smallS ev s) (he : ev ≤ 5) (hg : g = 1 ∨ g = -1) (hn : -450 ≤ n ∧ n ≤ 450) : ∀ s ∈ S.map (turnT n g), okS s := fun s hs => by
  obtain ⟨t, ht, rfl⟩ := List.mem_map.mp hs
  obtain ⟨h1, h2, h3, h4⟩ := hS t ht
  refine ⟨⟨h1, by show t.2.1 ≤ 5; omega⟩, ?_⟩
  show -500 ≤ g * t.2.2 + n ∧ g * t.2.2 + n ≤ 500
  rcases hg with e | e <;> rw [e] <;> omega
theorem later_is (n : Int) : (fun s : Step => ((s.1, s.2.1, s.2.2 + n) : Step)) = turnT n 1 := by
  funext s
  unfold turnT
  simp
theorem mirror_is : (fun s : Step => ((!s.1, s.2.1, 0 - s.2.2) : Step)) = turnT 0 (-1) := by
  funext s
  unfold turnT
  simp
def LawG (K : PySem.W.Frag) (Pt : Addr) (S : List Step) (n : Int) (u lv mv : V) (t1 t2 Ld : Addr) (H : Hp) : Prop :=
  Tabs (Tb Pt) H ∧ Dp K H u (.tuple (S.map encS)) ∧ Dp K H lv (.tuple ((S.map (turnT n 1)).map encS)) ∧ Dp K H mv (.tuple ((S.map (turnT 0 (-1))).map encS)) ∧
  SqL K H Ld [.ref t1, .ref t2] ∧ SqT K H t1 [lv, .int 1, .int n] ∧ SqT K H t2 [mv, .int (-1), .int 0]
theorem LawG.kp {K : PySem.W.Frag} {Pt : Addr} {S : List Step} {n : Int} {u lv mv : V} {t1 t2 Ld : Addr} {H H' : Hp} (h : LawG K Pt S n u lv mv t1 t2 Ld H) (k : Kp H H') (t : Tabs (Tb Pt) H') : LawG K Pt S n u lv mv t1 t2 Ld H' := by
  obtain ⟨_, h2, h3, h4, h5, h6, h7⟩ := h
  exact ⟨t, Dp.kp k _ _ h2, Dp.kp k _ _ h3, Dp.kp k _ _ h4, k.seqL h5, k.seqT h6, k.seqT h7⟩
theorem LawG.turn {K : PySem.W.Frag} {Pt : Addr} {S : List Step} {n : Int} {u lv mv : V} {t1 t2 Ld : Addr} {H : Hp} (h : LawG K Pt S n u lv mv t1 t2 Ld H) (hn : -450 ≤ n ∧ n ≤ 450) {i : Nat} {x : V} (hx : ([.ref t1, .ref t2] : List V)[i]? = some x) :
    ∃ (t : Addr) (O : V) (g sh : Int), x = .ref t ∧ SqT K H t [O, .int g, .int sh] ∧ (g = 1 ∨ g = -1) ∧ Keeps (turnT sh g) ∧ Dp K H O (.tuple ((S.map (turnT sh g)).map encS)) ∧ (-450 ≤ sh ∧ sh ≤ 450) := by
  obtain ⟨_, h2, h3, h4, h5, h6, h7⟩ := h
  match i, hx with
  | 0, hx => exact ⟨t1, lv, 1, n, (Option.some.inj hx).symm, h6, .inl rfl, keeps_later n, h3, hn⟩
  | 1, hx => exact ⟨t2, mv, -1, 0, (Option.some.inj hx).symm, h7, .inr rfl, keeps_mirror 0, h4, by omega⟩
  | i + 2, hx => cases hx
/-- a new step goes behind the list at D -/
theorem grow {K : PySem.W.Frag} {H0 H5 H6 : Hp} {D t : Addr} {zs : List V} {L : List Step} {x : Step} (nD : H0 D = none) (s05 : Same H0 H5) (ez : H5 D = some (.lst zs)) (dz : DpAll K H5 zs (L.map encS)) (s56 : Same H5 H6) (nt : H6 t = none) :
    (upd H6 t (.tup [.str (kw x.1), .int x.2.1, .int x.2.2])) D = some (.lst zs) ∧ Same H0 (upd (upd H6 t (.tup [.str (kw x.1), .int x.2.1, .int x.2.2])) D (.lst (zs ++ [.ref t]))) ∧
      DpAll K (upd (upd H6 t (.tup [.str (kw x.1), .int x.2.1, .int x.2.2])) D (.lst (zs ++ [.ref t]))) (zs ++ [.ref t]) ((L ++ [x]).map encS) := by
  have st : Same H6 (upd H6 t (.tup [.str (kw x.1), .int x.2.1, .int x.2.2])) := same_new nt
  have ez7 := st _ _ (s56 _ _ ez)
  refine ⟨ez7, fun c o z => ?_, ?_⟩
  · rw [upd_ne (ne_of_none z nD)]
    exact st _ _ (s56 _ _ (s05 _ _ z))
  · rw [List.map_append]
    exact dpAll_snoc (dpS_kt (((kp_same s56).kt.trans (kp_same st).kt).trans (kt_lst ez7)) dz) (dp_step_of (s := x) ((kt_lst ez7).seq (SqT.of upd_same)))
section
variable {P : Program} {w : World} {K : PySem.W.Frag} {mg : Str → Option Value} {base : Heap}
def spLaw (K : PySem.W.Frag) (Pt : Addr) : Sp := fun vs H Q _ => ∃ (a : Addr) (ns : List Int), vs = [.ref a] ∧ SqL K H a (ns.map V.int) ∧ Tabs (Tb Pt) H ∧ ∀ H', Q (.bl true) H'
theorem scLaw : FnScope ["_law_script", "_law_stream_here", "_law_steps_here", "_law_number", "_law_later", "_law_mirrored", "_law_other", "_law_sign", "_law_shift", "_law_word", "_law_event", "_law_time", "_law_layer"] ["_law_script"] (defScope sLaw) := ⟨rfl, rfl, rfl, by decide +kernel, rfl, by decide +kernel, by decide +kernel⟩
theorem ok_law {Pt : Addr} {f : Addr} {fd : FuncData} (F : Fun K "law" "law" sLaw f fd) (T : Tx mg)
    (C1 : Cal P w K mg base 1 "_law_stream" ["_law_script"] (spStream K)) (C2 : Cal P w K mg base 2 "_law_some_steps" ["_law_stream_here", "_law_events", "_law_most"] (spSomeSteps K)) (C3 : Cal P w K mg base 1 "_law_next" ["_law_stream_here", "_law_many"] (spNext K))
    (C4 : Cal P w K mg base 6 "idle_steps" ["steps"] (spIdleSteps K)) (C5 : Cal P w K mg base 6 "reduction" ["steps"] (spReduction K)) (C6 : Cal P w K mg base 1 "_law_names" ["_law_told", "_law_number", "_law_sign"] (spNames K))
    (C7 : Cal P w K mg base 6 "layers" ["steps"] (spLayers K Pt)) (C8 : Cal P w K mg base 7 "remaining" ["steps"] (spRemaining K)) :
    FnOk P w K mg base CX0 8 f fd ["_law_script"] (spLaw K Pt) := by
  refine F.ok scLaw (fun vs H Q E h => ?_) (fun cdv A outer s H vs Q E hr h => ?_)
  · obtain ⟨a, ns, rfl, _⟩ := h
    rfl
  · obtain ⟨a, ns, rfl, hL, hTb, q⟩ := h
    refine ⟨_, (pss_cons (ps_set (i := 1) scLaw.nd rfl (Or.inl rfl) (pe_cal C1 (hr.mono (by decide)) (by rfl) (pa_cons (pv 0) pa_nil)))
      (pss_cons (ps_set (i := 2) scLaw.nd rfl (Or.inl rfl) (pe_cal C2 (hr.mono (by decide)) (by rfl) (pa_cons (pv 1) (pa_cons pe_int (pa_cons pe_int pa_nil)))))
      (pss_cons (ps_set (i := 3) scLaw.nd rfl (Or.inr rfl) (pe_op op_sub (pe_cal C3 (hr.mono (by decide)) (by rfl) (pa_cons (pv 1) (pa_cons pe_int pa_nil))) pe_int))
      (pss_cons (ps_set (i := 4) scLaw.nd rfl (Or.inl rfl) (pe_callTy call_tuple_of (by rfl) T.tuple (by decide +kernel) (pa_cons (pe_lc (own := [("_law_word", 9), ("_law_event", 10), ("_law_time", 11)]) (g := gTup K 3 (gCons (gName 9) (gCons (gName 10) (gCons (gName 11) gNil)))) (tt := tYes) rfl scLaw.nd (pi_tup (pv 2)) (blkOk_by (own := [("_law_word", 9), ("_law_event", 10), ("_law_time", 11)]) (N := ["_law_script", "_law_stream_here", "_law_steps_here", "_law_number", "_law_later", "_law_mirrored", "_law_other", "_law_sign", "_law_shift", "_law_word", "_law_event", "_law_time", "_law_layer"]) (sc := defScope sLaw) (by decide +kernel)) (fun _ _ _ _ _ => (pg_tup rfl (pgs_cons (pg_name (i := 9) scLaw.nd rfl (Or.inl rfl)) (pgs_cons (pg_name (i := 10) scLaw.nd rfl (Or.inl rfl)) (pgs_cons (pg_name (i := 11) scLaw.nd rfl (Or.inl rfl)) pgs_nil))))) (fun _ _ _ _ _ => pts_nil) (fun _ _ _ _ _ => (pe_tup (pa_cons (pv 9) (pa_cons (pv 10) (pa_cons (pe_op op_add (pv 11) (pv 3)) pa_nil)))))) pa_nil)))
      (pss_cons (ps_set (i := 5) scLaw.nd rfl (Or.inl rfl) (pe_callTy call_tuple_of (by rfl) T.tuple (by decide +kernel) (pa_cons (pe_lc (own := [("_law_word", 9), ("_law_event", 10), ("_law_time", 11)]) (g := gTup K 3 (gCons (gName 9) (gCons (gName 10) (gCons (gName 11) gNil)))) (tt := tYes) rfl scLaw.nd (pi_tup (pv 2)) (blkOk_by (own := [("_law_word", 9), ("_law_event", 10), ("_law_time", 11)]) (N := ["_law_script", "_law_stream_here", "_law_steps_here", "_law_number", "_law_later", "_law_mirrored", "_law_other", "_law_sign", "_law_shift", "_law_word", "_law_event", "_law_time", "_law_layer"]) (sc := defScope sLaw) (by decide +kernel)) (fun _ _ _ _ _ => (pg_tup rfl (pgs_cons (pg_name (i := 9) scLaw.nd rfl (Or.inl rfl)) (pgs_cons (pg_name (i := 10) scLaw.nd rfl (Or.inl rfl)) (pgs_cons (pg_name (i := 11) scLaw.nd rfl (Or.inl rfl)) pgs_nil))))) (fun _ _ _ _ _ => pts_nil) (fun _ _ _ _ _ => (pe_tup (pa_cons (pe_ix (r := rIxL K) ix_list (pe_lst (pa_cons pe_str (pa_cons pe_str pa_nil))) (pe_callTy call_int1 (by rfl) T.int (by decide +kernel) (pa_cons (pe_cmpR op_eq (pv 9) pe_str (nomark _)) pa_nil)) (fun _ _ => rfl)) (pa_cons (pv 10) (pa_cons (pe_op op_sub pe_int (pv 11)) pa_nil)))))) pa_nil)))
      (pss_cons (ps_for PassesOwn.never rfl (pi_list (pe_lst (pa_cons (pe_tup (pa_cons (pv 4) (pa_cons pe_int (pa_cons (pv 3) pa_nil)))) (pa_cons (pe_tup (pa_cons (pv 5) (pa_cons (pe_un un_neg pe_int) (pa_cons pe_int pa_nil)))) pa_nil)))) (pg_tup rfl (pgs_cons (pg_name (i := 6) scLaw.nd rfl (Or.inl rfl)) (pgs_cons (pg_name (i := 7) scLaw.nd rfl (Or.inl rfl)) (pgs_cons (pg_name (i := 8) scLaw.nd rfl (Or.inl rfl)) pgs_nil))))
      (pss_cons (ps_if (PW.pt (pw_or (pt_cmpR (op_neD hr.units) (pe_cal C4 (hr.mono (by decide)) (by rfl) (pa_cons (pv 6) pa_nil)) (pe_cal C4 (hr.mono (by decide)) (by rfl) (pa_cons (pv 2) pa_nil)) (nomark _)) (pw_or1 (pt_cmpR (op_neD hr.units) (pe_cal C5 (hr.mono (by decide)) (by rfl) (pa_cons (pv 6) pa_nil)) (pe_cal C5 (hr.mono (by decide)) (by rfl) (pa_cons (pv 2) pa_nil)) (nomark _))))) (pss_one (ps_ret pe_bl)) pss_nil)
      (pss_cons (ps_if (pt_cmpR (op_neD hr.units) (pe_cal C6 (hr.mono (by decide)) (by rfl) (pa_cons (pe_cal C7 (hr.mono (by decide)) (by rfl) (pa_cons (pv 2) pa_nil)) (pa_cons (pv 8) (pa_cons (pv 7) pa_nil)))) (pe_lc (own := [("_law_layer", 12)]) (g := gName 12) (tt := tYes) rfl scLaw.nd (pi_tup (pe_cal C7 (hr.mono (by decide)) (by rfl) (pa_cons (pv 6) pa_nil))) (blkOk_by (own := [("_law_layer", 12)]) (N := ["_law_script", "_law_stream_here", "_law_steps_here", "_law_number", "_law_later", "_law_mirrored", "_law_other", "_law_sign", "_law_shift", "_law_word", "_law_event", "_law_time", "_law_layer"]) (sc := defScope sLaw) (by decide +kernel)) (fun _ _ _ _ _ => (pg_name (i := 12) scLaw.nd rfl (Or.inl rfl))) (fun _ _ _ _ _ => pts_nil) (fun _ _ _ _ _ => (pe_callB (r := rSortedSt K) (cr_sortedSt hr) (by rfl) T.sorted (by decide +kernel) (pa_cons (pv 12) pa_nil)))) (nomark _)) (pss_one (ps_ret pe_bl)) pss_nil)
      (pss_one (ps_if (pt_cmpR op_ne (pe_callB call_len_seq (by rfl) T.len (by decide +kernel) (pa_cons (pe_cal C8 (hr.mono (by decide)) (by rfl) (pa_cons (pv 6) pa_nil)) pa_nil)) (pe_callB call_len_seq (by rfl) T.len (by decide +kernel) (pa_cons (pe_cal C8 (hr.mono (by decide)) (by rfl) (pa_cons (pv 2) pa_nil)) pa_nil)) (nomark _)) (pss_one (ps_ret pe_bl)) pss_nil)))))
      (pss_one (ps_ret pe_bl)))))))), ?_⟩
    refine ⟨_, rfl, a, ns, rfl, hL, fun H1 p l s1 st1 np nl => ?_⟩
    refine ⟨_, rfl, p, l, 3, 12, rfl, by decide, by decide, by decide, by decide, st1, fun H2 u S s2 st2 du hl hS => ?_⟩
    refine ⟨_, rfl, p, l, 900, rfl, by decide, by decide, st2, fun H3 d d0 d1 s3 st3 => ⟨_, _, rfl, rfl, ?_⟩⟩
    obtain ⟨zp1, hp1⟩ := st1.lst
    obtain ⟨zp2, hp2⟩ := st2.lst
    have hn : -450 ≤ d - 450 ∧ d - 450 ≤ 450 := by omega
    have hT3 : Tabs (Tb Pt) H3 := tabs_sameB (tabs_sameB (hTb.ext s1) hp1 s2) hp2 s3
    have du3 : Dp K H3 u (.tuple (S.map encS)) := Dp.kt (kt_sameB hp2 s3) _ _ (noL_lay S) du
    obtain ⟨ua, xs, rfl, hT, hx⟩ := dp_tup du3
    have hlx : xs.length = S.length := by rw [dpAll_len hx, List.length_map]
    have okS0 : ∀ s ∈ S, okS s := fun s hs => by
      obtain ⟨h1, h2, h3, h4⟩ := hS s hs
      exact ⟨⟨h1, by omega⟩, by omega, by omega⟩
    -- all times later
    refine ⟨_, rfl, ua, rfl, ⟨xs, hT⟩, fun D nD => lc_it walk_tup (fun j H' => Same H3 H' ∧ ∃ zs : List V, H' D = some (.lst zs) ∧ DpAll K H' zs (((S.take j).map fun s : Step => ((s.1, s.2.1, s.2.2 + (d - 450)) : Step)).map encS)) ⟨same_new nD, [], upd_same, .nil⟩ (fun j H' _ z => (kp_same z.1).seqT hT) ?_ ?_⟩
    · rintro j x H4 H5 hj ⟨s4, zs, ez, dz⟩ ⟨rfl, hxj⟩
      have hjS : j < S.length := by omega
      have eS : S[j]? = some S[j] := List.getElem?_eq_getElem hjS
      obtain ⟨t, rfl, hTt⟩ := dp_step (dpAll_get hx hxj (by rw [List.getElem?_map, eS]; rfl) : Dp K H3 x (encS S[j]))
      have hzl : zs.length ≤ 16 := by
        rw [dpAll_len dz, List.length_map, List.length_map, List.length_take]
        omega
      refine ⟨t, _, rfl, (kp_same s4).seqT hTt, rfl, _, _, rfl, _, _, rfl, _, _, rfl, rfl, rfl, ?_⟩
      refine ⟨_, rfl, _, rfl, _, rfl, _, rfl, _, _, rfl, rfl, by show 3 ≤ sizeLine; decide, fun t6 n6 => ?_⟩
      obtain ⟨g1, g2, g3⟩ := grow (x := (S[j].1, S[j].2.1, S[j].2.2 + (d - 450))) nD s4 ez dz (Same.refl _) n6
      refine ⟨zs, g1, small1000 (by omega), g2, _, upd_same, ?_⟩
      rw [List.take_add_one, eS, List.map_append]
      exact g3
    rintro H4 ⟨s4, zs, ez, dz⟩
    rw [hlx, List.take_length, later_is] at dz
    refine ⟨D, zs, rfl, .inl ⟨.inl (.inl ez), fun lv nlv => ?_⟩⟩
    have s5 : Same H4 (upd H4 lv (.tup zs)) := same_new nlv
    have dlv : Dp K (upd H4 lv (.tup zs)) (.ref lv) (.tuple ((S.map (turnT (d - 450) 1)).map encS)) := .tup (SqT.of upd_same) (DpAll.kp (kp_same s5) _ _ dz)
    have s35 : Same H3 (upd H4 lv (.tup zs)) := s4.trans s5
    generalize (upd H4 lv (.tup zs)) = H5 at dlv s35
    clear s5 dz ez zs s4 nlv
    -- mirrored
    refine ⟨_, rfl, ua, rfl, ⟨xs, (kp_same s35).seqT hT⟩, fun D nD => lc_it walk_tup (fun j H' => Same H5 H' ∧ ∃ zs : List V, H' D = some (.lst zs) ∧ DpAll K H' zs (((S.take j).map fun s : Step => ((!s.1, s.2.1, 0 - s.2.2) : Step)).map encS)) ⟨same_new nD, [], upd_same, .nil⟩ (fun j H' _ z => (kp_same (s35.trans z.1)).seqT hT) ?_ ?_⟩
    · rintro j x H6 H7 hj ⟨s6, zs, ez, dz⟩ ⟨rfl, hxj⟩
      have hjS : j < S.length := by omega
      have eS : S[j]? = some S[j] := List.getElem?_eq_getElem hjS
      obtain ⟨t, rfl, hTt⟩ := dp_step (dpAll_get hx hxj (by rw [List.getElem?_map, eS]; rfl) : Dp K H3 x (encS S[j]))
      have hzl : zs.length ≤ 16 := by
        rw [dpAll_len dz, List.length_map, List.length_map, List.length_take]
        omega
      have hb : atI [V.str "raise", V.str "lower"] (if decide (V.str (kw S[j].1) = V.str "raise") = true then 1 else 0) = some (.str (kw (!S[j].1))) := by
        cases S[j].1 <;> rfl
      refine ⟨t, _, rfl, (kp_same (s35.trans s6)).seqT hTt, rfl, _, _, rfl, _, _, rfl, _, _, rfl, rfl, rfl, ?_⟩
      refine ⟨by show 2 ≤ sizeLine; decide, fun r nr => ⟨_, rfl, rfl, .inr ⟨_, rfl, r, _, _, _, rfl, rfl, .inl (.inl upd_same), hb, _, rfl, _, rfl, _, _, rfl, rfl, by show 3 ≤ sizeLine; decide, fun t6 n6 => ?_⟩⟩⟩
      obtain ⟨g1, g2, g3⟩ := grow (x := (!S[j].1, S[j].2.1, 0 - S[j].2.2)) nD s6 ez dz (same_new nr) n6
      refine ⟨zs, g1, small1000 (by omega), g2, _, upd_same, ?_⟩
      rw [List.take_add_one, eS, List.map_append]
      exact g3
    rintro H6 ⟨s6, zs, ez, dz⟩
    rw [hlx, List.take_length, mirror_is] at dz
    refine ⟨D, zs, rfl, .inl ⟨.inl (.inl ez), fun mv nmv => ?_⟩⟩
    have s7 : Same H6 (upd H6 mv (.tup zs)) := same_new nmv
    have dmv : Dp K (upd H6 mv (.tup zs)) (.ref mv) (.tuple ((S.map (turnT 0 (-1))).map encS)) := .tup (SqT.of upd_same) (DpAll.kp (kp_same s7) _ _ dz)
    have s57 : Same H5 (upd H6 mv (.tup zs)) := s6.trans s7
    generalize (upd H6 mv (.tup zs)) = H7 at dmv s57
    clear s7 dz ez zs s6 nmv
    -- the two turns
    refine ⟨_, rfl, _, rfl, by show 3 ≤ sizeLine; decide, fun t1 n1 => ⟨_, rfl, _, rfl, by show 3 ≤ sizeLine; decide, fun t2 n2 => ⟨by show 2 ≤ sizeLine; decide, fun Ld nL => ?_⟩⟩⟩
    have g0 : LawG K Pt S (d - 450) (.ref ua) (.ref lv) (.ref mv) t1 t2 Ld (upd (upd (upd H7 t1 (.tup [.ref lv, .int 1, .int (d - 450)])) t2 (.tup [.ref mv, .int (-1), .int 0])) Ld (.lst [.ref t1, .ref t2])) := by
      have a1 := kp_new (o := .tup [.ref lv, .int 1, .int (d - 450)]) n1
      have a2 := kp_new (o := .tup [.ref mv, .int (-1), .int 0]) n2
      have a3 := kp_new (o := .lst [.ref t1, .ref t2]) nL
      have k := (a1.trans a2).trans a3
      exact ⟨(hT3.ext (s35.trans s57)).ext ((same_new n1).trans ((same_new n2).trans (same_new nL))), Dp.kp ((kp_same (s35.trans s57)).trans k) _ _ du3, Dp.kp ((kp_same s57).trans k) _ _ dlv, Dp.kp k _ _ dmv, .inl (.inl upd_same), (a2.trans a3).seqT (SqT.of upd_same), a3.seqT (SqT.of upd_same)⟩
    refine ⟨Ld, rfl, ⟨_, .inl (.inl upd_same)⟩, ?_⟩
    refine for_it (walk_list (xs := [.ref t1, .ref t2])) (fun i σ H' => (∃ y6 y7 y8, σ = [some (.ref a), some (.ref p), some (.ref ua), some (.int (d - 450)), some (.ref lv), some (.ref mv), y6, y7, y8, none, none, none, none]) ∧ LawG K Pt S (d - 450) (.ref ua) (.ref lv) (.ref mv) t1 t2 Ld H') ⟨⟨_, _, _, rfl⟩, g0⟩ (fun i σ H' _ z => z.2.2.2.2.2.1) ?_ ?_
    · rintro i x σ H8 H9 hi ⟨⟨y6, y7, y8, rfl⟩, G⟩ ⟨rfl, hxi⟩
      obtain ⟨t, O, g, sh, rfl, hTt, hg, hK, dO, hsh⟩ := G.turn hn hxi
      have okO := mem_okS hS (by decide : (3 : Int) ≤ 5) hg hsh
      have lO : (S.map (turnT sh g)).length ≤ 16 := by
        rw [List.length_map]
        exact hl
      refine ⟨t, _, rfl, hTt, rfl, _, _, rfl, _, _, rfl, _, _, rfl, rfl, ?_⟩
      -- the idle steps
      refine ⟨_, rfl, O, _, rfl, dO, lO, okO, fun HA uA sA dA => ⟨_, rfl, .ref ua, S, rfl, Dp.kp (kp_same sA) _ _ G.2.1, hl, okS0, fun HB uB sB dB => ⟨_, _, Dp.kp (kp_same sB) _ _ dA, dB, shaped_N _, shaped_N _, _, rfl, ?_⟩⟩⟩
      rw [idleSteps_map hK, eqv_self (shaped_N _)]
      refine iteF ?_
      have sAB := sA.trans sB
      -- the reduction
      refine ⟨_, rfl, O, _, rfl, Dp.kp (kp_same sAB) _ _ dO, lO, okO, fun HC uC sC dC => ⟨_, rfl, .ref ua, S, rfl, Dp.kp (kp_same (sAB.trans sC)) _ _ G.2.1, hl, okS0, fun HD uD sD dD => ⟨_, _, Dp.kp (kp_same sD) _ _ dC, dD, shaped_P _, shaped_P _, _, rfl, ?_⟩⟩⟩
      rw [red_map hK, eqv_self (shaped_P _)]
      refine iteF ?_
      have sAD := (sAB.trans sC).trans sD
      have kAD := kp_same sAD
      -- the layers
      refine ⟨_, rfl, .ref ua, S, rfl, Dp.kp kAD _ _ G.2.1, hl, okS0, G.1.ext sAD, fun HE uE M xE tE hM dE => ?_⟩
      have hMl : M.length ≤ 100 := by
        have h1 := hM.length
        have h2 := layers_len S
        omega
      have hMs : ∀ m ∈ M, m.length ≤ 16 := hM.le fun b hb => Nat.le_trans (layers_le S b hb) hl
      refine ⟨_, rfl, _, rfl, uE, sh, g, M, rfl, hg, dE, hMs, hMl, fun HF uF sF dF => ?_⟩
      have kF := (kAD.trans (kp_ext xE)).trans (kp_same sF)
      refine ⟨_, rfl, O, _, rfl, Dp.kp kF _ _ dO, lO, okO, tE.ext sF, fun HG uG M2 xG tG hM2 dG => ?_⟩
      have kG := kF.trans (kp_ext xG)
      obtain ⟨aG, xsG, rfl, hTG, hxG⟩ := dp_tup dG
      have hlG : xsG.length = M2.length := by rw [dpAll_len hxG, List.length_map]
      have hM2l : M2.length ≤ 100 := by
        have h1 := hM2.length
        have h2 := layers_len (S.map (turnT sh g))
        omega
      refine ⟨aG, rfl, ⟨xsG, hTG⟩, fun D nD => lc_it walk_tup (fun j H' => Same HG H' ∧ ∃ zs : List V, H' D = some (.lst zs) ∧ zs.length = j ∧ ∀ H'', SameB D H' H'' → DpAll K H'' zs ((M2.take j).map encRow0)) ⟨same_new nD, [], upd_same, rfl, fun _ _ => .nil⟩ (fun j H' _ z => (kp_same z.1).seqT hTG) ?_ ?_⟩
      · rintro j x HH HI hj ⟨sH, zs, ez, ezl, dz⟩ ⟨rfl, hxj⟩
        have hjM : j < M2.length := by omega
        have eM : M2[j]? = some M2[j] := List.getElem?_eq_getElem hjM
        have dl : Dp K HG x (encLay M2[j]) := dpAll_get hxG hxj (by rw [List.getElem?_map, eM]; rfl)
        obtain ⟨b, ys0, rfl, hTb, hz⟩ := dp_tup dl
        refine ⟨rfl, _, rfl, b, ys0, M2[j], rfl, .inr ((kp_same sH).seqT hTb), DpAll.kp (kp_same sH) _ _ hz, fun ys q2 dys np => ?_⟩
        have sp : Same HI (upd HI q2 (.lst ys)) := same_new np
        have ez2 := sp _ _ ez
        have npD : q2 ≠ D := (ne_of_none ez np).symm
        refine ⟨zs, ez2, small1000 (by omega), fun c o z => ?_, zs ++ [.ref q2], upd_same, by rw [List.length_append, ezl]; rfl, fun HJ sJ => ?_⟩
        · rw [upd_ne (ne_of_none z nD)]
          exact sp _ _ (sH _ _ z)
        · rw [List.take_add_one, eM, List.map_append]
          have s7 : SameB D HI HJ := (SameB.of sp).trans ((SameB.upd _ _ _).trans sJ)
          refine dpAll_snoc (dz HJ s7) ?_
          exact .lst (.inl (.inl (sJ _ _ npD ((upd_ne npD).trans upd_same)))) (dpS_kt (kt_sameB ez s7) dys)
      rintro HH ⟨sH, zs, ez, ezl, dz⟩
      have dz1 := dz HH (SameB.refl _ _)
      rw [hlG, List.take_length, ← rows_agree hK hM hM2] at dz1
      refine ⟨_, _, Dp.kp ((kp_ext xG).trans (kp_same sH)) _ _ dF, .lst (.inl (.inl ez)) dz1, shaped_R _ _ _, shaped_R _ _ _, _, rfl, ?_⟩
      rw [eqv_self (shaped_R _ _ _)]
      refine iteF ?_
      have kH := kG.trans (kp_same sH)
      have tH := tG.ext sH
      -- how many remain
      refine ⟨_, rfl, O, _, rfl, Dp.kp kH _ _ dO, lO, okO, fun HJ uJ sJ dJ => ?_⟩
      obtain ⟨aJ, xJ, rfl, hTJ, hxJ⟩ := dp_tup dJ
      refine ⟨aJ, _, rfl, .inr hTJ, _, rfl, .ref ua, S, rfl, Dp.kp (kH.trans (kp_same sJ)) _ _ G.2.1, hl, okS0, fun HK uK sK dK => ?_⟩
      obtain ⟨aK, xK, rfl, hTK, hxK⟩ := dp_tup dK
      have el : xJ.length = xK.length := by
        rw [dpAll_len hxJ, dpAll_len hxK, red_map hK, sub_map hK, List.length_map, List.length_map, List.length_map]
      refine ⟨aK, _, rfl, .inr hTK, rfl, _, rfl, ?_⟩
      rw [el, decide_eq_true rfl]
      refine iteF ?_
      exact ⟨⟨_, _, _, rfl⟩, G.kp ((kH.trans (kp_same sJ)).trans (kp_same sK)) ((tH.ext sJ).ext sK)⟩
    · rintro σ H8 ⟨⟨y6, y7, y8, rfl⟩, G⟩
      exact q H8
end
end K46

/-! ## KEnd -/
/-! ### what the top has written (each a fact that k_is finds), and the law's own head -/
namespace K46
open PySem PySem.Spec PyProof.Rows L2
open LamX (Tabs ExtN TabB)
theorem all_mk {l : PySem.W.OpenLaw} {w : World} {K : PySem.W.Frag} {h : Heap} {mg : Str → Option Value} {fa Pt c : Addr} (X : K.In h) (G : h.Ns mainGlobals mg) (hfa : mg "law" = some (.ref fa)) (tab : h.get? Pt = some { cls := .none, data := .fields #[] })
    {f0 : Addr} {od0 an0 : Option Addr} {sl0 : Array (Option Value)} {oc0 kV0 dc0 pm0 cd0 ct0 : Value} (a0 : PySem.W.nsIn K mainGlobals "is_integer" = some (some (.ref f0)))
    (l0 : K.lookup f0 = some ⟨oc0, od0, .func (PySem.W.fnOf "is_integer" "is_integer" (defArgs sIsInt) (defBody sIsInt) (defScope sIsInt) .none kV0 dc0 pm0 an0 cd0 ct0), sl0⟩) (c0 : PySem.W.codeIn K cd0 "is_integer" = true) (k0 : PySem.W.keepIn K (.ref f0) = true)
    {f1 : Addr} {od1 an1 : Option Addr} {sl1 : Array (Option Value)} {oc1 kV1 dc1 pm1 cd1 ct1 : Value} (a1 : PySem.W.nsIn K mainGlobals "is_event_time" = some (some (.ref f1)))
    (l1 : K.lookup f1 = some ⟨oc1, od1, .func (PySem.W.fnOf "is_event_time" "is_event_time" (defArgs sEvT) (defBody sEvT) (defScope sEvT) .none kV1 dc1 pm1 an1 cd1 ct1), sl1⟩) (c1 : PySem.W.codeIn K cd1 "is_event_time" = true) (k1 : PySem.W.keepIn K (.ref f1) = true)
    {f2 : Addr} {od2 an2 : Option Addr} {sl2 : Array (Option Value)} {oc2 kV2 dc2 pm2 cd2 ct2 : Value} (a2 : PySem.W.nsIn K mainGlobals "is_step" = some (some (.ref f2)))
    (l2 : K.lookup f2 = some ⟨oc2, od2, .func (PySem.W.fnOf "is_step" "is_step" (defArgs sIsStep) (defBody sIsStep) (defScope sIsStep) .none kV2 dc2 pm2 an2 cd2 ct2), sl2⟩) (c2 : PySem.W.codeIn K cd2 "is_step" = true) (k2 : PySem.W.keepIn K (.ref f2) = true)
    {f3 : Addr} {od3 an3 : Option Addr} {sl3 : Array (Option Value)} {oc3 kV3 dc3 pm3 cd3 ct3 : Value} (a3 : PySem.W.nsIn K mainGlobals "are_steps" = some (some (.ref f3)))
    (l3 : K.lookup f3 = some ⟨oc3, od3, .func (PySem.W.fnOf "are_steps" "are_steps" (defArgs sAreSteps) (defBody sAreSteps) (defScope sAreSteps) .none kV3 dc3 pm3 an3 cd3 ct3), sl3⟩) (c3 : PySem.W.codeIn K cd3 "are_steps" = true) (k3 : PySem.W.keepIn K (.ref f3) = true)
    {f4 : Addr} {od4 an4 : Option Addr} {sl4 : Array (Option Value)} {oc4 kV4 dc4 pm4 cd4 ct4 : Value} (a4 : PySem.W.nsIn K mainGlobals "check_steps" = some (some (.ref f4)))
    (l4 : K.lookup f4 = some ⟨oc4, od4, .func (PySem.W.fnOf "check_steps" "check_steps" (defArgs sCheck) (defBody sCheck) (defScope sCheck) .none kV4 dc4 pm4 an4 cd4 ct4), sl4⟩) (c4 : PySem.W.codeIn K cd4 "check_steps" = true) (k4 : PySem.W.keepIn K (.ref f4) = true)
    {f5 : Addr} {od5 an5 : Option Addr} {sl5 : Array (Option Value)} {oc5 kV5 dc5 pm5 cd5 ct5 : Value} (a5 : PySem.W.nsIn K mainGlobals "do_commute" = some (some (.ref f5)))
    (l5 : K.lookup f5 = some ⟨oc5, od5, .func (PySem.W.fnOf "do_commute" "do_commute" (defArgs sCommute) (defBody sCommute) (defScope sCommute) .none kV5 dc5 pm5 an5 cd5 ct5), sl5⟩) (c5 : PySem.W.codeIn K cd5 "do_commute" = true) (k5 : PySem.W.keepIn K (.ref f5) = true)
    {f6 : Addr} {od6 an6 : Option Addr} {sl6 : Array (Option Value)} {oc6 kV6 dc6 pm6 ct6 : Value} (a6 : PySem.W.nsIn K mainGlobals "layers_in" = some (some (.ref f6)))
    (l6 : K.lookup f6 = some ⟨oc6, od6, .func (PySem.W.fnOf "layers_in" "layers_in" (defArgs sLayersIn) (defBody sLayersIn) (defScope sLayersIn) .none kV6 dc6 pm6 an6 (.ref c) ct6), sl6⟩) (c6 : PySem.W.codeIn K (.ref c) "layers_in" = true) (k6 : PySem.W.keepIn K (.ref f6) = true)
    {f7 : Addr} {od7 an7 : Option Addr} {sl7 : Array (Option Value)} {oc7 kV7 dc7 pm7 cd7 ct7 : Value} (a7 : PySem.W.nsIn K mainGlobals "layers" = some (some (.ref f7)))
    (l7 : K.lookup f7 = some ⟨oc7, od7, .func (PySem.W.fnOf "layers" "layers" (defArgs sLayers) (defBody sLayers) (defScope sLayers) .none kV7 dc7 pm7 an7 cd7 ct7), sl7⟩) (c7 : PySem.W.codeIn K cd7 "layers" = true) (k7 : PySem.W.keepIn K (.ref f7) = true)
    {f8 : Addr} {od8 an8 : Option Addr} {sl8 : Array (Option Value)} {oc8 kV8 dc8 pm8 cd8 ct8 : Value} (a8 : PySem.W.nsIn K mainGlobals "is_stronger" = some (some (.ref f8)))
    (l8 : K.lookup f8 = some ⟨oc8, od8, .func (PySem.W.fnOf "is_stronger" "is_stronger" (defArgs sStronger) (defBody sStronger) (defScope sStronger) .none kV8 dc8 pm8 an8 cd8 ct8), sl8⟩) (c8 : PySem.W.codeIn K cd8 "is_stronger" = true) (k8 : PySem.W.keepIn K (.ref f8) = true)
    {f9 : Addr} {od9 an9 : Option Addr} {sl9 : Array (Option Value)} {oc9 kV9 dc9 pm9 cd9 ct9 : Value} (a9 : PySem.W.nsIn K mainGlobals "makes_idle" = some (some (.ref f9)))
    (l9 : K.lookup f9 = some ⟨oc9, od9, .func (PySem.W.fnOf "makes_idle" "makes_idle" (defArgs sMakesIdle) (defBody sMakesIdle) (defScope sMakesIdle) .none kV9 dc9 pm9 an9 cd9 ct9), sl9⟩) (c9 : PySem.W.codeIn K cd9 "makes_idle" = true) (k9 : PySem.W.keepIn K (.ref f9) = true)
    {f10 : Addr} {od10 an10 : Option Addr} {sl10 : Array (Option Value)} {oc10 kV10 dc10 pm10 cd10 ct10 : Value} (a10 : PySem.W.nsIn K mainGlobals "why_idle" = some (some (.ref f10)))
    (l10 : K.lookup f10 = some ⟨oc10, od10, .func (PySem.W.fnOf "why_idle" "why_idle" (defArgs sWhyIdle) (defBody sWhyIdle) (defScope sWhyIdle) .none kV10 dc10 pm10 an10 cd10 ct10), sl10⟩) (c10 : PySem.W.codeIn K cd10 "why_idle" = true) (k10 : PySem.W.keepIn K (.ref f10) = true)
    {f11 : Addr} {od11 an11 : Option Addr} {sl11 : Array (Option Value)} {oc11 kV11 dc11 pm11 cd11 ct11 : Value} (a11 : PySem.W.nsIn K mainGlobals "idle_steps" = some (some (.ref f11)))
    (l11 : K.lookup f11 = some ⟨oc11, od11, .func (PySem.W.fnOf "idle_steps" "idle_steps" (defArgs sIdleSteps) (defBody sIdleSteps) (defScope sIdleSteps) .none kV11 dc11 pm11 an11 cd11 ct11), sl11⟩) (c11 : PySem.W.codeIn K cd11 "idle_steps" = true) (k11 : PySem.W.keepIn K (.ref f11) = true)
    {f12 : Addr} {od12 an12 : Option Addr} {sl12 : Array (Option Value)} {oc12 kV12 dc12 pm12 cd12 ct12 : Value} (a12 : PySem.W.nsIn K mainGlobals "first_idle" = some (some (.ref f12)))
    (l12 : K.lookup f12 = some ⟨oc12, od12, .func (PySem.W.fnOf "first_idle" "first_idle" (defArgs sFirstIdle) (defBody sFirstIdle) (defScope sFirstIdle) .none kV12 dc12 pm12 an12 cd12 ct12), sl12⟩) (c12 : PySem.W.codeIn K cd12 "first_idle" = true) (k12 : PySem.W.keepIn K (.ref f12) = true)
    {f13 : Addr} {od13 an13 : Option Addr} {sl13 : Array (Option Value)} {oc13 kV13 dc13 pm13 cd13 ct13 : Value} (a13 : PySem.W.nsIn K mainGlobals "reduction_of" = some (some (.ref f13)))
    (l13 : K.lookup f13 = some ⟨oc13, od13, .func (PySem.W.fnOf "reduction_of" "reduction_of" (defArgs sReductionOf) (defBody sReductionOf) (defScope sReductionOf) .none kV13 dc13 pm13 an13 cd13 ct13), sl13⟩) (c13 : PySem.W.codeIn K cd13 "reduction_of" = true) (k13 : PySem.W.keepIn K (.ref f13) = true)
    {f14 : Addr} {od14 an14 : Option Addr} {sl14 : Array (Option Value)} {oc14 kV14 dc14 pm14 cd14 ct14 : Value} (a14 : PySem.W.nsIn K mainGlobals "remaining_of" = some (some (.ref f14)))
    (l14 : K.lookup f14 = some ⟨oc14, od14, .func (PySem.W.fnOf "remaining_of" "remaining_of" (defArgs sRemainingOf) (defBody sRemainingOf) (defScope sRemainingOf) .none kV14 dc14 pm14 an14 cd14 ct14), sl14⟩) (c14 : PySem.W.codeIn K cd14 "remaining_of" = true) (k14 : PySem.W.keepIn K (.ref f14) = true)
    {f15 : Addr} {od15 an15 : Option Addr} {sl15 : Array (Option Value)} {oc15 kV15 dc15 pm15 cd15 ct15 : Value} (a15 : PySem.W.nsIn K mainGlobals "remaining" = some (some (.ref f15)))
    (l15 : K.lookup f15 = some ⟨oc15, od15, .func (PySem.W.fnOf "remaining" "remaining" (defArgs sRemaining) (defBody sRemaining) (defScope sRemaining) .none kV15 dc15 pm15 an15 cd15 ct15), sl15⟩) (c15 : PySem.W.codeIn K cd15 "remaining" = true) (k15 : PySem.W.keepIn K (.ref f15) = true)
    {f16 : Addr} {od16 an16 : Option Addr} {sl16 : Array (Option Value)} {oc16 kV16 dc16 pm16 cd16 ct16 : Value} (a16 : PySem.W.nsIn K mainGlobals "reduction" = some (some (.ref f16)))
    (l16 : K.lookup f16 = some ⟨oc16, od16, .func (PySem.W.fnOf "reduction" "reduction" (defArgs sReduction) (defBody sReduction) (defScope sReduction) .none kV16 dc16 pm16 an16 cd16 ct16), sl16⟩) (c16 : PySem.W.codeIn K cd16 "reduction" = true) (k16 : PySem.W.keepIn K (.ref f16) = true)
    {f17 : Addr} {od17 an17 : Option Addr} {sl17 : Array (Option Value)} {oc17 kV17 dc17 pm17 cd17 ct17 : Value} (a17 : PySem.W.nsIn K mainGlobals "_law_stream" = some (some (.ref f17)))
    (l17 : K.lookup f17 = some ⟨oc17, od17, .func (PySem.W.fnOf "_law_stream" "_law_stream" (defArgs sStream) (defBody sStream) (defScope sStream) .none kV17 dc17 pm17 an17 cd17 ct17), sl17⟩) (c17 : PySem.W.codeIn K cd17 "_law_stream" = true) (k17 : PySem.W.keepIn K (.ref f17) = true)
    {f18 : Addr} {od18 an18 : Option Addr} {sl18 : Array (Option Value)} {oc18 kV18 dc18 pm18 cd18 ct18 : Value} (a18 : PySem.W.nsIn K mainGlobals "_law_next" = some (some (.ref f18)))
    (l18 : K.lookup f18 = some ⟨oc18, od18, .func (PySem.W.fnOf "_law_next" "_law_next" (defArgs sNext) (defBody sNext) (defScope sNext) .none kV18 dc18 pm18 an18 cd18 ct18), sl18⟩) (c18 : PySem.W.codeIn K cd18 "_law_next" = true) (k18 : PySem.W.keepIn K (.ref f18) = true)
    {f19 : Addr} {od19 an19 : Option Addr} {sl19 : Array (Option Value)} {oc19 kV19 dc19 pm19 cd19 ct19 : Value} (a19 : PySem.W.nsIn K mainGlobals "_law_some_steps" = some (some (.ref f19)))
    (l19 : K.lookup f19 = some ⟨oc19, od19, .func (PySem.W.fnOf "_law_some_steps" "_law_some_steps" (defArgs sSomeSteps) (defBody sSomeSteps) (defScope sSomeSteps) .none kV19 dc19 pm19 an19 cd19 ct19), sl19⟩) (c19 : PySem.W.codeIn K cd19 "_law_some_steps" = true) (k19 : PySem.W.keepIn K (.ref f19) = true)
    {f20 : Addr} {od20 an20 : Option Addr} {sl20 : Array (Option Value)} {oc20 kV20 dc20 pm20 cd20 ct20 : Value} (a20 : PySem.W.nsIn K mainGlobals "_law_names" = some (some (.ref f20)))
    (l20 : K.lookup f20 = some ⟨oc20, od20, .func (PySem.W.fnOf "_law_names" "_law_names" (defArgs sNames) (defBody sNames) (defScope sNames) .none kV20 dc20 pm20 an20 cd20 ct20), sl20⟩) (c20 : PySem.W.codeIn K cd20 "_law_names" = true) (k20 : PySem.W.keepIn K (.ref f20) = true)
    {f21 : Addr} {od21 an21 : Option Addr} {sl21 : Array (Option Value)} {oc21 kV21 dc21 pm21 cd21 ct21 : Value} (a21 : PySem.W.nsIn K mainGlobals "law" = some (some (.ref f21)))
    (l21 : K.lookup f21 = some ⟨oc21, od21, .func (PySem.W.fnOf "law" "law" (defArgs sLaw) (defBody sLaw) (defScope sLaw) .none kV21 dc21 pm21 an21 cd21 ct21), sl21⟩) (c21 : PySem.W.codeIn K cd21 "law" = true) (k21 : PySem.W.keepIn K (.ref f21) = true)
    (z0 : PySem.W.nsIn K mainGlobals "isinstance" = some none) (z1 : PySem.W.nsIn K mainGlobals "int" = some none) (z2 : PySem.W.nsIn K mainGlobals "bool" = some none) (z3 : PySem.W.nsIn K mainGlobals "tuple" = some none) (z4 : PySem.W.nsIn K mainGlobals "len" = some none) (z5 : PySem.W.nsIn K mainGlobals "str" = some none) (z6 : PySem.W.nsIn K mainGlobals "all" = some none) (z7 : PySem.W.nsIn K mainGlobals "enumerate" = some none) (z8 : PySem.W.nsIn K mainGlobals "range" = some none) (z9 : PySem.W.nsIn K mainGlobals "max" = some none) (z10 : PySem.W.nsIn K mainGlobals "zip" = some none) (z11 : PySem.W.nsIn K mainGlobals "sorted" = some none) (z12 : PySem.W.nsIn K mainGlobals "list" = some none) (z13 : PySem.W.nsIn K mainGlobals "abs" = some none)
    {t0 t1 t2 : Tok} (m0 : PySem.W.nsIn K mainGlobals "MOST_EVENT" = some (some (.int 5 t0))) (m1 : PySem.W.nsIn K mainGlobals "MOST_TIME" = some (some (.int 500 t1))) (m2 : PySem.W.nsIn K mainGlobals "MOST_STEPS" = some (some (.int 16 t2)))
    (nT : K.lookup Pt = none) (hC : PySem.W.codeHdIn K c Pt = true) :
    LamX.LawAtS l w K CX0 8 63 "_law_script" mg fa h := by
  have e := hfa.symm.trans (PySem.W.mg_of X G a21)
  cases e
  have T : Tx mg := ⟨PySem.W.mg_none_of X G z0, PySem.W.mg_none_of X G z1, PySem.W.mg_none_of X G z2, PySem.W.mg_none_of X G z3, PySem.W.mg_none_of X G z4, PySem.W.mg_none_of X G z5, PySem.W.mg_none_of X G z6, PySem.W.mg_none_of X G z7, PySem.W.mg_none_of X G z8, PySem.W.mg_none_of X G z9, PySem.W.mg_none_of X G z10, PySem.W.mg_none_of X G z11, PySem.W.mg_none_of X G z12, PySem.W.mg_none_of X G z13, ⟨_, PySem.W.mg_of X G m0⟩, ⟨_, PySem.W.mg_of X G m1⟩, ⟨_, PySem.W.mg_of X G m2⟩⟩
  have F0 := fun_mk (st := sIsInt) l0 c0 k0
  have g0 := PySem.W.mg_of X G a0
  have F1 := fun_mk (st := sEvT) l1 c1 k1
  have g1 := PySem.W.mg_of X G a1
  have F2 := fun_mk (st := sIsStep) l2 c2 k2
  have g2 := PySem.W.mg_of X G a2
  have F3 := fun_mk (st := sAreSteps) l3 c3 k3
  have g3 := PySem.W.mg_of X G a3
  have F4 := fun_mk (st := sCheck) l4 c4 k4
  have g4 := PySem.W.mg_of X G a4
  have F5 := fun_mk (st := sCommute) l5 c5 k5
  have g5 := PySem.W.mg_of X G a5
  have F6 : FunC K "layers_in" "layers_in" sLayersIn c f6 _ := ⟨⟨_, _, _, _, _, _, _, _, rfl, l6, c6⟩, k6⟩
  have g6 := PySem.W.mg_of X G a6
  have F7 := fun_mk (st := sLayers) l7 c7 k7
  have g7 := PySem.W.mg_of X G a7
  have F8 := fun_mk (st := sStronger) l8 c8 k8
  have g8 := PySem.W.mg_of X G a8
  have F9 := fun_mk (st := sMakesIdle) l9 c9 k9
  have g9 := PySem.W.mg_of X G a9
  have F10 := fun_mk (st := sWhyIdle) l10 c10 k10
  have g10 := PySem.W.mg_of X G a10
  have F11 := fun_mk (st := sIdleSteps) l11 c11 k11
  have g11 := PySem.W.mg_of X G a11
  have F12 := fun_mk (st := sFirstIdle) l12 c12 k12
  have g12 := PySem.W.mg_of X G a12
  have F13 := fun_mk (st := sReductionOf) l13 c13 k13
  have g13 := PySem.W.mg_of X G a13
  have F14 := fun_mk (st := sRemainingOf) l14 c14 k14
  have g14 := PySem.W.mg_of X G a14
  have F15 := fun_mk (st := sRemaining) l15 c15 k15
  have g15 := PySem.W.mg_of X G a15
  have F16 := fun_mk (st := sReduction) l16 c16 k16
  have g16 := PySem.W.mg_of X G a16
  have F17 := fun_mk (st := sStream) l17 c17 k17
  have g17 := PySem.W.mg_of X G a17
  have F18 := fun_mk (st := sNext) l18 c18 k18
  have g18 := PySem.W.mg_of X G a18
  have F19 := fun_mk (st := sSomeSteps) l19 c19 k19
  have g19 := PySem.W.mg_of X G a19
  have F20 := fun_mk (st := sNames) l20 c20 k20
  have g20 := PySem.W.mg_of X G a20
  have F21 := fun_mk (st := sLaw) l21 c21 k21
  have g21 := PySem.W.mg_of X G a21
  refine ⟨PySem.W.fnOf "law" "law" (defArgs sLaw) (defBody sLaw) (defScope sLaw) .none kV21 dc21 pm21 an21 cd21 ct21, [(c, Pt)], spLaw K Pt, fun p hp => ?_, fun p hp => ?_, fun p hp => ?_, fun s u => .of_eq rfl, fun H a ns hl hz hp hS => ?_, fun base _ _ TB => ?_⟩
  · rw [List.mem_singleton.mp hp]
    exact tab
  · rw [List.mem_singleton.mp hp]
    exact nT
  · rw [List.mem_singleton.mp hp]
    exact PySem.W.codeHd_of_K X hC
  · refine ⟨a, ns, rfl, hS, fun p hq => ?_, fun _ => rfl⟩
    rw [List.mem_singleton.mp hq]
    exact LamX.TabS.nil (hp (c, Pt) (List.mem_singleton.mpr rfl))
  · have TB0 : TabB base mg c Pt := TB (c, Pt) (List.mem_singleton.mpr rfl)
    have C_isInt := cal_isInt (P := l.prog) (w := w) (base := base) F0 g0 T
    have C_evT := cal_evT (P := l.prog) (w := w) (base := base) F1 g1 T C_isInt
    have C_isStep := cal_isStep (P := l.prog) (w := w) (base := base) F2 g2 T C_evT
    have C_are := cal_areSteps (P := l.prog) (w := w) (base := base) F3 g3 T C_isStep
    have C_check := cal_check (P := l.prog) (w := w) (base := base) F4 g4 T C_are
    have C_com := cal_commute (P := l.prog) (w := w) (base := base) F5 g5
    have C_layIn := cal_layersIn (P := l.prog) (w := w) (base := base) F6 g6 TB0 T C_com
    have C_lay := cal_layers (P := l.prog) (w := w) (base := base) F7 g7 T C_layIn C_check
    have C_str := cal_stronger (P := l.prog) (w := w) (base := base) F8 g8
    have C_mk := cal_makesIdle (P := l.prog) (w := w) (base := base) F9 g9 T C_str C_com
    have C_why := cal_whyIdle (P := l.prog) (w := w) (base := base) F10 g10 T C_mk
    have C_idle := cal_idleSteps (P := l.prog) (w := w) (base := base) F11 g11 T C_why C_check
    have C_first := cal_firstIdle (P := l.prog) (w := w) (base := base) F12 g12 T C_why
    have C_redOf := cal_reductionOf (P := l.prog) (w := w) (base := base) F13 g13 T C_first
    have C_remOf := cal_remainingOf (P := l.prog) (w := w) (base := base) F14 g14 T C_redOf
    have C_rem := cal_remaining (P := l.prog) (w := w) (base := base) F15 g15 T C_remOf C_check
    have C_red := cal_reduction (P := l.prog) (w := w) (base := base) F16 g16 T C_redOf C_check
    have C_stream := cal_stream (P := l.prog) (w := w) (base := base) F17 g17 T
    have C_next := cal_next (P := l.prog) (w := w) (base := base) F18 g18 T
    have C_some := cal_someSteps (P := l.prog) (w := w) (base := base) F19 g19 T C_next
    have C_names := cal_names (P := l.prog) (w := w) (base := base) F20 g20 T
    exact ok_law F21 T C_stream C_some C_next C_idle C_red C_names C_lay C_rem
end K46
open PySem PySem.W PyProof.Rows
set_option maxRecDepth 100000 in
set_option maxHeartbeats 0 in
theorem PySem.Challenge.cw_allbide_k46_whole_shifted_and_mirrored_holds : PySem.Challenge.rw_allbide_k46_whole_shifted_and_mirrored.Holds := by
  w_on; o_law; k_head; (case hw => w_witness2)
  k_fill
  refine LamX.walk_ofTs (l := PySem.Challenge.rw_allbide_k46_whole_shifted_and_mirrored) (n := 63) (k := 8) (x := "_law_script") (CX := fun _ => L2.CX0) rfl (by decide) rfl ⟨rfl, by decide, by decide⟩ (fun w h Y => PySem.W.km_in_of Y) ?F fun _ _ _ _ _ z => z
  case F =>
    intro w mg fa h Y KX G hmg
    refine' K46.all_mk KX G hmg (PySem.W.km_tabs_of Y _ (List.mem_singleton.mpr rfl)) ?a0 ?l0 ?c0 ?k0 ?a1 ?l1 ?c1 ?k1 ?a2 ?l2 ?c2 ?k2 ?a3 ?l3 ?c3 ?k3 ?a4 ?l4 ?c4 ?k4 ?a5 ?l5 ?c5 ?k5 ?a6 ?l6 ?c6 ?k6 ?a7 ?l7 ?c7 ?k7 ?a8 ?l8 ?c8 ?k8 ?a9 ?l9 ?c9 ?k9 ?a10 ?l10 ?c10 ?k10 ?a11 ?l11 ?c11 ?k11 ?a12 ?l12 ?c12 ?k12 ?a13 ?l13 ?c13 ?k13 ?a14 ?l14 ?c14 ?k14 ?a15 ?l15 ?c15 ?k15 ?a16 ?l16 ?c16 ?k16 ?a17 ?l17 ?c17 ?k17 ?a18 ?l18 ?c18 ?k18 ?a19 ?l19 ?c19 ?k19 ?a20 ?l20 ?c20 ?k20 ?a21 ?l21 ?c21 ?k21 ?z0 ?z1 ?z2 ?z3 ?z4 ?z5 ?z6 ?z7 ?z8 ?z9 ?z10 ?z11 ?z12 ?z13 ?m0 ?m1 ?m2 ?nT ?hC
    (case a0 => k_is)
    (case l0 => k_is)
    (case c0 => k_is)
    (case k0 => k_is)
    (case a1 => k_is)
    (case l1 => k_is)
    (case c1 => k_is)
    (case k1 => k_is)
    (case a2 => k_is)
    (case l2 => k_is)
    (case c2 => k_is)
    (case k2 => k_is)
    (case a3 => k_is)
    (case l3 => k_is)
    (case c3 => k_is)
    (case k3 => k_is)
    (case a4 => k_is)
    (case l4 => k_is)
    (case c4 => k_is)
    (case k4 => k_is)
    (case a5 => k_is)
    (case l5 => k_is)
    (case c5 => k_is)
    (case k5 => k_is)
    (case a6 => k_is)
    (case l6 => k_is)
    (case c6 => k_is)
    (case k6 => k_is)
    (case a7 => k_is)
    (case l7 => k_is)
    (case c7 => k_is)
    (case k7 => k_is)
    (case a8 => k_is)
    (case l8 => k_is)
    (case c8 => k_is)
    (case k8 => k_is)
    (case a9 => k_is)
    (case l9 => k_is)
    (case c9 => k_is)
    (case k9 => k_is)
    (case a10 => k_is)
    (case l10 => k_is)
    (case c10 => k_is)
    (case k10 => k_is)
    (case a11 => k_is)
    (case l11 => k_is)
    (case c11 => k_is)
    (case k11 => k_is)
    (case a12 => k_is)
    (case l12 => k_is)
    (case c12 => k_is)
    (case k12 => k_is)
    (case a13 => k_is)
    (case l13 => k_is)
    (case c13 => k_is)
    (case k13 => k_is)
    (case a14 => k_is)
    (case l14 => k_is)
    (case c14 => k_is)
    (case k14 => k_is)
    (case a15 => k_is)
    (case l15 => k_is)
    (case c15 => k_is)
    (case k15 => k_is)
    (case a16 => k_is)
    (case l16 => k_is)
    (case c16 => k_is)
    (case k16 => k_is)
    (case a17 => k_is)
    (case l17 => k_is)
    (case c17 => k_is)
    (case k17 => k_is)
    (case a18 => k_is)
    (case l18 => k_is)
    (case c18 => k_is)
    (case k18 => k_is)
    (case a19 => k_is)
    (case l19 => k_is)
    (case c19 => k_is)
    (case k19 => k_is)
    (case a20 => k_is)
    (case l20 => k_is)
    (case c20 => k_is)
    (case k20 => k_is)
    (case a21 => k_is)
    (case l21 => k_is)
    (case c21 => k_is)
    (case k21 => k_is)
    (case z0 => k_is)
    (case z1 => k_is)
    (case z2 => k_is)
    (case z3 => k_is)
    (case z4 => k_is)
    (case z5 => k_is)
    (case z6 => k_is)
    (case z7 => k_is)
    (case z8 => k_is)
    (case z9 => k_is)
    (case z10 => k_is)
    (case z11 => k_is)
    (case z12 => k_is)
    (case z13 => k_is)
    (case m0 => k_is)
    (case m1 => k_is)
    (case m2 => k_is)
    (case nT => first | kernel_rfl | k_is)
    (case hC => first | kernel_rfl | k_is)

