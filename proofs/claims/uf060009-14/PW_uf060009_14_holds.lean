import PyProof.Rows.All
import Wide.All
import OpenK.AllK
import Wide.FinOn
import Lean
import PySem.Challenge.RW_uf060009_14
set_option compiler.extract_closed false
set_option genSizeOfSpec false
set_option genInjectivity false
set_option bootstrap.genMatcherCode false
set_option genSizeOf false
namespace Mine
open PySem PyProof.Rows
set_option autoImplicit false
noncomputable def gallop' : Bool → Keyed → Array Keyed → Nat → Nat → Nat → StateT SortSt Sem (Option Nat) := sortPriv% PySem.Builtin.gallop
noncomputable def mergeLo' : Array Keyed → Array Keyed → StateT SortSt Sem (Array Keyed) := sortPriv% PySem.Builtin.mergeLo
noncomputable def mergeHi' : Array Keyed → Array Keyed → StateT SortSt Sem (Array Keyed) := sortPriv% PySem.Builtin.mergeHi
noncomputable def setMinGallop' : Nat → StateT SortSt Sem Unit := sortPriv% PySem.Builtin.setMinGallop
theorem setMinGallop'_eq (g : Nat) : setMinGallop' g = modify fun s => SortSt.mk' (kindOf s) (arrOf s) (pendingOf s) g (failedOf s) := rfl
noncomputable def beyond' (left : Bool) (key : Keyed) (arr : Array Keyed) (base i : Nat) : StateT SortSt Sem (Option Bool) := do
 let x ← elem' arr (base + i)
 if left then lt' x key else return (← lt' key x).map (!·)
theorem gallop'_eq (left : Bool) (key : Keyed) (arr : Array Keyed) (base n hint : Nat) : gallop' left key arr base n hint = (do
 let mut lastofs := 0
 let mut ofs := 1
 let mut lo := 0
 let mut hi := 0
 let some right ← beyond' left key arr base hint | return none
 if right then
  let maxofs := n - hint
  for _ in [0:n] do
   if ofs ≥ maxofs then break
   let some more ← beyond' left key arr base (hint + ofs) | return none
   if !more then break
   lastofs := ofs
   ofs := 2 * ofs + 1
  lo := hint + lastofs + 1
  hi := hint + min ofs maxofs
 else
  let maxofs := hint + 1
  for _ in [0:n] do
   if ofs ≥ maxofs then break
   let some found ← beyond' left key arr base (hint - ofs) | return none
   if found then break
   lastofs := ofs
   ofs := 2 * ofs + 1
  lo := hint + 1 - min ofs maxofs
  hi := hint - lastofs
 for _ in [0:n] do
  if lo ≥ hi then break
  let m := lo + (hi - lo) / 2
  let some more ← beyond' left key arr base m | return none
  if more then lo := m + 1 else hi := m
 return some hi) := rfl
theorem mergeAt'_eq (i : Nat) : mergeAt' i = (do
 let s ← get
 let (some (sa, na, power), some (sb, nb, _)) := ((pendingOf s)[i]?, (pendingOf s)[i + 1]?) | unsupported "internal:list.sort.pending"
 set (setPending s (((pendingOf s).setIfInBounds i (sa, na + nb, power)).eraseIdxIfInBounds (i + 1)))
 let some k ← gallop' false (← elem' (arrOf s) sb) (arrOf s) sa na 0 | return false
 let (sa, na) := (sa + k, na - k)
 if na == 0 then return true
 let some nb ← gallop' true (← elem' (arrOf s) (sa + na - 1)) (arrOf s) sb nb (nb - 1) | return false
 if nb == 0 then return true
 let x := (arrOf s).extract sa sb
 let y := (arrOf s).extract sb (sb + nb)
 let merged ← if na ≤ nb then mergeLo' x y else mergeHi' x y
 modify fun s => setArr s (merged.toList.zipIdx.foldl (fun a (p, j) => a.setIfInBounds (sa + j) p) (arrOf s))
 return (failedOf (← get)).isNone) := rfl
theorem mergeLo'_eq (a b : Array Keyed) : mergeLo' a b = (do
 rule "list.sort.merge-lo"
 let total := a.size + b.size
 let done (out : Array Keyed) (ia ib : Nat) := out ++ a.extract ia a.size ++ b.extract ib b.size
 let lastOfA (out : Array Keyed) (ia ib : Nat) := out ++ b.extract ib b.size ++ a.extract ia a.size
 let mut out : Array Keyed := #[← elem' b 0]
 let mut ia := 0
 let mut ib := 1
 if ib == b.size then return done out ia ib
 if ia + 1 == a.size then return lastOfA out ia ib
 let mut minGallop := gallopOf (← get)
 for _ in [0:total] do
  let mut acount := 0
  let mut bcount := 0
  for _ in [0:total] do
   let some bWins ← lt' (← elem' b ib) (← elem' a ia) | return done out ia ib
   if bWins then
    out := out.push (← elem' b ib); ib := ib + 1; bcount := bcount + 1; acount := 0
    if ib == b.size then return done out ia ib
    if bcount ≥ minGallop then break
   else
    out := out.push (← elem' a ia); ia := ia + 1; acount := acount + 1; bcount := 0
    if ia + 1 == a.size then return lastOfA out ia ib
    if acount ≥ minGallop then break
  rule "list.sort.gallop"
  minGallop := minGallop + 1
  for _ in [0:total] do
   if minGallop > 1 then minGallop := minGallop - 1
   setMinGallop' minGallop
   let some k ← gallop' false (← elem' b ib) a ia (a.size - ia) 0 | return done out ia ib
   acount := k
   if k > 0 then
    out := out ++ a.extract ia (ia + k); ia := ia + k
    if ia + 1 == a.size then return lastOfA out ia ib
    if ia == a.size then return done out ia ib
   out := out.push (← elem' b ib); ib := ib + 1
   if ib == b.size then return done out ia ib
   let some k ← gallop' true (← elem' a ia) b ib (b.size - ib) 0 | return done out ia ib
   bcount := k
   if k > 0 then
    out := out ++ b.extract ib (ib + k); ib := ib + k
    if ib == b.size then return done out ia ib
   out := out.push (← elem' a ia); ia := ia + 1
   if ia + 1 == a.size then return lastOfA out ia ib
   if acount < 7 && bcount < 7 then break
  minGallop := minGallop + 1
  setMinGallop' minGallop
 unsupported "internal:list.sort.merge-bound") := rfl
section
variable {prog : Program} {w : World} {A : Around} {E : Value → Shared → Prop} {s : Shared}
structure Cmp (prog : Program) (w : World) (A : Around) (E : Value → Shared → Prop) (s : Shared) (kd : SortKind) (ok : Keyed → Prop) (L : Keyed → Keyed → Bool) : Prop where
 lt : ∀ (st : SortSt) (x y : Keyed) (Q : Option Bool → SortSt → Prop), ok x → ok y → kindOf st = kd → Q (some (L x y)) st → wpS (model prog w) A E s (lt' x y) Q st
 asym : ∀ x y, ok x → ok y → L x y = true → L y x = false
 neg : ∀ x y z, ok x → ok y → ok z → L y x = false → L z y = false → L z x = false
theorem wpS_elem {arr : Array Keyed} {i : Nat} {x : Keyed} {st : SortSt} {Q : Keyed → SortSt → Prop} (hx : arr[i]? = some x) (h : Q x st) :
  wpS (model prog w) A E s (elem' arr i) Q st := by
 rw [elem'_eq, hx]; exact wpS_pure h
theorem wpS_elemB {β : Type} {arr : Array Keyed} {i : Nat} {x : Keyed} {f : Keyed → StateT SortSt Sem β} {st : SortSt} {Q : β → SortSt → Prop} (hx : arr[i]? = some x) (h : wpS (model prog w) A E s (f x) Q st) : wpS (model prog w) A E s (elem' arr i >>= f) Q st := wpS_bind (wpS_elem hx h)
theorem wpS_getB {β : Type} {f : SortSt → StateT SortSt Sem β} {st : SortSt} {Q : β → SortSt → Prop} (h : wpS (model prog w) A E s (f st) Q st) : wpS (model prog w) A E s (get >>= f) Q st := wpS_bind (wpS_get h)
theorem wpS_modifyB {β : Type} {g : SortSt → SortSt} {f : PUnit → StateT SortSt Sem β} {st : SortSt} {Q : β → SortSt → Prop} (h : wpS (model prog w) A E s (f ⟨⟩) Q (g st)) : wpS (model prog w) A E s (modify g >>= f) Q st := wpS_bind (wpS_modify h)
theorem wpS_ruleB {β : Type} {tag : String} {f : Unit → StateT SortSt Sem β} {st : SortSt} {Q : β → SortSt → Prop} (h : wpS (model prog w) A E s (f ()) Q st) : wpS (model prog w) A E s ((liftM (rule tag) : StateT SortSt Sem Unit) >>= f) Q st := wpS_bind (wpS_lift (wpAny_rule ⟨rfl, h⟩))
theorem Cmp.ltB {β : Type} {kd : SortKind} {ok : Keyed → Prop} {L : Keyed → Keyed → Bool} (hc : Cmp prog w A E s kd ok L) {st : SortSt} {x y : Keyed} {f : Option Bool → StateT SortSt Sem β} {Q : β → SortSt → Prop} (ox : ok x) (oy : ok y) (hk : kindOf st = kd) (h : wpS (model prog w) A E s (f (some (L x y))) Q st) : wpS (model prog w) A E s (lt' x y >>= f) Q st := wpS_bind (hc.lt st x y _ ox oy hk h)
variable {kd : SortKind} {ok : Keyed → Prop} {L : Keyed → Keyed → Bool}
theorem wpS_beyond (hc : Cmp prog w A E s kd ok L) {left : Bool} {key x : Keyed} {arr : Array Keyed} {base i : Nat} {st : SortSt} {Q : Option Bool → SortSt → Prop}
  (hk : ok key) (hx : arr[base + i]? = some x) (ho : ok x) (hkd : kindOf st = kd) (h : Q (some (if left then L x key else !L key x)) st) :
  wpS (model prog w) A E s (beyond' left key arr base i) Q st := by
 unfold beyond'
 refine wpS_elemB hx ?_
 cases left with
 | true => exact hc.lt st x key Q ho hk hkd h
 | false => exact wpS_bind (hc.lt st key x _ hk ho hkd (wpS_pure h))
theorem wpS_gallop (hc : Cmp prog w A E s kd ok L) {left : Bool} {key : Keyed} {arr : Array Keyed} {base n hint : Nat} {st : SortSt} {Q : Option Nat → SortSt → Prop} (bey : Nat → Bool)
  (hk : ok key) (hx : ∀ i, i < n → ∃ x, arr[base + i]? = some x ∧ ok x ∧ (if left then L x key else !L key x) = bey i)
  (mono : ∀ i j, i ≤ j → j < n → bey j = true → bey i = true) (hh : hint < n) (hkd : kindOf st = kd)
  (h : ∀ k, k ≤ n → (∀ i, i < k → bey i = true) → (∀ i, k ≤ i → i < n → bey i = false) → Q (some k) st) :
  wpS (model prog w) A E s (gallop' left key arr base n hint) Q st := by
 have ask : ∀ i, i < n → ∀ Q', Q' (some (bey i)) st → wpS (model prog w) A E s (beyond' left key arr base i) Q' st := fun i hi Q' hq => by
  obtain ⟨x, e1, e2, e3⟩ := hx i hi
  exact wpS_beyond hc hk e1 e2 hkd (by rw [e3]; exact hq)
 have up : ∀ i j, i ≤ j → i < n → j < n → bey i = false → bey j = false := fun i j hij _ hj hb => by
  cases q : bey j with
  | false => rfl
  | true => rw [mono i j hij hj q] at hb; cases hb
 have fin : ∀ lo hi, lo ≤ hi → hi ≤ n → (∀ i, i < lo → bey i = true) → (∀ i, hi ≤ i → i < n → bey i = false) →
   wpS (model prog w) A E s (do
    let mut lo := lo
    let mut hi := hi
    for _ in [0:n] do
     if lo ≥ hi then break
     let m := lo + (hi - lo) / 2
     let some more ← beyond' left key arr base m | return none
     if more then lo := m + 1 else hi := m
    return some hi) Q st := by
  intro lo hi h1 h2 h3 h4
  refine wpS_bind (wpS_mono (wpS_forRange (I := fun i c st' => st' = st ∧ ∃ lo hi, c = (none, lo, hi) ∧ lo ≤ hi ∧ hi ≤ n ∧ hi - lo + i ≤ n ∧ (∀ i, i < lo → bey i = true) ∧ (∀ i, hi ≤ i → i < n → bey i = false))
   (Q := fun c st' => st' = st ∧ ∃ hi, c = (none, hi, hi) ∧ hi ≤ n ∧ (∀ i, i < hi → bey i = true) ∧ (∀ i, hi ≤ i → i < n → bey i = false)) ?_ ?_ ⟨rfl, lo, hi, rfl, h1, h2, by omega, h3, h4⟩) ?_)
  ·rintro i c st' _ hi' ⟨rfl, lo, hi, rfl, a1, a2, a3, a4, a5⟩
   dsimp only
   split
   ·have q : lo = hi := Nat.le_antisymm a1 (by assumption)
    subst q
    exact wpS_pure ⟨rfl, lo, rfl, a2, a4, a5⟩
   ·have q : lo ≤ lo + (hi - lo) / 2 ∧ lo + (hi - lo) / 2 < hi := by omega
    revert q
    generalize lo + (hi - lo) / 2 = m
    intro q
    have qn := Nat.lt_of_lt_of_le q.2 a2
    refine wpS_bind (ask m qn _ ?_)
    dsimp only
    cases hm : bey m with
    | true => exact wpS_pure ⟨rfl, m + 1, hi, rfl, q.2, a2, by omega, fun i hi'' => mono i m (Nat.le_of_lt_succ hi'') qn hm, a5⟩
    | false => exact wpS_pure ⟨rfl, lo, m, rfl, q.1, Nat.le_of_lt qn, by omega, a4, fun i b1 b2 => up m i b1 qn b2 hm⟩
  ·rintro c st' ⟨rfl, lo, hi, rfl, a1, a2, a3, a4, a5⟩
   have : lo = hi := by simp at a3; omega
   subst this
   exact ⟨rfl, lo, rfl, a2, a4, a5⟩
  ·rintro c st' ⟨rfl, hi, rfl, a2, a4, a5⟩
   exact wpS_pure (h hi a2 a4 a5)
 rw [gallop'_eq]
 refine wpS_bind (ask hint hh _ ?_)
 dsimp only
 cases hb : bey hint with
 | true =>
  rw [if_pos rfl]
  refine wpS_bind (wpS_mono (wpS_forRange (I := fun i c st' => st' = st ∧ ∃ l o, c = (none, l, o) ∧ l < o ∧ i + 1 ≤ o ∧ hint + l < n ∧ bey (hint + l) = true)
   (Q := fun c st' => st' = st ∧ ∃ l o, c = (none, l, o) ∧ l < o ∧ hint + l < n ∧ bey (hint + l) = true ∧ (n - hint ≤ o ∨ (hint + o < n ∧ bey (hint + o) = false))) ?_ ?_ ⟨rfl, 0, 1, rfl, by omega, by omega, by omega, hb⟩) ?_)
  ·rintro i c st' _ hi' ⟨rfl, l, o, rfl, a1, a2, a3, a4⟩
   dsimp only
   split
   ·exact wpS_pure ⟨rfl, l, o, rfl, a1, a3, a4, .inl (by omega)⟩
   ·refine wpS_bind (ask _ (by omega) _ ?_)
    dsimp only
    cases hm : bey (hint + o) with
    | false => exact wpS_pure ⟨rfl, l, o, rfl, a1, a3, a4, .inr ⟨by omega, hm⟩⟩
    | true => exact wpS_pure ⟨rfl, o, _, rfl, by omega, by omega, by omega, hm⟩
  ·rintro c st' ⟨rfl, l, o, rfl, a1, a2, a3, a4⟩
   exact ⟨rfl, l, o, rfl, a1, a3, a4, .inl (by simp at a2; omega)⟩
  ·rintro c st' ⟨rfl, l, o, rfl, a1, a2, a3, a4⟩
   dsimp only
   refine fin (hint + l + 1) (hint + min o (n - hint)) (by omega) (by omega) (fun i hi => mono i (hint + l) (by omega) a2 a3) (fun i b1 b2 => ?_)
   rcases a4 with q | ⟨q1, q2⟩
   ·omega
   ·exact up _ i (by omega) q1 b2 q2
 | false =>
  rw [if_neg (by decide)]
  refine wpS_bind (wpS_mono (wpS_forRange (I := fun i c st' => st' = st ∧ ∃ l o, c = (none, l, o) ∧ l < o ∧ i + 1 ≤ o ∧ l ≤ hint ∧ bey (hint - l) = false)
   (Q := fun c st' => st' = st ∧ ∃ l o, c = (none, l, o) ∧ l < o ∧ l ≤ hint ∧ bey (hint - l) = false ∧ (hint + 1 ≤ o ∨ (o ≤ hint ∧ bey (hint - o) = true))) ?_ ?_ ⟨rfl, 0, 1, rfl, by omega, by omega, by omega, by simpa using hb⟩) ?_)
  ·rintro i c st' _ hi' ⟨rfl, l, o, rfl, a1, a2, a3, a4⟩
   dsimp only
   split
   ·exact wpS_pure ⟨rfl, l, o, rfl, a1, a3, a4, .inl (by omega)⟩
   ·refine wpS_bind (ask _ (by omega) _ ?_)
    dsimp only
    cases hm : bey (hint - o) with
    | true => exact wpS_pure ⟨rfl, l, o, rfl, a1, a3, a4, .inr ⟨by omega, hm⟩⟩
    | false => exact wpS_pure ⟨rfl, o, _, rfl, by omega, by omega, by omega, hm⟩
  ·rintro c st' ⟨rfl, l, o, rfl, a1, a2, a3, a4⟩
   exact ⟨rfl, l, o, rfl, a1, a3, a4, .inl (by simp at a2; omega)⟩
  ·rintro c st' ⟨rfl, l, o, rfl, a1, a2, a3, a4⟩
   dsimp only
   refine fin (hint + 1 - min o (hint + 1)) (hint - l) (by omega) (by omega) (fun i hi => ?_) (fun i b1 b2 => up (hint - l) i b1 (by omega) b2 a3)
   rcases a4 with q | ⟨q1, q2⟩
   ·omega
   ·exact mono i _ (by omega) (by omega) q2
end
noncomputable def RR (L : Keyed → Keyed → Bool) (T : Keyed → Keyed → Prop) (x y : Keyed) : Prop := L y x = false ∧ (L x y = true ∨ T x y)
structure MI (L : Keyed → Keyed → Bool) (T : Keyed → Keyed → Prop) (la lb : List Keyed) (out : List Keyed) (ia ib : Nat) : Prop where
 perm : out.Perm (la.take ia ++ lb.take ib)
 srt : out.Pairwise (RR L T)
 ra : ∀ x ∈ out, ∀ y ∈ la.drop ia, RR L T x y
 rb : ∀ x ∈ out, ∀ y ∈ lb.drop ib, RR L T x y
theorem take_chunk {α : Type} (l : List α) (i k : Nat) : l.take i ++ (l.drop i).take k = l.take (i + k) := by
 rw [List.take_add]
theorem drop_chunk {α : Type} (l : List α) (i k : Nat) : l.drop i = (l.drop i).take k ++ l.drop (i + k) := by
 rw [← List.drop_drop]; exact (List.take_append_drop k _).symm
section
variable {ok : Keyed → Prop} {L : Keyed → Keyed → Bool} {T : Keyed → Keyed → Prop} {la lb out : List Keyed} {ia ib : Nat}
theorem MI.takeA (h : MI L T la lb out ia ib) (hs : la.Pairwise (RR L T)) (k : Nat) (ht : ∀ x ∈ la, ∀ y ∈ lb, T x y)
  (hk : ∀ x ∈ (la.drop ia).take k, ∀ y ∈ lb.drop ib, L y x = false) : MI L T la lb (out ++ (la.drop ia).take k) (ia + k) ib := by
 have hd : (la.drop ia).Pairwise (RR L T) := hs.sublist (List.drop_sublist _ _)
 rw [drop_chunk la ia k, List.pairwise_append] at hd
 refine ⟨?_, ?_, ?_, ?_⟩
 ·refine (h.perm.append_right _).trans ?_
  rw [← take_chunk la ia k, List.append_assoc, List.append_assoc]
  exact List.Perm.append_left _ List.perm_append_comm
 ·rw [List.pairwise_append]
  exact ⟨h.srt, hd.1, fun x hx y hy => h.ra x hx y (List.mem_of_mem_take hy)⟩
 ·intro x hx y hy
  rcases List.mem_append.mp hx with hx | hx
  ·exact h.ra x hx y (by rw [drop_chunk la ia k]; exact List.mem_append_right _ hy)
  ·exact hd.2.2 x hx y hy
 ·intro x hx y hy
  rcases List.mem_append.mp hx with hx | hx
  ·exact h.rb x hx y hy
  ·exact ⟨hk x hx y hy, .inr (ht x (List.mem_of_mem_drop (List.mem_of_mem_take hx)) y (List.mem_of_mem_drop hy))⟩
theorem MI.takeB (h : MI L T la lb out ia ib) (hs : lb.Pairwise (RR L T)) (k : Nat) (ha : ∀ x y, x ∈ la → y ∈ lb → L y x = true → L x y = false)
  (hk : ∀ x ∈ (lb.drop ib).take k, ∀ y ∈ la.drop ia, L x y = true) : MI L T la lb (out ++ (lb.drop ib).take k) ia (ib + k) := by
 have hd : (lb.drop ib).Pairwise (RR L T) := hs.sublist (List.drop_sublist _ _)
 rw [drop_chunk lb ib k, List.pairwise_append] at hd
 refine ⟨?_, ?_, ?_, ?_⟩
 ·refine (h.perm.append_right _).trans ?_
  rw [← take_chunk lb ib k, List.append_assoc]
 ·rw [List.pairwise_append]
  exact ⟨h.srt, hd.1, fun x hx y hy => h.rb x hx y (List.mem_of_mem_take hy)⟩
 ·intro x hx y hy
  rcases List.mem_append.mp hx with hx | hx
  ·exact h.ra x hx y hy
  ·have := hk x hx y hy
   exact ⟨ha y x (List.mem_of_mem_drop hy) (List.mem_of_mem_drop (List.mem_of_mem_take hx)) this, .inl this⟩
 ·intro x hx y hy
  rcases List.mem_append.mp hx with hx | hx
  ·exact h.rb x hx y (by rw [drop_chunk lb ib k]; exact List.mem_append_right _ hy)
  ·exact hd.2.2 x hx y hy
noncomputable def MOut (L : Keyed → Keyed → Bool) (T : Keyed → Keyed → Prop) (la lb res : List Keyed) : Prop := res.Perm (la ++ lb) ∧ res.Pairwise (RR L T)
theorem MI.doneB (h : MI L T la lb out ia ib) (hs : la.Pairwise (RR L T)) (hb : lb.length ≤ ib) : MOut L T la lb (out ++ la.drop ia ++ lb.drop ib) := by
 rw [List.drop_eq_nil_of_le hb, List.append_nil]
 have h1 := h.perm; rw [List.take_of_length_le hb] at h1
 refine ⟨?_, ?_⟩
 ·refine (h1.append_right _).trans ?_
  rw [List.append_assoc]
  refine (List.Perm.append_left _ List.perm_append_comm).trans ?_
  rw [← List.append_assoc, List.take_append_drop]
 ·rw [List.pairwise_append]
  exact ⟨h.srt, hs.sublist (List.drop_sublist _ _), h.ra⟩
theorem MI.doneA (h : MI L T la lb out ia ib) (hs : lb.Pairwise (RR L T)) (hb : la.length ≤ ia) : MOut L T la lb (out ++ la.drop ia ++ lb.drop ib) := by
 rw [List.drop_eq_nil_of_le hb, List.append_nil]
 have h1 := h.perm; rw [List.take_of_length_le hb] at h1
 refine ⟨?_, ?_⟩
 ·refine (h1.append_right _).trans ?_
  rw [List.append_assoc, List.take_append_drop]
 ·rw [List.pairwise_append]
  exact ⟨h.srt, hs.sublist (List.drop_sublist _ _), h.rb⟩
theorem MI.last (h : MI L T la lb out ia ib) (hsa : la.Pairwise (RR L T)) (hsb : lb.Pairwise (RR L T)) (hc : ∀ x ∈ lb.drop ib, ∀ y ∈ la.drop ia, RR L T x y) : MOut L T la lb (out ++ lb.drop ib ++ la.drop ia) := by
 refine ⟨?_, ?_⟩
 ·refine ((h.perm.append_right _).append_right _).trans ?_
  rw [List.append_assoc (la.take ia), List.take_append_drop, List.append_assoc]
  refine (List.Perm.append_left _ List.perm_append_comm).trans ?_
  rw [← List.append_assoc, List.take_append_drop]
 ·rw [List.pairwise_append, List.pairwise_append]
  refine ⟨⟨h.srt, hsb.sublist (List.drop_sublist _ _), h.rb⟩, hsa.sublist (List.drop_sublist _ _), fun x hx y hy => ?_⟩
  rcases List.mem_append.mp hx with hx | hx
  ·exact h.ra x hx y hy
  ·exact hc x hx y hy
end
noncomputable def SameG (st st' : SortSt) : Prop := kindOf st' = kindOf st ∧ arrOf st' = arrOf st ∧ pendingOf st' = pendingOf st ∧ failedOf st' = failedOf st
theorem SameG.refl (st : SortSt) : SameG st st := ⟨rfl, rfl, rfl, rfl⟩
theorem SameG.trans {a b c : SortSt} (h : SameG a b) (h' : SameG b c) : SameG a c := ⟨h'.1.trans h.1, h'.2.1.trans h.2.1, h'.2.2.1.trans h.2.2.1, h'.2.2.2.trans h.2.2.2⟩
theorem SameG.set (st : SortSt) (g : Nat) : SameG st (SortSt.mk' (kindOf st) (arrOf st) (pendingOf st) g (failedOf st)) := ⟨rfl, rfl, rfl, rfl⟩
section
variable {prog : Program} {w : World} {A : Around} {E : Value → Shared → Prop} {s : Shared} {kd : SortKind} {ok : Keyed → Prop} {L : Keyed → Keyed → Bool} {T : Keyed → Keyed → Prop}
theorem wpS_setMinGallop {g : Nat} {st : SortSt} {Q : Unit → SortSt → Prop} (h : ∀ st', SameG st st' → Q () st') : wpS (model prog w) A E s (setMinGallop' g) Q st := by
 rw [setMinGallop'_eq]; exact wpS_modify (h _ (SameG.set st g))
structure MP (ok : Keyed → Prop) (L : Keyed → Keyed → Bool) (T : Keyed → Keyed → Prop) (a b : Array Keyed) : Prop where
 sa : a.toList.Pairwise (RR L T)
 sb : b.toList.Pairwise (RR L T)
 oa : ∀ x ∈ a.toList, ok x
 ob : ∀ x ∈ b.toList, ok x
 ht : ∀ x ∈ a.toList, ∀ y ∈ b.toList, T x y
 na : 1 ≤ a.size
 nb : 1 ≤ b.size
 first : ∀ y ∈ b.toList.take 1, ∀ x ∈ a.toList, L y x = true
 last : ∀ y ∈ b.toList, ∀ x ∈ a.toList.drop (a.size - 1), L y x = true
theorem arr_at {a : Array Keyed} {i : Nat} (h : i < a.size) : ∃ x, a[i]? = some x ∧ x ∈ a.toList ∧ a.toList.drop i = x :: a.toList.drop (i + 1) := by
 refine ⟨a[i], by simp [h], Array.getElem_mem_toList h, ?_⟩
 rw [List.drop_eq_getElem_cons (by simpa using h)]; simp
theorem toList_rest {a : Array Keyed} {i : Nat} : (a.extract i a.size).toList = a.toList.drop i := by
 rw [Array.toList_extract]; simp [List.extract]; apply List.take_of_length_le; simp
theorem toList_chunk {a : Array Keyed} {i k : Nat} : (a.extract i (i + k)).toList = (a.toList.drop i).take k := by
 rw [Array.toList_extract]; simp [List.extract]
theorem mem_drop_get {a : Array Keyed} {i : Nat} {y : Keyed} (h : y ∈ a.toList.drop i) : ∃ j, i ≤ j ∧ j < a.size ∧ a[j]? = some y := by
 obtain ⟨j, hj, rfl⟩ := List.mem_iff_getElem.mp h
 rw [List.length_drop, Array.length_toList] at hj
 exact ⟨i + j, by omega, by omega, by rw [List.getElem_drop, Array.getElem_toList]; simp⟩
theorem get_mem_drop {a : Array Keyed} {i j : Nat} {y : Keyed} (h : a[j]? = some y) (hij : i ≤ j) : y ∈ a.toList.drop i := by
 obtain ⟨hj, rfl⟩ := Array.getElem?_eq_some_iff.mp h
 refine List.mem_iff_getElem.mpr ⟨j - i, by rw [List.length_drop, Array.length_toList]; omega, ?_⟩
 rw [List.getElem_drop, Array.getElem_toList]; congr 1; omega
theorem mem_chunk_get {a : Array Keyed} {i k : Nat} {y : Keyed} (h : y ∈ (a.toList.drop i).take k) : ∃ j, i ≤ j ∧ j < i + k ∧ j < a.size ∧ a[j]? = some y := by
 obtain ⟨j, hj, rfl⟩ := List.mem_iff_getElem.mp h
 rw [List.length_take, List.length_drop, Array.length_toList] at hj
 exact ⟨i + j, by omega, by omega, by omega, by rw [List.getElem_take, List.getElem_drop, Array.getElem_toList]; simp⟩
theorem pw_get {R : Keyed → Keyed → Prop} {a : Array Keyed} (h : a.toList.Pairwise R) {i j : Nat} {x y : Keyed} (hi : a[i]? = some x) (hj : a[j]? = some y) (hij : i < j) : R x y := by
 obtain ⟨h1, rfl⟩ := Array.getElem?_eq_some_iff.mp hi
 obtain ⟨h2, rfl⟩ := Array.getElem?_eq_some_iff.mp hj
 rw [List.pairwise_iff_getElem] at h
 have := h i j (by simpa using h1) (by simpa using h2) hij
 simpa using this
theorem mem_take_ix {α : Type} {l : List α} {k : Nat} {z : α} (h : z ∈ l.take k) : ∃ m, m < k ∧ l[m]? = some z := by
 obtain ⟨m, e⟩ := List.mem_iff_getElem?.mp h
 rw [List.getElem?_take] at e
 split at e
 ·exact ⟨m, by assumption, e⟩
 ·cases e
theorem mem_drop_ix {α : Type} {l : List α} {k : Nat} {z : α} (h : z ∈ l.drop k) : ∃ m, k ≤ m ∧ m < l.length ∧ l[m]? = some z := by
 obtain ⟨m, e⟩ := List.mem_iff_getElem?.mp h
 rw [List.getElem?_drop] at e
 exact ⟨k + m, Nat.le_add_right _ _, (List.getElem?_eq_some_iff.mp e).1, e⟩
theorem le_get (hc : Cmp prog w A E s kd ok L) {l : List Keyed} (sl : l.Pairwise (RR L T)) (ol : ∀ x ∈ l, ok x) {i j : Nat} {x y : Keyed} (hi : l[i]? = some x) (hj : l[j]? = some y) (hij : i ≤ j) : L y x = false := by
 rcases Nat.eq_or_lt_of_le hij with q | q
 ·subst q; rw [hi] at hj; cases hj
  cases q : L x x with
  | false => rfl
  | true => have := hc.asym x x (ol x (List.mem_of_getElem? hi)) (ol x (List.mem_of_getElem? hi)) q; rw [q] at this; cases this
 ·obtain ⟨h1, rfl⟩ := List.getElem?_eq_some_iff.mp hi
  obtain ⟨h2, rfl⟩ := List.getElem?_eq_some_iff.mp hj
  exact (List.pairwise_iff_getElem.mp sl i j h1 h2 q).1
theorem wpS_gal (hc : Cmp prog w A E s kd ok L) {left : Bool} {key : Keyed} {a : Array Keyed} {l : List Keyed} (sl : l.Pairwise (RR L T)) (ol : ∀ x ∈ l, ok x) {base n hint : Nat} {st : SortSt} {Q : Option Nat → SortSt → Prop}
  (hk : ok key) (ha : ∀ i, i < l.length → a[base + i]? = l[i]?) (hn : l.length = n) (hh : hint < n) (hkd : kindOf st = kd)
  (h : ∀ k, k ≤ n → (∀ z ∈ l.take k, (if left then L z key else !L key z) = true) → (∀ z ∈ l.drop k, (if left then L z key else !L key z) = false) → Q (some k) st) :
  wpS (model prog w) A E s (gallop' left key a base n hint) Q st := by
 subst hn
 refine wpS_gallop hc (fun i => match l[i]? with | some x => if left then L x key else !L key x | none => false) hk (fun i hi => ⟨l[i], (ha i hi).trans (List.getElem?_eq_getElem hi), ol _ (List.getElem_mem hi), by simp only [List.getElem?_eq_getElem hi]⟩) ?_ hh hkd fun k k1 k2 k3 => h k k1 (fun z hz => ?_) fun z hz => ?_
 ·intro i j hij hj hb
  obtain ⟨x, hx⟩ : ∃ x, l[i]? = some x := ⟨_, List.getElem?_eq_getElem (Nat.lt_of_le_of_lt hij hj)⟩
  obtain ⟨z, hz⟩ : ∃ x, l[j]? = some x := ⟨_, List.getElem?_eq_getElem hj⟩
  simp only [hx, hz] at hb ⊢
  have h4 := le_get hc sl ol hx hz hij
  have ox := ol x (List.mem_of_getElem? hx)
  have oz := ol z (List.mem_of_getElem? hz)
  cases left with
  | true =>
   rw [if_pos rfl] at hb ⊢
   cases hq : L x key with
   | true => rfl
   | false => rw [hc.neg key x z hk ox oz hq h4] at hb; cases hb
  | false =>
   rw [if_neg Bool.false_ne_true] at hb ⊢
   cases hq : L key z with
   | true => rw [hq] at hb; cases hb
   | false => rw [hc.neg x z key ox oz hk h4 hq]; rfl
 ·obtain ⟨m, m1, e⟩ := mem_take_ix hz
  have := k2 m m1
  simp only [e] at this; exact this
 ·obtain ⟨m, m1, m2, e⟩ := mem_drop_ix hz
  have := k3 m m1 m2
  simp only [e] at this; exact this
theorem bneq {n m : Nat} (h : ¬ (n == m) = true) : n ≠ m := fun e => h (beq_iff_eq.mpr e)
theorem bnotT {b : Bool} (h : (!b) = true) : b = false := by cases b <;> trivial
theorem bnotF {b : Bool} (h : (!b) = false) : b = true := by cases b <;> trivial
end
set_option maxHeartbeats 4000000
section
variable {prog : Program} {w : World} {A : Around} {E : Value → Shared → Prop} {s : Shared} {kd : SortKind} {ok : Keyed → Prop} {L : Keyed → Keyed → Bool} {T : Keyed → Keyed → Prop}
theorem MI.oneA {a b out : Array Keyed} {ia ib : Nat} {x : Keyed} (M : MI L T a.toList b.toList out.toList ia ib) (sa : a.toList.Pairwise (RR L T)) (ht : ∀ x ∈ a.toList, ∀ y ∈ b.toList, T x y) (hx : a[ia]? = some x) (hz : ∀ z ∈ b.toList.drop ib, L z x = false) : MI L T a.toList b.toList (out.push x).toList (ia + 1) ib := by
 obtain ⟨x', hx', mx, dx⟩ := arr_at (a := a) (i := ia) (Array.getElem?_eq_some_iff.mp hx).1
 rw [hx] at hx'; cases hx'
 have M' := M.takeA sa 1 ht (by rw [dx]; intro z hz' w hw; rw [List.mem_singleton.mp hz']; exact hz w hw)
 rw [dx] at M'
 rw [Array.toList_push]; exact M'
theorem MI.oneB {a b out : Array Keyed} {ia ib : Nat} {y : Keyed} (M : MI L T a.toList b.toList out.toList ia ib) (sb : b.toList.Pairwise (RR L T)) (asym : ∀ x y, x ∈ a.toList → y ∈ b.toList → L y x = true → L x y = false) (hy : b[ib]? = some y) (hz : ∀ z ∈ a.toList.drop ia, L y z = true) : MI L T a.toList b.toList (out.push y).toList ia (ib + 1) := by
 obtain ⟨x', hx', mx, dx⟩ := arr_at (a := b) (i := ib) (Array.getElem?_eq_some_iff.mp hy).1
 rw [hy] at hx'; cases hx'
 have M' := M.takeB sb 1 asym (by rw [dx]; intro z hz' w hw; rw [List.mem_singleton.mp hz']; exact hz w hw)
 rw [dx] at M'
 rw [Array.toList_push]; exact M'
theorem mout_rest {la lb : List Keyed} {o x y : Array Keyed} {i j : Nat} (h : MOut L T la lb (o.toList ++ x.toList.drop i ++ y.toList.drop j)) : MOut L T la lb (o ++ x.extract i x.size ++ y.extract j y.size).toList := by
 rw [Array.toList_append, Array.toList_append, toList_rest, toList_rest]; exact h
noncomputable def galD (a b : Array Keyed) (mg ac bc : Nat) (out : Array Keyed) (ia ib : Nat) : StateT SortSt Sem (ForInStep (Option (Array Keyed) × Array Keyed × Nat × Nat × Nat × Nat × Nat)) := do
 let x ← elem' a ia
 if (ia + 1 + 1 == a.size) = true then
  pure (ForInStep.done (some (out.push x ++ b.extract ib b.size ++ a.extract (ia + 1) a.size), out.push x, ia + 1, ib, mg, ac, bc))
 else if (decide (ac < 7) && decide (bc < 7)) = true then pure (ForInStep.done (none, out.push x, ia + 1, ib, mg, ac, bc))
 else pure (ForInStep.yield (none, out.push x, ia + 1, ib, mg, ac, bc))
noncomputable def galC (a b : Array Keyed) (mg ac bc : Nat) (out : Array Keyed) (ia ib : Nat) : StateT SortSt Sem (ForInStep (Option (Array Keyed) × Array Keyed × Nat × Nat × Nat × Nat × Nat)) := do
 let y ← elem' b ib
 if (ib + 1 == b.size) = true then
  pure (ForInStep.done (some (out.push y ++ a.extract ia a.size ++ b.extract (ib + 1) b.size), out.push y, ia, ib + 1, mg, ac, bc))
 else do
  let x ← elem' a ia
  let some k ← gallop' true x b (ib + 1) (b.size - (ib + 1)) 0 | pure (ForInStep.done (some (out.push y ++ a.extract ia a.size ++ b.extract (ib + 1) b.size), out.push y, ia, ib + 1, mg, ac, bc))
  if k > 0 then
   if (ib + 1 + k == b.size) = true then
    pure (ForInStep.done (some (out.push y ++ b.extract (ib + 1) (ib + 1 + k) ++ a.extract ia a.size ++ b.extract (ib + 1 + k) b.size), out.push y ++ b.extract (ib + 1) (ib + 1 + k), ia, ib + 1 + k, mg, ac, k))
   else galD a b mg ac k (out.push y ++ b.extract (ib + 1) (ib + 1 + k)) ia (ib + 1 + k)
  else galD a b mg ac k (out.push y) ia (ib + 1)
noncomputable abbrev mlI (L : Keyed → Keyed → Bool) (T : Keyed → Keyed → Prop) (a b : Array Keyed) (st : SortSt) (j : Nat) (c : Option (Array Keyed) × Array Keyed × Nat × Nat × Nat) (st' : SortSt) : Prop := SameG st st' ∧ ∃ out ia ib mg, c = (none, out, ia, ib, mg) ∧ MI L T a.toList b.toList out.toList ia ib ∧ ia + 1 < a.size ∧ ib < b.size ∧ j + 1 ≤ ia + ib
noncomputable abbrev mlQ (L : Keyed → Keyed → Bool) (T : Keyed → Keyed → Prop) (a b : Array Keyed) (st : SortSt) (c : Option (Array Keyed) × Array Keyed × Nat × Nat × Nat) (st' : SortSt) : Prop := SameG st st' ∧ ∃ r, c.1 = some r ∧ MOut L T a.toList b.toList r.toList
noncomputable abbrev mlI1 (L : Keyed → Keyed → Bool) (T : Keyed → Keyed → Prop) (a b : Array Keyed) (st1 : SortSt) (ia ib i : Nat) (c : Option (Array Keyed) × Array Keyed × Nat × Nat × Nat × Nat) (st' : SortSt) : Prop := st' = st1 ∧ ∃ out ia' ib' ac bc, c = (none, out, ia', ib', ac, bc) ∧ MI L T a.toList b.toList out.toList ia' ib' ∧ ia' + 1 < a.size ∧ ib' < b.size ∧ ia + ib + i ≤ ia' + ib'
noncomputable abbrev mlQ1 (L : Keyed → Keyed → Bool) (T : Keyed → Keyed → Prop) (a b : Array Keyed) (st1 : SortSt) (ia ib : Nat) (c : Option (Array Keyed) × Array Keyed × Nat × Nat × Nat × Nat) (st' : SortSt) : Prop := st' = st1 ∧ ((∃ r, c.1 = some r ∧ MOut L T a.toList b.toList r.toList) ∨ ∃ out ia' ib' ac bc, c = (none, out, ia', ib', ac, bc) ∧ MI L T a.toList b.toList out.toList ia' ib' ∧ ia' + 1 < a.size ∧ ib' < b.size ∧ ia + ib + 1 ≤ ia' + ib')
noncomputable abbrev mlI2 (L : Keyed → Keyed → Bool) (T : Keyed → Keyed → Prop) (a b : Array Keyed) (st : SortSt) (ia' ib' i : Nat) (c : Option (Array Keyed) × Array Keyed × Nat × Nat × Nat × Nat × Nat) (st' : SortSt) : Prop := SameG st st' ∧ ∃ out ia2 ib2 mg ac bc, c = (none, out, ia2, ib2, mg, ac, bc) ∧ MI L T a.toList b.toList out.toList ia2 ib2 ∧ ia2 + 1 < a.size ∧ ib2 < b.size ∧ ia' + ib' + i ≤ ia2 + ib2
noncomputable abbrev mlQ2 (L : Keyed → Keyed → Bool) (T : Keyed → Keyed → Prop) (a b : Array Keyed) (st : SortSt) (ia' ib' : Nat) (c : Option (Array Keyed) × Array Keyed × Nat × Nat × Nat × Nat × Nat) (st' : SortSt) : Prop := SameG st st' ∧ ((∃ r, c.1 = some r ∧ MOut L T a.toList b.toList r.toList) ∨ ∃ out ia2 ib2 mg ac bc, c = (none, out, ia2, ib2, mg, ac, bc) ∧ MI L T a.toList b.toList out.toList ia2 ib2 ∧ ia2 + 1 < a.size ∧ ib2 < b.size ∧ ia' + ib' ≤ ia2 + ib2)
theorem wpS_mergeLo (hc : Cmp prog w A E s kd ok L) {a b : Array Keyed} (P : MP ok L T a b) {st : SortSt} (hkd : kindOf st = kd) {Q : Array Keyed → SortSt → Prop}
  (h : ∀ st' res, SameG st st' → MOut L T a.toList b.toList res.toList → Q res st') : wpS (model prog w) A E s (mergeLo' a b) Q st := by
 obtain ⟨sa, sb, oa, ob, ht, na, nb, first, last⟩ := P
 have asym : ∀ x y, x ∈ a.toList → y ∈ b.toList → L y x = true → L x y = false := fun x y hx hy => hc.asym y x (ob y hy) (oa x hx)
 have la : a.toList.length = a.size := Array.length_toList
 have lb : b.toList.length = b.size := Array.length_toList
 -- a wins: it may go ahead of all that is left of b
 have winA : ∀ {ia ib : Nat} {x y : Keyed}, a[ia]? = some x → b[ib]? = some y → L y x = false → ∀ z ∈ b.toList.drop ib, L z x = false := by
  intro ia ib x y hx hy hl z hz
  obtain ⟨j, h1, h2, h3⟩ := mem_drop_get hz
  rcases Nat.lt_or_ge ib j with q | q
  ·have := (pw_get sb hy h3 q).1
   exact hc.neg x y z (oa x (Array.mem_toList_iff.mpr (Array.mem_of_getElem? hx))) (ob y (Array.mem_toList_iff.mpr (Array.mem_of_getElem? hy))) (ob z (List.mem_of_mem_drop hz)) hl this
  ·have : j = ib := Nat.le_antisymm q h1
   subst this; rw [hy] at h3; cases h3; exact hl
 have winB : ∀ {ia ib : Nat} {x y : Keyed}, a[ia]? = some x → b[ib]? = some y → L y x = true → ∀ z ∈ a.toList.drop ia, L y z = true := by
  intro ia ib x y hx hy hl z hz
  obtain ⟨j, h1, h2, h3⟩ := mem_drop_get hz
  have ox := oa x (Array.mem_toList_iff.mpr (Array.mem_of_getElem? hx))
  have oy := ob y (Array.mem_toList_iff.mpr (Array.mem_of_getElem? hy))
  have oz := oa z (List.mem_of_mem_drop hz)
  rcases Nat.lt_or_ge ia j with q | q
  ·have h4 := (pw_get sa hx h3 q).1
   cases hq : L y z with
   | true => rfl
   | false => have := hc.neg x z y ox oz oy h4 hq; rw [hl] at this; cases this
  ·have : j = ia := Nat.le_antisymm q h1
   subst this; rw [hx] at h3; cases h3; exact hl
 have lastA : ∀ {out : List Keyed} {ia ib : Nat}, MI L T a.toList b.toList out ia ib → ia + 1 = a.size → MOut L T a.toList b.toList (out ++ b.toList.drop ib ++ a.toList.drop ia) := by
  intro out ia ib hm hi
  refine hm.last sa sb fun x hx y hy => ?_
  have h1 := last x (List.mem_of_mem_drop hx) y (by rw [← hi]; simpa using hy)
  exact ⟨asym y x (List.mem_of_mem_drop hy) (List.mem_of_mem_drop hx) h1, .inl h1⟩
 rw [mergeLo'_eq]
 refine wpS_ruleB ?_
 obtain ⟨b0, hb0, mb0, db0⟩ := arr_at (a := b) (i := 0) nb
 refine wpS_elemB hb0 ?_
 have tb : b.toList.take 1 = [b0] := by rw [List.drop_zero] at db0; rw [db0]; rfl
 have M0 : MI L T a.toList b.toList [b0] 0 1 := by
  have M := MI.takeB (L := L) (T := T) (la := a.toList) (lb := b.toList) (out := []) (ia := 0) (ib := 0) ⟨by simp, List.Pairwise.nil, by simp, by simp⟩ sb 1 asym
   (by rw [List.drop_zero]; intro x hx y hy; exact first x hx y (by simpa using hy))
  rw [List.drop_zero, tb] at M
  simpa using M
 change wpS _ _ _ _ (if (1 == b.size) = true then _ else if (0 + 1 == a.size) = true then _ else _) Q st
 split
 ·rename_i q
  have q' : 1 = b.size := eq_of_beq q
  exact wpS_pure (h st _ (SameG.refl _) (mout_rest (M0.doneB sa (Nat.le_of_eq (lb.trans q'.symm)))))
 split
 ·rename_i q
  have q' : 0 + 1 = a.size := eq_of_beq q
  exact wpS_pure (h st _ (SameG.refl _) (mout_rest (lastA M0 q')))
 rename_i hb1 ha1
 refine wpS_getB ?_
 refine wpS_bind (wpS_mono (wpS_forRange
  (I := mlI L T a b st)
  (Q := mlQ L T a b st) ?step ?fin ?init) ?post)
 case init => exact ⟨SameG.refl _, _, _, _, _, rfl, M0, by simp at ha1; lia, by simp at hb1; lia, by lia⟩
 case fin =>
  rintro c st' ⟨_, out, ia, ib, mg, rfl, _, h1, h2, h3⟩
  simp at h3; exfalso; lia
 case post =>
  rintro c st' ⟨hg, r, hr, hm⟩
  simp only [hr]
  exact wpS_pure (h st' r hg hm)
 case step =>
  rintro j c st1 _ hj ⟨hg, out, ia, ib, mg, rfl, M, h1, h2, h3⟩
  refine wpS_bind (wpS_mono (wpS_forRange
   (I := mlI1 L T a b st1 ia ib)
   (Q := mlQ1 L T a b st1 ia ib) ?step1 ?fin1 ?init1) ?post1)
  case init1 => exact ⟨rfl, out, ia, ib, _, _, rfl, M, h1, h2, Nat.le_refl _⟩
  case fin1 =>
   rintro c st' ⟨_, out, ia', ib', ac, bc, rfl, _, g1, g2, g3⟩
   simp at g3; exfalso; lia
  case step1 =>
   clear M h1 h2 h3
   rintro i c st' _ hi ⟨rfl, out, ia', ib', ac, bc, rfl, M, g1, g2, g3⟩
   dsimp only
   obtain ⟨y, hy, my, dy⟩ := arr_at (a := b) g2
   obtain ⟨x, hx, mx, dx⟩ := arr_at (a := a) (i := ia') (Nat.lt_of_succ_lt g1)
   refine wpS_elemB hy (wpS_elemB hx (hc.ltB (ob y my) (oa x mx) (hg.1.trans hkd) ?_))
   cases hl : L y x with
   | true =>
    dsimp only
    rw [if_pos rfl]
    refine wpS_elemB hy ?_
    have M' := M.oneB sb asym hy (winB hx hy hl)
    split
    ·rename_i q
     have q' : ib' + 1 = b.size := eq_of_beq q
     exact wpS_pure ⟨rfl, .inl ⟨_, rfl, mout_rest (M'.doneB sa (Nat.le_of_eq (lb.trans q'.symm)))⟩⟩
    ·rename_i q
     have q' : ib' + 1 ≠ b.size := bneq q
     have f1 : ib' + 1 < b.size := Nat.lt_of_le_of_ne g2 q'
     have f2 : ia + ib + (i + 1) ≤ ia' + (ib' + 1) := Nat.succ_le_succ g3
     split
     ·exact wpS_pure ⟨rfl, .inr ⟨_, _, _, _, _, rfl, M', g1, f1, Nat.le_trans (Nat.add_le_add_left (Nat.le_add_left 1 i) _) f2⟩⟩
     ·exact wpS_pure ⟨rfl, _, _, _, _, _, rfl, M', g1, f1, f2⟩
   | false =>
    dsimp only
    rw [if_neg (by decide)]
    refine wpS_elemB hx ?_
    have M' := M.oneA sa ht hx (winA hx hy hl)
    split
    ·rename_i q
     have q' : ia' + 1 + 1 = a.size := eq_of_beq q
     exact wpS_pure ⟨rfl, .inl ⟨_, rfl, mout_rest (lastA M' q')⟩⟩
    ·rename_i q
     have q' : ia' + 1 + 1 ≠ a.size := bneq q
     have f1 : ia' + 1 + 1 < a.size := Nat.lt_of_le_of_ne g1 q'
     have f2 : ia + ib + (i + 1) ≤ ia' + 1 + ib' := by rw [Nat.add_right_comm ia' 1 ib']; exact Nat.succ_le_succ g3
     split
     ·exact wpS_pure ⟨rfl, .inr ⟨_, _, _, _, _, rfl, M', f1, g2, Nat.le_trans (Nat.add_le_add_left (Nat.le_add_left 1 i) _) f2⟩⟩
     ·exact wpS_pure ⟨rfl, _, _, _, _, _, rfl, M', f1, g2, f2⟩
  case post1 =>
   rintro c st' ⟨rfl, hcase⟩
   rcases hcase with ⟨r, hr, hm⟩ | ⟨out', ia', ib', ac, bc, rfl, M', g1, g2, g3⟩
   ·simp only [hr]
    exact wpS_pure ⟨hg, r, rfl, hm⟩
   ·refine wpS_ruleB ?_
    have galA : ∀ (st2 : SortSt) (ia ib : Nat) (y : Keyed) (Q' : Option Nat → SortSt → Prop), SameG st st2 → ia < a.size → b[ib]? = some y →
      (∀ k, k ≤ a.size - ia → (∀ z ∈ (a.toList.drop ia).take k, L y z = false) → (∀ z ∈ a.toList.drop (ia + k), L y z = true) → Q' (some k) st2) →
      wpS (model prog w) A E s (gallop' false y a ia (a.size - ia) 0) Q' st2 := by
     intro st2 ia ib y Q' hg2 hia hy hq
     exact wpS_gal (left := false) hc (sa.sublist (List.drop_sublist _ _)) (fun x hx => oa x (List.mem_of_mem_drop hx)) (ob y (Array.mem_toList_iff.mpr (Array.mem_of_getElem? hy))) (fun i _ => by rw [List.getElem?_drop, Array.getElem?_toList]) (by rw [List.length_drop, la]) (Nat.sub_pos_of_lt hia) (hg2.1.trans hkd)
      fun k k1 k2 k3 => hq k k1 (fun z hz => bnotT (k2 z hz)) fun z hz => bnotF (k3 z (by rw [List.drop_drop]; exact hz))
    have galB : ∀ (st2 : SortSt) (ia ib : Nat) (x : Keyed) (Q' : Option Nat → SortSt → Prop), SameG st st2 → ib < b.size → a[ia]? = some x →
      (∀ k, k ≤ b.size - ib → (∀ z ∈ (b.toList.drop ib).take k, L z x = true) → (∀ z ∈ b.toList.drop (ib + k), L z x = false) → Q' (some k) st2) →
      wpS (model prog w) A E s (gallop' true x b ib (b.size - ib) 0) Q' st2 := by
     intro st2 ia ib x Q' hg2 hib hx hq
     exact wpS_gal (left := true) hc (sb.sublist (List.drop_sublist _ _)) (fun x hx => ob x (List.mem_of_mem_drop hx)) (oa x (Array.mem_toList_iff.mpr (Array.mem_of_getElem? hx))) (fun i _ => by rw [List.getElem?_drop, Array.getElem?_toList]) (by rw [List.length_drop, lb]) (Nat.sub_pos_of_lt hib) (hg2.1.trans hkd)
      fun k k1 k2 k3 => hq k k1 k2 fun z hz => k3 z (by rw [List.drop_drop]; exact hz)
    refine wpS_bind (wpS_mono (wpS_forRange
     (I := mlI2 L T a b st ia' ib')
     (Q := mlQ2 L T a b st ia' ib') ?step2 ?fin2 ?init2) ?post2)
    case init2 => exact ⟨hg, out', ia', ib', _, _, _, rfl, M', g1, g2, Nat.le_refl _⟩
    case fin2 =>
     rintro c st' ⟨_, out, ia', ib', mg, ac, bc, rfl, _, e1, e2, e3⟩
     simp at e3; exfalso; lia
    case post2 =>
     rintro c st2 ⟨hg2, hcase⟩
     rcases hcase with ⟨r, hr, hm⟩ | ⟨out2, ia2, ib2, mg2, ac2, bc2, rfl, M2, e1, e2, e3⟩
     ·simp only [hr]
      exact wpS_pure ⟨hg2, r, rfl, hm⟩
     ·dsimp only
      refine wpS_bind (wpS_setMinGallop fun st3 hg3 => ?_)
      exact wpS_pure ⟨hg2.trans hg3, _, _, _, _, rfl, M2, e1, e2, Nat.le_trans (Nat.succ_le_succ h3) (Nat.le_trans g3 e3)⟩
    case step2 =>
     rintro i c st2 _ hi ⟨hg2, out, ia2, ib2, mg2, ac2, bc2, rfl, M2, e1, e2, e3⟩
     have turn : ∀ (Q' : ForInStep (Option (Array Keyed) × Array Keyed × Nat × Nat × Nat × Nat × Nat) → SortSt → Prop),
       (∀ r c st', SameG st st' → MOut L T a.toList b.toList r.toList → Q' (.done (some r, c)) st') →
       (∀ out ia ib mg ac bc st', SameG st st' → MI L T a.toList b.toList out.toList ia ib → ia + 1 < a.size → ib < b.size → ia2 + ib2 + 1 ≤ ia + ib →
        Q' (.done (none, out, ia, ib, mg, ac, bc)) st' ∧ Q' (.yield (none, out, ia, ib, mg, ac, bc)) st') → ∀ mg' : Nat,
       wpS (model prog w) A E s (do
        setMinGallop' mg'
        let y ← elem' b ib2
        let some k ← gallop' false y a ia2 (a.size - ia2) 0 | pure (ForInStep.done (some (out ++ a.extract ia2 a.size ++ b.extract ib2 b.size), out, ia2, ib2, mg', ac2, bc2))
        if k > 0 then
         if (ia2 + k + 1 == a.size) = true then
          pure (ForInStep.done (some (out ++ a.extract ia2 (ia2 + k) ++ b.extract ib2 b.size ++ a.extract (ia2 + k) a.size), out ++ a.extract ia2 (ia2 + k), ia2 + k, ib2, mg', k, bc2))
         else if (ia2 + k == a.size) = true then
          pure (ForInStep.done (some (out ++ a.extract ia2 (ia2 + k) ++ a.extract (ia2 + k) a.size ++ b.extract ib2 b.size), out ++ a.extract ia2 (ia2 + k), ia2 + k, ib2, mg', k, bc2))
         else galC a b mg' k bc2 (out ++ a.extract ia2 (ia2 + k)) (ia2 + k) ib2
        else galC a b mg' k bc2 out ia2 ib2) Q' st2 := by
      intro Q' hd hn mg'
      have stepD : ∀ (st3 : SortSt) (out : Array Keyed) (ia ib ac bc : Nat) (x : Keyed), SameG st st3 → MI L T a.toList b.toList out.toList ia ib → ia + 1 < a.size → ib < b.size → a[ia]? = some x →
        (∀ z ∈ b.toList.drop ib, L z x = false) → ia2 + ib2 ≤ ia + ib → wpS (model prog w) A E s (galD a b mg' ac bc out ia ib) Q' st3 := by
       intro st3 out ia ib ac bc x hg3 M f1 f2 hx hz f3
       unfold galD
       refine wpS_elemB hx ?_
       have M' := M.oneA sa ht hx hz
       split
       ·rename_i q
        have q' : ia + 1 + 1 = a.size := eq_of_beq q
        exact wpS_pure (hd _ _ _ hg3 (mout_rest (lastA M' q')))
       ·rename_i q
        have q' : ia + 1 + 1 ≠ a.size := bneq q
        have hh := hn (out.push x) (ia + 1) ib mg' ac bc st3 hg3 M' (Nat.lt_of_le_of_ne f1 q') f2 (by rw [Nat.add_right_comm ia 1 ib]; exact Nat.succ_le_succ f3)
        split
        ·exact wpS_pure hh.1
        ·exact wpS_pure hh.2
      have stepC : ∀ (st3 : SortSt) (out : Array Keyed) (ia ib ac bc : Nat) (y : Keyed), SameG st st3 → MI L T a.toList b.toList out.toList ia ib → ia + 1 < a.size → b[ib]? = some y →
        (∀ z ∈ a.toList.drop ia, L y z = true) → ia2 + ib2 ≤ ia + ib → wpS (model prog w) A E s (galC a b mg' ac bc out ia ib) Q' st3 := by
       intro st3 out ia ib ac bc y hg3 M f1 hy hz f3
       have f2 : ib < b.size := (Array.getElem?_eq_some_iff.mp hy).1
       unfold galC
       refine wpS_elemB hy ?_
       have M' := M.oneB sb asym hy hz
       split
       ·rename_i q
        have q' : ib + 1 = b.size := eq_of_beq q
        exact wpS_pure (hd _ _ _ hg3 (mout_rest (M'.doneB sa (Nat.le_of_eq (lb.trans q'.symm)))))
       ·rename_i q
        have q' : ib + 1 ≠ b.size := bneq q
        have f4 : ib + 1 < b.size := Nat.lt_of_le_of_ne f2 q'
        obtain ⟨x, hx, mx, dx⟩ := arr_at (a := a) (i := ia) (Nat.lt_of_succ_lt f1)
        refine wpS_elemB hx (wpS_bind (galB st3 ia (ib + 1) x _ hg3 f4 hx fun k k1 k2 k3 => ?_))
        dsimp only
        split
        ·have M'' := M'.takeB sb k asym (fun z hz' w hw => winB hx (mem_chunk_get hz').choose_spec.2.2.2 (k2 z hz') w hw)
         rw [← toList_chunk, ← Array.toList_append] at M''
         split
         ·rename_i q2
          have q2' : ib + 1 + k = b.size := eq_of_beq q2
          exact wpS_pure (hd _ _ _ hg3 (mout_rest (M''.doneB sa (Nat.le_of_eq (lb.trans q2'.symm)))))
         ·rename_i q2
          have q2' : ib + 1 + k ≠ b.size := bneq q2
          exact stepD st3 _ _ _ _ _ x hg3 M'' f1 (by lia) hx k3 (Nat.le_trans f3 (Nat.add_le_add_left (Nat.le_trans (Nat.le_succ _) (Nat.le_add_right _ _)) _))
        ·have k0 : k = 0 := Nat.eq_zero_of_not_pos (by assumption)
         subst k0
         exact stepD st3 _ _ _ _ _ x hg3 M' f1 f4 hx k3 (Nat.le_succ_of_le f3)
      refine wpS_bind (wpS_setMinGallop fun st3 hg3 => ?_)
      have hg3 := hg2.trans hg3
      obtain ⟨y, hy, my, dy⟩ := arr_at (a := b) (i := ib2) e2
      refine wpS_elemB hy (wpS_bind (galA st3 ia2 ib2 y _ hg3 (Nat.lt_of_succ_lt e1) hy fun k k1 k2 k3 => ?_))
      dsimp only
      split
      ·have M' := M2.takeA sa k ht (fun z hz' w hw => winA (mem_chunk_get hz').choose_spec.2.2.2 hy (k2 z hz') w hw)
       rw [← toList_chunk, ← Array.toList_append] at M'
       split
       ·rename_i q
        have q' : ia2 + k + 1 = a.size := eq_of_beq q
        exact wpS_pure (hd _ _ _ hg3 (mout_rest (lastA M' q')))
       ·rename_i q
        have q' : ia2 + k + 1 ≠ a.size := bneq q
        split
        ·rename_i q2
         have q2' : ia2 + k = a.size := eq_of_beq q2
         exact wpS_pure (hd _ _ _ hg3 (mout_rest (M'.doneA sb (Nat.le_of_eq (la.trans q2'.symm)))))
        ·rename_i q2
         have q2' : ia2 + k ≠ a.size := bneq q2
         exact stepC st3 _ _ _ _ _ y hg3 M' (by lia) hy k3 (Nat.add_le_add_right (Nat.le_add_right _ _) _)
      ·have k0 : k = 0 := Nat.eq_zero_of_not_pos (by assumption)
       subst k0
       exact stepC st3 _ _ _ _ _ y hg3 M2 e1 hy k3 (Nat.le_refl _)
     have hn' : ∀ out ia ib mg ac bc st', SameG st st' → MI L T a.toList b.toList out.toList ia ib → ia + 1 < a.size → ib < b.size → ia2 + ib2 + 1 ≤ ia + ib → mlQ2 L T a b st ia' ib' (none, out, ia, ib, mg, ac, bc) st' ∧ mlI2 L T a b st ia' ib' (i + 1) (none, out, ia, ib, mg, ac, bc) st' := by
      intro out ia ib mg ac bc st' hgg hm f1 f2 f3
      have f4 : ia' + ib' + (i + 1) ≤ ia + ib := Nat.le_trans (Nat.succ_le_succ e3) f3
      exact ⟨⟨hgg, .inr ⟨out, ia, ib, mg, ac, bc, rfl, hm, f1, f2, Nat.le_trans (Nat.le_add_right _ _) f4⟩⟩, ⟨hgg, out, ia, ib, mg, ac, bc, rfl, hm, f1, f2, f4⟩⟩
     change wpS _ _ _ _ (if mg2 > 1 then _ else _) _ _
     split
     ·exact turn _ (fun r c st' hgg hm => ⟨hgg, .inl ⟨r, rfl, hm⟩⟩) hn' (mg2 - 1)
     ·exact turn _ (fun r c st' hgg hm => ⟨hgg, .inl ⟨r, rfl, hm⟩⟩) hn' mg2
end
theorem mergeHi'_eq (a b : Array Keyed) : mergeHi' a b = (do
 rule "list.sort.merge-hi"
 let total := a.size + b.size
 let done (out : Array Keyed) (na nb : Nat) := a.extract 0 na ++ b.extract 0 nb ++ out.reverse
 let firstOfB (out : Array Keyed) (na nb : Nat) := b.extract 0 nb ++ a.extract 0 na ++ out.reverse
 let mut na := a.size - 1
 let mut nb := b.size
 let mut out : Array Keyed := #[← elem' a na]
 if na == 0 then return done out na nb
 if nb == 1 then return firstOfB out na nb
 let mut minGallop := gallopOf (← get)
 for _ in [0:total] do
  let mut acount := 0
  let mut bcount := 0
  for _ in [0:total] do
   let some aWins ← lt' (← elem' b (nb - 1)) (← elem' a (na - 1)) | return done out na nb
   if aWins then
    na := na - 1; out := out.push (← elem' a na); acount := acount + 1; bcount := 0
    if na == 0 then return done out na nb
    if acount ≥ minGallop then break
   else
    nb := nb - 1; out := out.push (← elem' b nb); bcount := bcount + 1; acount := 0
    if nb == 1 then return firstOfB out na nb
    if bcount ≥ minGallop then break
  rule "list.sort.gallop"
  minGallop := minGallop + 1
  for _ in [0:total] do
   if minGallop > 1 then minGallop := minGallop - 1
   setMinGallop' minGallop
   let some at_ ← gallop' false (← elem' b (nb - 1)) a 0 na (na - 1) | return done out na nb
   let k := na - at_
   acount := k
   if k > 0 then
    out := out ++ (a.extract at_ na).reverse; na := at_
    if na == 0 then return done out na nb
   nb := nb - 1; out := out.push (← elem' b nb)
   if nb == 1 then return firstOfB out na nb
   let some at_ ← gallop' true (← elem' a (na - 1)) b 0 nb (nb - 1) | return done out na nb
   let k := nb - at_
   bcount := k
   if k > 0 then
    out := out ++ (b.extract at_ nb).reverse; nb := at_
    if nb == 1 then return firstOfB out na nb
    if nb == 0 then return done out na nb
   na := na - 1; out := out.push (← elem' a na)
   if na == 0 then return done out na nb
   if acount < 7 && bcount < 7 then break
  minGallop := minGallop + 1
  setMinGallop' minGallop
 unsupported "internal:list.sort.merge-bound") := rfl
structure MH (L : Keyed → Keyed → Bool) (T : Keyed → Keyed → Prop) (la lb : List Keyed) (rev : List Keyed) (na nb : Nat) : Prop where
 perm : rev.Perm (la.drop na ++ lb.drop nb)
 srt : rev.Pairwise (RR L T)
 ra : ∀ x ∈ la.take na, ∀ y ∈ rev, RR L T x y
 rb : ∀ x ∈ lb.take nb, ∀ y ∈ rev, RR L T x y
theorem take_drop_back {α : Type} (l : List α) {i k : Nat} (h : i ≤ k) : (l.take k).drop i ++ l.drop k = l.drop i := by
 rw [List.drop_take, show l.drop k = (l.drop i).drop (k - i) by rw [List.drop_drop]; congr 1; omega, List.take_append_drop]
theorem take_split {α : Type} (l : List α) {i k : Nat} (h : i ≤ k) : l.take k = l.take i ++ (l.take k).drop i := by
 conv => lhs; rw [← List.take_append_drop i (l.take k)]
 rw [List.take_take, Nat.min_eq_left h]
section
variable {L : Keyed → Keyed → Bool} {T : Keyed → Keyed → Prop} {la lb rev : List Keyed} {na nb : Nat}
theorem MH.takeA (h : MH L T la lb rev na nb) (hs : la.Pairwise (RR L T)) {k : Nat} (hk : k ≤ na) (ha : ∀ x y, x ∈ la → y ∈ lb → L y x = true → L x y = false)
  (hc : ∀ x ∈ lb.take nb, ∀ y ∈ (la.take na).drop k, L x y = true) : MH L T la lb ((la.take na).drop k ++ rev) k nb := by
 have hd : (la.take na).Pairwise (RR L T) := hs.sublist (List.take_sublist _ _)
 rw [take_split la hk, List.pairwise_append] at hd
 refine ⟨?_, ?_, ?_, ?_⟩
 ·refine (h.perm.append_left _).trans ?_
  rw [← List.append_assoc, take_drop_back la hk]
 ·rw [List.pairwise_append]
  exact ⟨hd.2.1, h.srt, fun x hx y hy => h.ra x (List.mem_of_mem_drop hx) y hy⟩
 ·intro x hx y hy
  rcases List.mem_append.mp hy with hy | hy
  ·exact hd.2.2 x hx y hy
  ·exact h.ra x (by rw [take_split la hk]; exact List.mem_append_left _ hx) y hy
 ·intro x hx y hy
  rcases List.mem_append.mp hy with hy | hy
  ·have := hc x hx y hy
   exact ⟨ha y x (List.mem_of_mem_take (List.mem_of_mem_drop hy)) (List.mem_of_mem_take hx) this, .inl this⟩
  ·exact h.rb x hx y hy
theorem MH.takeB (h : MH L T la lb rev na nb) (hs : lb.Pairwise (RR L T)) {k : Nat} (hk : k ≤ nb) (ht : ∀ x ∈ la, ∀ y ∈ lb, T x y)
  (hc : ∀ x ∈ la.take na, ∀ y ∈ (lb.take nb).drop k, L y x = false) : MH L T la lb ((lb.take nb).drop k ++ rev) na k := by
 have hd : (lb.take nb).Pairwise (RR L T) := hs.sublist (List.take_sublist _ _)
 rw [take_split lb hk, List.pairwise_append] at hd
 refine ⟨?_, ?_, ?_, ?_⟩
 ·refine (h.perm.append_left _).trans ?_
  rw [← List.append_assoc]
  refine (List.Perm.append_right _ List.perm_append_comm).trans ?_
  rw [List.append_assoc, take_drop_back lb hk]
 ·rw [List.pairwise_append]
  exact ⟨hd.2.1, h.srt, fun x hx y hy => h.rb x (List.mem_of_mem_drop hx) y hy⟩
 ·intro x hx y hy
  rcases List.mem_append.mp hy with hy | hy
  ·exact ⟨hc x hx y hy, .inr (ht x (List.mem_of_mem_take hx) y (List.mem_of_mem_take (List.mem_of_mem_drop hy)))⟩
  ·exact h.ra x hx y hy
 ·intro x hx y hy
  rcases List.mem_append.mp hy with hy | hy
  ·exact hd.2.2 x hx y hy
  ·exact h.rb x (by rw [take_split lb hk]; exact List.mem_append_left _ hx) y hy
theorem MH.doneA (h : MH L T la lb rev 0 nb) (hs : lb.Pairwise (RR L T)) : MOut L T la lb (la.take 0 ++ lb.take nb ++ rev) := by
 have h1 := h.perm; rw [List.drop_zero] at h1
 rw [List.take_zero, List.nil_append]
 refine ⟨?_, ?_⟩
 ·refine (h1.append_left _).trans ?_
  rw [← List.append_assoc]
  refine (List.Perm.append_right _ List.perm_append_comm).trans ?_
  rw [List.append_assoc, List.take_append_drop]
 ·rw [List.pairwise_append]
  exact ⟨hs.sublist (List.take_sublist _ _), h.srt, h.rb⟩
theorem MH.doneB (h : MH L T la lb rev na 0) (hs : la.Pairwise (RR L T)) : MOut L T la lb (la.take na ++ lb.take 0 ++ rev) := by
 have h1 := h.perm; rw [List.drop_zero] at h1
 rw [List.take_zero, List.append_nil]
 refine ⟨?_, ?_⟩
 ·refine (h1.append_left _).trans ?_
  rw [← List.append_assoc, List.take_append_drop]
 ·rw [List.pairwise_append]
  exact ⟨hs.sublist (List.take_sublist _ _), h.srt, h.ra⟩
theorem MH.fst (h : MH L T la lb rev na nb) (hsa : la.Pairwise (RR L T)) (hsb : lb.Pairwise (RR L T)) (hc : ∀ x ∈ lb.take nb, ∀ y ∈ la.take na, RR L T x y) : MOut L T la lb (lb.take nb ++ la.take na ++ rev) := by
 refine ⟨?_, ?_⟩
 ·refine (h.perm.append_left _).trans ?_
  rw [List.append_assoc, ← List.append_assoc (la.take na), List.take_append_drop]
  refine (List.perm_append_comm).trans ?_
  rw [List.append_assoc]
  refine (List.Perm.append_left _ List.perm_append_comm).trans ?_
  rw [List.take_append_drop]
 ·rw [List.pairwise_append, List.pairwise_append]
  refine ⟨⟨hsb.sublist (List.take_sublist _ _), hsa.sublist (List.take_sublist _ _), hc⟩, h.srt, fun x hx y hy => ?_⟩
  rcases List.mem_append.mp hx with hx | hx
  ·exact h.rb x hx y hy
  ·exact h.ra x hx y hy
end
theorem arr_last {a : Array Keyed} {n : Nat} (h0 : 0 < n) (h : n ≤ a.size) : ∃ x, a[n - 1]? = some x ∧ x ∈ a.toList ∧ (a.toList.take n).drop (n - 1) = [x] := by
 refine ⟨a[n - 1], by simp, Array.getElem_mem_toList _, ?_⟩
 apply List.ext_getElem?
 intro i
 rw [List.getElem?_drop, List.getElem?_take]
 cases i with
 | zero => rw [if_pos (by omega)]; simp
 | succ i => rw [if_neg (by omega)]; simp
theorem toList_front {a : Array Keyed} {n : Nat} : (a.extract 0 n).toList = a.toList.take n := by
 rw [Array.toList_extract]; simp [List.extract]
theorem toList_mid {a : Array Keyed} {i n : Nat} : (a.extract i n).toList = (a.toList.take n).drop i := by
 rw [Array.toList_extract]; simp [List.extract]; rw [List.drop_take]
theorem mem_take_get {a : Array Keyed} {n : Nat} {y : Keyed} (h : y ∈ a.toList.take n) : ∃ j, j < n ∧ j < a.size ∧ a[j]? = some y := by
 obtain ⟨j, hj, rfl⟩ := List.mem_iff_getElem.mp h
 rw [List.length_take, Array.length_toList] at hj
 exact ⟨j, by omega, by omega, by rw [List.getElem_take, Array.getElem_toList]; simp⟩
theorem mem_mid_get {a : Array Keyed} {i n : Nat} {y : Keyed} (h : y ∈ (a.toList.take n).drop i) : ∃ j, i ≤ j ∧ j < n ∧ j < a.size ∧ a[j]? = some y := by
 obtain ⟨j, hj, rfl⟩ := List.mem_iff_getElem.mp h
 rw [List.length_drop, List.length_take, Array.length_toList] at hj
 exact ⟨i + j, by omega, by omega, by omega, by rw [List.getElem_drop, List.getElem_take, Array.getElem_toList]; simp⟩
section
variable {prog : Program} {w : World} {A : Around} {E : Value → Shared → Prop} {s : Shared} {kd : SortKind} {ok : Keyed → Prop} {L : Keyed → Keyed → Bool} {T : Keyed → Keyed → Prop}
noncomputable def ghD (a b : Array Keyed) (mg ac bc : Nat) (out : Array Keyed) (na nb : Nat) : StateT SortSt Sem (ForInStep (Option (Array Keyed) × Nat × Nat × Array Keyed × Nat × Nat × Nat)) := do
 let x ← elem' a (na - 1)
 if (na - 1 == 0) = true then
  pure (ForInStep.done (some (a.extract 0 (na - 1) ++ b.extract 0 nb ++ (out.push x).reverse), na - 1, nb, out.push x, mg, ac, bc))
 else if (decide (ac < 7) && decide (bc < 7)) = true then pure (ForInStep.done (none, na - 1, nb, out.push x, mg, ac, bc))
 else pure (ForInStep.yield (none, na - 1, nb, out.push x, mg, ac, bc))
noncomputable def ghC (a b : Array Keyed) (mg ac bc : Nat) (out : Array Keyed) (na nb : Nat) : StateT SortSt Sem (ForInStep (Option (Array Keyed) × Nat × Nat × Array Keyed × Nat × Nat × Nat)) := do
 let y ← elem' b (nb - 1)
 if (nb - 1 == 1) = true then
  pure (ForInStep.done (some (b.extract 0 (nb - 1) ++ a.extract 0 na ++ (out.push y).reverse), na, nb - 1, out.push y, mg, ac, bc))
 else do
  let x ← elem' a (na - 1)
  let some at_ ← gallop' true x b 0 (nb - 1) (nb - 1 - 1) | pure (ForInStep.done (some (a.extract 0 na ++ b.extract 0 (nb - 1) ++ (out.push y).reverse), na, nb - 1, out.push y, mg, ac, bc))
  if nb - 1 - at_ > 0 then
   if (at_ == 1) = true then
    pure (ForInStep.done (some (b.extract 0 at_ ++ a.extract 0 na ++ (out.push y ++ (b.extract at_ (nb - 1)).reverse).reverse), na, at_, out.push y ++ (b.extract at_ (nb - 1)).reverse, mg, ac, nb - 1 - at_))
   else if (at_ == 0) = true then
    pure (ForInStep.done (some (a.extract 0 na ++ b.extract 0 at_ ++ (out.push y ++ (b.extract at_ (nb - 1)).reverse).reverse), na, at_, out.push y ++ (b.extract at_ (nb - 1)).reverse, mg, ac, nb - 1 - at_))
   else ghD a b mg ac (nb - 1 - at_) (out.push y ++ (b.extract at_ (nb - 1)).reverse) na at_
  else ghD a b mg ac (nb - 1 - at_) (out.push y) na (nb - 1)
theorem rev_push (out : Array Keyed) (x : Keyed) : (out.push x).reverse.toList = [x] ++ out.reverse.toList := by simp
theorem rev_chunk (out c : Array Keyed) : (out ++ c.reverse).reverse.toList = c.toList ++ out.reverse.toList := by simp
noncomputable abbrev mhI (L : Keyed → Keyed → Bool) (T : Keyed → Keyed → Prop) (a b : Array Keyed) (st : SortSt) (j : Nat) (c : Option (Array Keyed) × Nat × Nat × Array Keyed × Nat) (st' : SortSt) : Prop := SameG st st' ∧ ∃ out na nb mg, c = (none, na, nb, out, mg) ∧ MH L T a.toList b.toList out.reverse.toList na nb ∧ 0 < na ∧ na ≤ a.size ∧ 1 < nb ∧ nb ≤ b.size ∧ na + nb + j + 1 ≤ a.size + b.size
noncomputable abbrev mhQ (L : Keyed → Keyed → Bool) (T : Keyed → Keyed → Prop) (a b : Array Keyed) (st : SortSt) (c : Option (Array Keyed) × Nat × Nat × Array Keyed × Nat) (st' : SortSt) : Prop := SameG st st' ∧ ∃ r, c.1 = some r ∧ MOut L T a.toList b.toList r.toList
noncomputable abbrev mhI1 (L : Keyed → Keyed → Bool) (T : Keyed → Keyed → Prop) (a b : Array Keyed) (st1 : SortSt) (na nb i : Nat) (c : Option (Array Keyed) × Nat × Nat × Array Keyed × Nat × Nat) (st' : SortSt) : Prop := st' = st1 ∧ ∃ out na' nb' ac bc, c = (none, na', nb', out, ac, bc) ∧ MH L T a.toList b.toList out.reverse.toList na' nb' ∧ 0 < na' ∧ na' ≤ a.size ∧ 1 < nb' ∧ nb' ≤ b.size ∧ na' + nb' + i ≤ na + nb
noncomputable abbrev mhQ1 (L : Keyed → Keyed → Bool) (T : Keyed → Keyed → Prop) (a b : Array Keyed) (st1 : SortSt) (na nb : Nat) (c : Option (Array Keyed) × Nat × Nat × Array Keyed × Nat × Nat) (st' : SortSt) : Prop := st' = st1 ∧ ((∃ r, c.1 = some r ∧ MOut L T a.toList b.toList r.toList) ∨ ∃ out na' nb' ac bc, c = (none, na', nb', out, ac, bc) ∧ MH L T a.toList b.toList out.reverse.toList na' nb' ∧ 0 < na' ∧ na' ≤ a.size ∧ 1 < nb' ∧ nb' ≤ b.size ∧ na' + nb' + 1 ≤ na + nb)
noncomputable abbrev mhI2 (L : Keyed → Keyed → Bool) (T : Keyed → Keyed → Prop) (a b : Array Keyed) (st : SortSt) (na' nb' i : Nat) (c : Option (Array Keyed) × Nat × Nat × Array Keyed × Nat × Nat × Nat) (st' : SortSt) : Prop := SameG st st' ∧ ∃ out na2 nb2 mg ac bc, c = (none, na2, nb2, out, mg, ac, bc) ∧ MH L T a.toList b.toList out.reverse.toList na2 nb2 ∧ 0 < na2 ∧ na2 ≤ a.size ∧ 1 < nb2 ∧ nb2 ≤ b.size ∧ na2 + nb2 + i ≤ na' + nb'
noncomputable abbrev mhQ2 (L : Keyed → Keyed → Bool) (T : Keyed → Keyed → Prop) (a b : Array Keyed) (st : SortSt) (na' nb' : Nat) (c : Option (Array Keyed) × Nat × Nat × Array Keyed × Nat × Nat × Nat) (st' : SortSt) : Prop := SameG st st' ∧ ((∃ r, c.1 = some r ∧ MOut L T a.toList b.toList r.toList) ∨ ∃ out na2 nb2 mg ac bc, c = (none, na2, nb2, out, mg, ac, bc) ∧ MH L T a.toList b.toList out.reverse.toList na2 nb2 ∧ 0 < na2 ∧ na2 ≤ a.size ∧ 1 < nb2 ∧ nb2 ≤ b.size ∧ na2 + nb2 ≤ na' + nb')
theorem MH.oneA {a b out : Array Keyed} {na nb : Nat} {x : Keyed} (M : MH L T a.toList b.toList out.reverse.toList na nb) (sa : a.toList.Pairwise (RR L T)) (asym : ∀ x y, x ∈ a.toList → y ∈ b.toList → L y x = true → L x y = false) (h0 : 0 < na) (hx : a[na - 1]? = some x) (h2 : na ≤ a.size) (hz : ∀ z ∈ b.toList.take nb, L z x = true) : MH L T a.toList b.toList (out.push x).reverse.toList (na - 1) nb := by
 obtain ⟨x', hx', mx, dx⟩ := arr_last (a := a) (n := na) h0 h2
 rw [hx] at hx'; cases hx'
 have M' := M.takeA sa (k := na - 1) (Nat.sub_le _ _) asym (by rw [dx]; intro z hz' w hw; rw [List.mem_singleton.mp hw]; exact hz z hz')
 rw [dx, ← rev_push] at M'; exact M'
theorem MH.oneB {a b out : Array Keyed} {na nb : Nat} {y : Keyed} (M : MH L T a.toList b.toList out.reverse.toList na nb) (sb : b.toList.Pairwise (RR L T)) (ht : ∀ x ∈ a.toList, ∀ y ∈ b.toList, T x y) (h0 : 0 < nb) (hy : b[nb - 1]? = some y) (h2 : nb ≤ b.size) (hz : ∀ z ∈ a.toList.take na, L y z = false) : MH L T a.toList b.toList (out.push y).reverse.toList na (nb - 1) := by
 obtain ⟨x', hx', mx, dx⟩ := arr_last (a := b) (n := nb) h0 h2
 rw [hy] at hx'; cases hx'
 have M' := M.takeB sb (k := nb - 1) (Nat.sub_le _ _) ht (by rw [dx]; intro z hz' w hw; rw [List.mem_singleton.mp hw]; exact hz z hz')
 rw [dx, ← rev_push] at M'; exact M'
theorem mout_front {la lb : List Keyed} {o x y : Array Keyed} {i j : Nat} (h : MOut L T la lb (x.toList.take i ++ y.toList.take j ++ o.toList)) : MOut L T la lb (x.extract 0 i ++ y.extract 0 j ++ o).toList := by
 rw [Array.toList_append, Array.toList_append, toList_front, toList_front]; exact h
theorem wpS_mergeHi (hc : Cmp prog w A E s kd ok L) {a b : Array Keyed} (P : MP ok L T a b) {st : SortSt} (hkd : kindOf st = kd) {Q : Array Keyed → SortSt → Prop}
    (h : ∀ st' res, SameG st st' → MOut L T a.toList b.toList res.toList → Q res st') : wpS (model prog w) A E s (mergeHi' a b) Q st := by
  obtain ⟨sa, sb, oa, ob, ht, na0, nb0, first, last⟩ := P
  have asym : ∀ x y, x ∈ a.toList → y ∈ b.toList → L y x = true → L x y = false := fun x y hx hy => hc.asym y x (ob y hy) (oa x hx)
  -- a wins: all that is left of b is less
  have winA : ∀ {na nb : Nat} {x y : Keyed}, a[na]? = some x → b[nb - 1]? = some y → L y x = true → ∀ z ∈ b.toList.take nb, L z x = true := by
    intro na nb x y hx hy hl z hz
    obtain ⟨j, h1, h2, h3⟩ := mem_take_get hz
    have ox := oa x (Array.mem_toList_iff.mpr (Array.mem_of_getElem? hx))
    have oy := ob y (Array.mem_toList_iff.mpr (Array.mem_of_getElem? hy))
    have oz := ob z (List.mem_of_mem_take hz)
    rcases Nat.lt_or_ge j (nb - 1) with q | q
    · have h4 := (pw_get sb h3 hy q).1
      cases hq : L z x with
      | true => rfl
      | false => have := hc.neg x z y ox oz oy hq h4; rw [hl] at this; cases this
    · have : j = nb - 1 := Nat.le_antisymm (Nat.le_sub_one_of_lt h1) q
      subst this; rw [hy] at h3; cases h3; exact hl
  have winB : ∀ {na nb : Nat} {x y : Keyed}, a[na - 1]? = some x → b[nb]? = some y → L y x = false → ∀ z ∈ a.toList.take na, L y z = false := by
    intro na nb x y hx hy hl z hz
    obtain ⟨j, h1, h2, h3⟩ := mem_take_get hz
    have ox := oa x (Array.mem_toList_iff.mpr (Array.mem_of_getElem? hx))
    have oy := ob y (Array.mem_toList_iff.mpr (Array.mem_of_getElem? hy))
    have oz := oa z (List.mem_of_mem_take hz)
    rcases Nat.lt_or_ge j (na - 1) with q | q
    · exact hc.neg z x y oz ox oy (pw_get sa h3 hx q).1 hl
    · have : j = na - 1 := Nat.le_antisymm (Nat.le_sub_one_of_lt h1) q
      subst this; rw [hx] at h3; cases h3; exact hl
  have firstB : ∀ {rev : List Keyed} {na nb : Nat}, MH L T a.toList b.toList rev na nb → nb = 1 → MOut L T a.toList b.toList (b.toList.take nb ++ a.toList.take na ++ rev) := by
    intro rev na nb hm hn
    subst hn
    refine hm.fst sa sb fun x hx y hy => ?_
    have h1 := first x hx y (List.mem_of_mem_take hy)
    exact ⟨asym y x (List.mem_of_mem_take hy) (List.mem_of_mem_take hx) h1, .inl h1⟩
  have la : a.toList.length = a.size := Array.length_toList
  have lb : b.toList.length = b.size := Array.length_toList
  have galA : ∀ (st2 : SortSt) (na nb : Nat) (y : Keyed) (Q' : Option Nat → SortSt → Prop), SameG st st2 → 0 < na → na ≤ a.size → b[nb]? = some y →
      (∀ k, k ≤ na → (∀ z ∈ a.toList.take k, L y z = false) → (∀ z ∈ (a.toList.take na).drop k, L y z = true) → Q' (some k) st2) →
      wpS (model prog w) A E s (gallop' false y a 0 na (na - 1)) Q' st2 := by
    intro st2 na nb y Q' hg2 hna hna2 hy hq
    exact wpS_gal (left := false) hc (sa.sublist (List.take_sublist _ _)) (fun x hx => oa x (List.mem_of_mem_take hx)) (ob y (Array.mem_toList_iff.mpr (Array.mem_of_getElem? hy))) (fun i hi => by rw [List.getElem?_take_of_lt (Nat.lt_of_lt_of_le hi (List.length_take_le _ _)), Array.getElem?_toList, Nat.zero_add]) (by rw [List.length_take, la, Nat.min_eq_left hna2]) (Nat.sub_lt hna Nat.one_pos) (hg2.1.trans hkd)
      fun k k1 k2 k3 => hq k k1 (fun z hz => bnotT (k2 z (by rw [List.take_take, Nat.min_eq_left k1]; exact hz))) fun z hz => bnotF (k3 z hz)
  have galB : ∀ (st2 : SortSt) (na nb : Nat) (x : Keyed) (Q' : Option Nat → SortSt → Prop), SameG st st2 → 0 < nb → nb ≤ b.size → a[na]? = some x →
      (∀ k, k ≤ nb → (∀ z ∈ b.toList.take k, L z x = true) → (∀ z ∈ (b.toList.take nb).drop k, L z x = false) → Q' (some k) st2) →
      wpS (model prog w) A E s (gallop' true x b 0 nb (nb - 1)) Q' st2 := by
    intro st2 na nb x Q' hg2 hnb hnb2 hx hq
    exact wpS_gal (left := true) hc (sb.sublist (List.take_sublist _ _)) (fun x hx => ob x (List.mem_of_mem_take hx)) (oa x (Array.mem_toList_iff.mpr (Array.mem_of_getElem? hx))) (fun i hi => by rw [List.getElem?_take_of_lt (Nat.lt_of_lt_of_le hi (List.length_take_le _ _)), Array.getElem?_toList, Nat.zero_add]) (by rw [List.length_take, lb, Nat.min_eq_left hnb2]) (Nat.sub_lt hnb Nat.one_pos) (hg2.1.trans hkd)
      fun k k1 k2 k3 => hq k k1 (fun z hz => k2 z (by rw [List.take_take, Nat.min_eq_left k1]; exact hz)) k3
  rw [mergeHi'_eq]
  refine wpS_ruleB ?_
  obtain ⟨x0, hx0, mx0, dx0⟩ := arr_last (a := a) (n := a.size) (by lia) (Nat.le_refl _)
  change wpS _ _ _ _ (elem' a (a.size - 1) >>= _) Q st
  refine wpS_elemB hx0 ?_
  have M0 : MH L T a.toList b.toList [x0] (a.size - 1) b.size := by
    have M := MH.takeA (L := L) (T := T) (la := a.toList) (lb := b.toList) (rev := []) (na := a.size) (nb := b.size)
      ⟨by rw [List.drop_eq_nil_of_le (by rw [la]; lia), List.drop_eq_nil_of_le (by rw [lb]; lia)]; simp, List.Pairwise.nil, by simp, by simp⟩ sa (k := a.size - 1) (by lia) asym
      (by rw [dx0]; intro x hx y hy; simp at hy; subst hy
          exact last x (List.mem_of_mem_take hx) y (get_mem_drop hx0 (Nat.le_refl _)))
    rw [dx0] at M
    simpa using M
  change wpS _ _ _ _ (if (a.size - 1 == 0) = true then _ else if (b.size == 1) = true then _ else _) Q st
  split
  · rename_i q
    have q' : a.size - 1 = 0 := eq_of_beq q
    exact wpS_pure (h st _ (SameG.refl _) (mout_front (by rw [q'] at M0 ⊢; exact M0.doneA sb)))
  split
  · rename_i q
    have q' : b.size = 1 := eq_of_beq q
    exact wpS_pure (h st _ (SameG.refl _) (mout_front (firstB M0 q')))
  rename_i ha1 hb1
  refine wpS_getB ?_
  refine wpS_bind (wpS_mono (wpS_forRange
    (I := mhI L T a b st)
    (Q := mhQ L T a b st) ?step ?fin ?init) ?post)
  case init => exact ⟨SameG.refl _, _, _, _, _, rfl, M0, by simp at ha1; lia, by lia, by simp at hb1; lia, by lia, by lia⟩
  case fin =>
    rintro c st' ⟨_, out, na, nb, mg, rfl, _, h1, h2, h3, h4, h5⟩
    simp at h5; exfalso; lia
  case post =>
    rintro c st' ⟨hg, r, hr, hm⟩
    simp only [hr]
    exact wpS_pure (h st' r hg hm)
  case step =>
    rintro j c st1 _ hj ⟨hg, out, na, nb, mg, rfl, M, h1, h2, h3, h4, h5⟩
    refine wpS_bind (wpS_mono (wpS_forRange
      (I := mhI1 L T a b st1 na nb)
      (Q := mhQ1 L T a b st1 na nb) ?step1 ?fin1 ?init1) ?post1)
    case init1 => exact ⟨rfl, out, na, nb, _, _, rfl, M, h1, h2, h3, h4, Nat.le_refl _⟩
    case fin1 =>
      rintro c st' ⟨_, out, na', nb', ac, bc, rfl, _, g1, g2, g3, g4, g5⟩
      simp at g5; exfalso; lia
    case step1 =>
      clear M
      rintro i c st' _ hi ⟨rfl, out, na', nb', ac, bc, rfl, M, g1, g2, g3, g4, g5⟩
      dsimp only
      have g0 := Nat.lt_of_succ_lt g3
      obtain ⟨y, hy, my, dy⟩ := arr_last (a := b) (n := nb') g0 g4
      obtain ⟨x, hx, mx, dx⟩ := arr_last (a := a) (n := na') g1 g2
      refine wpS_elemB hy (wpS_elemB hx (hc.ltB (ob y my) (oa x mx) (hg.1.trans hkd) ?_))
      cases hl : L y x with
      | true =>
        dsimp only
        rw [if_pos rfl]
        refine wpS_elemB hx ?_
        have M' := M.oneA sa asym g1 hx g2 (winA hx hy hl)
        split
        · rename_i q
          have q' : na' - 1 = 0 := eq_of_beq q
          exact wpS_pure ⟨rfl, .inl ⟨_, rfl, mout_front (by rw [q'] at M' ⊢; exact M'.doneA sb)⟩⟩
        · rename_i q
          have q' : na' - 1 ≠ 0 := bneq q
          have f0 := Nat.pos_of_ne_zero q'
          have f1 := Nat.le_trans (Nat.sub_le na' 1) g2
          have f2 : na' - 1 + nb' + (i + 1) ≤ na + nb := by clear M M' dx dy; lia
          split
          · exact wpS_pure ⟨rfl, .inr ⟨_, _, _, _, _, rfl, M', f0, f1, g3, g4, Nat.le_trans (Nat.add_le_add_left (Nat.le_add_left 1 i) _) f2⟩⟩
          · exact wpS_pure ⟨rfl, _, _, _, _, _, rfl, M', f0, f1, g3, g4, f2⟩
      | false =>
        dsimp only
        rw [if_neg (by decide)]
        refine wpS_elemB hy ?_
        have M' := M.oneB sb ht g0 hy g4 (winB hx hy hl)
        split
        · rename_i q
          have q' : nb' - 1 = 1 := eq_of_beq q
          exact wpS_pure ⟨rfl, .inl ⟨_, rfl, mout_front (firstB M' q')⟩⟩
        · rename_i q
          have q' : nb' - 1 ≠ 1 := bneq q
          have f0 := Nat.lt_of_le_of_ne (Nat.le_sub_one_of_lt g3) (Ne.symm q')
          have f1 := Nat.le_trans (Nat.sub_le nb' 1) g4
          have f2 : na' + (nb' - 1) + (i + 1) ≤ na + nb := by clear M M' dx dy; lia
          split
          · exact wpS_pure ⟨rfl, .inr ⟨_, _, _, _, _, rfl, M', g1, g2, f0, f1, Nat.le_trans (Nat.add_le_add_left (Nat.le_add_left 1 i) _) f2⟩⟩
          · exact wpS_pure ⟨rfl, _, _, _, _, _, rfl, M', g1, g2, f0, f1, f2⟩
    case post1 =>
      rintro c st' ⟨rfl, hcase⟩
      rcases hcase with ⟨r, hr, hm⟩ | ⟨out', na', nb', ac, bc, rfl, M', g1, g2, g3, g4, g5⟩
      · simp only [hr]
        exact wpS_pure ⟨hg, r, rfl, hm⟩
      · refine wpS_ruleB ?_
        refine wpS_bind (wpS_mono (wpS_forRange
          (I := mhI2 L T a b st na' nb')
          (Q := mhQ2 L T a b st na' nb') ?step2 ?fin2 ?init2) ?post2)
        case init2 => exact ⟨hg, out', na', nb', _, _, _, rfl, M', g1, g2, g3, g4, Nat.le_refl _⟩
        case fin2 =>
          rintro c st' ⟨_, out, na', nb', mg, ac, bc, rfl, _, e1, e2, e3, e4, e5⟩
          simp at e5; exfalso; lia
        case post2 =>
          rintro c st2 ⟨hg2, hcase⟩
          rcases hcase with ⟨r, hr, hm⟩ | ⟨out2, na2, nb2, mg2, ac2, bc2, rfl, M2, e1, e2, e3, e4, e5⟩
          · simp only [hr]
            exact wpS_pure ⟨hg2, r, rfl, hm⟩
          · dsimp only
            refine wpS_bind (wpS_setMinGallop fun st3 hg3 => ?_)
            exact wpS_pure ⟨hg2.trans hg3, _, _, _, _, rfl, M2, e1, e2, e3, e4, by clear M2 M'; lia⟩
        case step2 =>
          rintro i c st2 _ hi ⟨hg2, out, na2, nb2, mg2, ac2, bc2, rfl, M2, e1, e2, e3, e4, e5⟩
          have turn : ∀ (Q' : ForInStep (Option (Array Keyed) × Nat × Nat × Array Keyed × Nat × Nat × Nat) → SortSt → Prop),
              (∀ r c st', SameG st st' → MOut L T a.toList b.toList r.toList → Q' (.done (some r, c)) st') →
              (∀ out na nb mg ac bc st', SameG st st' → MH L T a.toList b.toList out.reverse.toList na nb → 0 < na → na ≤ a.size → 1 < nb → nb ≤ b.size → na + nb + 1 ≤ na2 + nb2 →
                Q' (.done (none, na, nb, out, mg, ac, bc)) st' ∧ Q' (.yield (none, na, nb, out, mg, ac, bc)) st') → ∀ mg' : Nat,
              wpS (model prog w) A E s (do
                setMinGallop' mg'
                let y ← elem' b (nb2 - 1)
                let some at_ ← gallop' false y a 0 na2 (na2 - 1) | pure (ForInStep.done (some (a.extract 0 na2 ++ b.extract 0 nb2 ++ out.reverse), na2, nb2, out, mg', ac2, bc2))
                if na2 - at_ > 0 then
                  if (at_ == 0) = true then
                    pure (ForInStep.done (some (a.extract 0 at_ ++ b.extract 0 nb2 ++ (out ++ (a.extract at_ na2).reverse).reverse), at_, nb2, out ++ (a.extract at_ na2).reverse, mg', na2 - at_, bc2))
                  else ghC a b mg' (na2 - at_) bc2 (out ++ (a.extract at_ na2).reverse) at_ nb2
                else ghC a b mg' (na2 - at_) bc2 out na2 nb2) Q' st2 := by
            intro Q' hd hn mg'
            have stepD : ∀ (st3 : SortSt) (out : Array Keyed) (na nb ac bc : Nat) (x : Keyed), SameG st st3 → MH L T a.toList b.toList out.reverse.toList na nb → 0 < na → na ≤ a.size → 1 < nb → nb ≤ b.size → a[na - 1]? = some x →
                (∀ z ∈ b.toList.take nb, L z x = true) → na + nb ≤ na2 + nb2 → wpS (model prog w) A E s (ghD a b mg' ac bc out na nb) Q' st3 := by
              intro st3 out na nb ac bc x hg3 M f1 f2 f3 f4 hx hz f5
              unfold ghD
              refine wpS_elemB hx ?_
              have M' := M.oneA sa asym f1 hx f2 hz
              split
              · rename_i q
                have q' : na - 1 = 0 := eq_of_beq q
                exact wpS_pure (hd _ _ _ hg3 (mout_front (by rw [q'] at M' ⊢; exact M'.doneA sb)))
              · rename_i q
                have q' : na - 1 ≠ 0 := bneq q
                have hh := hn (out.push x) (na - 1) nb mg' ac bc st3 hg3 M' (Nat.pos_of_ne_zero q') (Nat.le_trans (Nat.sub_le na 1) f2) f3 f4 (by clear M M' hd hn; lia)
                split
                · exact wpS_pure hh.1
                · exact wpS_pure hh.2
            have stepC : ∀ (st3 : SortSt) (out : Array Keyed) (na nb ac bc : Nat) (y : Keyed), SameG st st3 → MH L T a.toList b.toList out.reverse.toList na nb → 0 < na → na ≤ a.size → 1 < nb → nb ≤ b.size → b[nb - 1]? = some y →
                (∀ z ∈ a.toList.take na, L y z = false) → na + nb ≤ na2 + nb2 → wpS (model prog w) A E s (ghC a b mg' ac bc out na nb) Q' st3 := by
              intro st3 out na nb ac bc y hg3 M f1 f2 f3 f4 hy hz f5
              unfold ghC
              refine wpS_elemB hy ?_
              have f0 := Nat.lt_of_succ_lt f3
              have M' := M.oneB sb ht f0 hy f4 hz
              split
              · rename_i q
                have q' : nb - 1 = 1 := eq_of_beq q
                exact wpS_pure (hd _ _ _ hg3 (mout_front (firstB M' q')))
              · rename_i q
                have q' : nb - 1 ≠ 1 := bneq q
                obtain ⟨x, hx, mx, dx⟩ := arr_last (a := a) (n := na) f1 f2
                have f6 := Nat.le_sub_one_of_lt f3
                have f7 := Nat.sub_le nb 1
                refine wpS_elemB hx (wpS_bind (galB st3 (na - 1) (nb - 1) x _ hg3 f6 (Nat.le_trans f7 f4) hx fun k k1 k2 k3 => ?_))
                dsimp only
                split
                · have M'' := M'.takeB sb (k := k) k1 ht (fun z hz' w hw => winB hx (mem_mid_get hw).choose_spec.2.2.2 (k3 w hw) z hz')
                  rw [← toList_mid, ← rev_chunk] at M''
                  split
                  · rename_i q2
                    have q2' : k = 1 := eq_of_beq q2
                    exact wpS_pure (hd _ _ _ hg3 (mout_front (firstB M'' q2')))
                  · rename_i q2
                    have q2' : k ≠ 1 := bneq q2
                    split
                    · rename_i q3
                      have q3' : k = 0 := eq_of_beq q3
                      subst q3'
                      exact wpS_pure (hd _ _ _ hg3 (mout_front (M''.doneB sa)))
                    · rename_i q3
                      have q3' : k ≠ 0 := bneq q3
                      have k4 := Nat.le_trans k1 f7
                      exact stepD st3 _ _ _ _ _ x hg3 M'' f1 f2 (Nat.lt_of_le_of_ne (Nat.pos_of_ne_zero q3') (Ne.symm q2')) (Nat.le_trans k4 f4) hx k2 (Nat.le_trans (Nat.add_le_add_left k4 _) f5)
                · have k0 : k = nb - 1 := Nat.le_antisymm k1 (Nat.le_of_sub_eq_zero (Nat.eq_zero_of_not_pos (by assumption)))
                  subst k0
                  exact stepD st3 _ _ _ _ _ x hg3 M' f1 f2 (Nat.lt_of_le_of_ne f6 (Ne.symm q')) (Nat.le_trans f7 f4) hx k2 (Nat.le_trans (Nat.add_le_add_left f7 _) f5)
            refine wpS_bind (wpS_setMinGallop fun st3 hg3 => ?_)
            have hg3 := hg2.trans hg3
            obtain ⟨y, hy, my, dy⟩ := arr_last (a := b) (n := nb2) (Nat.lt_of_succ_lt e3) e4
            refine wpS_elemB hy (wpS_bind (galA st3 na2 (nb2 - 1) y _ hg3 e1 e2 hy fun k k1 k2 k3 => ?_))
            dsimp only
            split
            · have M' := M2.takeA sa (k := k) k1 asym (fun z hz' w hw => winA (mem_mid_get hw).choose_spec.2.2.2 hy (k3 w hw) z hz')
              rw [← toList_mid, ← rev_chunk] at M'
              split
              · rename_i q
                have q' : k = 0 := eq_of_beq q
                subst q'
                exact wpS_pure (hd _ _ _ hg3 (mout_front (M'.doneA sb)))
              · rename_i q
                have q' : k ≠ 0 := bneq q
                exact stepC st3 _ _ _ _ _ y hg3 M' (Nat.pos_of_ne_zero q') (Nat.le_trans k1 e2) e3 e4 hy k2 (Nat.add_le_add_right k1 _)
            · have k0 : k = na2 := Nat.le_antisymm k1 (Nat.le_of_sub_eq_zero (Nat.eq_zero_of_not_pos (by assumption)))
              subst k0
              exact stepC st3 _ _ _ _ _ y hg3 M2 e1 e2 e3 e4 hy k2 (Nat.le_refl _)
          have hn' : ∀ out na nb mg ac bc st', SameG st st' → MH L T a.toList b.toList out.reverse.toList na nb → 0 < na → na ≤ a.size → 1 < nb → nb ≤ b.size → na + nb + 1 ≤ na2 + nb2 → mhQ2 L T a b st na' nb' (none, na, nb, out, mg, ac, bc) st' ∧ mhI2 L T a b st na' nb' (i + 1) (none, na, nb, out, mg, ac, bc) st' := by
            intro out na nb mg ac bc st' hgg hm f1 f2 f3 f4 f5
            have f6 : na + nb + (i + 1) ≤ na' + nb' := by clear hm M2 M' turn; lia
            exact ⟨⟨hgg, .inr ⟨out, na, nb, mg, ac, bc, rfl, hm, f1, f2, f3, f4, Nat.le_trans (Nat.le_add_right _ _) f6⟩⟩, ⟨hgg, out, na, nb, mg, ac, bc, rfl, hm, f1, f2, f3, f4, f6⟩⟩
          change wpS _ _ _ _ (if mg2 > 1 then _ else _) _ _
          split
          · exact turn _ (fun r c st' hgg hm => ⟨hgg, .inl ⟨r, rfl, hm⟩⟩) hn' (mg2 - 1)
          · exact turn _ (fun r c st' hgg hm => ⟨hgg, .inl ⟨r, rfl, hm⟩⟩) hn' mg2
end
theorem writeBack_aux : ∀ (m : List Keyed) (k : Nat) (pre mid post : List Keyed) (arr : Array Keyed), arr.toList = pre ++ mid ++ post → mid.length = m.length → 
  (m.zipIdx k).foldl (fun a (p : Keyed × Nat) => a.setIfInBounds (pre.length - k + p.2) p.1) arr = (pre ++ m ++ post).toArray ∨ pre.length < k
 | [], k, pre, mid, post, arr, h, hl => by
  left
  have : mid = [] := List.eq_nil_of_length_eq_zero (by simpa using hl)
  subst this
  simp at h ⊢
  rw [← h]
 | x :: m, k, pre, mid, post, arr, h, hl => by
  rcases Nat.lt_or_ge pre.length k with q | q
  ·exact .inr q
  left
  match mid, hl with
  | y :: mid, hl =>
   rw [List.zipIdx_cons, List.foldl_cons]
   have ih := writeBack_aux m (k + 1) (pre ++ [x]) mid post (arr.setIfInBounds (pre.length - k + k) x) (by
    rw [Array.toList_setIfInBounds, h, show pre.length - k + k = pre.length by lia]
    simp [List.append_assoc, List.set_append_right]) (by simpa using hl)
   rcases ih with ih | ih
   ·rw [List.length_append, List.length_singleton, show pre.length + 1 - (k + 1) = pre.length - k by lia] at ih
    simpa [List.append_assoc] using ih
   ·simp at ih; lia
theorem writeBack (m pre mid post : List Keyed) (arr : Array Keyed) (h : arr.toList = pre ++ mid ++ post) (hl : mid.length = m.length) :
  (m.zipIdx.foldl (fun a (p : Keyed × Nat) => a.setIfInBounds (pre.length + p.2) p.1) arr).toList = pre ++ m ++ post := by
 rcases writeBack_aux m 0 pre mid post arr h hl with q | q
 ·rw [show (fun (a : Array Keyed) (p : Keyed × Nat) => a.setIfInBounds (pre.length - 0 + p.2) p.1) = fun a p => a.setIfInBounds (pre.length + p.2) p.1 from rfl] at q
  rw [q]
 ·lia
section
variable {prog : Program} {w : World} {A : Around} {E : Value → Shared → Prop} {s : Shared} {kd : SortKind} {ok : Keyed → Prop} {L : Keyed → Keyed → Bool} {T : Keyed → Keyed → Prop}
theorem get_mid {pre l post : List Keyed} {arr : Array Keyed} (h : arr.toList = pre ++ l ++ post) {i : Nat} (hi : i < l.length) : arr[pre.length + i]? = l[i]? := by
 rw [← Array.getElem?_toList, h, List.append_assoc, List.getElem?_append_right (by lia), show pre.length + i - pre.length = i by lia, List.getElem?_append_left hi]
theorem wpS_set {st st' : SortSt} {Q : PUnit → SortSt → Prop} (h : Q ⟨⟩ st') : wpS (model prog w) A E s (set st' : StateT SortSt Sem PUnit) Q st := by
 unfold wpS; rw [StateT.run_set]; exact wpAny_pure ⟨rfl, h⟩
theorem ext_mid {p m q : List Keyed} {a : Array Keyed} (h : a.toList = p ++ m ++ q) {i j : Nat} (hi : i = p.length) (hj : j = p.length + m.length) : (a.extract i j).toList = m := by
 subst hi; subst hj
 rw [Array.toList_extract, h]; simp only [List.extract]
 rw [List.append_assoc, List.drop_left, Nat.add_sub_cancel_left, List.take_left]
theorem wpS_mergeAt (hc : Cmp prog w A E s kd ok L) {st : SortSt} {i p1 p2 : Nat} {pre la lb post : List Keyed} {Q : Bool → SortSt → Prop} (hkd : kindOf st = kd) (hf : failedOf st = none)
  (harr : (arrOf st).toList = pre ++ la ++ lb ++ post) (hp1 : (pendingOf st)[i]? = some (pre.length, la.length, p1)) (hp2 : (pendingOf st)[i + 1]? = some (pre.length + la.length, lb.length, p2))
  (sa : la.Pairwise (RR L T)) (sb : lb.Pairwise (RR L T)) (oa : ∀ x ∈ la, ok x) (ob : ∀ x ∈ lb, ok x) (ht : ∀ x ∈ la, ∀ y ∈ lb, T x y) (na : 1 ≤ la.length) (nb : 1 ≤ lb.length)
  (h : ∀ st' res, kindOf st' = kd → failedOf st' = none → pendingOf st' = ((pendingOf st).setIfInBounds i (pre.length, la.length + lb.length, p1)).eraseIdxIfInBounds (i + 1) →
   (arrOf st').toList = pre ++ res ++ post → MOut L T la lb res → Q true st') : wpS (model prog w) A E s (mergeAt' i) Q st := by
 rw [mergeAt'_eq]
 refine wpS_getB ?_
 rw [hp1, hp2]
 dsimp only
 refine wpS_bind (wpS_set ?_)
 have hA : (arrOf st).toList = pre ++ la ++ (lb ++ post) := by rw [harr]; simp
 have hB : (arrOf st).toList = (pre ++ la) ++ lb ++ post := harr
 have getA : ∀ j, j < la.length → (arrOf st)[pre.length + j]? = la[j]? := fun j hj => get_mid hA hj
 have getB : ∀ j, j < lb.length → (arrOf st)[pre.length + la.length + j]? = lb[j]? := fun j hj => by
  have := get_mid hB hj; rwa [List.length_append] at this
 obtain ⟨y0, hy0⟩ : ∃ y0, lb[0]? = some y0 := ⟨lb[0], by simp⟩
 have my0 : y0 ∈ lb := List.mem_of_getElem? hy0
 have hy0' : (arrOf st)[pre.length + la.length]? = some y0 := by have := getB 0 (by lia); rwa [Nat.add_zero, hy0] at this
 refine wpS_elemB hy0' ?_
 have le0 : ∀ y ∈ lb, L y y0 = false := fun y hy => by
  obtain ⟨j, e⟩ := List.mem_iff_getElem?.mp hy
  exact le_get hc sb ob hy0 e (Nat.zero_le _)
 refine wpS_bind (wpS_gal (left := false) hc sa oa (ob y0 my0) getA rfl na hkd fun k k1 k2 k3 => ?_)
 dsimp only
 have k2' : ∀ x ∈ la.take k, ∀ y ∈ lb, L y x = false := fun x hx y hy => hc.neg x y0 y (oa x (List.mem_of_mem_take hx)) (ob y0 my0) (ob y hy) (bnotT (k2 x hx)) (le0 y hy)
 have k3' : ∀ x ∈ la.drop k, L y0 x = true := fun x hx => bnotF (k3 x hx)
 have fin : (∀ x ∈ la, ∀ y ∈ lb, L y x = false) → MOut L T la lb (la ++ lb) := fun hh =>
  ⟨List.Perm.refl _, List.pairwise_append.mpr ⟨sa, sb, fun x hx y hy => ⟨hh x hx y hy, .inr (ht x hx y hy)⟩⟩⟩
 have whole : (arrOf st).toList = pre ++ (la ++ lb) ++ post := by rw [harr, List.append_assoc pre]
 split
 ·rename_i q
  rw [List.take_of_length_le (Nat.le_of_sub_eq_zero (eq_of_beq q))] at k2'
  exact wpS_pure (h _ (la ++ lb) hkd hf rfl whole (fin k2'))
 rename_i q
 have hk : k < la.length := Nat.lt_of_sub_ne_zero (bneq q)
 have l1 := Nat.sub_lt na Nat.one_pos
 obtain ⟨xl, hxl⟩ : ∃ x, la[la.length - 1]? = some x := ⟨_, List.getElem?_eq_getElem l1⟩
 have mxl : xl ∈ la := List.mem_of_getElem? hxl
 have leL : ∀ x ∈ la, L xl x = false := fun x hx => by
  obtain ⟨j, e⟩ := List.mem_iff_getElem?.mp hx
  exact le_get hc sa oa e hxl (Nat.le_sub_one_of_lt (List.getElem?_eq_some_iff.mp e).1)
 refine wpS_elemB (x := xl) (by rw [Nat.add_assoc, Nat.add_sub_of_le k1, Nat.add_sub_assoc na, getA _ l1]; exact hxl) ?_
 refine wpS_bind (wpS_gal (left := true) hc sb ob (oa _ mxl) getB rfl (Nat.sub_lt nb Nat.one_pos) hkd fun m m1 m2 m3 => ?_)
 dsimp only
 have m3' : ∀ x ∈ la, ∀ y ∈ lb.drop m, L y x = false := fun x hx y hy => hc.neg x xl y (oa x hx) (oa _ mxl) (ob y (List.mem_of_mem_drop hy)) (leL x hx) (m3 y hy)
 split
 ·rename_i q2
  have q2' : m = 0 := eq_of_beq q2
  subst q2'
  exact wpS_pure (h _ (la ++ lb) hkd hf rfl whole (fin m3'))
 rename_i q2
 have hm : 0 < m := Nat.pos_of_ne_zero (bneq q2)
 have lk : (pre ++ la.take k).length = pre.length + k := by rw [List.length_append, List.length_take, Nat.min_eq_left k1]
 have ex : ((arrOf st).extract (pre.length + k) (pre.length + la.length)).toList = la.drop k := ext_mid (p := pre ++ la.take k) (q := lb ++ post) (by rw [List.append_assoc pre (la.take k), List.take_append_drop]; exact hA) lk.symm (by rw [lk, List.length_drop, Nat.add_assoc, Nat.add_sub_of_le k1])
 have ey : ((arrOf st).extract (pre.length + la.length) (pre.length + la.length + m)).toList = lb.take m := ext_mid (p := pre ++ la) (q := lb.drop m ++ post) (by rw [List.append_assoc (pre ++ la) (lb.take m), ← List.append_assoc (lb.take m), List.take_append_drop, ← List.append_assoc (pre ++ la)]; exact hB) List.length_append.symm (by rw [List.length_append, List.length_take, Nat.min_eq_left m1])
 have zx : ((arrOf st).extract (pre.length + k) (pre.length + la.length)).size = la.length - k := by rw [← Array.length_toList, ex, List.length_drop]
 have zy : ((arrOf st).extract (pre.length + la.length) (pre.length + la.length + m)).size = m := by rw [← Array.length_toList, ey, List.length_take, Nat.min_eq_left m1]
 have MPx : MP ok L T ((arrOf st).extract (pre.length + k) (pre.length + la.length)) ((arrOf st).extract (pre.length + la.length) (pre.length + la.length + m)) := by
  refine ⟨?_, ?_, ?_, ?_, ?_, zx ▸ Nat.sub_pos_of_lt hk, zy.symm ▸ hm, ?_, ?_⟩
  ·rw [ex]; exact sa.sublist (List.drop_sublist _ _)
  ·rw [ey]; exact sb.sublist (List.take_sublist _ _)
  ·rw [ex]; exact fun x hx => oa x (List.mem_of_mem_drop hx)
  ·rw [ey]; exact fun x hx => ob x (List.mem_of_mem_take hx)
  ·rw [ex, ey]; exact fun x hx y hy => ht x (List.mem_of_mem_drop hx) y (List.mem_of_mem_take hy)
  ·rw [ex, ey]
   intro y hy x hx
   obtain ⟨j, j1, e⟩ := mem_take_ix hy
   rw [Nat.lt_one_iff.mp j1, List.getElem?_take_of_lt hm, hy0] at e
   cases e
   exact k3' x hx
  ·rw [ex, ey, zx]
   intro y hy x hx
   obtain ⟨j, j1, j2, e⟩ := mem_drop_ix hx
   rw [List.length_drop] at j2
   rw [List.getElem?_drop, Nat.le_antisymm (Nat.le_sub_one_of_lt j2) j1, ← Nat.add_sub_assoc (Nat.sub_pos_of_lt hk), Nat.add_sub_of_le k1, hxl] at e
   cases e
   exact m2 y hy
 have last : ∀ (res : Array Keyed), MOut L T ((arrOf st).extract (pre.length + k) (pre.length + la.length)).toList ((arrOf st).extract (pre.length + la.length) (pre.length + la.length + m)).toList res.toList →
   MOut L T la lb (la.take k ++ res.toList ++ lb.drop m) ∧ (res.toList.zipIdx.foldl (fun a (p : Keyed × Nat) => a.setIfInBounds (pre.length + k + p.2) p.1) (arrOf st)).toList = pre ++ (la.take k ++ res.toList ++ lb.drop m) ++ post := by
  intro res hm'
  rw [ex, ey] at hm'
  refine ⟨⟨?_, ?_⟩, ?_⟩
  ·have h1 : (la.take k ++ res.toList ++ lb.drop m).Perm (la.take k ++ (la.drop k ++ lb.take m) ++ lb.drop m) := (hm'.1.append_left _).append_right _
   refine h1.trans ?_
   rw [← List.append_assoc, List.take_append_drop, List.append_assoc, List.take_append_drop]
  ·have memres : ∀ x, x ∈ res.toList → x ∈ la.drop k ∨ x ∈ lb.take m := fun x hx => List.mem_append.mp (hm'.1.mem_iff.mp hx)
   rw [List.pairwise_append, List.pairwise_append]
   refine ⟨⟨sa.sublist (List.take_sublist _ _), hm'.2, fun x hx y hy => ?_⟩, sb.sublist (List.drop_sublist _ _), fun x hx y hy => ?_⟩
   ·rcases memres y hy with q | q
    ·have h1 := sa; rw [← List.take_append_drop k la, List.pairwise_append] at h1
     exact h1.2.2 x hx y q
    ·exact ⟨k2' x hx y (List.mem_of_mem_take q), .inr (ht x (List.mem_of_mem_take hx) y (List.mem_of_mem_take q))⟩
   ·rcases List.mem_append.mp hx with hx | hx
    ·exact ⟨k2' x hx y (List.mem_of_mem_drop hy), .inr (ht x (List.mem_of_mem_take hx) y (List.mem_of_mem_drop hy))⟩
    ·rcases memres x hx with q | q
     ·exact ⟨m3' x (List.mem_of_mem_drop q) y hy, .inr (ht x (List.mem_of_mem_drop q) y (List.mem_of_mem_drop hy))⟩
     ·have h1 := sb; rw [← List.take_append_drop m lb, List.pairwise_append] at h1
      exact h1.2.2 x q y hy
  ·have h1 := writeBack res.toList (pre ++ la.take k) (la.drop k ++ lb.take m) (lb.drop m ++ post) (arrOf st) (by
    rw [harr]
    have e1 : la ++ (lb ++ post) = List.take k la ++ (List.drop k la ++ (List.take m lb ++ (List.drop m lb ++ post))) := by
     rw [← List.append_assoc (List.take m lb), List.take_append_drop, ← List.append_assoc (List.take k la), List.take_append_drop]
    simp [List.append_assoc, e1]) (by rw [hm'.1.length_eq])
   rw [List.length_append, List.length_take, Nat.min_eq_left k1] at h1
   rw [h1]; simp [List.append_assoc]
 have tail : ∀ (m' : StateT SortSt Sem (Array Keyed)) , wpS (model prog w) A E s m' (fun res st' => SameG (setPending st (((pendingOf st).setIfInBounds i (pre.length, la.length + lb.length, p1)).eraseIdxIfInBounds (i + 1))) st' ∧ MOut L T ((arrOf st).extract (pre.length + k) (pre.length + la.length)).toList ((arrOf st).extract (pre.length + la.length) (pre.length + la.length + m)).toList res.toList)
    (setPending st (((pendingOf st).setIfInBounds i (pre.length, la.length + lb.length, p1)).eraseIdxIfInBounds (i + 1))) →
   wpS (model prog w) A E s (do
    let merged ← m'
    modify fun s => setArr s (merged.toList.zipIdx.foldl (fun a (p : Keyed × Nat) => a.setIfInBounds (pre.length + k + p.2) p.1) (arrOf s))
    return (failedOf (← get)).isNone) Q (setPending st (((pendingOf st).setIfInBounds i (pre.length, la.length + lb.length, p1)).eraseIdxIfInBounds (i + 1))) := by
  intro m' hm'
  refine wpS_bind (wpS_mono hm' fun res st' ⟨hg, ho⟩ => ?_)
  refine wpS_bind (wpS_modify (wpS_bind (wpS_get (wpS_pure ?_))))
  have hf' : failedOf st' = none := hg.2.2.2.trans hf
  have ha' : arrOf st' = arrOf st := hg.2.1
  show Q (failedOf st').isNone _
  rw [hf']
  have hl := last res ho
  refine h _ _ (hg.1.trans hkd) hf' hg.2.2.1 ?_ hl.1
  show (res.toList.zipIdx.foldl (fun a (p : Keyed × Nat) => a.setIfInBounds (pre.length + k + p.2) p.1) (arrOf st')).toList = _
  rw [ha']; exact hl.2
 split
 ·exact tail _ (wpS_mergeLo (st := setPending st (((pendingOf st).setIfInBounds i (pre.length, la.length + lb.length, p1)).eraseIdxIfInBounds (i + 1))) hc MPx hkd fun st' res hg ho => And.intro hg ho)
 ·exact tail _ (wpS_mergeHi (st := setPending st (((pendingOf st).setIfInBounds i (pre.length, la.length + lb.length, p1)).eraseIdxIfInBounds (i + 1))) hc MPx hkd fun st' res hg ho => And.intro hg ho)
end
theorem l3_mid {α : Type} {p m q : List α} {k : Nat} (i : Nat) (h : i < m.length) (hk : k = p.length + i) : (p ++ m ++ q)[k]? = m[i]? := by
 subst hk
 rw [List.append_assoc, List.getElem?_append_right (by lia), show p.length + i - p.length = i by lia, List.getElem?_append_left h]
theorem l3_left {α : Type} {p m q : List α} {k : Nat} (h : k < p.length) : (p ++ m ++ q)[k]? = p[k]? := by
 rw [List.append_assoc, List.getElem?_append_left h]
theorem l3_right {α : Type} {p m q : List α} {k : Nat} (i : Nat) (hk : k = p.length + m.length + i) : (p ++ m ++ q)[k]? = q[i]? := by
 subst hk
 rw [List.getElem?_append_right (by rw [List.length_append]; lia), List.length_append, show p.length + m.length + i - (p.length + m.length) = i by lia]
theorem mirror_list {pre mid post : List Keyed} {xs : Array Keyed} (h : xs.toList = pre ++ mid ++ post) {i j : Nat} (hi : i = pre.length) (hj : j = pre.length + mid.length) :
  (mirror xs i j ((j - i) / 2)).toList = pre ++ mid.reverse ++ post := by
 subst hi; subst hj
 have hz : xs.size = pre.length + mid.length + post.length := by rw [← Array.length_toList, h]; simp; lia
 have e : ∀ k, xs[k]? = (pre ++ mid ++ post)[k]? := fun k => by rw [← Array.getElem?_toList, h]
 apply List.ext_getElem?
 intro k
 rw [Array.getElem?_toList, getElem?_mirror_all (by lia)]
 simp only [e]
 split
 ·rename_i q
  rw [l3_mid (pre.length + mid.length - 1 - k) (by lia) (by lia), l3_mid (k - pre.length) (by rw [List.length_reverse]; lia) (by lia), List.getElem?_reverse (by lia)]
  congr 1; lia
 ·rename_i q
  rcases Nat.lt_or_ge k pre.length with q1 | q1
  ·rw [l3_left q1, l3_left q1]
  ·rw [l3_right (k - pre.length - mid.length) (by lia), l3_right (k - pre.length - mid.length) (by rw [List.length_reverse]; lia)]
theorem set_mid {α : Type} {p q : List α} {a b : α} : (p ++ a :: q).set p.length b = p ++ b :: q := by
 rw [List.set_append_right _ _ (Nat.le_refl _), Nat.sub_self, List.set_cons_zero]
theorem swap_adj {α : Type} {p q : List α} {a b : α} {xs : Array α} (h : xs.toList = p ++ a :: b :: q) : (xs.swapIfInBounds (p.length + 1) p.length).toList = p ++ b :: a :: q := by
 have e : xs = (p ++ a :: b :: q).toArray := by rw [← h, Array.toArray_toList]
 subst e
 unfold Array.swapIfInBounds
 rw [dif_pos (by simp), dif_pos (by simp)]
 unfold Array.swap
 simp only [Array.toList_set, List.getElem_toArray]
 have h1 : (p ++ a :: b :: q)[p.length]'(by simp) = a := by rw [List.getElem_append_right (Nat.le_refl _)]; simp
 have h2 : (p ++ a :: b :: q)[p.length + 1]'(by simp) = b := by rw [List.getElem_append_right (Nat.le_succ _)]; simp
 rw [h1, h2]
 have e1 : p ++ a :: b :: q = (p ++ [a]) ++ b :: q := by simp
 have e2 : p.length + 1 = (p ++ [a]).length := by simp
 rw [e1, e2, set_mid, List.append_assoc]
 exact set_mid
theorem bub {post P : List Keyed} {z : Keyed} {xs : Array Keyed} (D C : List Keyed) (h : xs.toList = P ++ (C ++ D ++ [z]) ++ post) : (bubble xs (P.length + (C ++ D).length) D.length).toList = P ++ (C ++ [z] ++ D) ++ post := by
 induction D generalizing C with
 | nil => simpa [bubble] using h
 | cons c D ih =>
  have := ih (C ++ [c]) (by rw [h]; simp)
  rw [show (C ++ [c] ++ D) = C ++ c :: D by simp] at this
  rw [List.length_cons, bubble_succ]
  have e : P.length + (C ++ c :: D).length - D.length = (P ++ C).length + 1 := by simp only [List.length_append, List.length_cons]; omega
  rw [e, Nat.add_sub_cancel, swap_adj (a := c) (b := z) (q := D ++ post) (by rw [this]; simp)]
  simp
theorem bubble_list {pre S post : List Keyed} {z : Keyed} {xs : Array Keyed} (h : xs.toList = pre ++ (S ++ [z]) ++ post) {l : Nat} (_hl : l ≤ S.length) :
  (bubble xs (pre.length + S.length) (pre.length + S.length - (pre.length + l))).toList = pre ++ (S.take l ++ [z] ++ S.drop l) ++ post := by
 have := bub (S.drop l) (S.take l) (z := z) (P := pre) (post := post) (xs := xs) (by rw [List.take_append_drop]; exact h)
 rw [List.take_append_drop, List.length_drop] at this
 rw [Nat.add_sub_add_left]
 exact this
section
variable {prog : Program} {w : World} {A : Around} {E : Value → Shared → Prop} {s : Shared} {kd : SortKind} {ok : Keyed → Prop} {L : Keyed → Keyed → Bool} {T : Keyed → Keyed → Prop}
theorem wpS_ltA (hc : Cmp prog w A E s kd ok L) {st : SortSt} {i j : Nat} {x y : Keyed} {Q : Option Bool → SortSt → Prop} (hi : (arrOf st)[i]? = some x) (hj : (arrOf st)[j]? = some y) (ox : ok x) (oy : ok y) (hkd : kindOf st = kd)
  (h : Q (some (L x y)) st) : wpS (model prog w) A E s (ltAt' i j) Q st := by
 rw [ltAt'_eq]
 refine wpS_bind (wpS_get ?_)
 exact wpS_bind (wpS_elem hi (wpS_bind (wpS_elem hj (hc.lt st x y Q ox oy hkd h))))
theorem wpS_rev {st : SortSt} {i j : Nat} {pre mid post : List Keyed} {Q : Unit → SortSt → Prop} (h : (arrOf st).toList = pre ++ mid ++ post) (hi : i = pre.length) (hj : j = pre.length + mid.length)
  (hq : ∀ xs : Array Keyed, xs.toList = pre ++ mid.reverse ++ post → Q () (setArr st xs)) : wpS (model prog w) A E s (reverseSlice' i j) Q st := by
 rw [reverseSlice'_eq]
 exact wpS_modify (hq _ (mirror_list h hi hj))
theorem wpS_down {st : SortSt} {src dst : Nat} {pre S post : List Keyed} {z : Keyed} {l : Nat} {Q : Unit → SortSt → Prop} (h : (arrOf st).toList = pre ++ (S ++ [z]) ++ post) (hs : src = pre.length + S.length) (hd : dst = pre.length + l) (hl : l ≤ S.length)
  (hq : ∀ xs : Array Keyed, xs.toList = pre ++ (S.take l ++ [z] ++ S.drop l) ++ post → Q () (setArr st xs)) : wpS (model prog w) A E s (moveDown' src dst) Q st := by
 subst hs; subst hd
 rw [moveDown'_eq]
 exact wpS_modify (hq _ (bubble_list h hl))
theorem irr (hc : Cmp prog w A E s kd ok L) {x : Keyed} (ox : ok x) : L x x = false := by
 cases q : L x x with
 | false => rfl
 | true => have := hc.asym x x ox ox q; rw [q] at this; cases this
theorem rr_snoc (hc : Cmp prog w A E s kd ok L) {run : List Keyed} {e z : Keyed} (hs : run.Pairwise (RR L T)) (he : run.getLast? = some e) (or : ∀ x ∈ run, ok x) (oz : ok z) (hl : L z e = false) (ht : ∀ x ∈ run, T x z) :
  (run ++ [z]).Pairwise (RR L T) := by
 rw [List.pairwise_append]
 refine ⟨hs, by simp, fun x hx y hy => ?_⟩
 simp at hy; subst hy
 refine ⟨?_, .inr (ht x hx)⟩
 obtain ⟨r, rfl⟩ := List.getLast?_eq_some_iff.mp he
 rw [List.pairwise_append] at hs
 rcases List.mem_append.mp hx with q | q
 ·exact hc.neg x e y (or x hx) (or e (by simp)) oz (hs.2.2 x q e (by simp)).1 hl
 ·simp at q; subst q; exact hl
theorem get_next {pre run rest : List Keyed} {z : Keyed} {xs : Array Keyed} (h : xs.toList = pre ++ run ++ (z :: rest)) {n : Nat} (hn : n = run.length) : xs[pre.length + n]? = some z := by
 subst hn
 rw [← Array.getElem?_toList, h, List.getElem?_append_right (by rw [List.length_append]; lia), List.length_append, show pre.length + run.length - (pre.length + run.length) = 0 by lia]; rfl
theorem get_prev {pre run rest : List Keyed} {e : Keyed} {xs : Array Keyed} (h : xs.toList = pre ++ run ++ rest) (he : run.getLast? = some e) {n : Nat} (hn : n = run.length) : xs[pre.length + n - 1]? = some e := by
 obtain ⟨r, rfl⟩ := List.getLast?_eq_some_iff.mp he
 subst hn
 rw [← Array.getElem?_toList, h, List.getElem?_append_left (by simp), List.getElem?_append_right (by simp), List.getElem?_append_right (by simp)]
 simp
noncomputable def Rest (kd : SortKind) (st st' : SortSt) : Prop := kindOf st' = kd ∧ failedOf st' = none ∧ pendingOf st' = pendingOf st
theorem Rest.arr {st st' : SortSt} (h : Rest kd st st') (xs : Array Keyed) : Rest kd st (setArr st' xs) := h
theorem wpS_insort (hc : Cmp prog w A E s kd ok L) {st : SortSt} {pre run rest : List Keyed} {n : Nat} {Q : Bool → SortSt → Prop} (hR : Rest kd st st) (harr : (arrOf st).toList = pre ++ run ++ rest)
  (hn : n ≤ run.length + rest.length) (hrn : run.length ≤ n) (h1 : 1 ≤ run.length) (hs : run.Pairwise (RR L T)) (or : ∀ x ∈ run, ok x) (ot : ∀ x ∈ rest, ok x) (ht : ∀ x ∈ run, ∀ y ∈ rest, T x y) (hT : rest.Pairwise T)
  (h : ∀ st' run', Rest kd st st' → (arrOf st').toList = pre ++ run' ++ rest.drop (n - run.length) → run'.Perm (run ++ rest.take (n - run.length)) → run'.Pairwise (RR L T) → Q true st') :
  wpS (model prog w) A E s (binarySort' pre.length n run.length) Q st := by
 rw [binarySort'_eq]
 rw [Nat.max_eq_left h1]
 refine wpS_bind (wpS_mono (wpS_forRange
  (I := fun i c st' => c = (none, ()) ∧ Rest kd st st' ∧ ∃ run', (arrOf st').toList = pre ++ run' ++ rest.drop (i - run.length) ∧ run'.Perm (run ++ rest.take (i - run.length)) ∧ run'.Pairwise (RR L T) ∧ i ≤ n)
  (Q := fun c st' => c = (none, ()) ∧ Rest kd st st' ∧ ∃ run', (arrOf st').toList = pre ++ run' ++ rest.drop (n - run.length) ∧ run'.Perm (run ++ rest.take (n - run.length)) ∧ run'.Pairwise (RR L T)) ?step ?fin ?init) ?post)
 case init => exact ⟨rfl, hR, run, by simpa using harr, by simp, hs, hrn⟩
 case fin =>
  rintro c st' ⟨rfl, hR', run', a1, a2, a3, a4⟩
  rw [Nat.max_eq_right hrn] at a1 a2
  exact ⟨rfl, hR', run', a1, a2, a3⟩
 case post =>
  rintro c st' ⟨rfl, hR', run', a1, a2, a3⟩
  exact wpS_pure (h st' run' hR' a1 a2 a3)
 case step =>
  rintro k c st1 hk1 hk2 ⟨rfl, hR1, S, a1, a2, a3, _⟩
  dsimp only
  have lS : S.length = k := by rw [a2.length_eq, List.length_append, List.length_take, Nat.min_eq_left (by clear a1 a2 a3; lia), Nat.add_sub_of_le hk1]
  obtain ⟨z, rest', hz⟩ : ∃ z rest', rest.drop (k - run.length) = z :: rest' := by
   cases q : rest.drop (k - run.length) with
   | nil => have := congrArg List.length q; rw [List.length_drop] at this; simp at this; lia
   | cons z r => exact ⟨z, r, rfl⟩
  have mz : z ∈ rest := List.mem_of_mem_drop (by rw [hz]; simp)
  have oz := ot z mz
  have mS : ∀ x ∈ S, x ∈ run ∨ x ∈ rest.take (k - run.length) := fun x hx => List.mem_append.mp (a2.mem_iff.mp hx)
  have oS : ∀ x ∈ S, ok x := fun x hx => (mS x hx).elim (or x) fun q => ot x (List.mem_of_mem_take q)
  have tS : ∀ x ∈ S, T x z := fun x hx => (mS x hx).elim (fun q => ht x q z mz) fun q => by
   have h2 := hT; rw [← List.take_append_drop (k - run.length) rest, hz, List.pairwise_append] at h2
   exact h2.2.2 x q z (by simp)
  rw [hz] at a1
  have gz : (arrOf st1)[pre.length + k]? = some z := get_next a1 lS.symm
  have gS : ∀ m, m < k → ∃ x, (arrOf st1)[pre.length + m]? = some x ∧ S[m]? = some x ∧ x ∈ S := fun m hm => by
   subst lS
   refine ⟨S[m], ?_, by simp, List.getElem_mem _⟩
   rw [← Array.getElem?_toList, a1, l3_mid m hm rfl]; simp
  have pwS : ∀ {i j : Nat} {x y : Keyed}, S[i]? = some x → S[j]? = some y → i < j → L y x = false := fun {i j x y} hi hj hij => by
   obtain ⟨h1, rfl⟩ := List.getElem?_eq_some_iff.mp hi
   obtain ⟨h2, rfl⟩ := List.getElem?_eq_some_iff.mp hj
   exact (List.pairwise_iff_getElem.mp a3 i j h1 h2 hij).1
  refine wpS_bind (wpS_mono (wpS_forRange
   (I := fun i c st' => st' = st1 ∧ ∃ l r, c = (none, l, r) ∧ l ≤ r ∧ r ≤ k ∧ r - l + i ≤ k ∧ (∀ (m : Nat) x, S[m]? = some x → m < l → L z x = false) ∧ (∀ (m : Nat) x, S[m]? = some x → r ≤ m → L z x = true))
   (Q := fun c st' => st' = st1 ∧ ∃ l, c = (none, l, l) ∧ l ≤ k ∧ (∀ (m : Nat) x, S[m]? = some x → m < l → L z x = false) ∧ (∀ (m : Nat) x, S[m]? = some x → l ≤ m → L z x = true)) ?step1 ?fin1 ?init1) ?post1)
  case init1 => exact ⟨rfl, 0, k, rfl, Nat.zero_le _, Nat.le_refl _, Nat.le_refl _, fun m x e q => absurd q (Nat.not_lt_zero m), fun m x e q => by rw [List.getElem?_eq_none (by rw [lS]; exact q)] at e; cases e⟩
  case fin1 =>
   rintro c st' ⟨rfl, l, r, rfl, b1, b2, b3, b4, b5⟩
   have : l = r := by clear b4 b5; simp at b3; lia
   subst this
   exact ⟨rfl, l, rfl, b2, b4, b5⟩
  case step1 =>
   rintro i c st' _ hi ⟨rfl, l, r, rfl, b1, b2, b3, b4, b5⟩
   dsimp only
   split
   ·have : l = r := Nat.le_antisymm b1 (by assumption)
    subst this
    exact wpS_pure ⟨rfl, l, rfl, b2, b4, b5⟩
   ·have q1 : l ≤ (l + r) / 2 ∧ (l + r) / 2 < r := by clear b4 b5; lia
    revert q1
    generalize (l + r) / 2 = m
    intro q1
    obtain ⟨x, hx1, hx2, hx3⟩ := gS m (Nat.lt_of_lt_of_le q1.2 b2)
    refine wpS_bind (wpS_ltA hc gz hx1 oz (oS x hx3) hR1.1 ?_)
    dsimp only
    cases hl : L z x with
    | true =>
     rw [if_pos rfl]
     refine wpS_pure ⟨rfl, l, m, rfl, q1.1, Nat.le_trans (Nat.le_of_lt q1.2) b2, by clear b4 b5; lia, b4, fun j y e q => ?_⟩
     rcases Nat.eq_or_lt_of_le q with q | q
     ·subst q; rw [hx2] at e; cases e; exact hl
     ·cases q3 : L z y with
      | true => rfl
      | false => have := hc.neg x y z (oS x hx3) (oS y (List.mem_of_getElem? e)) oz (pwS hx2 e q) q3; rw [hl] at this; cases this
    | false =>
     rw [if_neg (by decide)]
     refine wpS_pure ⟨rfl, m + 1, r, rfl, q1.2, b2, by clear b4 b5; lia, fun j y e q => ?_, b5⟩
     rcases Nat.eq_or_lt_of_le (Nat.le_of_lt_succ q) with q | q
     ·subst q; rw [hx2] at e; cases e; exact hl
     ·exact hc.neg y x z (oS y (List.mem_of_getElem? e)) (oS x hx3) oz (pwS e hx2 q) hl
  case post1 =>
   rintro c st' ⟨rfl, l, rfl, b2, d4, d5⟩
   dsimp only
   have b4 : ∀ x ∈ S.take l, L z x = false := fun x hx => by
    obtain ⟨m, e⟩ := List.mem_iff_getElem?.mp hx
    rw [List.getElem?_take] at e
    split at e
    ·exact d4 m x e (by assumption)
    ·cases e
   have b5 : ∀ x ∈ S.drop l, L z x = true := fun x hx => by
    obtain ⟨m, e⟩ := List.mem_iff_getElem?.mp hx
    rw [List.getElem?_drop] at e
    exact d5 _ x e (Nat.le_add_right _ _)
   refine wpS_bind (wpS_down (pre := pre) (S := S) (z := z) (post := rest') (l := l) (by rw [a1]; simp) (by rw [lS]) rfl (lS.symm ▸ b2) fun xs hxs => ?_)
   have e0 : k + 1 - run.length = (k - run.length) + 1 := Nat.succ_sub hk1
   have e1 : rest.drop (k + 1 - run.length) = rest' := by
    rw [e0, ← List.drop_drop, hz]; rfl
   have e2 : rest.take (k + 1 - run.length) = rest.take (k - run.length) ++ [z] := by
    rw [e0, List.take_add, hz]; rfl
   refine wpS_pure ⟨rfl, hR1.arr xs, S.take l ++ [z] ++ S.drop l, by rw [e1]; exact hxs, ?_, ?_, hk2⟩
   ·rw [e2, ← List.append_assoc]
    refine List.Perm.trans ?_ (a2.append_right _)
    conv => rhs; rw [← List.take_append_drop l S]
    rw [List.append_assoc, List.append_assoc]
    exact List.Perm.append_left _ List.perm_append_comm
   ·have h2 := a3; rw [← List.take_append_drop l S, List.pairwise_append] at h2
    rw [List.append_assoc, List.pairwise_append]
    refine ⟨h2.1, ?_, fun x hx y hy => ?_⟩
    ·rw [List.singleton_append, List.pairwise_cons]
     refine ⟨fun y hy => ?_, h2.2.1⟩
     have := b5 y hy
     exact ⟨hc.asym z y oz (oS y (List.mem_of_mem_drop hy)) this, .inl this⟩
    ·rcases List.mem_cons.mp hy with q | q
     ·subst q
      exact ⟨b4 x hx, .inr (tS x (List.mem_of_mem_take hx))⟩
     ·exact h2.2.2 x hx y q
noncomputable def ascL (lo a nrem : Nat) : StateT SortSt Sem (Option (Option Nat) × Nat) :=
 forIn [a:nrem] ((none, a) : Option (Option Nat) × Nat) fun ux __s => do
  let __x ← ltAt' (lo + __s.snd) (lo + __s.snd - 1)
  match __x with
  | some smaller => if smaller = true then pure (ForInStep.done (none, __s.snd)) else pure (ForInStep.yield (none, __s.snd + 1))
  | _ => pure (ForInStep.done (some none, __s.snd))
theorem wpS_asc (hc : Cmp prog w A E s kd ok L) {st : SortSt} {pre run rest : List Keyed} {Q : Option (Option Nat) × Nat → SortSt → Prop} (hkd : kindOf st = kd) (harr : (arrOf st).toList = pre ++ run ++ rest)
  (h1 : 1 ≤ run.length) (hs : run.Pairwise (RR L T)) (or : ∀ x ∈ run, ok x) (ot : ∀ x ∈ rest, ok x) (ht : ∀ x ∈ run, ∀ y ∈ rest, T x y) (hT : rest.Pairwise T)
  (h : ∀ mid rest', rest = mid ++ rest' → (run ++ mid).Pairwise (RR L T) → (rest' = [] ∨ ∃ z r e, rest' = z :: r ∧ (run ++ mid).getLast? = some e ∧ L z e = true) → Q (none, run.length + mid.length) st) :
  wpS (model prog w) A E s (ascL pre.length run.length (run.length + rest.length)) Q st := by
 unfold ascL
 refine wpS_mono (wpS_forRange
  (I := fun i c st' => st' = st ∧ c = (none, i) ∧ ∃ mid rest', rest = mid ++ rest' ∧ run.length + mid.length = i ∧ (run ++ mid).Pairwise (RR L T))
  (Q := fun c st' => st' = st ∧ ∃ mid rest', rest = mid ++ rest' ∧ c = (none, run.length + mid.length) ∧ (run ++ mid).Pairwise (RR L T) ∧ (rest' = [] ∨ ∃ z r e, rest' = z :: r ∧ (run ++ mid).getLast? = some e ∧ L z e = true)) ?step ?fin ?init) ?post
 case init => exact ⟨rfl, rfl, [], rest, rfl, by simp, by simpa using hs⟩
 case fin =>
  rintro c st' ⟨rfl, rfl, mid, rest', e1, e2, e3⟩
  refine ⟨rfl, mid, rest', e1, by rw [e2], e3, .inl ?_⟩
  have := congrArg List.length e1
  rw [List.length_append] at this
  exact List.eq_nil_of_length_eq_zero (by lia)
 case post =>
  rintro c st' ⟨rfl, mid, rest', e1, rfl, e3, e4⟩
  exact h mid rest' e1 e3 e4
 case step =>
  rintro i c st' _ hi ⟨rfl, rfl, mid, rest', e1, e2, e3⟩
  dsimp only
  obtain ⟨z, r, rfl⟩ : ∃ z r, rest' = z :: r := by
   cases rest' with
   | nil => have := congrArg List.length e1; rw [List.length_append, List.length_nil] at this; lia
   | cons z r => exact ⟨z, r, rfl⟩
  obtain ⟨e, he⟩ : ∃ e, (run ++ mid).getLast? = some e := by
   cases q : (run ++ mid).getLast? with
   | some e => exact ⟨e, rfl⟩
   | none => rw [List.getLast?_eq_none_iff] at q; have := congrArg List.length q; rw [List.length_append, List.length_nil] at this; lia
  have mz : z ∈ rest := by rw [e1]; simp
  have mem : ∀ x ∈ run ++ mid, ok x ∧ T x z := fun x hx => by
   rcases List.mem_append.mp hx with q | q
   ·exact ⟨or x q, ht x q z mz⟩
   ·have h2 := hT; rw [e1, List.pairwise_append] at h2
    exact ⟨ot x (by rw [e1]; exact List.mem_append_left _ q), h2.2.2 x q z (by simp)⟩
  have harr' : (arrOf st').toList = pre ++ (run ++ mid) ++ (z :: r) := by rw [harr, e1]; simp
  have me : e ∈ run ++ mid := List.mem_of_getLast? he
  refine wpS_bind (wpS_ltA hc (get_next harr' (by rw [List.length_append]; lia)) (get_prev harr' he (by rw [List.length_append]; lia)) (ot z mz) (mem e me).1 hkd ?_)
  dsimp only
  cases hl : L z e with
  | true =>
   rw [if_pos rfl]
   exact wpS_pure ⟨rfl, mid, z :: r, e1, by rw [e2], e3, .inr ⟨z, r, e, rfl, he, hl⟩⟩
  | false =>
   rw [if_neg (by decide)]
   refine wpS_pure ⟨rfl, rfl, mid ++ [z], r, by rw [e1]; simp, by simp; lia, ?_⟩
   rw [← List.append_assoc]
   exact rr_snoc hc e3 he (fun x hx => (mem x hx).1) (ot z mz) hl fun x hx => (mem x hx).2
structure DI (L : Keyed → Keyed → Bool) (T : Keyed → Keyed → Prop) (orig : List Keyed) (D Eq rest : List Keyed) : Prop where
 perm : (D ++ Eq).Perm (orig.take (D ++ Eq).length)
 rest : rest = orig.drop (D ++ Eq).length
 ne : Eq ≠ []
 srt : (Eq ++ D.reverse).Pairwise (RR L T)
 eqv : ∀ x ∈ Eq, ∀ y ∈ Eq, L x y = false
 lt : ∀ x ∈ Eq, ∀ y ∈ D, L x y = true
theorem wpS_countRunT (hc : Cmp prog w A E s kd ok L) {st : SortSt} {pre orig : List Keyed} {Q : Option Nat → SortSt → Prop} (hR : Rest kd st st) (harr : (arrOf st).toList = pre ++ orig) (hne : 1 ≤ orig.length)
  (oo : ∀ x ∈ orig, ok x) (hT : orig.Pairwise T)
  (h : ∀ st' n run, Rest kd st st' → 1 ≤ n → n ≤ orig.length → run.length = n → (arrOf st').toList = pre ++ run ++ orig.drop n → run.Perm (orig.take n) → run.Pairwise (RR L T) → Q (some n) st') :
  wpS (model prog w) A E s (countRun' pre.length orig.length) Q st := by
 obtain ⟨x0, tl, rfl⟩ : ∃ x tl, orig = x :: tl := by
  cases orig with
  | nil => simp at hne
  | cons x tl => exact ⟨x, tl, rfl⟩
 have oT := List.pairwise_cons.mp hT
 rw [countRun'_eq]
 -- the last rising part
 have lastPart : ∀ (st1 : SortSt) (run rest : List Keyed) (k : Nat), k = run.length → Rest kd st st1 → (arrOf st1).toList = pre ++ run ++ rest → 1 ≤ run.length → run.Perm ((x0 :: tl).take run.length) → rest = (x0 :: tl).drop run.length → run.Pairwise (RR L T) →
   wpS (model prog w) A E s (do
    let mut n := k
    for _ in [n:(x0 :: tl).length] do
     let some smaller ← ltAt' (pre.length + n) (pre.length + n - 1) | return none
     if smaller then break
     n := n + 1
    return some n) Q st1 := by
  intro st1 run rest k hk hR1 a1 a2 a3 a4 a5
  subst hk
  have le : run.length + rest.length = (x0 :: tl).length := by
   have h1 := a3.length_eq
   rw [List.length_take] at h1
   have h2 := congrArg List.length a4
   rw [List.length_drop] at h2
   lia
  have split : (x0 :: tl) = (x0 :: tl).take run.length ++ rest := by rw [a4, List.take_append_drop]
  have hT' := hT; rw [split, List.pairwise_append] at hT'
  rw [← le]
  refine wpS_bind (wpS_asc (T := T) hc hR1.1 a1 a2 a5 (fun x hx => oo x (by rw [split]; exact List.mem_append_left _ (a3.mem_iff.mp hx))) (fun x hx => oo x (by rw [split]; exact List.mem_append_right _ hx))
   (fun x hx y hy => hT'.2.2 x (a3.mem_iff.mp hx) y hy) hT'.2.1 fun mid rest' e1 e2 _ => ?_)
  dsimp only
  have lm : run.length + mid.length ≤ (x0 :: tl).length := by rw [← le, e1, List.length_append, ← Nat.add_assoc]; exact Nat.le_add_right _ _
  have ed : (x0 :: tl).drop (run.length + mid.length) = rest' := by rw [← List.drop_drop, ← a4, e1]; simp
  have et : (x0 :: tl).take (run.length + mid.length) = (x0 :: tl).take run.length ++ mid := by rw [List.take_add, ← a4, e1]; simp
  refine wpS_pure (h st1 _ (run ++ mid) hR1 (Nat.le_trans a2 (Nat.le_add_right _ _)) lm List.length_append ?_ ?_ e2)
  ·rw [ed, a1, e1]; simp
  ·rw [et]; exact a3.append_right _
 refine wpS_bind (wpS_mono (Q := fun c st' => st' = st ∧ ∃ mid rest', tl = mid ++ rest' ∧ c = (none, 1 + mid.length) ∧ ([x0] ++ mid).Pairwise (RR L T) ∧ (rest' = [] ∨ ∃ z r e, rest' = z :: r ∧ ([x0] ++ mid).getLast? = some e ∧ L z e = true)) ?p1 ?p2)
 case p1 =>
  have := wpS_asc (prog := prog) (w := w) (A := A) (E := E) (s := s) (T := T) (st := st) (pre := pre) (run := [x0]) (rest := tl) (Q := fun c st' => st' = st ∧ ∃ mid rest', tl = mid ++ rest' ∧ c = (none, 1 + mid.length) ∧ ([x0] ++ mid).Pairwise (RR L T) ∧ (rest' = [] ∨ ∃ z r e, rest' = z :: r ∧ ([x0] ++ mid).getLast? = some e ∧ L z e = true))
   hc hR.1 (by rw [harr]; simp) (by simp) (by simp) (by simp; exact oo x0 (by simp)) (fun x hx => oo x (by simp [hx])) (fun x hx y hy => by rw [List.mem_singleton.mp hx]; exact oT.1 y hy) oT.2 fun mid rest' e1 e2 e3 => ⟨rfl, mid, rest', e1, rfl, e2, e3⟩
  rw [show [x0].length + tl.length = (x0 :: tl).length from Nat.add_comm _ _] at this
  exact this
 case p2 =>
  rintro c st' ⟨rfl, mid, rest', e1, rfl, e3, e4⟩
  change wpS _ _ _ _ (if (1 + mid.length == (x0 :: tl).length) = true then _ else _) Q st'
  have o1 : ∀ x ∈ [x0] ++ mid, ok x := fun x hx => oo x (by rw [e1, ← List.singleton_append, ← List.append_assoc]; exact List.mem_append_left _ hx)
  have o2 : ∀ x ∈ rest', ok x := fun x hx => oo x (by rw [e1]; simp [hx])
  have whole : x0 :: tl = ([x0] ++ mid) ++ rest' := by rw [e1]; simp
  have lw : ([x0] ++ mid).length = 1 + mid.length := List.length_append
  have tk : (x0 :: tl).take (1 + mid.length) = [x0] ++ mid := by rw [whole, ← lw, List.take_left]
  have dr : (x0 :: tl).drop (1 + mid.length) = rest' := by rw [whole, ← lw, List.drop_left]
  have ll : (x0 :: tl).length = 1 + mid.length + rest'.length := by rw [whole, List.length_append, lw]
  have done1 : Q (some (1 + mid.length)) st' := h st' _ ([x0] ++ mid) hR (Nat.le_add_right _ _) (by rw [ll]; exact Nat.le_add_right _ _) lw (by rw [dr, harr, whole]; simp) (by rw [tk]) e3
  split
  ·rename_i q
   have q' : 1 + mid.length = (x0 :: tl).length := by simpa using q
   exact wpS_pure (done1)
  rename_i q
  have q' : 1 + mid.length ≠ (x0 :: tl).length := by simpa using q
  obtain ⟨z, r, e, rfl, he, hze⟩ : ∃ z r e, rest' = z :: r ∧ ([x0] ++ mid).getLast? = some e ∧ L z e = true := by
   rcases e4 with q2 | q2
   ·rw [q2, List.length_nil] at ll; lia
   ·exact q2
  clear e4
  have me : e ∈ [x0] ++ mid := List.mem_of_getLast? he
  -- the falling part
  have fall : ∀ (st1 : SortSt) (O : List Keyed), Rest kd st' st1 → O.Perm ([x0] ++ mid) → (arrOf st1).toList = pre ++ O ++ (z :: r) → O.reverse.Pairwise (RR L T) → (∀ x ∈ O, L z x = true) →
    wpS (model prog w) A E s (do
     rule "list.sort.descending-run"
     let mut n := 1 + mid.length + 1
     let mut neq := 0
     for _ in [n:(x0 :: tl).length] do
      let some smaller ← ltAt' (pre.length + n) (pre.length + n - 1) | return none
      if smaller then
       if neq > 0 then reverseSlice' (pre.length + n - (neq + 1)) (pre.length + n)
       neq := 0
      else
       let some larger ← ltAt' (pre.length + n - 1) (pre.length + n) | return none
       if larger then break
       neq := neq + 1
      n := n + 1
     if neq > 0 then reverseSlice' (pre.length + n - (neq + 1)) (pre.length + n)
     reverseSlice' pre.length (pre.length + n)
     for _ in [n:(x0 :: tl).length] do
      let some smaller ← ltAt' (pre.length + n) (pre.length + n - 1) | return none
      if smaller then break
      n := n + 1
     return some n) Q st1 := by
   intro st1 O hR1 hO harr1 hsO hzO
   have lO : O.length = 1 + mid.length := by rw [hO.length_eq, lw]
   refine wpS_ruleB ?_
   refine wpS_bind (wpS_mono (wpS_forRange
    (I := fun i c st2 => Rest kd st' st2 ∧ ∃ D Eq rest, c = (none, i, Eq.length - 1) ∧ (D ++ Eq).length = i ∧ DI L T (x0 :: tl) D Eq rest ∧ (arrOf st2).toList = pre ++ (D ++ Eq) ++ rest)
    (Q := fun c st2 => Rest kd st' st2 ∧ ∃ D Eq rest, c = (none, (D ++ Eq).length, Eq.length - 1) ∧ DI L T (x0 :: tl) D Eq rest ∧ (arrOf st2).toList = pre ++ (D ++ Eq) ++ rest) ?step ?fin ?init) ?post)
   case init =>
    refine ⟨hR1, O, [z], r, rfl, by simp [lO], ⟨?_, ?_, by simp, ?_, ?_, ?_⟩, by rw [harr1]; simp⟩
    ·rw [List.length_append, lO, List.length_singleton, List.take_add, tk, dr]
     simpa using hO.append_right [z]
    ·rw [List.length_append, lO, List.length_singleton, ← List.drop_drop, dr]; rfl
    ·rw [List.singleton_append, List.pairwise_cons]
     refine ⟨fun y hy => ?_, hsO⟩
     have := hzO y (by simpa using hy)
     exact ⟨hc.asym z y (o2 z (by simp)) (o1 y (hO.mem_iff.mp (by simpa using hy))) this, .inl this⟩
    ·intro x hx y hy
     rw [List.mem_singleton.mp hx, List.mem_singleton.mp hy]
     exact irr hc (o2 z (by simp))
    ·intro x hx y hy
     rw [List.mem_singleton.mp hx]; exact hzO y hy
   case fin =>
    rintro c st2 ⟨h1, D, Eq, rest, rfl, h2, h3, h4⟩
    exact ⟨h1, D, Eq, rest, by rw [h2], h3, h4⟩
   case step =>
    rintro i c st2 hi1 hi2 ⟨h1, D, Eq, rest, rfl, h2, h3, h4⟩
    obtain ⟨d1, d2, d3, d4, d5, d6⟩ := h3
    rw [h2] at d1 d2
    obtain ⟨y, rest', rfl⟩ : ∃ y rest', rest = y :: rest' := by
     cases rest with
     | nil => have := congrArg List.length d2; rw [List.length_drop, List.length_nil] at this; lia
     | cons y rest' => exact ⟨y, rest', rfl⟩
    obtain ⟨l, hl⟩ : ∃ l, Eq.getLast? = some l := by
     cases q : Eq.getLast? with
     | some l => exact ⟨l, rfl⟩
     | none => rw [List.getLast?_eq_none_iff] at q; exact absurd q d3
    have hl' : (D ++ Eq).getLast? = some l := by rw [List.getLast?_append, hl]; rfl
    have ml : l ∈ Eq := List.mem_of_getLast? hl
    have my : y ∈ x0 :: tl := List.mem_of_mem_drop (by rw [← d2]; simp)
    have mem : ∀ x ∈ D ++ Eq, ok x ∧ T x y := fun x hx => by
     have hx' := d1.mem_iff.mp hx
     have h5 := hT; rw [← List.take_append_drop i (x0 :: tl), ← d2, List.pairwise_append] at h5
     exact ⟨oo x (List.mem_of_mem_take hx'), h5.2.2 x hx' y (by simp)⟩
    have oy := oo y my
    have ol := (mem l (List.mem_append_right _ ml)).1
    have lEq : 1 ≤ Eq.length := List.length_pos_iff.mpr d3
    have nt : (x0 :: tl).take (i + 1) = (x0 :: tl).take i ++ [y] := by rw [List.take_add, ← d2]; rfl
    have nd : (x0 :: tl).drop (i + 1) = rest' := by rw [← List.drop_drop, ← d2]; rfl
    have lDE := h2; rw [List.length_append] at lDE
    -- after the stretch of equals is turned
    have smallerI : ∀ st3 : SortSt, Rest kd st' st3 → (arrOf st3).toList = pre ++ (D ++ Eq.reverse) ++ (y :: rest') → L y l = true →
      Rest kd st' st3 ∧ ∃ D' Eq' rest, ((none, i + 1, 0) : Option (Option Nat) × Nat × Nat) = (none, i + 1, Eq'.length - 1) ∧ (D' ++ Eq').length = i + 1 ∧ DI L T (x0 :: tl) D' Eq' rest ∧ (arrOf st3).toList = pre ++ (D' ++ Eq') ++ rest := by
     intro st3 hR3 ha3 hyl
     have all : ∀ x ∈ D ++ Eq, L y x = true := fun x hx => by
      have ox := (mem x hx).1
      cases q3 : L y x with
      | true => rfl
      | false =>
       have := hc.neg l x y ol ox oy ((List.mem_append.mp hx).elim (fun q2 => hc.asym l x ol ox (d6 l ml x q2)) (fun q2 => d5 x q2 l ml)) q3
       rw [hyl] at this; cases this
     have l1 : (D ++ Eq.reverse ++ [y]).length = i + 1 := by rw [List.length_append, List.length_append, List.length_reverse, lDE, List.length_singleton]
     refine ⟨hR3, D ++ Eq.reverse, [y], rest', rfl, l1, ⟨?_, ?_, List.cons_ne_nil _ _, ?_, ?_, ?_⟩, by rw [ha3]; simp⟩
     ·rw [l1, nt]
      refine List.Perm.append_right _ (List.Perm.trans ?_ d1)
      exact List.Perm.append_left _ (List.reverse_perm _)
     ·rw [l1, nd]
     ·rw [List.reverse_append, List.reverse_reverse, List.singleton_append, List.pairwise_cons]
      refine ⟨fun x hx => ?_, d4⟩
      have hx' : x ∈ D ++ Eq := by
       rcases List.mem_append.mp hx with q2 | q2
       ·exact List.mem_append_right _ q2
       ·exact List.mem_append_left _ (by simpa using q2)
      exact ⟨hc.asym y x oy (mem x hx').1 (all x hx'), .inl (all x hx')⟩
     ·intro x hx x' hx'
      rw [List.mem_singleton.mp hx, List.mem_singleton.mp hx']; exact irr hc oy
     ·intro x hx x' hx'
      rw [List.mem_singleton.mp hx]
      exact all x' (by rcases List.mem_append.mp hx' with q2 | q2; exact List.mem_append_left _ q2; exact List.mem_append_right _ (by simpa using q2))
    refine wpS_bind (wpS_ltA hc (get_next h4 h2.symm) (get_prev h4 hl' h2.symm) oy ol h1.1 ?_)
    cases hyl : L y l with
    | true =>
     change wpS _ _ _ _ (if Eq.length - 1 > 0 then _ else _) _ _
     split
     ·refine wpS_bind (wpS_rev (pre := pre ++ D) (mid := Eq) (post := y :: rest') (by rw [h4]; simp) (by rw [List.length_append]; dsimp only; lia) (by rw [List.length_append]; dsimp only; lia) fun xs hxs => ?_)
      exact wpS_pure (smallerI _ (h1.arr xs) (by rw [← List.append_assoc pre]; exact hxs) hyl)
     ·have : Eq.reverse = Eq := by
       obtain ⟨a, ha⟩ := List.length_eq_one_iff.mp (show Eq.length = 1 by lia)
       rw [ha]; rfl
      exact wpS_pure (smallerI _ h1 (by rw [this]; exact h4) hyl)
    | false =>
     change wpS _ _ _ _ (ltAt' (pre.length + i - 1) (pre.length + i) >>= _) _ _
     refine wpS_bind (wpS_ltA hc (get_prev h4 hl' h2.symm) (get_next h4 h2.symm) ol oy h1.1 ?_)
     cases hly : L l y with
     | true => exact wpS_pure ⟨h1, D, Eq, y :: rest', by rw [h2], ⟨by rw [h2]; exact d1, by rw [h2]; exact d2, d3, d4, d5, d6⟩, h4⟩
     | false =>
      have l1 : (D ++ (Eq ++ [y])).length = i + 1 := by rw [← List.append_assoc, List.length_append, h2, List.length_singleton]
      have ye : ∀ x ∈ Eq, L y x = false ∧ L x y = false := fun x hx => by
       have ox := (mem x (List.mem_append_right _ hx)).1
       exact ⟨hc.neg x l y ox ol oy (d5 l ml x hx) hyl, hc.neg y l x oy ol ox hly (d5 x hx l ml)⟩
      have yd : ∀ x ∈ D, L y x = true := fun x hx => by
       cases q3 : L y x with
       | true => rfl
       | false => have := hc.neg x y l (mem x (List.mem_append_left _ hx)).1 oy ol q3 hly; rw [d6 l ml x hx] at this; cases this
      refine wpS_pure ⟨h1, D, Eq ++ [y], rest', ?_, l1, ⟨?_, ?_, by simp, ?_, ?_, ?_⟩, by rw [h4]; simp⟩
      ·show (none, i + 1, Eq.length - 1 + 1) = _
       rw [List.length_append, List.length_singleton, Nat.sub_add_cancel lEq]; rfl
      ·rw [l1, nt, ← List.append_assoc]
       exact d1.append_right _
      ·rw [l1, nd]
      ·have d4' := d4; rw [List.pairwise_append] at d4'
       rw [List.append_assoc, List.pairwise_append, List.singleton_append, List.pairwise_cons]
       refine ⟨d4'.1, ⟨fun x hx => ?_, d4'.2.1⟩, fun x hx x' hx' => ?_⟩
       ·have hx2 : x ∈ D := by simpa using hx
        exact ⟨hc.asym y x oy (mem x (List.mem_append_left _ hx2)).1 (yd x hx2), .inl (yd x hx2)⟩
       ·rcases List.mem_cons.mp hx' with q2 | q2
        ·rw [q2]; exact ⟨(ye x hx).1, .inr (mem x (List.mem_append_right _ hx)).2⟩
        ·exact d4'.2.2 x hx x' q2
      ·intro x hx x' hx'
       rcases List.mem_append.mp hx with q2 | q2 <;> rcases List.mem_append.mp hx' with q3 | q3
       ·exact d5 x q2 x' q3
       ·rw [List.mem_singleton.mp q3]; exact (ye x q2).2
       ·rw [List.mem_singleton.mp q2]; exact (ye x' q3).1
       ·rw [List.mem_singleton.mp q2, List.mem_singleton.mp q3]; exact irr hc oy
      ·intro x hx x' hx'
       rcases List.mem_append.mp hx with q2 | q2
       ·exact d6 x q2 x' hx'
       ·rw [List.mem_singleton.mp q2]; exact yd x' hx'
   case post =>
    rintro c st2 ⟨h1, D, Eq, rest, rfl, h3, h4⟩
    obtain ⟨d1, d2, d3, d4, d5, d6⟩ := h3
    have lEq : 1 ≤ Eq.length := List.length_pos_iff.mpr d3
    have lV : (Eq ++ D.reverse).length = (D ++ Eq).length := by rw [List.length_append, List.length_append, List.length_reverse, Nat.add_comm]
    have fin : ∀ st3 : SortSt, Rest kd st' st3 → (arrOf st3).toList = pre ++ (D ++ Eq.reverse) ++ rest →
      wpS (model prog w) A E s (do
       reverseSlice' pre.length (pre.length + (D ++ Eq).length)
       let mut n := (D ++ Eq).length
       for _ in [n:(x0 :: tl).length] do
        let some smaller ← ltAt' (pre.length + n) (pre.length + n - 1) | return none
        if smaller then break
        n := n + 1
       return some n) Q st3 := by
     intro st3 hR3 ha3
     refine wpS_bind (wpS_rev (pre := pre) (mid := D ++ Eq.reverse) (post := rest) ha3 rfl (by simp) fun xs hxs => ?_)
     rw [List.reverse_append, List.reverse_reverse] at hxs
     refine lastPart _ (Eq ++ D.reverse) rest _ lV.symm (hR3.arr xs) hxs (by rw [lV, List.length_append]; exact Nat.le_trans lEq (Nat.le_add_left _ _)) ?_ (by rw [lV]; exact d2) d4
     rw [lV]
     refine List.Perm.trans ?_ d1
     refine List.perm_append_comm.trans ?_
     exact List.Perm.append_right _ (List.reverse_perm _)
    change wpS _ _ _ _ (if Eq.length - 1 > 0 then _ else _) _ _
    split
    ·refine wpS_bind (wpS_rev (pre := pre ++ D) (mid := Eq) (post := rest) (by rw [h4]; simp) (by dsimp only; rw [List.length_append, List.length_append]; lia) (by dsimp only; rw [List.length_append, List.length_append]; lia) fun xs hxs => ?_)
     exact fin _ (h1.arr xs) (by rw [← List.append_assoc pre]; exact hxs)
    ·have : Eq.reverse = Eq := by
      obtain ⟨a, ha⟩ := List.length_eq_one_iff.mp (show Eq.length = 1 by lia)
      rw [ha]; rfl
     exact fin _ h1 (by rw [this]; exact h4)
  change wpS _ _ _ _ (if 1 + mid.length > 1 then _ else _) Q st'
  split
  ·rename_i hm
   have gx0 : (arrOf st')[pre.length]? = some x0 := by
    have := get_next (pre := pre) (run := []) (rest := tl) (z := x0) (xs := arrOf st') (by rw [harr]; simp) (n := 0) rfl
    simpa using this
   refine wpS_bind (wpS_ltA hc (x := x0) (y := e) gx0 (get_prev (rest := z :: r) (by rw [harr, whole]; simp) he lw.symm) (oo x0 (by simp)) (o1 e me) hR.1 ?_)
   dsimp only
   cases hl : L x0 e with
   | true =>
    rw [if_pos rfl]
    exact wpS_pure (done1)
   | false =>
    rw [if_neg (by decide)]
    refine wpS_bind (wpS_rev (pre := pre) (mid := [x0] ++ mid) (post := z :: r) (by rw [harr, whole]; simp) rfl (by lia) fun xs hxs => ?_)
    refine fall _ ([x0] ++ mid).reverse (hR.arr xs) (List.reverse_perm _) hxs (by rw [List.reverse_reverse]; exact e3) fun x hx => ?_
    -- all are equal
    have hx' : x ∈ [x0] ++ mid := List.mem_reverse.mp hx
    have h1 : L x x0 = false := by
     rcases List.mem_append.mp hx' with q2 | q2
     ·simp at q2; subst q2; exact irr hc (oo _ (by simp))
     ·have := e3; rw [List.singleton_append, List.pairwise_cons] at this
      exact (this.1 x q2).1
    have ox := o1 x hx'
    have h2 : L x e = false := hc.neg e x0 x (o1 e me) (oo x0 (by simp)) ox hl h1
    cases q3 : L z x with
    | true => rfl
    | false =>
     have := hc.neg e x z (o1 e me) ox (o2 z (by simp)) h2 q3
     rw [hze] at this; cases this
  ·rename_i hm
   have : mid = [] := List.eq_nil_of_length_eq_zero (by lia)
   subst this
   refine fall _ [x0] hR (List.Perm.refl _) (by rw [harr, whole]; simp) (by simp) fun x hx => ?_
   simp at hx he; subst hx; subst he; exact hze
end
noncomputable def Pend (p : Array (Nat × Nat × Nat)) (runs : List (List Keyed)) : Prop :=
 p.size = runs.length ∧ ∀ (R1 R2 : List (List Keyed)) (r : List Keyed), runs = R1 ++ r :: R2 → ∃ pw, p[R1.length]? = some (R1.flatten.length, r.length, pw)
theorem Pend.push {p : Array (Nat × Nat × Nat)} {runs : List (List Keyed)} (h : Pend p runs) (r : List Keyed) {lo n : Nat} (hlo : lo = runs.flatten.length) (hn : n = r.length) : Pend (p.push (lo, n, 0)) (runs ++ [r]) := by
 refine ⟨by simp [h.1], fun R1 R2 r' e => ?_⟩
 rcases List.append_eq_append_iff.mp e with ⟨as, h1, h2⟩ | ⟨bs, h1, h2⟩
 ·-- R1 = runs ++ as
  cases as with
  | nil =>
   simp at h1 h2
   obtain ⟨rfl, rfl⟩ := h2
   subst h1
   exact ⟨0, by rw [← h.1]; simp [hlo, hn]⟩
  | cons a as => simp at h2
 ·cases bs with
  | nil =>
   simp at h1 h2
   obtain ⟨rfl, rfl⟩ := h2
   subst h1
   exact ⟨0, by rw [← h.1]; simp [hlo, hn]⟩
  | cons b bs =>
   simp at h2
   obtain ⟨rfl, rfl⟩ := h2
   obtain ⟨pw, hp⟩ := h.2 R1 bs r' h1
   have : R1.length < p.size := by rw [h.1, h1]; simp
   exact ⟨pw, by rw [Array.getElem?_push_lt this, ← hp, Array.getElem?_eq_getElem this]⟩
theorem Pend.modify {p : Array (Nat × Nat × Nat)} {runs : List (List Keyed)} (h : Pend p runs) (k : Nat) (pw : Nat) : Pend (p.modify k fun (st, len, _) => (st, len, pw)) runs := by
 refine ⟨by simp [h.1], fun R1 R2 r e => ?_⟩
 obtain ⟨q, hq⟩ := h.2 R1 R2 r e
 rw [Array.getElem?_modify, hq]
 by_cases hk : k = R1.length
 ·exact ⟨pw, by simp [hk]⟩
 ·exact ⟨q, by simp [hk]⟩
theorem Pend.merge {p : Array (Nat × Nat × Nat)} {R1 R2 : List (List Keyed)} {la lb res : List Keyed} (h : Pend p (R1 ++ la :: lb :: R2)) (hr : res.length = la.length + lb.length) {p1 : Nat} :
  Pend ((p.setIfInBounds R1.length (R1.flatten.length, la.length + lb.length, p1)).eraseIdxIfInBounds (R1.length + 1)) (R1 ++ res :: R2) := by
 have hs : p.size = R1.length + R2.length + 2 := by rw [h.1]; simp; lia
 have hb : R1.length + 1 < (p.setIfInBounds R1.length (R1.flatten.length, la.length + lb.length, p1)).size := by simp; lia
 have ez : (p.setIfInBounds R1.length (R1.flatten.length, la.length + lb.length, p1)).eraseIdxIfInBounds (R1.length + 1) = (p.setIfInBounds R1.length (R1.flatten.length, la.length + lb.length, p1)).eraseIdx (R1.length + 1) hb := by
  unfold Array.eraseIdxIfInBounds; rw [dif_pos hb]
 rw [ez]
 refine ⟨by simp [hs]; lia, fun S1 S2 r e => ?_⟩
 rw [Array.getElem?_eraseIdx]
 rcases List.append_eq_append_iff.mp e with ⟨as, h1, h2⟩ | ⟨bs, h1, h2⟩
 ·-- S1 = R1 ++ as
  cases as with
  | nil =>
   simp at h1 h2
   obtain ⟨rfl, rfl⟩ := h2
   subst h1
   refine ⟨p1, ?_⟩
   rw [if_pos (by lia), Array.getElem?_setIfInBounds_self_of_lt (by lia), hr]
  | cons a as =>
   simp at h2
   obtain ⟨rfl, rfl⟩ := h2
   subst h1
   obtain ⟨pw, hp⟩ := h.2 (R1 ++ la :: lb :: as) S2 r (by simp)
   refine ⟨pw, ?_⟩
   rw [if_neg (by simp), Array.getElem?_setIfInBounds_ne (by simp; lia)]
   rw [show (R1 ++ la :: lb :: as).length = (R1 ++ res :: as).length + 1 by simp; lia] at hp
   rw [hp]
   simp [hr]
   lia
 ·cases bs with
  | nil =>
   simp at h1 h2
   obtain ⟨rfl, rfl⟩ := h2
   subst h1
   refine ⟨p1, ?_⟩
   rw [if_pos (by lia), Array.getElem?_setIfInBounds_self_of_lt (by lia), hr]
  | cons b bs =>
   simp at h2
   obtain ⟨rfl, rfl⟩ := h2
   obtain ⟨pw, hp⟩ := h.2 S1 (bs ++ la :: lb :: R2) r (by rw [h1]; simp)
   refine ⟨pw, ?_⟩
   have : S1.length < R1.length := by rw [h1]; simp
   rw [if_pos (by lia), Array.getElem?_setIfInBounds_ne (by lia), hp]
section
variable {prog : Program} {w : World} {A : Around} {E : Value → Shared → Prop} {s : Shared} {kd : SortKind} {ok : Keyed → Prop} {L : Keyed → Keyed → Bool} {T : Keyed → Keyed → Prop} {a₀ : List Keyed}
structure SI (kd : SortKind) (ok : Keyed → Prop) (L : Keyed → Keyed → Bool) (T : Keyed → Keyed → Prop) (tail : List Keyed) (st : SortSt) (runs : List (List Keyed)) : Prop where
 kind : kindOf st = kd
 fail : failedOf st = none
 pend : Pend (pendingOf st) runs
 arr : (arrOf st).toList = runs.flatten ++ tail
 srt : ∀ r ∈ runs, r ≠ [] ∧ r.Pairwise (RR L T)
 tie : runs.Pairwise fun r r' => ∀ x ∈ r, ∀ y ∈ r', T x y
 oks : ∀ x ∈ runs.flatten, ok x
theorem wpS_mergeSI (hc : Cmp prog w A E s kd ok L) {st : SortSt} {tail : List Keyed} {R1 R2 : List (List Keyed)} {la lb : List Keyed} {i : Nat} {Q : Bool → SortSt → Prop} (hI : SI kd ok L T tail st (R1 ++ la :: lb :: R2)) (hi : i = R1.length)
  (h : ∀ st' res, SI kd ok L T tail st' (R1 ++ res :: R2) → (R1 ++ res :: R2).flatten.Perm (R1 ++ la :: lb :: R2).flatten → Q true st') : wpS (model prog w) A E s (mergeAt' i) Q st := by
 subst hi
 obtain ⟨k1, k2, k3, k5, k8, k9, k7⟩ := hI
 obtain ⟨p1, hp1⟩ := k3.2 R1 (lb :: R2) la rfl
 obtain ⟨p2, hp2⟩ := k3.2 (R1 ++ [la]) R2 lb (by simp)
 have mem : ∀ x, x ∈ la ∨ x ∈ lb → ok x := fun x hx => k7 x (by
  rw [List.flatten_append, List.flatten_cons, List.flatten_cons]; simp only [List.mem_append]
  rcases hx with q | q
  ·exact .inr (.inl q)
  ·exact .inr (.inr (.inl q)))
 have ra := k8 la (by simp)
 have rb := k8 lb (by simp)
 have k9' := k9
 rw [List.pairwise_append, List.pairwise_cons, List.pairwise_cons] at k9'
 obtain ⟨t1, ⟨t2, t3, t4⟩, t5⟩ := k9'
 refine wpS_mergeAt (T := T) (p1 := p1) (p2 := p2) (pre := R1.flatten) (la := la) (lb := lb) (post := R2.flatten ++ tail) hc k1 k2 (by rw [k5]; simp) hp1 (by rw [List.length_append, List.length_singleton] at hp2; rw [hp2]; simp)
  ra.2 rb.2 (fun x hx => mem x (.inl hx)) (fun x hx => mem x (.inr hx)) (t2 lb (by simp)) (List.length_pos_iff.mpr ra.1) (List.length_pos_iff.mpr rb.1) fun st' res e1 e2 e3 e4 e5 => ?_
 have lr : res.length = la.length + lb.length := by rw [e5.1.length_eq, List.length_append]
 have mr : ∀ x, x ∈ res → x ∈ la ∨ x ∈ lb := fun x hx => List.mem_append.mp (e5.1.mem_iff.mp hx)
 have pm : (R1 ++ res :: R2).flatten.Perm (R1 ++ la :: lb :: R2).flatten := by
  simp only [List.flatten_append, List.flatten_cons]
  refine List.Perm.append_left _ ?_
  rw [← List.append_assoc]
  exact e5.1.append_right _
 refine h st' res ⟨e1, e2, by rw [e3]; exact k3.merge lr, by rw [e4]; simp, ?_, ?_, fun x hx => k7 x (pm.mem_iff.mp hx)⟩ pm
 ·intro r hr
  rcases List.mem_append.mp hr with q | q
  ·exact k8 r (List.mem_append_left _ q)
  ·rcases List.mem_cons.mp q with q | q
   ·rw [q]
    exact ⟨fun e => by rw [e] at lr; simp at lr; exact ra.1 (List.eq_nil_of_length_eq_zero (by lia)), e5.2⟩
   ·exact k8 r (by simp [q])
 ·rw [List.pairwise_append, List.pairwise_cons]
  refine ⟨t1, ⟨fun r' hr' x hx y hy => ?_, t4⟩, fun r hr r' hr' x hx y hy => ?_⟩
  ·rcases mr x hx with q | q
   ·exact t2 r' (by simp [hr']) x q y hy
   ·exact t3 r' hr' x q y hy
  ·rcases List.mem_cons.mp hr' with q | q
   ·rw [q] at hy
    rcases mr y hy with q2 | q2
    ·exact t5 r hr la (by simp) x hx y q2
    ·exact t5 r hr lb (by simp) x hx y q2
   ·exact t5 r hr r' (by simp [q]) x hx y hy
theorem split_two {α : Type} {l : List α} {i : Nat} (h : i + 1 < l.length) : ∃ R1 a b R2, l = R1 ++ a :: b :: R2 ∧ R1.length = i := by
 refine ⟨l.take i, l[i], l[i + 1], l.drop (i + 2), ?_, by rw [List.length_take]; lia⟩
 rw [← List.drop_eq_getElem_cons (by lia), ← List.drop_eq_getElem_cons (by lia), List.take_append_drop]
theorem runs_le {runs : List (List Keyed)} (h : ∀ r ∈ runs, r ≠ [] ∧ r.Pairwise (RR L T)) : runs.length ≤ runs.flatten.length := by
 induction runs with
 | nil => simp
 | cons r rs ih =>
  have h1 := List.length_pos_iff.mpr (h r (by simp)).1
  have h2 := ih fun r' hr' => h r' (by simp [hr'])
  rw [List.flatten_cons, List.length_append, List.length_cons]; lia
theorem SI.re {tail : List Keyed} {st st' : SortSt} {runs : List (List Keyed)} (h : SI kd ok L T tail st runs) (h1 : kindOf st' = kindOf st) (h2 : failedOf st' = failedOf st) (h3 : arrOf st' = arrOf st) (h4 : pendingOf st' = pendingOf st) : SI kd ok L T tail st' runs :=
 ⟨h1.trans h.kind, h2.trans h.fail, h4 ▸ h.pend, h3 ▸ h.arr, h.srt, h.tie, h.oks⟩
noncomputable def SL (kd : SortKind) (ok : Keyed → Prop) (L : Keyed → Keyed → Bool) (T : Keyed → Keyed → Prop) (a₀ : List Keyed) (st : SortSt) (lo : Nat) (runs : List (List Keyed)) : Prop :=
 SI kd ok L T (a₀.drop lo) st runs ∧ runs.flatten.Perm (a₀.take lo) ∧ lo ≤ a₀.length
theorem wpS_sortRunsT (hc : Cmp prog w A E s kd ok L) {st : SortSt} {Q : Unit → SortSt → Prop} (hkd : kindOf st = kd) (hf : failedOf st = none) (hp : pendingOf st = #[]) (harr : (arrOf st).toList = a₀)
  (o₀ : ∀ x ∈ a₀, ok x) (hT : a₀.Pairwise T) (h2 : 2 ≤ a₀.length)
  (h : ∀ st', failedOf st' = none → (arrOf st').toList.Perm a₀ → (arrOf st').toList.Pairwise (RR L T) → Q () st') : wpS (model prog w) A E s sortRuns' Q st := by
 rw [sortRuns'_eq]
 refine wpS_getB ?_
 have hz : (arrOf st).size = a₀.length := by rw [← harr, Array.length_toList]
 have I0 : SL kd ok L T a₀ st 0 [] := ⟨⟨hkd, hf, ⟨by rw [hp]; rfl, by simp⟩, by simpa using harr, by simp, by simp, by simp⟩, by simp, by lia⟩
 rw [hz]
 refine wpS_bind (wpS_mono (wpS_forRange
  (I := fun i c st' => ∃ lo runs, c = (none, lo) ∧ SL kd ok L T a₀ st' lo runs ∧ min i a₀.length ≤ lo)
  (Q := fun c st' => ∃ runs, c = (none, a₀.length) ∧ SL kd ok L T a₀ st' a₀.length runs) ?step ?fin ⟨0, [], rfl, I0, by lia⟩) ?post)
 case fin =>
  rintro c st' ⟨lo, runs, rfl, hI, hle⟩
  have : lo = a₀.length := by have := hI.2.2; simp at hle; lia
  subst this
  exact ⟨runs, rfl, hI⟩
 case post =>
  rintro c st' ⟨runs, rfl, hI, hP, _⟩
  rw [List.drop_length] at hI
  rw [List.take_length] at hP
  dsimp only
  have fin : ∀ st'' runs, SI kd ok L T [] st'' runs → runs.flatten.Perm a₀ → runs.length ≤ 1 → Q () st'' := by
   intro st'' runs hI' e2 hl
   have e1 := hI'.arr
   rw [List.append_nil] at e1
   refine h st'' hI'.fail (by rw [e1]; exact e2) ?_
   rw [e1]
   match runs, hl with
   | [], _ => simp
   | [r], _ => simpa using (hI'.srt r (by simp)).2
  refine wpS_bind (wpS_mono (wpS_forRange
   (I := fun i c st'' => c = (none, ()) ∧ ∃ runs, SI kd ok L T [] st'' runs ∧ runs.flatten.Perm a₀ ∧ runs.length + i ≤ a₀.length)
   (Q := fun c st'' => c = (none, ()) ∧ ∃ runs, SI kd ok L T [] st'' runs ∧ runs.flatten.Perm a₀ ∧ runs.length ≤ 1) ?step2 ?fin2 ⟨rfl, runs, hI, hP, ?_⟩) ?post2)
  case fin2 =>
   rintro c st'' ⟨rfl, runs', hI', hp', hl⟩
   exact ⟨rfl, runs', hI', hp', by simp at hl; lia⟩
  case post2 =>
   rintro c st'' ⟨rfl, runs', hI', hp', hl⟩
   exact wpS_pure (fin st'' runs' hI' hp' hl)
  case step2 =>
   rintro i c st'' _ hi ⟨rfl, runs', hI', hp', hl⟩
   refine wpS_getB ?_
   have hps := hI'.pend.1
   split
   ·exact wpS_pure ⟨rfl, runs', hI', hp', by lia⟩
   ·rename_i hgt
    refine wpS_bind (wpS_mono (Q := fun r st3 => r = true ∧ ∃ runs, SI kd ok L T [] st3 runs ∧ runs.flatten.Perm a₀ ∧ runs.length + 1 = runs'.length) ?m1 ?m2)
    case m1 =>
     have key : ∀ j, j + 1 < runs'.length → wpS (model prog w) A E s (mergeAt' j) (fun r st3 => r = true ∧ ∃ runs, SI kd ok L T [] st3 runs ∧ runs.flatten.Perm a₀ ∧ runs.length + 1 = runs'.length) st'' := by
      intro j hj
      obtain ⟨R1, la, lb, R2, e, hR1⟩ := split_two hj
      subst e
      exact wpS_mergeSI hc hI' hR1.symm fun st3 res hI3 hp3 => ⟨rfl, _, hI3, hp3.trans hp', by simp; lia⟩
     apply key
     repeat' split
     all_goals lia
    case m2 =>
     rintro r st3 ⟨rfl, runs3, hI3, hp3, hl3⟩
     exact wpS_pure ⟨rfl, _, hI3, hp3, by lia⟩
  ·have := runs_le hI.srt; rw [hP.length_eq] at this; lia
 case step =>
  rintro i c st' _ hi ⟨lo, runs, rfl, ⟨hI, hP, hL⟩, hle⟩
  change wpS _ _ _ _ (if lo ≥ a₀.length then _ else _) _ _
  split
  ·rename_i hge
   have : lo = a₀.length := by lia
   subst this
   exact wpS_pure ⟨runs, rfl, hI, hP, hL⟩
  rename_i hlt
  have e1 := hI.arr
  have el : (a₀.drop lo).length = a₀.length - lo := List.length_drop
  have lf : runs.flatten.length = lo := by rw [hP.length_eq, List.length_take]; lia
  have hR : Rest kd st' st' := ⟨hI.kind, hI.fail, rfl⟩
  have hTs := hT
  rw [← List.take_append_drop lo a₀, List.pairwise_append] at hTs
  have pushed : ∀ (st4 : SortSt) (runs' : List (List Keyed)) (n : Nat) (run : List Keyed), 1 ≤ n → n ≤ a₀.length - lo → run.length = n → run.Perm ((a₀.drop lo).take n) → run.Pairwise (RR L T) →
    SI kd ok L T (run ++ (a₀.drop lo).drop n) st4 runs' → runs'.flatten.Perm runs.flatten →
    SL kd ok L T a₀ (setPending st4 ((pendingOf st4).push (lo, n, 0))) (lo + n) (runs' ++ [run]) ∧ min (i + 1) a₀.length ≤ lo + n := by
   intro st4 runs' n run b2 b3 b4 b6 b7 hI4 hp4
   have hp4' := hp4.trans hP
   refine ⟨⟨⟨hI4.kind, hI4.fail, hI4.pend.push run (by rw [hp4'.length_eq, List.length_take]; lia) b4.symm, ?_, ?_, ?_, ?_⟩, ?_, by lia⟩, by lia⟩
   ·show (arrOf st4).toList = _
    rw [hI4.arr]; simp
   ·intro r hr
    rcases List.mem_append.mp hr with q | q
    ·exact hI4.srt r q
    ·rw [List.mem_singleton.mp q]
     exact ⟨fun e => by rw [e] at b4; simp at b4; lia, b7⟩
   ·rw [List.pairwise_append]
    refine ⟨hI4.tie, by simp, fun r hr r' hr' x hx y hy => ?_⟩
    rw [List.mem_singleton.mp hr'] at hy
    exact hTs.2.2 x (hp4'.mem_iff.mp (List.mem_flatten.mpr ⟨r, hr, hx⟩)) y (List.mem_of_mem_take (b6.mem_iff.mp hy))
   ·intro x hx
    rw [List.flatten_append] at hx
    rcases List.mem_append.mp hx with q | q
    ·exact hI4.oks x q
    ·have : x ∈ run := by simpa using q
     exact o₀ x (List.mem_of_mem_drop (List.mem_of_mem_take (b6.mem_iff.mp this)))
   ·rw [List.flatten_append, List.take_add]
    simpa using hp4'.append b6
  refine wpS_bind (wpS_mono (Q := fun r st2 => ∃ n run, r = some n ∧ Rest kd st' st2 ∧ 1 ≤ n ∧ n ≤ a₀.length - lo ∧ run.length = n ∧ (arrOf st2).toList = runs.flatten ++ run ++ (a₀.drop lo).drop n ∧ run.Perm ((a₀.drop lo).take n) ∧ run.Pairwise (RR L T)) ?c1 ?c2)
  case c1 =>
   have := wpS_countRunT (prog := prog) (w := w) (A := A) (E := E) (s := s) (T := T) (st := st') (pre := runs.flatten) (orig := a₀.drop lo) (Q := fun r st2 => ∃ n run, r = some n ∧ Rest kd st' st2 ∧ 1 ≤ n ∧ n ≤ a₀.length - lo ∧ run.length = n ∧ (arrOf st2).toList = runs.flatten ++ run ++ (a₀.drop lo).drop n ∧ run.Perm ((a₀.drop lo).take n) ∧ run.Pairwise (RR L T))
    hc hR e1 (by lia) (fun x hx => o₀ x (List.mem_of_mem_drop hx)) hTs.2.1 fun st2 n run b1 b2 b3 b4 b5 b6 b7 => ⟨n, run, rfl, b1, b2, by lia, b4, b5, b6, b7⟩
   rw [lf, el] at this
   exact this
  case c2 =>
   rintro r st2 ⟨n, run, rfl, b1, b2, b3, b4, b5, b6, b7⟩
   dsimp -zeta only
   extract_lets n' jp force m
   refine (?hb : (∀ (N : Nat) (run' : List Keyed) (st3 : SortSt), 1 ≤ N → N ≤ a₀.length - lo → run'.length = N → run'.Perm ((a₀.drop lo).take N) → run'.Pairwise (RR L T) → SI kd ok L T (run' ++ (a₀.drop lo).drop N) st3 runs → wpS (model prog w) A E s (jp () N) ?QQ st3) → _) ?hj
   case hb =>
    clear_value jp
    intro hj
    have f1 : force ≤ a₀.length - lo := Nat.min_le_left _ _
    split
    ·rename_i hmr
     have f2 : n ≤ force := Nat.le_min.mpr ⟨b3, Nat.le_of_lt hmr⟩
     have f3 : m = force := rfl
     rw [f3]
     clear_value m force
     have f4 := Nat.add_sub_of_le f2
     refine wpS_ruleB (wpS_bind ?_)
     have hTd := hTs.2.1
     rw [← List.take_append_drop n (a₀.drop lo), List.pairwise_append] at hTd
     subst b4
     refine (?w : ∀ k, runs.flatten.length = k → wpS (model prog w) A E s (binarySort' k force run.length) ?q1 st2) lo lf
     rintro _ rfl
     refine wpS_insort hc ⟨b1.1, b1.2.1, rfl⟩ b5 (by rw [List.length_drop, el, Nat.add_sub_of_le b3]; exact f1) f2 b2 b7 (fun x hx => o₀ x (List.mem_of_mem_drop (List.mem_of_mem_take (b6.mem_iff.mp hx)))) (fun x hx => o₀ x (List.mem_of_mem_drop (List.mem_of_mem_drop hx)))
      (fun x hx y hy => hTd.2.2 x (b6.mem_iff.mp hx) y hy) hTd.2.1 fun st3 run' c1 c2 c3 c4 => ?_
     have g5 : run'.Perm ((a₀.drop lo).take force) := by
      refine c3.trans ((b6.append_right _).trans ?_)
      rw [← List.take_add, f4]
     exact hj force run' st3 (Nat.le_trans b2 f2) f1 (by rw [g5.length_eq, List.length_take, el, Nat.min_eq_left f1]) g5 c4 ⟨c1.1, c1.2.1, by rw [c1.2.2, b1.2.2]; exact hI.pend, by rw [c2, List.drop_drop, f4, List.append_assoc], hI.srt, hI.tie, hI.oks⟩
    ·exact hj n run st2 b2 b3 b4 b6 b7 ⟨b1.1, b1.2.1, by rw [b1.2.2]; exact hI.pend, by rw [b5, List.append_assoc], hI.srt, hI.tie, hI.oks⟩
   case hj =>
    intro N run' st3 b2 b3 b4 b6 b7 hI2
    refine wpS_getB ?_
    cases hb : (pendingOf st3).back? with
    | none =>
     refine wpS_modifyB ?_
     refine wpS_pure ⟨lo + N, runs ++ [run'], rfl, ?_⟩
     exact pushed _ _ N run' b2 b3 b4 b6 b7 (SI.re hI2 rfl rfl rfl rfl) (List.Perm.refl _)
    | some q =>
     obtain ⟨s1, n1, q1⟩ := q
     refine wpS_bind (wpS_mono (wpS_forRange
      (I := fun ux c st4 => c = (none, ()) ∧ ∃ runs', SI kd ok L T (run' ++ (a₀.drop lo).drop N) st4 runs' ∧ runs'.flatten.Perm runs.flatten)
      (Q := fun c st4 => c = (none, ()) ∧ ∃ runs', SI kd ok L T (run' ++ (a₀.drop lo).drop N) st4 runs' ∧ runs'.flatten.Perm runs.flatten) ?_ (fun ux ux x => x) ⟨rfl, runs, hI2, List.Perm.refl _⟩) ?_)
     ·rintro j c st4 _ _ ⟨rfl, runs', hI4, hp4⟩
      refine wpS_getB ?_
      dsimp only
      have hps := hI4.pend.1
      cases hpp : (if (pendingOf st4).size > 1 then (pendingOf st4)[(pendingOf st4).size - 2]? else none) with
      | none => exact wpS_pure ⟨rfl, runs', hI4, hp4⟩
      | some q =>
       obtain ⟨u1, u2, older⟩ := q
       dsimp only
       split
       ·exact wpS_pure ⟨rfl, runs', hI4, hp4⟩
       ·have hgt : (pendingOf st4).size > 1 := by
         by_cases q : (pendingOf st4).size > 1
         ·exact q
         ·rw [if_neg q] at hpp; cases hpp
        obtain ⟨R1, la, lb, R2, e, hR1⟩ := split_two (l := runs') (i := (pendingOf st4).size - 2) (by lia)
        subst e
        refine wpS_bind (wpS_mergeSI hc hI4 hR1.symm fun st5 res hI5 hp5 => ?_)
        exact wpS_pure ⟨rfl, _, hI5, hp5.trans hp4⟩
     ·rintro c st4 ⟨rfl, runs', hI4, hp4⟩
      dsimp only
      refine wpS_modifyB (wpS_modifyB ?_)
      refine wpS_pure ⟨lo + N, runs' ++ [run'], rfl, ?_⟩
      exact pushed _ _ N run' b2 b3 b4 b6 b7 (⟨hI4.kind, hI4.fail, hI4.pend.modify _ _, hI4.arr, hI4.srt, hI4.tie, hI4.oks⟩) hp4
end
set_option linter.unusedVariables false
section
variable {prog : Program} {w : World} {A : Around} {E : Value → Shared → Prop} {s : Shared} {kd : SortKind} {ok : Keyed → Prop} {L : Keyed → Keyed → Bool} {T : Keyed → Keyed → Prop}
theorem two_of {α : Type} : ∀ {l : List α}, ¬ l.length < 2 → ∃ a b r, l = a :: b :: r
 | [], h => absurd (by simp) h
 | [_], h => absurd (by simp) h
 | a :: b :: r, _ => ⟨a, b, r, rfl⟩
theorem few_pairwise {α : Type} {r : α → α → Prop} : ∀ {l : List α}, l.length < 2 → l.Pairwise r
 | [], _ => .nil
 | [x], _ => List.pairwise_singleton _ _
 | _ :: _ :: _, h => absurd h (by simp)
theorem sort_any {a : Addr} {vs : List Value} {n : Nat} {P : Fin → Shared → Prop} (hc : ∀ E' h', (∀ b o, b ≠ a → s.heap.get? b = some o → h'.get? b = some o) → Cmp prog w A E' { s with heap := h' } kd ok L) (ho : s.heap.get? a = some (seqObj "list" vs.toArray n))
  (h0 : ∀ x ∈ (pairsOf vs).toList, ok x) (hT : (pairsOf vs).toList.Pairwise T) (hkk : 2 ≤ vs.length → ∀ h', (∀ b o, b ≠ a → s.heap.get? b = some o → h'.get? b = some o) → ∀ (Q : SortKind → Shared → Prop) E', Q kd { s with heap := h' } → wpAny (model prog w) A (keyKind' vs.toArray) Q E' { s with heap := h' }) (hz : vs.length ≤ sizeLine)
  (h : ∀ ps : List Keyed, ps.Perm (pairsOf vs).toList → ps.Pairwise (RR L T) → P (.done (.ret .none)) { s with heap := sortedHeap s.heap a vs (ps.toArray.map (·.2)) }) :
  wpAny (model prog w) A (Builtin.«list.sort» ⟨[.ref a], []⟩) P E s := by
 rw [list_sort_plain]
 have ha : a < s.heap.objs.size := Heap.lt_size ho
 refine wpAny_bind (listItems_at ho rfl ?_)
 refine wpAny_bind (listUpdate_at ho rfl ?_)
 obtain ⟨e1, ho1⟩ : ∃ e1, (s.heap.update a (Obj.mapSeq fun ux => #[])).get? a = some (seqObj "list" #[] e1) := ⟨_, get?_update_seq ho (fun ux => #[])⟩
 refine wpAny_bind (seqEpoch_at ho1 rfl ?_)
 refine wpAny_bind (wpAny_newTuple ?_ (by simpa using hz))
 refine wpAny_bind (wpAny_newList ?_)
 refine wpAny_holding ?_
 have ho6 : (((s.heap.update a (Obj.mapSeq fun ux => #[])).push (seqObj "tuple" vs.toArray 0)).push (seqObj "list" #[] 0)).get? a = some (seqObj "list" #[] e1) := by
  rw [Heap.get?_push_ne _ _ _ (by rw [size_push', Heap.size_update]; exact Nat.ne_of_lt (Nat.lt_succ_of_lt ha)), Heap.get?_push_ne _ _ _ (by rw [Heap.size_update]; exact Nat.ne_of_lt ha)]
  exact ho1
 show wpAny (model prog w) A _ P E { s with heap := ((s.heap.update a (Obj.mapSeq fun ux => #[])).push (seqObj "tuple" vs.toArray 0)).push (seqObj "list" #[] 0) }
 dsimp only
 have hsz : vs.toArray.size = vs.length := by simp
 have kp : ∀ b o, b ≠ a → s.heap.get? b = some o → (((s.heap.update a (Obj.mapSeq fun ux => #[])).push (seqObj "tuple" vs.toArray 0)).push (seqObj "list" #[] 0)).get? b = some o := fun b o hb e => by
  have lt := Heap.lt_size e
  rw [Heap.get?_push_ne _ _ _ (by rw [size_push', Heap.size_update]; exact Nat.ne_of_lt (Nat.lt_succ_of_lt lt)), Heap.get?_push_ne _ _ _ (by rw [Heap.size_update]; exact Nat.ne_of_lt lt), Heap.get?_update_ne _ _ _ _ hb]
  exact e
 by_cases h2 : vs.toArray.size < 2
 ·rw [if_pos h2, if_pos h2]
  refine wpAny_bind (wpAny_pure ?_)
  rw [StateT.run_pure]
  refine wpAny_bind (wpAny_pure ?_)
  dsimp only
  refine wpAny_bind (seqEpoch_at ho6 rfl ?_)
  refine wpAny_bind (listUpdate_at ho6 rfl ?_ (hsz2 := by rw [Array.size_map]; show (pairsOf vs).size ≤ _; rw [pairsOf_size]; exact Nat.le_succ_of_le hz))
  simp only [bne_self_eq_false, Bool.false_eq_true, if_false]
  have := h (pairsOf vs).toList (List.Perm.refl _) ?_
  ·rw [Array.toArray_toList] at this
   exact wpAny_pure this
  ·have hl : (pairsOf vs).toList.length < 2 := by rw [Array.length_toList, pairsOf_size]; omega
   exact few_pairwise hl
 ·rw [if_neg h2, if_neg h2]
  obtain ⟨v₁, v₂, rest, rfl⟩ := two_of (fun q => h2 (by rw [hsz]; exact q))
  refine wpAny_bind (hkk (by simp) _ kp _ _ ?_)
  refine wpAny_bind (wpAny_mono (wpS_sortRunsT (T := T) (hc E (((s.heap.update a (Obj.mapSeq fun ux => #[])).push (seqObj "tuple" (v₁ :: v₂ :: rest).toArray 0)).push (seqObj "list" #[] 0)) kp) (a₀ := (pairsOf (v₁ :: v₂ :: rest)).toList) (st := SortSt.mk' kd ((v₁ :: v₂ :: rest).toArray.zip (v₁ :: v₂ :: rest).toArray) #[] 7 none)
   (Q := fun ux st' => (arrOf st').toList.Perm (pairsOf (v₁ :: v₂ :: rest)).toList ∧ failedOf st' = none ∧ (arrOf st').toList.Pairwise (RR L T))
   rfl rfl rfl rfl h0 hT (by rw [Array.length_toList, pairsOf_size]; simp) fun st' a1 a2 a3 => ⟨a2, a1, a3⟩) ?_ fun ux ux e => e)
  rintro ⟨⟨⟩, st'⟩ s' ⟨rfl, hp, hf, hs⟩
  dsimp only
  refine wpAny_bind (seqEpoch_at ho6 rfl ?_)
  refine wpAny_bind (listUpdate_at ho6 rfl ?_ (hsz2 := by
   have e := hp.length_eq
   rw [Array.length_toList, Array.length_toList, pairsOf_size] at e
   rw [Array.size_map]; show (arrOf st').size ≤ _; rw [e]; exact Nat.le_succ_of_le hz))
  rw [hf]
  simp only [bne_self_eq_false, Bool.false_eq_true, if_false]
  have := h (arrOf st').toList hp hs
  rw [Array.toArray_toList] at this
  exact wpAny_pure this
theorem sorted_any {l : Addr} {vs : List Value} {Q : Value → Shared → Prop} (hc : ∀ A' E' h', (∀ b o, s.heap.get? b = some o → h'.get? b = some o) → Cmp prog w A' E' { s with heap := h' } kd ok L) (hl : s.heap.IsList l vs.toArray)
  (h0 : ∀ x ∈ (pairsOf vs).toList, ok x) (hT : (pairsOf vs).toList.Pairwise T) (hkk : 2 ≤ vs.length → ∀ A' h', (∀ b o, s.heap.get? b = some o → h'.get? b = some o) → ∀ (Q : SortKind → Shared → Prop) E', Q kd { s with heap := h' } → wpAny (model prog w) A' (keyKind' vs.toArray) Q E' { s with heap := h' }) (hz : vs.length ≤ sizeLine)
  (h : ∀ ps : List Keyed, ps.Perm (pairsOf vs).toList → ps.Pairwise (RR L T) → Q (.ref (s.heap.objs.size + 1)) { s with heap := sortedAll s.heap vs (ps.toArray.map (·.2)) }) :
  wpAny (model prog w) A (call (.builtin "sorted") [.ref l]) Q E s := by
 refine Calls.call_function_entry kind_sorted plain_sorted entry_sorted (args_sorted1 _) ?_
 unfold Builtin.«sorted»
 refine wpAny_bind (m := checkCount "sorted" 1 1 _) (wpAny_pure ?_)
 refine wpAny_bind (collect_list hl ?_ (by simpa using hz))
 refine wpAny_bind (wpAny_newList ?_ (by simpa using hz))
 have hsz : ((s.heap.push (seqObj "list" #[] 0)).update s.heap.objs.size (Obj.mapSeq (· ++ vs.toArray))).objs.size = s.heap.objs.size + 1 := by
  rw [Heap.size_update, size_push']
 have hoL : (((s.heap.push (seqObj "list" #[] 0)).update s.heap.objs.size (Obj.mapSeq (· ++ vs.toArray))).push (seqObj "list" vs.toArray 0)).get? (s.heap.objs.size + 1) = some (seqObj "list" vs.toArray 0) := by
  rw [← hsz]; exact Heap.get?_push_size _ rfl
 have kp : ∀ h' : Heap, (∀ b o, b ≠ s.heap.objs.size + 1 → (((s.heap.push (seqObj "list" #[] 0)).update s.heap.objs.size (Obj.mapSeq (· ++ vs.toArray))).push (seqObj "list" vs.toArray 0)).get? b = some o → h'.get? b = some o) → ∀ b o, s.heap.get? b = some o → h'.get? b = some o := fun h' k b o e => by
  have lt := Heap.lt_size e
  refine k b o (Nat.ne_of_lt (Nat.lt_succ_of_lt lt)) ?_
  rw [Heap.get?_push_ne _ _ _ (by rw [hsz]; exact Nat.ne_of_lt (Nat.lt_succ_of_lt lt)), Heap.get?_update_ne _ _ _ _ (Nat.ne_of_lt lt), Heap.get?_push_ne _ _ _ (Nat.ne_of_lt lt)]
  exact e
 show wpAny _ _ _ _ _ { s with heap := ((s.heap.push (seqObj "list" #[] 0)).update s.heap.objs.size (Obj.mapSeq (· ++ vs.toArray))).push (seqObj "list" vs.toArray 0) }
 rw [hsz]
 refine wpAny_bind (wpAny_holding (wpAny_call_entry slot_list_sort ⟨_, hoL, rfl⟩ entry_list_sort (sort_any (T := T) (fun E' h' k => hc _ E' h' (kp h' k)) hoL h0 hT (fun q h' k => hkk q _ h' (kp h' k)) hz fun ps a1 a2 => ⟨_, rfl, ?_⟩) (args_list_sort _)))
 exact wpAny_pure ⟨_, rfl, h ps a1 a2⟩
noncomputable def keyI (v : Value) : Int := match v with | .int i _ => i | _ => 0
noncomputable def okI (x : Keyed) : Prop := ∃ i t, x.1 = .int i t
noncomputable def LI (x y : Keyed) : Bool := decide (keyI x.1 < keyI y.1)
theorem cmp_ints : Cmp prog w A E s oneType' okI LI where
 lt := fun st x y Q ⟨i, t, hx⟩ ⟨j, u, hy⟩ hk h => by
  rw [lt'_eq]
  refine wpS_bind (wpS_get ?_)
  rw [hk, keyLt'_oneType, hx, hy]
  refine wpS_bind (wpS_lift (wpAny_attempt (oneLt_int ⟨rfl, ?_⟩)))
  have : LI x y = decide (i < j) := by unfold LI; rw [hx, hy]; rfl
  rw [this] at h
  exact wpS_pure h
 asym := fun x y _ _ h => by unfold LI at *; simp only [decide_eq_true_eq, decide_eq_false_iff_not] at *; omega
 neg := fun x y z _ _ _ h1 h2 => by unfold LI at *; simp only [decide_eq_false_iff_not] at *; omega
theorem zip_self {α : Type} : ∀ (l : List α), (l.zip l).map (·.2) = l
 | [] => rfl
 | a :: l => by rw [List.zip_cons_cons, List.map_cons, zip_self l]
theorem mem_zip_self {α : Type} : ∀ {l : List α} {p : α × α}, p ∈ l.zip l → p.1 = p.2 ∧ p.1 ∈ l
 | a :: l, p, h => by
  rw [List.zip_cons_cons] at h
  rcases List.mem_cons.mp h with q | q
  ·subst q; exact ⟨rfl, .head _⟩
  ·exact ⟨(mem_zip_self q).1, .tail _ (mem_zip_self q).2⟩
theorem sorted_ints_any {l : Addr} {vs : List Value} {Q : Value → Shared → Prop} (hl : s.heap.IsList l vs.toArray) (hi : ∀ v ∈ vs, ∃ i t, v = .int i t) (hz : vs.length ≤ sizeLine)
  (h : ∀ us : List Value, us.Perm vs → us.Pairwise (fun u v => keyI u ≤ keyI v) → Q (.ref (s.heap.objs.size + 1)) { s with heap := sortedAll s.heap vs us.toArray }) :
  wpAny (model prog w) A (call (.builtin "sorted") [.ref l]) Q E s := by
 have allInts : ∀ vs : List Value, (∀ v ∈ vs, ∃ i t, v = .int i t) → ∃ ns, IntsAre vs ns := by
  intro vs
  induction vs with
  | nil => exact fun ux => ⟨[], .nil⟩
  | cons v vs ih =>
   intro h
   obtain ⟨i, t, rfl⟩ := h v (.head _)
   obtain ⟨ns, hn⟩ := ih fun v hv => h v (.tail _ hv)
   exact ⟨_, .cons i t hn⟩
 refine sorted_any (T := fun ux ux => True) (fun ux ux ux ux => cmp_ints) hl ?_ (List.pairwise_of_forall fun ux ux => trivial) ?_ hz fun ps hp hs => ?_
 ·intro x hx
  rw [pairsOf_toList] at hx
  exact hi _ (mem_zip_self hx).2
 ·intro h2 A' h' k Q' E' q
  obtain ⟨v₁, v₂, rest, rfl⟩ := two_of (Nat.not_lt.mpr h2)
  obtain ⟨ns, hn⟩ := allInts _ hi
  rw [keyKind_ints hn]
  exact wpAny_pure q
 ·have := h (ps.map (·.2)) ?_ ?_
  ·simpa using this
  ·have := hp.map (·.2)
   rw [pairsOf_toList, zip_self] at this
   exact this
  ·have same : ∀ p ∈ ps, p.1 = p.2 := fun p hpp => by
    have := hp.mem_iff.mp hpp
    rw [pairsOf_toList] at this
    exact (mem_zip_self this).1
   rw [List.pairwise_map]
   refine hs.imp_of_mem fun {a b} ha hb hab => ?_
   have := hab.1
   unfold LI at this
   rw [same b hb, same a ha] at this
   simp only [decide_eq_false_iff_not] at this
   omega
end
section
variable {prog : Program} {w : World} {A : Around} {E : Value → Shared → Prop} {s : Shared}
theorem sort_rev {a : Addr} {vs : List Value} {n : Nat} {P : PySem.Fin → Shared → Prop} (ho : s.heap.get? a = some (seqObj "list" vs.toArray n)) (hi : ∀ v ∈ vs, ∃ i t, v = .int i t) (hz : vs.length ≤ sizeLine)
  (h : ∀ us : List Value, us.Perm vs → P (.done (.ret .none)) { s with heap := sortedHeap s.heap a vs us.toArray }) :
  wpAny (model prog w) A (Builtin.«list.sort» ⟨[.ref a], [(Str.ofString "reverse", .bool true)]⟩) P E s := by
 rw [list_sort_rev]
 have ha : a < s.heap.objs.size := Heap.lt_size ho
 refine wpAny_bind (listItems_at ho rfl ?_)
 refine wpAny_bind (listUpdate_at ho rfl ?_)
 obtain ⟨e1, ho1⟩ : ∃ e1, (s.heap.update a (Obj.mapSeq fun ux => #[])).get? a = some (seqObj "list" #[] e1) := ⟨_, get?_update_seq ho (fun ux => #[])⟩
 refine wpAny_bind (seqEpoch_at ho1 rfl ?_)
 refine wpAny_bind (wpAny_newTuple ?_ (by simpa using hz))
 refine wpAny_bind (wpAny_newList ?_)
 refine wpAny_holding ?_
 have ho6 : (((s.heap.update a (Obj.mapSeq fun ux => #[])).push (seqObj "tuple" vs.toArray 0)).push (seqObj "list" #[] 0)).get? a = some (seqObj "list" #[] e1) := by
  rw [Heap.get?_push_ne _ _ _ (by rw [size_push', Heap.size_update]; exact Nat.ne_of_lt (Nat.lt_succ_of_lt ha)), Heap.get?_push_ne _ _ _ (by rw [Heap.size_update]; exact Nat.ne_of_lt ha)]
  exact ho1
 show wpAny (model prog w) A _ P E { s with heap := ((s.heap.update a (Obj.mapSeq fun ux => #[])).push (seqObj "tuple" vs.toArray 0)).push (seqObj "list" #[] 0) }
 have hsz : vs.toArray.size = vs.length := by simp
 dsimp only
 rw [if_pos rfl]
 refine wpAny_bind (wpAny_rule ?_)
 have rv : ((pairsOf vs).reverse).toList = (pairsOf vs).toList.reverse := Array.toList_reverse
 have fin : ∀ ps : List Keyed, ps.Perm (pairsOf vs).toList.reverse → P (.done (.ret .none)) { s with heap := sortedHeap s.heap a vs (ps.toArray.map (·.2)).reverse } := fun ps hp => by
  have := h (ps.map (·.2)).reverse ?_
  ·rw [← List.reverse_toArray, ← List.map_toArray] at this; exact this
  ·have h1 := (hp.trans (List.reverse_perm _)).map (·.2)
   rw [pairsOf_toList, zip_self] at h1
   exact (List.reverse_perm _).trans h1
 by_cases h2 : vs.toArray.size < 2
 ·rw [if_pos h2, if_pos h2]
  refine wpAny_bind (wpAny_pure ?_)
  rw [StateT.run_pure]
  refine wpAny_bind (wpAny_pure ?_)
  dsimp only
  refine wpAny_bind (seqEpoch_at ho6 rfl ?_)
  have := fin ((pairsOf vs).reverse).toList (by rw [rv])
  rw [Array.toArray_toList] at this
  refine wpAny_bind (listUpdate_at ho6 rfl ?_ (hsz2 := by
   simp only [if_true, Array.size_reverse, Array.size_map]; show (pairsOf vs).reverse.size ≤ _; rw [Array.size_reverse, pairsOf_size]; exact Nat.le_succ_of_le hz))
  simp only [bne_self_eq_false, Bool.false_eq_true, if_false]
  exact wpAny_pure this
 ·rw [if_neg h2, if_neg h2]
  obtain ⟨v₁, v₂, rest, rfl⟩ := two_of (fun q => h2 (by rw [hsz]; exact q))
  rw [keyKind_ints (intsAre_map _ hi)]
  refine wpAny_bind (wpAny_pure ?_)
  refine wpAny_bind (wpAny_mono (wpS_sortRunsT (T := fun ux ux => True) (cmp_ints (prog := prog) (w := w) (A := A) (E := E)) (a₀ := (pairsOf (v₁ :: v₂ :: rest)).toList.reverse) (st := SortSt.mk' oneType' ((v₁ :: v₂ :: rest).toArray.zip (v₁ :: v₂ :: rest).toArray).reverse #[] 7 none)
   (Q := fun ux st' => (arrOf st').toList.Perm (pairsOf (v₁ :: v₂ :: rest)).toList.reverse ∧ failedOf st' = none)
   rfl rfl rfl rv (fun x hx => by
    rw [List.mem_reverse, pairsOf_toList] at hx
    exact hi _ (mem_zip_self hx).2) (List.pairwise_of_forall fun ux ux => trivial) (by rw [List.length_reverse, Array.length_toList, pairsOf_size]; simp) fun st' a1 a2 a3 => ⟨a2, a1⟩) ?_ fun ux ux e => e)
  rintro ⟨⟨⟩, st'⟩ s' ⟨rfl, hp, hf⟩
  dsimp only
  refine wpAny_bind (seqEpoch_at ho6 rfl ?_)
  have := fin (arrOf st').toList hp
  rw [Array.toArray_toList] at this
  refine wpAny_bind (listUpdate_at ho6 rfl ?_ (hsz2 := by
   have e := hp.length_eq
   rw [Array.length_toList, List.length_reverse, Array.length_toList, pairsOf_size] at e
   simp only [if_true, Array.size_reverse]
   rw [Array.size_map]; show (arrOf st').size ≤ _; rw [e]; exact Nat.le_succ_of_le hz))
  rw [hf]
  simp only [bne_self_eq_false, Bool.false_eq_true, if_false]
  exact wpAny_pure this
theorem sorted_rev_any {l : Addr} {vs : List Value} {Q : Value → Shared → Prop} (hl : s.heap.IsList l vs.toArray) (hi : ∀ v ∈ vs, ∃ i t, v = .int i t) (hz : vs.length ≤ sizeLine)
  (h : ∀ us : List Value, us.Perm vs → Q (.ref (s.heap.objs.size + 1)) { s with heap := sortedAll s.heap vs us.toArray }) :
  wpAny (model prog w) A (call (.builtin "sorted") [.ref l] [(Str.ofString "reverse", .bool true)]) Q E s := by
 refine call_function_entry_kw kind_sorted plain_sorted entry_sorted (args_sorted_rev _ _) ?_
 unfold Builtin.«sorted»
 refine wpAny_bind (m := checkCount "sorted" 1 1 _) (wpAny_pure ?_)
 refine wpAny_bind (collect_list hl ?_ (by simpa using hz))
 refine wpAny_bind (wpAny_newList ?_ (by simpa using hz))
 have hsz : ((s.heap.push (seqObj "list" #[] 0)).update s.heap.objs.size (Obj.mapSeq (· ++ vs.toArray))).objs.size = s.heap.objs.size + 1 := by
  rw [Heap.size_update, size_push']
 have hoL : (((s.heap.push (seqObj "list" #[] 0)).update s.heap.objs.size (Obj.mapSeq (· ++ vs.toArray))).push (seqObj "list" vs.toArray 0)).get? (s.heap.objs.size + 1) = some (seqObj "list" vs.toArray 0) := by
  rw [← hsz]; exact Heap.get?_push_size _ rfl
 show wpAny _ _ _ _ _ { s with heap := ((s.heap.push (seqObj "list" #[] 0)).update s.heap.objs.size (Obj.mapSeq (· ++ vs.toArray))).push (seqObj "list" vs.toArray 0) }
 rw [hsz]
 refine wpAny_bind (wpAny_holding (wpAny_call_entry_kw slot_list_sort ⟨_, hoL, rfl⟩ entry_list_sort (sort_rev hoL hi hz fun us a1 => ⟨_, rfl, ?_⟩) (args_list_sort_rev _ _)))
 exact wpAny_pure ⟨_, rfl, h us a1⟩
end
noncomputable def fe (w : Int) : Nat := if w ≤ 1 then 0 else (w.toNat - 1).log2 + 1
theorem fe_spec (w : Int) (k : Nat) : fe w ≤ k ↔ w ≤ 2 ^ k := by
 unfold fe
 have hp : (0:Int) < 2 ^ k := Int.pow_pos (by decide)
 split
 ·rename_i h
  constructor
  ·intro _; omega
  ·intro _; omega
 ·rename_i h
  have h1 : w.toNat - 1 ≠ 0 := by omega
  have e : (w.toNat - 1).log2 + 1 ≤ k ↔ (w.toNat - 1).log2 < k := by omega
  rw [e, Nat.log2_lt h1]
  have c : ((2 ^ k : Nat) : Int) = 2 ^ k := by simp
  constructor
  ·intro q
   have : ((w.toNat - 1 : Nat) : Int) < ((2 ^ k : Nat) : Int) := by exact_mod_cast q
   rw [c] at this
   omega
  ·intro q
   have : ((w.toNat - 1 : Nat) : Int) < ((2 ^ k : Nat) : Int) := by rw [c]; omega
   exact_mod_cast this
theorem fe_le (w : Int) : w ≤ 2 ^ fe w := (fe_spec w _).mp (Nat.le_refl _)
theorem pow_pos (k : Nat) : (0:Int) < 2 ^ k := Int.pow_pos (by decide)
theorem pow_succ' (k : Nat) : (2:Int) ^ (k + 1) = 2 ^ k + 2 ^ k := by rw [Int.pow_succ]; omega
theorem pow_le {i k : Nat} (h : i ≤ k) : (2:Int) ^ i ≤ 2 ^ k := by
 induction h with
 | refl => exact Int.le_refl _
 | step _ ih => rename_i m _; have := pow_succ' m; have := pow_pos m; simp only [Nat.succ_eq_add_one]; omega
theorem pow_lt {i k : Nat} (h : i < k) : (2:Int) ^ i < 2 ^ k := by
 have h1 := pow_le (show i + 1 ≤ k from h)
 have := pow_succ' i; have := pow_pos i; omega
theorem pow_inj {i k : Nat} (h : (2:Int) ^ i = 2 ^ k) : i = k := by
 rcases Nat.lt_trichotomy i k with q | q | q
 ·have := pow_lt q; omega
 ·exact q
 ·have := pow_lt q; omega
theorem pow_le_iff {i k : Nat} : (2:Int) ^ i ≤ 2 ^ k ↔ i ≤ k := by
 constructor
 ·intro h
  rcases Nat.lt_or_ge k i with q | q
  ·have := pow_lt q; omega
  ·exact q
 ·exact pow_le
theorem pow_dvd {i k : Nat} (h : i ≤ k) : (2:Int) ^ i ∣ 2 ^ k := ⟨2 ^ (k - i), by rw [← Int.pow_add]; congr 1; omega⟩
inductive BT : Nat → Type
 | fr {k : Nat} : BT k
 | ot {k : Nat} : BT k
 | nd {k : Nat} (l r : BT k) : BT (k + 1)
noncomputable def pcs (b : Bool) : {k : Nat} → Int → BT k → List (Int × Int)
 | k, a, .fr => if b then [] else [(a, 2 ^ k)]
 | k, a, .ot => if b then [(a, 2 ^ k)] else []
 | k + 1, a, .nd l r => pcs b a l ++ pcs b (a + 2 ^ k) r
noncomputable def cn : {k : Nat} → BT k → Prop
 | _, .fr => True
 | _, .ot => True
 | _ + 1, .nd l r => ¬ (l = .fr ∧ r = .fr) ∧ cn l ∧ cn r
inductive Cx (k : Nat) : (i : Nat) → Int → (BT i → BT k) → Prop
 | top : Cx k k 0 id
 | left {i x} {C : BT (i + 1) → BT k} (r : BT i) : Cx k (i + 1) x C → Cx k i x (fun v => C (.nd v r))
 | right {i x} {C : BT (i + 1) → BT k} (l : BT i) : Cx k (i + 1) x C → Cx k i (x + 2 ^ i) (fun v => C (.nd l v))
theorem Cx.split {k i x} {C : BT i → BT k} (h : Cx k i x C) : ∃ pre post : Bool → List (Int × Int), ∀ b v, pcs b 0 (C v) = pre b ++ pcs b x v ++ post b := by
 induction h with
 | top => exact ⟨fun ux => [], fun ux => [], fun b v => by simp⟩
 | left r _ ih =>
  rename_i i x C _
  obtain ⟨pre, post, e⟩ := ih
  exact ⟨pre, fun b => pcs b (x + 2 ^ i) r ++ post b, fun b v => by rw [e]; simp [pcs]⟩
 | right l _ ih =>
  rename_i i x C _
  obtain ⟨pre, post, e⟩ := ih
  exact ⟨fun b => pre b ++ pcs b x l, post, fun b v => by rw [e]; simp [pcs]⟩
theorem Cx.al {k i x} {C : BT i → BT k} (h : Cx k i x C) : 0 ≤ x ∧ x + 2 ^ i ≤ 2 ^ k ∧ x % 2 ^ i = 0 := by
 induction h with
 | top => simp
 | @left i x C _ _ ih =>
  have := pow_succ' i; have := pow_pos i
  refine ⟨ih.1, by omega, ?_⟩
  exact Int.emod_eq_zero_of_dvd (Int.dvd_trans (pow_dvd (Nat.le_succ i)) (Int.dvd_of_emod_eq_zero ih.2.2))
 | @right i x C _ _ ih =>
  have := pow_succ' i; have := pow_pos i
  refine ⟨by omega, by omega, ?_⟩
  rw [Int.add_emod_right]
  exact Int.emod_eq_zero_of_dvd (Int.dvd_trans (pow_dvd (Nat.le_succ i)) (Int.dvd_of_emod_eq_zero ih.2.2))
noncomputable def leaf (b : Bool) {k : Nat} : BT k := if b then .ot else .fr
theorem pcs_leaf_same (b : Bool) (k : Nat) (a : Int) : pcs b a (leaf b : BT k) = [(a, 2 ^ k)] := by cases b <;> cases k <;> rfl
theorem pcs_leaf_other (b : Bool) (k : Nat) (a : Int) : pcs b a (leaf (!b) : BT k) = [] := by cases b <;> cases k <;> rfl
@[simp] theorem pcs_fr_f {k : Nat} {a : Int} : pcs false a (.fr : BT k) = [(a, 2 ^ k)] := by cases k <;> rfl
@[simp] theorem pcs_fr_t {k : Nat} {a : Int} : pcs true a (.fr : BT k) = [] := by cases k <;> rfl
@[simp] theorem pcs_ot_f {k : Nat} {a : Int} : pcs false a (.ot : BT k) = [] := by cases k <;> rfl
@[simp] theorem pcs_ot_t {k : Nat} {a : Int} : pcs true a (.ot : BT k) = [(a, 2 ^ k)] := by cases k <;> rfl
@[simp] theorem pcs_nd {b : Bool} {k : Nat} {a : Int} {l r : BT k} : pcs b a (.nd l r) = pcs b a l ++ pcs b (a + 2 ^ k) r := rfl
theorem Cx.find_aux {b : Bool} {y s : Int} {k : Nat} : ∀ {j : Nat} (t : BT j) {a : Int} {D : BT j → BT k}, Cx k j a D → (y, s) ∈ pcs b a t → ∃ i, ∃ C : BT i → BT k, Cx k i y C ∧ D t = C (leaf b) ∧ s = 2 ^ i := by
 intro j t
 induction t with
 | fr =>
  intro a D hD hm
  cases b
  ·simp at hm
   obtain ⟨rfl, rfl⟩ := hm
   exact ⟨_, D, hD, rfl, rfl⟩
  ·simp at hm
 | ot =>
  intro a D hD hm
  cases b
  ·simp at hm
  ·simp at hm
   obtain ⟨rfl, rfl⟩ := hm
   exact ⟨_, D, hD, rfl, rfl⟩
 | nd l r ihl ihr =>
  intro a D hD hm
  rw [pcs_nd, List.mem_append] at hm
  rcases hm with hm | hm
  ·exact ihl (.left r hD) hm
  ·exact ihr (.right l hD) hm
theorem Cx.find {b : Bool} {y s : Int} {k : Nat} {t : BT k} (hm : (y, s) ∈ pcs b 0 t) : ∃ i, ∃ C : BT i → BT k, Cx k i y C ∧ t = C (leaf b) ∧ s = 2 ^ i :=
 Cx.find_aux t .top hm
theorem pcs_in {b : Bool} {k : Nat} (t : BT k) : ∀ {a : Int} {p : Int × Int}, p ∈ pcs b a t → a ≤ p.1 ∧ p.1 + p.2 ≤ a + 2 ^ k ∧ 0 < p.2 := by
 induction t with
 | fr => intro a p hp; cases b <;> simp at hp; subst hp; have := pow_pos ‹Nat›; exact ⟨Int.le_refl _, Int.le_refl _, this⟩
 | ot => intro a p hp; cases b <;> simp at hp; subst hp; have := pow_pos ‹Nat›; exact ⟨Int.le_refl _, Int.le_refl _, this⟩
 | nd l r ihl ihr =>
  rename_i k
  intro a p hp
  rw [pcs_nd, List.mem_append] at hp
  have := pow_succ' k; have := pow_pos k
  rcases hp with hp | hp
  ·have := ihl hp; omega
  ·have := ihr hp; omega
noncomputable def Apart (p q : Int × Int) : Prop := p.1 + p.2 ≤ q.1
theorem pcs_sorted {b : Bool} {k : Nat} (t : BT k) : ∀ {a : Int}, (pcs b a t).Pairwise Apart := by
 induction t with
 | fr => intro a; cases b <;> simp
 | ot => intro a; cases b <;> simp
 | nd l r ihl ihr =>
  intro a
  rw [pcs_nd, List.pairwise_append]
  refine ⟨ihl, ihr, fun p hp q hq => ?_⟩
  have := pcs_in l hp
  have := pcs_in r hq
  unfold Apart; omega
theorem pcs_apart {k : Nat} (t : BT k) : ∀ {a : Int} {p q : Int × Int}, p ∈ pcs true a t → q ∈ pcs false a t → Apart p q ∨ Apart q p := by
 induction t with
 | fr => intro a p q hp; simp at hp
 | ot => intro a p q _ hq; simp at hq
 | nd l r ihl ihr =>
  intro a p q hp hq
  rw [pcs_nd, List.mem_append] at hp hq
  rcases hp with hp | hp <;> rcases hq with hq | hq
  ·exact ihl hp hq
  ·have := pcs_in l hp; have := pcs_in r hq; left; unfold Apart; omega
  ·have := pcs_in r hp; have := pcs_in l hq; right; unfold Apart; omega
  ·exact ihr hp hq
noncomputable def dget (d : List (Int × Int)) (k : Int) : Option Int := (d.find? fun p => decide (p.1 = k)).map (·.2)
noncomputable def dput (d : List (Int × Int)) (k v : Int) : List (Int × Int) :=
 if d.any (fun p => decide (p.1 = k)) then d.map (fun p => if p.1 = k then (p.1, v) else p) else d ++ [(k, v)]
noncomputable def Keys (d : List (Int × Int)) : Prop := (d.map (·.1)).Nodup
theorem keys_perm {d e : List (Int × Int)} (h : d.Perm e) : Keys d ↔ Keys e := (h.map _).nodup_iff
theorem dget_mem {d : List (Int × Int)} (hk : Keys d) {k v : Int} : dget d k = some v ↔ (k, v) ∈ d := by
 induction d with
 | nil => simp [dget]
 | cons p d ih =>
  obtain ⟨a, b⟩ := p
  unfold Keys at hk
  simp only [List.map_cons, List.nodup_cons] at hk
  have ih := ih hk.2
  unfold dget at ih ⊢
  rw [List.find?_cons]
  by_cases q : a = k
  ·subst q
   simp
   constructor
   ·intro e; exact .inl e.symm
   ·rintro (e | e)
    ·exact e.symm
    ·exact absurd (List.mem_map.mpr ⟨_, e, rfl⟩) hk.1
  ·simp only [q, decide_false]
   rw [ih]
   simp [Ne.symm q]
theorem dput_new {d : List (Int × Int)} {k v : Int} (h : ∀ u, (k, u) ∉ d) : dput d k v = d ++ [(k, v)] := by
 unfold dput
 rw [if_neg]
 simp only [List.any_eq_true, not_exists, not_and]
 rintro ⟨a, b⟩ hp q
 simp at q; subst q; exact h b hp
theorem pcs_keys {b : Bool} {k : Nat} (t : BT k) {a : Int} : Keys (pcs b a t) := by
 unfold Keys
 rw [List.Nodup, List.pairwise_map]
 refine List.Pairwise.imp_of_mem ?_ (pcs_sorted t (a := a) (b := b))
 intro p q hp hq h e
 have := pcs_in t hp
 unfold Apart at h; lia
theorem Cx.cn_hole {k i x} {C : BT i → BT k} (h : Cx k i x C) : ∀ {v : BT i}, cn (C v) → cn v := by
 induction h with
 | top => intro v hv; exact hv
 | left r _ ih => intro v hv; exact (ih hv).2.1
 | right l _ ih => intro v hv; exact (ih hv).2.2
structure Rep {k : Nat} (t : BT k) (sp hd : List (Int × Int)) : Prop where
 sp : sp.Perm (pcs false 0 t)
 hd : hd.Perm (pcs true 0 t)
theorem Rep.khd {k} {t : BT k} {sp hd} (h : Rep t sp hd) : Keys hd := (keys_perm h.hd).mpr (pcs_keys t)
theorem rep_new (k : Nat) : Rep (.fr : BT k) [(0, 2 ^ k)] [] := ⟨by simp, by simp⟩
theorem Cx.off {k i x} {C : BT i → BT k} (h : Cx k i x C) {b b' : Bool} {v : BT i} {p : Int × Int} :
  ∀ {pre post : Bool → List (Int × Int)}, (∀ b v, pcs b 0 (C v) = pre b ++ pcs b x v ++ post b) → p ∈ pre b ++ post b → p.1 + p.2 ≤ x ∨ x + 2 ^ i ≤ p.1 := by
 intro pre post e hp
 -- compare with the hole filled by a leaf of either kind
 cases b with
 | false =>
  have hq : (x, 2 ^ i) ∈ pcs true 0 (C .ot) := by rw [e]; simp
  have hp' : p ∈ pcs false 0 (C .ot) := by rw [e]; simpa using hp
  rcases pcs_apart _ hq hp' with q | q
  ·right; exact q
  ·left; exact q
 | true =>
  have hq : (x, 2 ^ i) ∈ pcs false 0 (C .fr) := by rw [e]; simp
  have hp' : p ∈ pcs true 0 (C .fr) := by rw [e]; simpa using hp
  rcases pcs_apart _ hp' hq with q | q
  ·left; exact q
  ·right; exact q
noncomputable def twinI (a s : Int) : Int := if a / s % 2 = 0 then a + s else a - s
theorem even_iff {x : Int} {i : Nat} (h : x % 2 ^ i = 0) : x / 2 ^ i % 2 = 0 ↔ x % 2 ^ (i + 1) = 0 := by
 have hp := pow_pos i
 obtain ⟨q, rfl⟩ := Int.dvd_of_emod_eq_zero h
 rw [Int.mul_ediv_cancel_left _ (by lia), Int.pow_succ, Int.mul_emod_mul_of_pos _ _ hp]
 constructor
 ·intro e; rw [e]; simp
 ·intro e
  rcases Int.mul_eq_zero.mp e with e | e
  ·lia
  ·exact e
theorem pcs_whole {b : Bool} {i : Nat} {a : Int} {r : BT i} (h : (a, 2 ^ i) ∈ pcs b a r) : r = leaf b := by
 cases r with
 | fr => cases b with
  | true => simp at h
  | false => rfl
 | ot => cases b with
  | true => rfl
  | false => simp at h
 | @nd i l r =>
  exfalso
  rw [pcs_nd, List.mem_append] at h
  have := pow_pos i
  have := pow_succ' i
  rcases h with h | h
  ·have := (pcs_in _ h).2.1
   simp only at this; lia
  ·have := (pcs_in _ h).1
   simp only at this; lia
theorem Cx.in_hole {k i x} {C : BT i → BT k} (h : Cx k i x C) {b : Bool} {v : BT i} {y s : Int} (hm : (y, s) ∈ pcs b 0 (C v)) (h1 : x ≤ y) (h2 : y < x + 2 ^ i) : (y, s) ∈ pcs b x v := by
 obtain ⟨pre, post, e⟩ := h.split
 rw [e] at hm
 have : (y, s) ∈ pre b ++ post b ∨ (y, s) ∈ pcs b x v := by
  simp only [List.mem_append] at hm ⊢
  rcases hm with (hm | hm) | hm
  ·exact .inl (.inl hm)
  ·exact .inr hm
  ·exact .inl (.inr hm)
 rcases this with q | q
 ·exfalso
  have h3 := h.off (b' := b) (v := v) e q
  have h4 : 0 < s := by
   have := pcs_in (C (leaf (!b))) (b := b) (a := 0) (p := (y, s)) (by rw [e, pcs_leaf_other]; simpa using q)
   exact this.2.2
  simp only at h3; lia
 ·exact q
noncomputable def tot (l : List (Int × Int)) : Int := (l.map (·.2)).sum
theorem tot_append (l m : List (Int × Int)) : tot (l ++ m) = tot l + tot m := by simp [tot]
theorem cn_empty {k : Nat} (t : BT k) : ∀ {a : Int}, cn t → pcs true a t = [] → t = .fr := by
 induction t with
 | fr => intros; rfl
 | ot => intro a _ h; simp at h
 | nd l r ihl ihr =>
  intro a hc h
  rw [pcs_nd, List.append_eq_nil_iff] at h
  exact absurd ⟨ihl hc.2.1 h.1, ihr hc.2.2 h.2⟩ hc.1
theorem cn_len {k : Nat} (t : BT k) : ∀ {a : Int}, cn t → (t = .fr ∨ (pcs false a t).length ≤ k * (pcs true a t).length) := by
 induction t with
 | fr => intros; exact .inl rfl
 | ot => intro a _; right; simp
 | @nd k l r ihl ihr =>
  intro a hc
  right
  rw [pcs_nd, pcs_nd, List.length_append, List.length_append]
  have one : ∀ {j : Nat} {a : Int} {t : BT j}, cn t → t ≠ .fr → 1 ≤ (pcs true a t).length := fun {j a t} h1 h2 => by
   cases q : pcs true a t with
   | nil => exact absurd (cn_empty t h1 q) h2
   | cons _ _ => simp
  rcases ihl (a := a) hc.2.1 with q | q
  ·subst q
   have hr : r ≠ .fr := fun q => hc.1 ⟨rfl, q⟩
   rcases ihr (a := a + 2 ^ k) hc.2.2 with q' | q'
   ·exact absurd q' hr
   ·have := one (a := a + 2 ^ k) hc.2.2 hr
    simp only [pcs_fr_f, pcs_fr_t, List.length_singleton, List.length_nil, Nat.zero_add]
    rw [Nat.add_mul]; lia
  ·have h1 : l ≠ .fr ∨ l = .fr := by by_cases z : l = .fr <;> simp [z]
   rcases h1 with h1 | h1
   ·have := one (a := a) hc.2.1 h1
    rcases ihr (a := a + 2 ^ k) hc.2.2 with q' | q'
    ·subst q'
     simp only [pcs_fr_f, pcs_fr_t, List.length_singleton, List.length_nil, Nat.add_zero]
     rw [Nat.add_mul]; lia
    ·rw [Nat.add_mul, Nat.mul_add]; lia
   ·subst h1
    have hr : r ≠ .fr := fun q => hc.1 ⟨rfl, q⟩
    rcases ihr (a := a + 2 ^ k) hc.2.2 with q' | q'
    ·exact absurd q' hr
    ·have := one (a := a + 2 ^ k) hc.2.2 hr
     simp only [pcs_fr_f, pcs_fr_t, List.length_singleton, List.length_nil, Nat.zero_add]
     rw [Nat.add_mul]; lia
theorem Rep.len {k} {t : BT k} {sp hd} (R : Rep t sp hd) (hc : cn t) : sp.length ≤ k * hd.length + 1 := by
 rw [R.sp.length_eq, R.hd.length_eq]
 rcases cn_len t (a := 0) hc with q | q
 ·subst q; simp
 ·lia
theorem perm_sorted : ∀ {l m : List Int}, l.Perm m → l.Pairwise (· ≤ ·) → m.Pairwise (· ≤ ·) → l = m
 | [], m, h, _, _ => (List.nil_perm.mp h).symm
 | a :: l, [], h, _, _ => by have := h.length_eq; simp at this
 | a :: l, b :: m, h, h1, h2 => by
  have ab : a = b := by
   have m1 : a ∈ b :: m := h.mem_iff.mp (.head _)
   have m2 : b ∈ a :: l := h.mem_iff.mpr (.head _)
   rcases List.mem_cons.mp m1 with q | q
   ·exact q
   ·rcases List.mem_cons.mp m2 with q' | q'
    ·exact q'.symm
    ·have := (List.pairwise_cons.mp h1).1 b q'
     have := (List.pairwise_cons.mp h2).1 a q
     lia
  subst ab
  rw [perm_sorted (h.cons_inv) (List.pairwise_cons.mp h1).2 (List.pairwise_cons.mp h2).2]
theorem pcs_keys_sorted {b : Bool} {k : Nat} (t : BT k) {a : Int} : ((pcs b a t).map (·.1)).Pairwise (· ≤ ·) := by
 rw [List.pairwise_map]
 refine List.Pairwise.imp_of_mem ?_ (pcs_sorted t (a := a) (b := b))
 intro p q hp hq h
 have := pcs_in t hp
 unfold Apart at h; lia
theorem keys_are {b : Bool} {k : Nat} {t : BT k} {d : List (Int × Int)} {ms : List Int} (hd : d.Perm (pcs b 0 t)) (h1 : ms.Perm (d.map (·.1))) (h2 : ms.Pairwise (· ≤ ·)) : ms = (pcs b 0 t).map (·.1) :=
 perm_sorted (h1.trans (hd.map _)) h2 (pcs_keys_sorted t)
theorem dget_pcs {b : Bool} {k : Nat} {t : BT k} {d : List (Int × Int)} (hd : d.Perm (pcs b 0 t)) {p : Int × Int} (hp : p ∈ pcs b 0 t) : dget d p.1 = some p.2 :=
 (dget_mem ((keys_perm hd).mpr (pcs_keys t))).mpr (hd.mem_iff.mpr hp)
theorem half_pow (m : Nat) : (2 : Int) ^ (m + 1) / 2 = 2 ^ m := by rw [pow_succ']; lia
theorem mod_up {x : Int} {i : Nat} (h : x % 2 ^ (i + 1) = 0) : x % (2 * 2 ^ i) = 0 := by rw [Int.mul_comm, ← Int.pow_succ]; exact h
theorem mod_up' {x : Int} {i : Nat} (h : x % 2 ^ (i + 1) = 0) : (x + 2 ^ i) % (2 * 2 ^ i) ≠ 0 := by
 have hp := pow_pos i
 rw [Int.mul_comm, ← Int.pow_succ, Int.add_emod, h, Int.zero_add, Int.emod_emod_of_dvd _ (Int.dvd_refl _), Int.emod_eq_of_lt (by lia) (pow_lt (Nat.lt_succ_self i))]
 lia
noncomputable def twinP (p : Int × Int) : Int × Int := if p.1 % (2 * p.2) = 0 then (p.1 + p.2, p.2) else (p.1 - p.2, p.2)
theorem free_twin {k : Nat} {t : BT k} (hc : cn t) {p : Int × Int} (hp : p ∈ pcs false 0 t) : twinP p ∉ pcs false 0 t := by
 obtain ⟨i, C, hC, ht, hs⟩ := Cx.find (y := p.1) (s := p.2) hp
 obtain ⟨x, s⟩ := p
 simp only at hC hs ⊢
 subst hs
 have hpos := pow_pos i
 have hsu := pow_succ' i
 intro hm
 have hin := pcs_in t hm
 cases hC with
 | top =>
  unfold twinP at hin
  simp only at hin
  split at hin <;> simp only at hin <;> lia
 | @left _ _ C r hC =>
  have al := hC.al
  have e : twinP (x, 2 ^ i) = (x + 2 ^ i, 2 ^ i) := by unfold twinP; rw [if_pos (mod_up al.2.2)]
  rw [e, ht] at hm
  have := hC.in_hole hm (by lia) (by lia)
  rw [pcs_nd, List.mem_append] at this
  have hr : r = .fr := by
   rcases this with q | q
   ·have := pcs_in _ q; simp only at this; lia
   ·exact pcs_whole q
  have h4 := hC.cn_hole (ht ▸ hc)
  exact h4.1 ⟨rfl, hr⟩
 | @right _ x C l hC =>
  have al := hC.al
  have e : twinP (x + 2 ^ i, 2 ^ i) = (x, 2 ^ i) := by unfold twinP; rw [if_neg (mod_up' al.2.2)]; simp
  rw [e, ht] at hm
  have := hC.in_hole hm (by lia) (by lia)
  rw [pcs_nd, List.mem_append] at this
  have hr : l = .fr := by
   rcases this with q | q
   ·exact pcs_whole q
   ·have := pcs_in _ q; simp only at this; lia
  have h4 := hC.cn_hole (ht ▸ hc)
  exact h4.1 ⟨hr, rfl⟩
noncomputable def ownP (c : Int) (p : Int × Int) : Bool := decide (p.1 ≤ c ∧ c < p.1 + p.2)
noncomputable def ownI (l : List (Int × Int)) (c : Int) : Option Int := (l.find? (ownP c)).map (·.1)
noncomputable def Once (l : List (Int × Int)) : Prop := ∀ p ∈ l, ∀ q ∈ l, p = q ∨ Apart p q ∨ Apart q p
theorem once_pcs {b : Bool} {k : Nat} (t : BT k) {a : Int} : Once (pcs b a t) := fun p hp q hq => by
 have h := @pcs_sorted b k t a
 rcases List.getElem_of_mem hp with ⟨i, hi, rfl⟩
 rcases List.getElem_of_mem hq with ⟨j, hj, rfl⟩
 rcases Nat.lt_trichotomy i j with r | r | r
 ·exact .inr (.inl (List.pairwise_iff_getElem.mp h i j hi hj r))
 ·subst r; exact .inl rfl
 ·exact .inr (.inr (List.pairwise_iff_getElem.mp h j i hj hi r))
theorem Once.perm {l m : List (Int × Int)} (h : Once l) (p : m.Perm l) : Once m := fun a ha b hb => h a (p.mem_iff.mp ha) b (p.mem_iff.mp hb)
theorem ownI_mem {l : List (Int × Int)} (h : Once l) {c : Int} {p : Int × Int} (hp : p ∈ l) (ho : ownP c p = true) : ownI l c = some p.1 := by
 unfold ownI
 cases e : l.find? (ownP c) with
 | none => rw [List.find?_eq_none] at e; exact absurd ho (e p hp)
 | some q =>
  have hq := List.mem_of_find?_eq_some e
  have h2 := List.find?_some e
  unfold ownP at ho h2
  simp only [decide_eq_true_eq] at ho h2
  rcases h p hp q hq with r | r | r
  ·rw [r]; rfl
  ·unfold Apart at r; lia
  ·unfold Apart at r; lia
theorem ownI_none {l : List (Int × Int)} {c : Int} (h : ∀ p ∈ l, ownP c p = false) : ownI l c = none := by
 unfold ownI
 rw [List.find?_eq_none.mpr fun p hp => by rw [h p hp]; decide]
 rfl
theorem mod_le {x : Int} {i j : Nat} (h : x % 2 ^ j = 0) (hij : i ≤ j) : x % 2 ^ i = 0 := Int.emod_eq_zero_of_dvd (Int.dvd_trans (pow_dvd hij) (Int.dvd_of_emod_eq_zero h))
noncomputable def isP (s : Int) : Bool := decide (fe s ≤ 60 ∧ s = 2 ^ fe s)
theorem fe_pow2 (e : Nat) : fe (2 ^ e) = e := by
 have h1 := (fe_spec (2 ^ e) e).mpr (Int.le_refl _)
 have h2 := fe_le (2 ^ e)
 have h3 := pow_le_iff.mp h2
 lia
theorem isP_iff {s : Int} : isP s = true ↔ ∃ e : Nat, e ≤ 60 ∧ s = 2 ^ e := by
 unfold isP
 rw [decide_eq_true_eq]
 constructor
 ·rintro ⟨h1, h2⟩; exact ⟨_, h1, h2⟩
 ·rintro ⟨e, h1, rfl⟩; rw [fe_pow2]; exact ⟨h1, rfl⟩
noncomputable abbrev Pc := Int × Int × Bool
noncomputable def okR (h : Int) (p : Pc) : Bool := decide (p.1 = h ∧ isP p.2.1 = true ∧ p.1 % p.2.1 = 0)
noncomputable def parseR (h : Int) : List (Option Pc) → Option (List Pc)
 | [] => some []
 | none :: _ => none
 | some p :: l => if okR h p = true then (parseR (h + p.2.1) l).map (p :: ·) else none
noncomputable def outsP (l : List Pc) : List (Int × Int) := (l.filter (·.2.2)).map fun p => (p.1, p.2.1)
noncomputable def freesP (l : List Pc) : List (Int × Int) := (l.filter fun p => !p.2.2).map fun p => (p.1, p.2.1)
noncomputable def twn (f : List (Int × Int)) (p : Pc) : Bool := !p.2.2 && decide (p.1 % (2 * p.2.1) ≠ 0 ∧ (p.1 - p.2.1, p.2.1) ∈ f)
noncomputable def dueR (h : Int) (q : List Pc) : List (Option Pc) → Option (Int × List Pc)
 | [] => if isP h = true then some (h, q) else none
 | none :: _ => none
 | some p :: l => if okR h p = true then (if twn (freesP q) p = true then none else dueR (h + p.2.1) (q ++ [p]) l) else none
noncomputable def endP (h : Int) : List Pc → Int
 | [] => h
 | p :: l => endP (h + p.2.1) l
noncomputable def noTw (q : List Pc) : List Pc → Bool
 | [] => true
 | p :: l => !twn (freesP q) p && noTw (q ++ [p]) l
theorem due_eq : ∀ (l : List (Option Pc)) (h : Int) (q : List Pc), dueR h q l = match parseR h l with
  | none => none
  | some P => if isP (endP h P) = true ∧ noTw q P = true then some (endP h P, q ++ P) else none
 | [], h, q => by
  show (if isP h = true then some (h, q) else none) = if isP h = true ∧ true = true then some (h, q ++ []) else none
  rw [List.append_nil]
  by_cases e : isP h = true
  ·rw [if_pos e, if_pos ⟨e, rfl⟩]
  ·rw [if_neg e, if_neg fun w => e w.1]
 | none :: _, h, q => rfl
 | some p :: l, h, q => by
  unfold dueR parseR
  by_cases e : okR h p = true
  ·rw [if_pos e, if_pos e, due_eq l (h + p.2.1) (q ++ [p])]
   cases parseR (h + p.2.1) l with
   | none => by_cases w : twn (freesP q) p = true <;> simp [w]
   | some P =>
    show _ = if isP (endP (h + p.2.1) P) = true ∧ (!twn (freesP q) p && noTw (q ++ [p]) P) = true then some (endP (h + p.2.1) P, q ++ (p :: P)) else none
    by_cases w : twn (freesP q) p = true
    ·simp [w]
    ·simp [w]
  ·rw [if_neg e, if_neg e]
noncomputable def Chn (h : Int) : List Pc → Prop
 | [] => True
 | p :: l => okR h p = true ∧ Chn (h + p.2.1) l
theorem okR_iff {h : Int} {p : Pc} : okR h p = true ↔ p.1 = h ∧ ∃ e : Nat, e ≤ 60 ∧ p.2.1 = 2 ^ e ∧ p.1 % 2 ^ e = 0 := by
 unfold okR
 rw [decide_eq_true_eq, isP_iff]
 constructor
 ·rintro ⟨h1, ⟨e, h2, h3⟩, h4⟩
  exact ⟨h1, e, h2, h3, by rw [← h3]; exact h4⟩
 ·rintro ⟨h1, e, h2, h3, h4⟩
  exact ⟨h1, ⟨e, h2, h3⟩, by rw [h3]; exact h4⟩
theorem parse_chn : ∀ {l : List (Option Pc)} {h : Int} {P : List Pc}, parseR h l = some P → Chn h P ∧ l = P.map some
 | [], h, P, e => by cases e; exact ⟨trivial, rfl⟩
 | none :: _, h, P, e => by cases e
 | some p :: l, h, P, e => by
  unfold parseR at e
  split at e
  ·rename_i q
   obtain ⟨P', h1, rfl⟩ := Option.map_eq_some_iff.mp e
   obtain ⟨h2, h3⟩ := parse_chn h1
   exact ⟨⟨q, h2⟩, by rw [h3]; rfl⟩
  ·cases e
theorem Chn.append : ∀ {P Q : List Pc} {h : Int}, Chn h (P ++ Q) ↔ Chn h P ∧ Chn (endP h P) Q
 | [], Q, h => ⟨fun e => ⟨trivial, e⟩, fun e => e.2⟩
 | p :: P, Q, h => by
  show (_ ∧ Chn _ (P ++ Q)) ↔ (_ ∧ Chn _ P) ∧ Chn (endP (h + p.2.1) P) Q
  rw [Chn.append, and_assoc]
theorem endP_append : ∀ {P Q : List Pc} {h : Int}, endP h (P ++ Q) = endP (endP h P) Q
 | [], Q, h => rfl
 | p :: P, Q, h => endP_append (P := P)
theorem Chn.pos {h : Int} {p : Pc} (e : okR h p = true) : 0 < p.2.1 ∧ p.1 = h := by
 obtain ⟨h1, m, _, h2, _⟩ := okR_iff.mp e
 exact ⟨by rw [h2]; exact pow_pos m, h1⟩
theorem Chn.le : ∀ {P : List Pc} {h : Int}, Chn h P → h ≤ endP h P
 | [], h, _ => Int.le_refl _
 | p :: P, h, e => by
  have h1 := Chn.pos e.1
  have h2 : h + p.2.1 ≤ endP (h + p.2.1) P := e.2.le
  show h ≤ endP (h + p.2.1) P
  lia
theorem Chn.mem : ∀ {P : List Pc} {h : Int}, Chn h P → ∀ p ∈ P, h ≤ p.1 ∧ p.1 + p.2.1 ≤ endP h P ∧ 0 < p.2.1
 | [], h, _, p, hp => by cases hp
 | q :: P, h, e, p, hp => by
  have h1 := Chn.pos e.1
  have h2 : h + q.2.1 ≤ endP (h + q.2.1) P := e.2.le
  rcases List.mem_cons.mp hp with w | w
  ·subst w
   exact ⟨by lia, by show p.1 + p.2.1 ≤ endP (h + p.2.1) P; lia, h1.1⟩
  ·have := e.2.mem p w
   exact ⟨by lia, this.2.1, this.2.2⟩
theorem Chn.size : ∀ {P : List Pc} {h : Int}, Chn h P → ∀ p ∈ P, ∃ e : Nat, e ≤ 60 ∧ p.2.1 = 2 ^ e ∧ p.1 % 2 ^ e = 0
 | [], h, _, p, hp => by cases hp
 | q :: P, h, e, p, hp => by
  rcases List.mem_cons.mp hp with w | w
  ·subst w; exact (okR_iff.mp e.1).2
  ·exact e.2.size p w
theorem mem_outs {P : List Pc} {a s : Int} : (a, s) ∈ outsP P ↔ (a, s, true) ∈ P := by
 unfold outsP
 rw [List.mem_map]
 constructor
 ·rintro ⟨⟨x, y, b⟩, h1, h2⟩
  cases h2
  obtain ⟨h3, h4⟩ := List.mem_filter.mp h1
  have : b = true := h4
  subst this
  exact h3
 ·intro h; exact ⟨_, List.mem_filter.mpr ⟨h, rfl⟩, rfl⟩
theorem mem_frees {P : List Pc} {a s : Int} : (a, s) ∈ freesP P ↔ (a, s, false) ∈ P := by
 unfold freesP
 rw [List.mem_map]
 constructor
 ·rintro ⟨⟨x, y, b⟩, h1, h2⟩
  cases h2
  obtain ⟨h3, h4⟩ := List.mem_filter.mp h1
  have : b = false := by cases b <;> simp_all
  subst this
  exact h3
 ·intro h; exact ⟨_, List.mem_filter.mpr ⟨h, rfl⟩, rfl⟩
theorem outs_append {P Q : List Pc} : outsP (P ++ Q) = outsP P ++ outsP Q := by unfold outsP; rw [List.filter_append, List.map_append]
theorem frees_append {P Q : List Pc} : freesP (P ++ Q) = freesP P ++ freesP Q := by unfold freesP; rw [List.filter_append, List.map_append]
theorem chn_split {m : Int} {k : Nat} (hm : m % 2 ^ k = 0) : ∀ {P : List Pc} {h : Int}, Chn h P → h ≤ m → m ≤ endP h P → (∀ p ∈ P, p.1 < m → p.2.1 ≤ 2 ^ k) → ∃ P1 P2, P = P1 ++ P2 ∧ Chn h P1 ∧ endP h P1 = m ∧ Chn m P2
 | [], h, _, h1, h2, _ => ⟨[], [], rfl, trivial, by have : m ≤ h := h2; show h = m; lia, trivial⟩
 | p :: P, h, c, h1, h2, h3 => by
  rcases Int.lt_or_le h m with q | q
  ·obtain ⟨e1, e, he, e2, e3⟩ := okR_iff.mp c.1
   have h4 := h3 p (List.mem_cons_self ..) (by lia)
   rw [e2] at h4
   have hek := pow_le_iff.mp h4
   have hme := mod_le hm hek
   have hle : h + 2 ^ e ≤ m := by
    rw [e1] at e3
    obtain ⟨u, hu⟩ := Int.dvd_of_emod_eq_zero e3
    obtain ⟨v, hv⟩ := Int.dvd_of_emod_eq_zero hme
    have hp := pow_pos e
    have huv : u < v := by
     rcases Int.lt_or_le u v with w | w
     ·exact w
     ·have := Int.mul_le_mul_of_nonneg_left w (Int.le_of_lt hp); lia
    have := Int.mul_le_mul_of_nonneg_left (show u + 1 ≤ v by lia) (Int.le_of_lt hp)
    rw [Int.mul_add, Int.mul_one] at this
    lia
   obtain ⟨P1, P2, f1, f2, f3, f4⟩ := chn_split hm c.2 (by rw [e2]; exact hle) h2 (fun r hr => h3 r (List.mem_cons_of_mem _ hr))
   exact ⟨p :: P1, P2, by rw [f1]; rfl, ⟨c.1, f2⟩, f3, f4⟩
  ·have : h = m := by lia
   subst this
   exact ⟨[], p :: P, rfl, trivial, rfl, c⟩
theorem chn_tree : ∀ (k : Nat) {x : Int} {P : List Pc}, Chn x P → endP x P = x + 2 ^ k → x % 2 ^ k = 0 → ∃ t : BT k, pcs true x t = outsP P ∧ pcs false x t = freesP P
 | k, x, [], _, h2, _ => by
  have : x = x + 2 ^ k := h2
  have := pow_pos k
  lia
 | k, x, p :: P, c, h2, h3 => by
  obtain ⟨e1, e, he, e2, e3⟩ := okR_iff.mp c.1
  have hle : x + p.2.1 ≤ endP (x + p.2.1) P := c.2.le
  have hend : endP (x + p.2.1) P = x + 2 ^ k := h2
  have hek : e ≤ k := pow_le_iff.mp (by lia)
  rcases Nat.lt_or_ge e k with q | q
  ·cases k with
   | zero => lia
   | succ k =>
    have hp1 := pow_succ' k
    have hp0 := pow_pos k
    have hm : (x + 2 ^ k) % 2 ^ k = 0 := by rw [Int.add_emod_right]; exact mod_le h3 (Nat.le_succ k)
    have small : ∀ r ∈ p :: P, r.1 < x + 2 ^ k → r.2.1 ≤ 2 ^ k := by
     intro r hr hlt
     rcases List.mem_cons.mp hr with w | w
     ·subst w; rw [e2]; exact pow_le (by lia)
     ·have m1 := c.2.mem r w
      obtain ⟨d, _, d2, d3⟩ := c.2.size r w
      rcases Nat.lt_or_ge k d with u | u
      ·have d4 := mod_le d3 (show k + 1 ≤ d from u)
       have hs : 0 < p.2.1 := (Chn.pos c.1).1
       obtain ⟨i, hi⟩ := Int.dvd_of_emod_eq_zero d4
       obtain ⟨j, hj⟩ := Int.dvd_of_emod_eq_zero h3
       have hpk := pow_pos (k + 1)
       have a1 : j < i := by
        rcases Int.lt_or_le j i with w | w
        ·exact w
        ·have := Int.mul_le_mul_of_nonneg_left w (Int.le_of_lt hpk); lia
       have := Int.mul_le_mul_of_nonneg_left (show j + 1 ≤ i by lia) (Int.le_of_lt hpk)
       rw [Int.mul_add, Int.mul_one] at this
       lia
      ·rw [d2]; exact pow_le u
    obtain ⟨P1, P2, f1, f2, f3, f4⟩ := chn_split hm c (by lia) (by rw [h2]; lia) small
    have f5 : endP (x + 2 ^ k) P2 = (x + 2 ^ k) + 2 ^ k := by
     have := h2
     rw [f1, endP_append, f3] at this
     lia
    obtain ⟨l, l1, l2⟩ := chn_tree k f2 f3 (mod_le h3 (Nat.le_succ k))
    obtain ⟨r, r1, r2⟩ := chn_tree k f4 f5 hm
    exact ⟨.nd l r, by rw [pcs_nd, l1, r1, f1, outs_append], by rw [pcs_nd, l2, r2, f1, frees_append]⟩
  ·have : e = k := by lia
   subst this
   have hP : P = [] := by
    cases P with
    | nil => rfl
    | cons r P =>
     have := (c.2.mem r (List.mem_cons_self ..))
     lia
   subst hP
   obtain ⟨a, s, b⟩ := p
   simp only at e1 e2
   subst e1; subst e2
   refine ⟨leaf b, ?_, ?_⟩
   ·cases b
    ·exact pcs_leaf_other true e a
    ·exact pcs_leaf_same true e a
   ·cases b
    ·exact pcs_leaf_same false e a
    ·exact pcs_leaf_other false e a
noncomputable def NT (f : List (Int × Int)) : Prop := ∀ a s, (a, s) ∈ f → a % (2 * s) ≠ 0 → (a - s, s) ∉ f
theorem cn_of_nt : ∀ {k : Nat} (t : BT k) {x : Int}, x % 2 ^ k = 0 → NT (pcs false x t) → cn t
 | _, .fr, _, _, _ => by unfold cn; trivial
 | _, .ot, _, _, _ => by unfold cn; trivial
 | k + 1, .nd l r, x, hx, h => by
  have h1 := mod_le hx (Nat.le_succ k)
  have h2 : (x + 2 ^ k) % 2 ^ k = 0 := by rw [Int.add_emod_right]; exact h1
  refine ⟨?_, cn_of_nt l h1 fun a s m n w => h a s (by rw [pcs_nd]; exact List.mem_append_left _ m) n (by rw [pcs_nd]; exact List.mem_append_left _ w),
   cn_of_nt r h2 fun a s m n w => h a s (by rw [pcs_nd]; exact List.mem_append_right _ m) n (by rw [pcs_nd]; exact List.mem_append_right _ w)⟩
  rintro ⟨rfl, rfl⟩
  refine h (x + 2 ^ k) (2 ^ k) (by simp) (mod_up' hx) ?_
  rw [show x + 2 ^ k - 2 ^ k = x by lia]
  simp
theorem nt_snoc {f : List (Int × Int)} {p : Int × Int} (h : ∀ r ∈ f, r.1 < p.1 ∧ 0 < r.2) (hp : 0 < p.2) : NT (f ++ [p]) ↔ NT f ∧ ¬ (p.1 % (2 * p.2) ≠ 0 ∧ (p.1 - p.2, p.2) ∈ f) := by
 constructor
 ·intro n
  exact ⟨fun a s m q w => n a s (List.mem_append_left _ m) q (List.mem_append_left _ w), fun w => n p.1 p.2 (List.mem_append_right _ (List.mem_singleton.mpr rfl)) w.1 (List.mem_append_left _ w.2)⟩
 ·rintro ⟨n1, n2⟩ a s m q w
  rcases List.mem_append.mp m with m | m
  ·rcases List.mem_append.mp w with w | w
   ·exact n1 a s m q w
   ·have := List.mem_singleton.mp w
    have h1 := h _ m
    subst this
    simp only at h1
    lia
  ·have := List.mem_singleton.mp m
   subst this
   rcases List.mem_append.mp w with w | w
   ·exact n2 ⟨q, w⟩
   ·have := List.mem_singleton.mp w
    simp only [Prod.mk.injEq] at this
    simp only at hp
    lia
theorem notw_iff : ∀ {P q : List Pc} {h : Int}, Chn h P → (∀ r ∈ freesP q, r.1 < h ∧ 0 < r.2) → NT (freesP q) → (noTw q P = true ↔ NT (freesP (q ++ P)))
 | [], q, h, _, _, n => by rw [List.append_nil]; exact ⟨fun ux => n, fun ux => rfl⟩
 | p :: P, q, h, c, hq, n => by
  have h1 := Chn.pos c.1
  obtain ⟨a, s, b⟩ := p
  simp only at h1
  have e : freesP (q ++ [(a, s, b)]) = if b then freesP q else freesP q ++ [(a, s)] := by
   rw [frees_append]
   cases b
   ·rfl
   ·exact List.append_nil _
  have hq' : ∀ r ∈ freesP (q ++ [(a, s, b)]), r.1 < h + s ∧ 0 < r.2 := by
   intro r hr
   rw [e] at hr
   cases b
   ·rcases List.mem_append.mp hr with w | w
    ·have := hq r w; lia
    ·have := List.mem_singleton.mp w; subst this; simp only; lia
   ·have := hq r hr; lia
  have sn : NT (freesP (q ++ [(a, s, b)])) ↔ twn (freesP q) (a, s, b) = false := by
   rw [e]
   unfold twn
   cases b
   ·show NT (freesP q ++ [(a, s)]) ↔ (true && decide _) = false
    rw [nt_snoc (p := (a, s)) (fun r hr => ⟨by have := hq r hr; simp only; lia, (hq r hr).2⟩) h1.1, Bool.true_and, decide_eq_false_iff_not]
    exact ⟨fun w => w.2, fun w => ⟨n, w⟩⟩
   ·exact ⟨fun ux => rfl, fun ux => n⟩
  unfold noTw
  rw [Bool.and_eq_true, Bool.not_eq_true', ← sn]
  have back : NT (freesP (q ++ (a, s, b) :: P)) → NT (freesP (q ++ [(a, s, b)])) := fun w => by
   intro x y m z u
   have e2 : freesP (q ++ (a, s, b) :: P) = freesP (q ++ [(a, s, b)]) ++ freesP P := by
    rw [← frees_append, List.append_assoc]; rfl
   exact w x y (by rw [e2]; exact List.mem_append_left _ m) z (by rw [e2]; exact List.mem_append_left _ u)
  constructor
  ·rintro ⟨w1, w2⟩
   have := (notw_iff c.2 hq' w1).mp w2
   rwa [List.append_assoc] at this
  ·intro w
   refine ⟨back w, (notw_iff c.2 hq' (back w)).mpr ?_⟩
   rw [List.append_assoc]; exact w
theorem twin_eq {a : Int} {e : Nat} (h : a % 2 ^ e = 0) : twinP (a, 2 ^ e) = (twinI a (2 ^ e), 2 ^ e) := by
 unfold twinP twinI
 have h1 := even_iff h
 simp only
 rw [show (2 : Int) * 2 ^ e = 2 ^ (e + 1) by rw [Int.pow_succ, Int.mul_comm]]
 by_cases q : a % 2 ^ (e + 1) = 0
 ·rw [if_pos q, if_pos (h1.mpr q)]
 ·rw [if_neg q, if_neg fun w => q (h1.mp w)]
theorem keys_chn : ∀ {P : List Pc} {h : Int}, Chn h P → (P.map (·.1)).Pairwise (· < ·)
 | [], _, _ => List.Pairwise.nil
 | p :: P, h, c => by
  rw [List.map_cons, List.pairwise_cons]
  refine ⟨fun a ha => ?_, keys_chn c.2⟩
  obtain ⟨r, hr, rfl⟩ := List.mem_map.mp ha
  have := c.2.mem r hr
  have := Chn.pos c.1
  lia
theorem keys_frees {P : List Pc} {h : Int} (c : Chn h P) : Keys (freesP P) := by
 have h1 := keys_chn c
 unfold Keys freesP
 rw [List.map_map]
 have h2 : ((P.filter fun p => !p.2.2).map (·.1)).Pairwise (· < ·) := h1.sublist (List.Sublist.map _ List.filter_sublist)
 exact List.Pairwise.imp (fun h => Int.ne_of_lt h) h2
theorem put_outs {P : List Pc} {h : Int} {a s : Int} (c : Chn h (P ++ [(a, s, true)])) : dput (outsP P) a s = outsP (P ++ [(a, s, true)]) ∧ freesP (P ++ [(a, s, true)]) = freesP P := by
 rw [outs_append, frees_append]
 refine ⟨dput_new fun u hu => ?_, List.append_nil _⟩
 obtain ⟨c1, c2⟩ := Chn.append.mp c
 have := c1.mem _ (mem_outs.mp hu)
 have := Chn.pos c2.1
 simp only at *
 lia
theorem put_frees {P : List Pc} {h : Int} {a s : Int} (c : Chn h (P ++ [(a, s, false)])) : dput (freesP P) a s = freesP (P ++ [(a, s, false)]) ∧ outsP (P ++ [(a, s, false)]) = outsP P := by
 rw [outs_append, frees_append]
 refine ⟨dput_new fun u hu => ?_, List.append_nil _⟩
 obtain ⟨c1, c2⟩ := Chn.append.mp c
 have := c1.mem _ (mem_frees.mp hu)
 have := Chn.pos c2.1
 simp only at *
 lia
theorem endP_sum : ∀ {P : List Pc} {h : Int}, endP h P = h + (P.map (·.2.1)).sum
 | [], h => by show h = h + 0; lia
 | p :: P, h => by
  show endP (h + p.2.1) P = _
  rw [endP_sum (P := P), List.map_cons, List.sum_cons]
  lia
theorem due_none {l : List (Option Pc)} (h : parseR 0 l = none) : dueR 0 [] l = none := by rw [due_eq, h]
theorem due_size {l : List (Option Pc)} {P : List Pc} (h : parseR 0 l = some P) (h1 : isP (endP 0 P) = false) : dueR 0 [] l = none := by
 rw [due_eq, h]
 exact if_neg fun w => by rw [h1] at w; cases w.1
noncomputable def Twin (f : List (Int × Int)) (c : Int) (p : Int × Int) : Prop := p.2 < c ∧ dget f (twinI p.1 p.2) = some p.2
theorem due_tree {l : List (Option Pc)} {P : List Pc} (h : parseR 0 l = some P) (h1 : isP (endP 0 P) = true) : ∃ k, k ≤ 60 ∧ endP 0 P = 2 ^ k ∧ ∃ t : BT k, pcs true 0 t = outsP P ∧ pcs false 0 t = freesP P ∧
  (((∃ p ∈ freesP P, Twin (freesP P) (2 ^ k) p) ∧ dueR 0 [] l = none) ∨ ((∀ p ∈ freesP P, ¬ Twin (freesP P) (2 ^ k) p) ∧ cn t ∧ dueR 0 [] l = some (2 ^ k, P))) := by
 obtain ⟨k, hk, he⟩ := isP_iff.mp h1
 obtain ⟨c, _⟩ := parse_chn h
 obtain ⟨t, t1, t2⟩ := chn_tree k c (by rw [he, Int.zero_add]) (Int.zero_emod _)
 refine ⟨k, hk, he, t, t1, t2, ?_⟩
 have hn : noTw [] P = true ↔ NT (freesP P) := notw_iff (q := []) c (fun r hr => by cases hr) (fun a s m => by cases m)
 rw [due_eq, h]
 simp only [List.nil_append]
 by_cases w : NT (freesP P)
 ·right
  have hc : cn t := cn_of_nt t (Int.zero_emod _) (by rw [t2]; exact w)
  refine ⟨fun p hp ⟨q1, q2⟩ => ?_, hc, ?_⟩
  ·have hp' : p ∈ pcs false 0 t := by rw [t2]; exact hp
   obtain ⟨e, _, e2, e3⟩ := c.size _ (mem_frees.mp (show (p.1, p.2) ∈ freesP P from hp))
   simp only at e2 e3
   refine free_twin hc hp' ?_
   have := (dget_mem (keys_frees c)).mp q2
   obtain ⟨a, s⟩ := p
   simp only at e2 e3 this
   subst e2
   rw [twin_eq e3, t2]
   exact this
  ·rw [if_pos ⟨h1, hn.mpr w⟩, he]
 ·left
  refine ⟨?_, if_neg fun u => w (hn.mp u.2)⟩
  unfold NT at w
  have ⟨a, w⟩ := Classical.not_forall.mp w
  have ⟨s, w⟩ := Classical.not_forall.mp w
  have ⟨m, w⟩ := Classical.not_imp.mp w
  have ⟨n, w⟩ := Classical.not_imp.mp w
  have w := Classical.not_not.mp w
  obtain ⟨e, _, e2, e3⟩ := c.size _ (mem_frees.mp m)
  simp only at e2 e3
  have m1 := c.mem _ (mem_frees.mp m)
  have m2 := c.mem _ (mem_frees.mp w)
  simp only at m1 m2
  refine ⟨(a, s), m, by simp only; lia, (dget_mem (keys_frees c)).mpr ?_⟩
  subst e2
  have := twin_eq e3
  unfold twinP at this
  simp only at this
  rw [if_neg n] at this
  have e5 : a - 2 ^ e = twinI a (2 ^ e) := (Prod.mk.inj this).1
  simp only
  rw [← e5]; exact w
open PySem PySem.W PyProof.Rows PySem.Calls
inductive AV where
 | none | bool (b : Bool) | int (i : Int) | str (x : Str) | tup (l : List AV) | ref (a : Addr) | raw (v : Value)
mutual
noncomputable def VR (h : Heap) : AV → Value → Prop
 | .none, v => v = .none
 | .bool b, v => v = .bool b
 | .int i, v => ∃ t, v = .int i t
 | .str x, v => ∃ t, v = .str x t
 | .ref a, v => v = .ref a
 | .raw u, v => v = u
 | .tup l, v => ∃ a vs, v = .ref a ∧ h.TupAt a vs ∧ VRs h l vs
noncomputable def VRs (h : Heap) : List AV → List Value → Prop
 | [], vs => vs = []
 | x :: l, vs => ∃ v r, vs = v :: r ∧ VR h x v ∧ VRs h l r
end
noncomputable def VM (h h' : Heap) : Prop := ∀ b o xs n, h.get? b = some o → o.cls = .type "tuple" → o.data = .seq xs n → ∃ sl, h'.get? b = some { o with slots := sl }
theorem VM.refl (h : Heap) : VM h h := fun ux o ux ux e ux ux => ⟨o.slots, e⟩
theorem VM.trans {h₁ h₂ h₃ : Heap} (a : VM h₁ h₂) (b : VM h₂ h₃) : VM h₁ h₃ := fun x o xs n e c d => let ⟨sl, e'⟩ := a x o xs n e c d; let ⟨sl', e''⟩ := b x _ xs n e' c d; ⟨sl', e''⟩
theorem VM.of_keeps {h h' : Heap} (k : ∀ b o, h.get? b = some o → h'.get? b = some o) : VM h h' := fun b o ux ux e ux ux => ⟨o.slots, k b o e⟩
theorem VM.of_slots {h h' : Heap} (k : h.UpToSlots h') : VM h h' := fun b o ux ux e ux d => k b o e fun vs q => by rw [d] at q; cases q
mutual
theorem VR.mono {h h' : Heap} (k : VM h h') : ∀ (a : AV) {v : Value}, VR h a v → VR h' a v
 | .none, _, x => x
 | .bool _, _, x => x
 | .int _, _, x => x
 | .str _, _, x => x
 | .ref _, _, x => x
 | .raw _, _, x => x
 | .tup l, _, ⟨a, vs, e, ⟨o, n, h1, h2, h3⟩, r⟩ => let ⟨sl, h1'⟩ := k a o _ n h1 h2 h3; ⟨a, vs, e, ⟨_, n, h1', h2, h3⟩, VRs.mono k l r⟩
theorem VRs.mono {h h' : Heap} (k : VM h h') : ∀ (l : List AV) {vs : List Value}, VRs h l vs → VRs h' l vs
 | [], _, x => x
 | a :: l, _, ⟨v, r, e, x, y⟩ => ⟨v, r, e, VR.mono k a x, VRs.mono k l y⟩
end
theorem VRs.length {h : Heap} : ∀ {l : List AV} {vs : List Value}, VRs h l vs → vs.length = l.length
 | [], _, e => by rw [show _ = [] from e]; rfl
 | _ :: _, _, ⟨_, _, e, _, y⟩ => by rw [e, List.length_cons, List.length_cons, y.length]
theorem VRs.get {h : Heap} : ∀ {l : List AV} {vs : List Value}, VRs h l vs → ∀ {i : Nat} {a : AV}, l[i]? = some a → ∃ v, vs[i]? = some v ∧ VR h a v
 | [], _, _, _, _, e => by simp at e
 | x :: l, _, ⟨v, r, rfl, p, q⟩, 0, a, e => by simp at e; subst e; exact ⟨v, rfl, p⟩
 | x :: l, _, ⟨v, r, rfl, p, q⟩, i + 1, a, e => by
  rw [List.getElem?_cons_succ] at e
  obtain ⟨u, h1, h2⟩ := q.get e
  exact ⟨u, by rw [List.getElem?_cons_succ]; exact h1, h2⟩
theorem VRs.snoc {h : Heap} : ∀ {l : List AV} {vs : List Value} {a : AV} {v : Value}, VRs h l vs → VR h a v → VRs h (l ++ [a]) (vs ++ [v])
 | [], _, _, v, e, x => by rw [show _ = [] from e]; exact ⟨v, [], rfl, x, rfl⟩
 | _ :: _, _, _, _, ⟨u, r, e, p, q⟩, x => by rw [e]; exact ⟨u, _, rfl, p, q.snoc x⟩
theorem VRs.append {h : Heap} : ∀ {l l' : List AV} {vs vs' : List Value}, VRs h l vs → VRs h l' vs' → VRs h (l ++ l') (vs ++ vs')
 | [], _, _, _, e, x => by rw [show _ = [] from e]; exact x
 | _ :: _, _, _, _, ⟨u, r, e, p, q⟩, x => by rw [e]; exact ⟨u, _, rfl, p, q.append x⟩
inductive AO where
 | list (l : List AV)
 | dict (d : List (Int × Int))
 | inst (C dx : Addr)
 | attrs (fs : List (Str × AV))
 | exc (C : Value)
 | range (a b c : Int)
 | ro (l : List AV)
 | any (T : Program → World → Heap → Addr → Obj → Prop)
noncomputable def AO.isRo : AO → Bool | .ro _ => true | _ => false
noncomputable def ESR (P : Params) (h : Heap) : List (Str × AV) → List DictEntry → Prop
 | [], es => es = []
 | (x, a) :: r, es => ∃ t v es', es = ⟨PyData.keyHash P x, .str x t, v⟩ :: es' ∧ VR h a v ∧ ESR P h r es'
theorem ESR.mono {P : Params} {h h' : Heap} (k : VM h h') : ∀ {fs : List (Str × AV)} {es : List DictEntry}, ESR P h fs es → ESR P h' fs es
 | [], _, e => e
 | (_, a) :: _, _, ⟨t, v, es', e, x, y⟩ => ⟨t, v, es', e, VR.mono k a x, y.mono k⟩
noncomputable def KVR : List (Int × Int) → List (Int × Value) → Prop
 | [], kvs => kvs = []
 | (i, a) :: r, kvs => ∃ t kvs', kvs = (i, .int a t) :: kvs' ∧ KVR r kvs'
noncomputable def OR (prog : Program) (w : World) (h : Heap) (a : Addr) : AO → Prop
 | .list l => ∃ vs, h.PlainList a (List.toArray vs) ∧ VRs h l vs
 | .dict d => ∃ kvs, h.DictOf (PySem.intKind prog w) a kvs ∧ KVR d kvs ∧ (a == sysModules) = false
 | .inst C dx => h.get? a = some (instObj C dx)
 | .attrs fs => ∃ es n, h.get? a = some (dictOf es n) ∧ ESR w.params h fs es
 | .exc C => ∃ o vs, h.get? a = some o ∧ o.cls = C ∧ o.data = .fields vs
 | .range x y z => ∃ t u v, IsRange h a x y z t u v
 | .ro l => ∃ vs, h.IsList a (List.toArray vs) ∧ VRs h l vs
 | .any T => ∃ o, h.get? a = some o ∧ (∀ xs n, o.cls = .type "tuple" → o.data ≠ .seq xs n) ∧ ∀ h', VM h h' → T prog w h' a o
theorem OR.at {prog : Program} {w : World} {h h' : Heap} {a : Addr} (k : VM h h') (e : ∀ o, h.get? a = some o → h'.get? a = some o) {x : AO} (y : OR prog w h a x) : OR prog w h' a x := by
 cases x with
 | list l => obtain ⟨vs, ⟨n, p⟩, r⟩ := y; exact ⟨vs, ⟨n, e _ p⟩, r.mono k⟩
 | dict d => obtain ⟨kvs, ⟨o, es, ep, ho, q⟩, r⟩ := y; exact ⟨kvs, ⟨o, es, ep, e _ ho, q⟩, r⟩
 | inst C dx => exact e _ y
 | attrs fs => obtain ⟨es, n, p, q⟩ := y; exact ⟨es, n, e _ p, q.mono k⟩
 | exc C => obtain ⟨o, vs, p, q⟩ := y; exact ⟨o, vs, e _ p, q⟩
 | range _ _ _ => obtain ⟨t, u, v, p⟩ := y; exact ⟨t, u, v, e _ p⟩
 | ro l => obtain ⟨vs, ⟨o, p, q⟩, r⟩ := y; exact ⟨vs, ⟨o, e _ p, q⟩, r.mono k⟩
 | any T => obtain ⟨o, p, q, r⟩ := y; exact ⟨o, e _ p, q, fun h'' k' => r h'' (k.trans k')⟩
theorem OR.there {prog : Program} {w : World} {h : Heap} {a : Addr} {x : AO} (y : OR prog w h a x) : ∃ o, h.get? a = some o ∧ ∀ xs n, o.cls = .type "tuple" → o.data ≠ .seq xs n := by
 cases x with
 | list l => obtain ⟨vs, ⟨n, p⟩, r⟩ := y; exact ⟨_, p, by simp⟩
 | dict d => obtain ⟨kvs, ⟨o, es, ep, ho, q⟩, r⟩ := y; exact ⟨o, ho, by rw [q.1.1]; simp⟩
 | inst C dx => exact ⟨_, y, by simp⟩
 | attrs fs => obtain ⟨es, n, p, q⟩ := y; exact ⟨_, p, by simp⟩
 | exc C => obtain ⟨o, vs, p, q⟩ := y; exact ⟨o, p, by intro xs n _ e; rw [q.2] at e; cases e⟩
 | range _ _ _ => obtain ⟨t, u, v, p⟩ := y; exact ⟨_, p, by simp⟩
 | ro l => obtain ⟨vs, ⟨o, p, q, _⟩, r⟩ := y; exact ⟨o, p, by rw [q]; simp⟩
 | any T => obtain ⟨o, p, q, _⟩ := y; exact ⟨o, p, q⟩
structure AS where
 loc : Str → Option AV
 hp : Addr → Option AO
noncomputable def AS.set (σ : AS) (x : Str) (v : AV) : AS := ⟨fun y => if y = x then some v else σ.loc y, σ.hp⟩
noncomputable def AS.put (σ : AS) (a : Addr) (o : AO) : AS := ⟨σ.loc, fun b => if b = a then some o else σ.hp b⟩
noncomputable def AS.Le (σ' σ : AS) : Prop := (∀ x v, σ'.loc x = some v → σ.loc x = some v) ∧ ∀ a o, σ'.hp a = some o → σ.hp a = some o
structure CX where
 A : Around
 env : Env
 fenv : Env
 outer : List Env
 base : Heap
 P : Addr → Obj → Prop
 N : Addr → (Str → Option Value) → Prop
 gens : Array GenState
 drawn : Drawn
 os : OsState
noncomputable def LocAt (h : Heap) (env : Env) (x : Str) (v : Value) : Prop :=
 match env.kindOf x with
 | some .local => ∃ m, h.Ns env.locals m ∧ m x = some v
 | some .cell => ∃ c o, env.cells.lookup x = some c ∧ h.get? c = some o ∧ o.data = .cell (some v)
 | some .free => ∃ c o, env.cells.lookup x = some c ∧ h.get? c = some o ∧ o.data = .cell (some v)
 | _ => False
noncomputable def CX.frames (cx : CX) : List Addr := (cx.fenv :: cx.outer).filterMap (·.frame)
noncomputable def CX.own (cx : CX) (a : Addr) : Prop := a = cx.env.locals ∨ ∃ x, cx.env.cells.lookup x = some a
structure R (prog : Program) (w : World) (cx : CX) (σ : AS) (s : Shared) : Prop where
 stay : cx.base.StaysIn s.heap
 ff : s.heap.FunFrames cx.base (cx.fenv :: cx.outer)
 ns : ∃ m, s.heap.Ns cx.env.locals m
 loc : ∀ x v, σ.loc x = some v → ∃ u, LocAt s.heap cx.env x u ∧ VR s.heap v u
 pr : ∀ b o, cx.P b o → s.heap.get? b = some o ∧ b ∉ cx.frames
 pn : ∀ b m, cx.N b m → s.heap.Ns b m ∧ b ∈ cx.frames
 ob : ∀ a ao, σ.hp a = some ao → OR prog w s.heap a ao ∧ (ao.isRo = false → cx.base.get? a = none) ∧ (∀ o, ¬ cx.P a o) ∧ ¬ cx.own a ∧ ∀ e ∈ cx.fenv :: cx.outer, e.frame ≠ some a
 own : ∀ a, cx.own a → cx.base.get? a = none ∧ (∀ o, ¬ cx.P a o) ∧ ∀ m, ¬ cx.N a m
 cel : ∀ x c, cx.env.cells.lookup x = some c → c ≠ cx.env.locals ∧ (∃ o v, s.heap.get? c = some o ∧ o.data = .cell v) ∧ ∀ e ∈ cx.fenv :: cx.outer, e.frame ≠ some c
 oth : ∀ e ∈ cx.outer, e.frame ≠ some cx.env.locals
 gens : s.gens = cx.gens
 drawn : s.drawn = cx.drawn
 os : s.os = cx.os
section
variable {prog : Program} {w : World} {cx : CX} {σ σ' : AS} {s : Shared}
theorem LocAt.grow {h h' : Heap} {env : Env} {x : Str} {v : Value} (k : ∀ b o, h.get? b = some o → h'.get? b = some o) (l : LocAt h env x v) : LocAt h' env x v := by
 unfold LocAt at *
 split at l
 ·obtain ⟨m, a, b⟩ := l; exact ⟨m, a.keeps k, b⟩
 ·obtain ⟨c, o, a, b, d⟩ := l; exact ⟨c, o, a, k _ _ b, d⟩
 ·obtain ⟨c, o, a, b, d⟩ := l; exact ⟨c, o, a, k _ _ b, d⟩
 ·exact l
theorem R.grow {h' : Heap} {tk : Nat} (r : R prog w cx σ s) (k : ∀ b o, s.heap.get? b = some o → h'.get? b = some o) : R prog w cx σ { s with heap := h', toks := tk } where
 stay := fun b o e => k b o (r.stay b o e)
 ff := r.ff.of_keeps fun b o e ux => ⟨o, k b o e, rfl⟩
 ns := let ⟨m, a⟩ := r.ns; ⟨m, a.keeps k⟩
 loc := fun x v e => let ⟨u, a, b⟩ := r.loc x v e; ⟨u, a.grow k, b.mono (VM.of_keeps k)⟩
 pr := fun b o e => let ⟨a, c⟩ := r.pr b o e; ⟨k _ _ a, c⟩
 pn := fun b m e => let ⟨a, c⟩ := r.pn b m e; ⟨a.keeps k, c⟩
 ob := fun a ao e => let ⟨p, q⟩ := r.ob a ao e; ⟨p.at (VM.of_keeps k) fun o => k a o, q⟩
 own := r.own
 cel := fun x c e => let ⟨p, ⟨o, v, q1, q2⟩, q3⟩ := r.cel x c e; ⟨p, ⟨o, v, k _ _ q1, q2⟩, q3⟩
 oth := r.oth
 gens := r.gens
 drawn := r.drawn
 os := r.os
theorem R.tok {tk : Nat} (r : R prog w cx σ s) : R prog w cx σ { s with toks := tk } := r.grow (h' := s.heap) fun ux ux e => e
theorem R.le (r : R prog w cx σ s) (l : σ'.Le σ) : R prog w cx σ' s :=
 { r with loc := fun x v e => r.loc x v (l.1 x v e), ob := fun a ao e => r.ob a ao (l.2 a ao e) }
theorem ns_data {h : Heap} {a : Addr} {m : Str → Option Value} (n : h.Ns a m) : ∃ o es ep, h.get? a = some o ∧ o.data = .dict es ep := let ⟨o, es, ep, a, b, _⟩ := n; ⟨o, es, ep, a, b⟩
theorem R.ownSet {h' : Heap} {tk : Nat} {a : Addr} {o₀ o₁ : Obj} (r : R prog w cx σ s) (ha : cx.own a) (hs : Heap.SameBut a s.heap h') (h0 : s.heap.get? a = some o₀) (h1 : h'.get? a = some o₁)
  (n0 : ∀ xs n, o₀.data ≠ .seq xs n) (nf : (∀ vs, o₀.data ≠ .fields vs) → ∀ vs, o₁.data ≠ .fields vs) (hns : ∃ m, h'.Ns cx.env.locals m) (hcel : ∀ x c, cx.env.cells.lookup x = some c → ∃ o v, h'.get? c = some o ∧ o.data = .cell v)
  (hloc : ∀ x v, σ'.loc x = some v → ∃ u, LocAt h' cx.env x u ∧ VR h' v u) (hhp : σ'.hp = σ.hp) : R prog w cx σ' { s with heap := h', toks := tk } ∧ VM s.heap h' := by
 have keep : ∀ b o, b ≠ a → s.heap.get? b = some o → h'.get? b = some o := fun b o n e => (hs.2 b n).trans e
 have vm : VM s.heap h' := fun b o xs n e ux d => ⟨o.slots, keep b o (fun q => by subst q; rw [h0] at e; cases e; exact n0 _ _ d) e⟩
 have fff : ∀ l, s.heap.FunFrames cx.base l → h'.FunFrames cx.base l := by
  intro l
  induction l with
  | nil => exact fun ux => trivial
  | cons e l ih =>
   rintro ⟨hk, ⟨L, o, hf, hn, ho, hd⟩, hr⟩
   refine ⟨hk, ?_, ih hr⟩
   by_cases q : L = a
   ·subst q; rw [h0] at ho; cases ho; exact ⟨L, o₁, hf, hn, h1, nf hd⟩
   ·exact ⟨L, o, hf, hn, keep L o q ho, hd⟩
 refine ⟨⟨fun b o e => ?_, fff _ r.ff, hns, hloc, fun b o e => ?_, fun b m e => ?_, fun b ao e => ?_, r.own, fun x c e => ?_, r.oth, r.gens, r.drawn, r.os⟩, vm⟩
 ·refine keep b o (fun q => ?_) (r.stay b o e)
  subst q; rw [(r.own b ha).1] at e; cases e
 ·obtain ⟨e', f⟩ := r.pr b o e
  exact ⟨keep b _ (fun q => by subst q; exact (r.own b ha).2.1 o e) e', f⟩
 ·obtain ⟨⟨o, es, ep, e1, e2⟩, f⟩ := r.pn b m e
  exact ⟨⟨o, es, ep, keep b o (fun q => by subst q; exact (r.own b ha).2.2 m e) e1, e2⟩, f⟩
 ·rw [hhp] at e
  obtain ⟨p, q1, q2, q3, q4⟩ := r.ob b ao e
  exact ⟨p.at vm fun o e' => keep b o (fun q => by subst q; exact q3 ha) e', q1, q2, q3, q4⟩
 ·obtain ⟨p, _, q3⟩ := r.cel x c e
  exact ⟨p, hcel x c e, q3⟩
theorem R.storeL {h' : Heap} {tk : Nat} {x : Str} {v : AV} {u : Value} {m : Str → Option Value} (r : R prog w cx σ s) (hk : cx.env.kindOf x = some .local) (hn : s.heap.Ns cx.env.locals m) (hv : VR s.heap v u)
  (hn' : h'.Ns cx.env.locals (fun y => if y = x then some u else m y)) (hs : Heap.SameBut cx.env.locals s.heap h') : R prog w cx (σ.set x v) { s with heap := h', toks := tk } ∧ VM s.heap h' := by
 obtain ⟨o₀, es, ep, h0, d0⟩ := ns_data hn
 obtain ⟨o₁, es₁, ep₁, h1, d1⟩ := ns_data hn'
 have vm : VM s.heap h' := fun b o xs n e ux d => ⟨o.slots, (hs.2 b (fun q => by subst q; rw [h0] at e; cases e; rw [d0] at d; cases d)).trans e⟩
 refine r.ownSet (.inl rfl) hs h0 h1 (by intro xs n; rw [d0]; simp) (by intro _ vs; rw [d1]; simp) ⟨_, hn'⟩ (fun y c e => ?_) (fun y a e => ?_) rfl
 ·obtain ⟨p, ⟨o, v', q1, q2⟩, _⟩ := r.cel y c e
  exact ⟨o, v', (hs.2 c p).trans q1, q2⟩
 ·unfold AS.set at e
  dsimp only at e
  split at e
  ·rename_i q; subst q; cases e
   exact ⟨u, by unfold LocAt; rw [hk]; exact ⟨_, hn', by simp⟩, hv.mono vm⟩
  ·rename_i q
   obtain ⟨u', l, b⟩ := r.loc y a e
   refine ⟨u', ?_, b.mono vm⟩
   unfold LocAt at l ⊢
   split at l
   ·obtain ⟨m', a1, a2⟩ := l
    have : m' = m := by
     obtain ⟨o1, e1, p1, f1, f2, f3, f4⟩ := a1
     obtain ⟨o2, e2, p2, g1, g2, g3, g4⟩ := hn
     rw [f1] at g1; cases g1; rw [f2] at g2; cases g2
     funext z; rw [← f4 z, ← g4 z]
    exact ⟨_, hn', by rw [if_neg q, ← this]; exact a2⟩
   ·obtain ⟨c, o, a1, a2, a3⟩ := l
    exact ⟨c, o, a1, (hs.2 c (r.cel y c a1).1).trans a2, a3⟩
   ·obtain ⟨c, o, a1, a2, a3⟩ := l
    exact ⟨c, o, a1, (hs.2 c (r.cel y c a1).1).trans a2, a3⟩
   ·exact l
theorem nofields_ns {h : Heap} {a : Addr} {m : Str → Option Value} (x : h.Ns a m) : ∃ o, h.get? a = some o ∧ ∀ vs, o.data ≠ .fields vs := by
 obtain ⟨o, es, ep, a1, a2, _⟩ := x
 exact ⟨o, a1, by intro vs q; rw [a2] at q; cases q⟩
theorem R.upd2 {h' : Heap} {tk : Nat} {a : Addr} {ao ao' : AO} (r : R prog w cx σ s) (ha : σ.hp a = some ao) (hro : ao.isRo = false) (keep : ∀ b o, b ≠ a → b ≠ cx.env.locals → s.heap.get? b = some o → h'.get? b = some o)
  (hns : ∀ m, s.heap.Ns cx.env.locals m → h'.Ns cx.env.locals m) (ho : VM s.heap h' → OR prog w h' a ao') : R prog w cx (σ.put a ao') { s with heap := h', toks := tk } ∧ VM s.heap h' := by
 obtain ⟨p, q1, q2, q3, q4⟩ := r.ob a ao ha
 replace q1 := q1 hro
 obtain ⟨o₀, h0, n0⟩ := p.there
 obtain ⟨m₀, hm₀⟩ := r.ns
 obtain ⟨oL, eL, pL, gL, dL⟩ := ns_data hm₀
 have vm : VM s.heap h' := fun b o xs n e c d => ⟨o.slots, keep b o (fun q => by subst q; rw [h0] at e; cases e; exact n0 xs n c d) (fun q => by subst q; rw [gL] at e; cases e; rw [dL] at d; cases d) e⟩
 have ho := ho vm
 have ownL : cx.own cx.env.locals := .inl rfl
 obtain ⟨w1, w2, w3⟩ := r.own _ ownL
 have ownNe : ∀ b, cx.own b → b ≠ a := fun b hb q => by subst q; exact q3 hb
 refine ⟨⟨fun b o e => ?_, ?_, ⟨m₀, hns _ hm₀⟩, fun x v e => ?_, fun b o e => ?_, fun b m e => ?_, fun b bo e => ?_, r.own, fun x c e => ?_, r.oth, r.gens, r.drawn, r.os⟩, vm⟩
 ·exact keep b o (fun q => by subst q; rw [q1] at e; cases e) (fun q => by subst q; rw [w1] at e; cases e) (r.stay b o e)
 ·have : ∀ l, (∀ e ∈ l, e.frame ≠ some a) → s.heap.FunFrames cx.base l → h'.FunFrames cx.base l := by
   intro l
   induction l with
   | nil => exact fun ux ux => trivial
   | cons e l ih =>
    rintro hne ⟨hk, ⟨L, o, hf, hn, ho, hd⟩, hr⟩
    refine ⟨hk, ?_, ih (fun e he => hne e (.tail _ he)) hr⟩
    by_cases hL : L = cx.env.locals
    ·subst hL
     obtain ⟨o', g1, g2⟩ := nofields_ns (hns _ hm₀)
     exact ⟨_, o', hf, hn, g1, g2⟩
    ·exact ⟨L, o, hf, hn, keep L o (fun q => hne e (.head _) (by rw [hf, q])) hL ho, hd⟩
  exact this _ q4 r.ff
 ·obtain ⟨u, l, b⟩ := r.loc x v e
  refine ⟨u, ?_, b.mono vm⟩
  unfold LocAt at l ⊢
  split at l
  ·obtain ⟨m, a1, a2⟩ := l; exact ⟨m, hns m a1, a2⟩
  ·obtain ⟨c, o, a1, a2, a3⟩ := l
   exact ⟨c, o, a1, keep c o (ownNe c (.inr ⟨x, a1⟩)) (r.cel x c a1).1 a2, a3⟩
  ·obtain ⟨c, o, a1, a2, a3⟩ := l
   exact ⟨c, o, a1, keep c o (ownNe c (.inr ⟨x, a1⟩)) (r.cel x c a1).1 a2, a3⟩
  ·exact l
 ·obtain ⟨e', f⟩ := r.pr b o e
  exact ⟨keep b _ (fun q => by subst q; exact q2 o e) (fun q => by subst q; exact w2 o e) e', f⟩
 ·obtain ⟨⟨o, es, ep, e1, e2⟩, f⟩ := r.pn b m e
  refine ⟨⟨o, es, ep, keep b o (fun q => ?_) (fun q => by subst q; exact w3 m e) e1, e2⟩, f⟩
  subst q
  obtain ⟨en, he, hf⟩ := List.mem_filterMap.mp f
  exact q4 en he hf
 ·unfold AS.put at e
  dsimp only at e
  split at e
  ·rename_i q; subst q; cases e; exact ⟨ho, fun ux => q1, q2, q3, q4⟩
  ·rename_i q
   obtain ⟨p', q'⟩ := r.ob b bo e
   exact ⟨p'.at vm fun o e' => keep b o q (fun q => by subst q; exact q'.2.2.1 ownL) e', q'⟩
 ·obtain ⟨p', ⟨o, v, c1, c2⟩, c3⟩ := r.cel x c e
  exact ⟨p', ⟨o, v, keep c o (ownNe c (.inr ⟨x, e⟩)) p' c1, c2⟩, c3⟩
theorem R.upd {h' : Heap} {tk : Nat} {a : Addr} {ao ao' : AO} (r : R prog w cx σ s) (ha : σ.hp a = some ao) (hro : ao.isRo = false) (keep : ∀ b o, b ≠ a → s.heap.get? b = some o → h'.get? b = some o) (ho : VM s.heap h' → OR prog w h' a ao') :
  R prog w cx (σ.put a ao') { s with heap := h', toks := tk } ∧ VM s.heap h' :=
 r.upd2 ha hro (fun b o hb ux e => keep b o hb e) (fun m ⟨o, es, ep, e1, e2⟩ => ⟨o, es, ep, keep _ o (fun q => (r.ob a ao ha).2.2.2.1 (.inl q.symm)) e1, e2⟩) ho
theorem R.new {h' : Heap} {tk : Nat} {a : Addr} {ao : AO} (r : R prog w cx σ s) (hn : s.heap.get? a = none) (keep : ∀ b o, s.heap.get? b = some o → h'.get? b = some o) (ho : OR prog w h' a ao) :
  R prog w cx (σ.put a ao) { s with heap := h', toks := tk } := by
 have g := r.grow (tk := tk) keep
 have fresh : ∀ b o, s.heap.get? b = some o → b ≠ a := fun b o e q => by subst q; rw [hn] at e; cases e
 refine { g with ob := fun b bo e => ?_ }
 unfold AS.put at e
 dsimp only at e
 split at e
 ·rename_i q; subst q; cases e
  refine ⟨ho, fun _ => ?_, fun o e => ?_, fun hb => ?_, fun e he hf => ?_⟩
  ·cases q : cx.base.get? b with
   | none => rfl
   | some o => exact absurd rfl (fresh _ _ (r.stay b o q))
  ·exact absurd rfl (fresh _ _ (r.pr b o e).1)
  ·rcases hb with q | ⟨x, q⟩
   ·obtain ⟨m, o, es, ep, e1, _⟩ := r.ns
    exact fresh _ _ e1 q.symm
   ·obtain ⟨_, ⟨o, v, c1, _⟩, _⟩ := r.cel x b q
    exact absurd rfl (fresh _ _ c1)
  ·obtain ⟨_, o, h1, _⟩ := r.ff.mem (List.mem_filterMap.mpr ⟨e, he, hf⟩)
   exact absurd rfl (fresh _ _ h1)
 ·exact g.ob b bo e
end
structure Glo (prog : Program) (K : Frag) (base : Heap) : Prop where
 KX : K.In base
 g : ∃ mg, base.Ns mainGlobals mg
 b : ∃ mb, base.Ns builtinsNs mb ∧ ∀ x : Str, x ≠ "__name__" → mb x = bootBuiltins x
 nolimit : base.NoLimit
 seer : base.NoSeer
 tree : prog.given.tree = none
 top : ∃ p loose mg mb, TopRead p loose mg mb base
 bm : ∃ mg, base.Ns mainGlobals mg ∧ BMain base mg
structure Ok (prog : Program) (K : Frag) (cx : CX) (sc : Scope) (n : Nat) : Prop where
 glo : Glo prog K cx.base
 fr : cx.A.frames = some (cx.fenv :: cx.outer)
 scope : cx.env.scope = sc
 kind : sc.kind = .function
 frame : cx.env.frame = cx.fenv.frame
 glob : cx.env.globals = mainGlobals
 bi : cx.env.builtins = builtinsNs
 fgen : cx.fenv.scope.isGenerator = false
 fco : cx.fenv.scope.isCoroutine = false
 fglob : cx.fenv.globals = mainGlobals
 fbi : cx.fenv.builtins = builtinsNs
 fkind : cx.fenv.scope.kind = .function
 depth : cx.A.depth + 4 * n + 140 < recursionLimit
 units : cx.A.units + 16 * n + 200 < cLine
 inj : ∀ x y c, cx.env.cells.lookup x = some c → cx.env.cells.lookup y = some c → x = y
 ck : ∀ y c, cx.env.cells.lookup y = some c → cx.env.kindOf y = some .cell ∨ cx.env.kindOf y = some .free
 cc : ∀ x, sc.names.lookup x = some .cell → (cx.env.cells.lookup x).isSome = true
noncomputable def ExSt (B : Heap) (L : Addr) (e : Addr) (C : Value) (h : Heap) : Prop :=
 (∃ oe vs a0, h.get? e = some oe ∧ oe.cls = C ∧ oe.data = .fields vs ∧ vs[1]? = some .none ∧ vs[0]? = some a0) ∨
 (∃ a0, h.TracedW B e C a0) ∨ (∃ a0, h.TracedAtW B e C a0 (rawInt L))
structure XC (cx : CX) (h₀ h : Heap) (L e : Addr) : Prop where
 fr : cx.fenv.frame = some L
 st : (hideAll h₀ cx.frames).StaysIn h
 new : (hideAll h₀ cx.frames).get? e = none
 ff : h.FunFrames (hideAll h₀ cx.frames) (cx.fenv :: cx.outer)
 up : h₀.UpToSlots h
section
variable {prog : Program} {w : World} {K : Frag} {cx : CX} {sc : Scope} {n : Nat} {σ : AS}
inductive PostR {α β : Type} (prog : Program) (w : World) (rel : Heap → β → α → Prop) (cx : CX) (s : Shared) (Q : β → AS → Prop) (v : α) (s' : Shared) : Prop
 | mk (b : β) (σ' : AS) (r : R prog w cx σ' s') (hv : rel s'.heap b v) (m : VM s.heap s'.heap) (q : Q b σ') : PostR prog w rel cx s Q v s'
inductive PostE (prog : Program) (w : World) (cx : CX) (s : Shared) (E : Value → AS → Prop) (v : Value) (s' : Shared) : Prop
 | mk (e : Addr) (C : Value) (σ' : AS) (s₀ : Shared) (L : Addr) (hv : v = .ref e) (r : R prog w cx σ' s₀) (hs : s' = { s₀ with heap := s'.heap, toks := s'.toks }) (x : XC cx s₀.heap s'.heap L e) (es : ExSt (hideAll s₀.heap cx.frames) L e C s'.heap) (m : VM s.heap s₀.heap) (q : E C σ') : PostE prog w cx s E v s'
theorem PostR.use {α β : Type} {rel : Heap → β → α → Prop} {s s' : Shared} {Q : β → AS → Prop} {v : α} {p : Prop} (h : PostR prog w rel cx s Q v s') (k : ∀ b σ', R prog w cx σ' s' → rel s'.heap b v → VM s.heap s'.heap → Q b σ' → p) : p := by
 cases h with
 | mk b σ' r hv m q => exact k b σ' r hv m q
theorem PostE.mono {s s₁ : Shared} {E : Value → AS → Prop} {v : Value} {s' : Shared} (vm : VM s.heap s₁.heap) (h : PostE prog w cx s₁ E v s') : PostE prog w cx s E v s' :=
 let ⟨e, C, σ', s₀, L, a, b, c, d, f, g, i⟩ := h; ⟨e, C, σ', s₀, L, a, b, c, d, f, vm.trans g, i⟩
noncomputable def Wp {α β : Type} (prog : Program) (w : World) (rel : Heap → β → α → Prop) (cx : CX) (t : Sem α) (σ : AS) (Q : β → AS → Prop) (E : Value → AS → Prop) : Prop :=
 ∀ s, R prog w cx σ s → wpAny (model prog w) cx.A t (PostR prog w rel cx s Q) (PostE prog w cx s E) s
noncomputable def BR (_ : Heap) (b v : Bool) : Prop := b = v
noncomputable def UR (_ : Heap) (_ _ : Unit) : Prop := True
inductive AF where
 | next | brk | cont | ret (v : AV)
noncomputable def FR (h : Heap) : AF → Flow → Prop
 | .next, f => f = .next
 | .brk, f => f = .brk
 | .cont, f => f = .cont
 | .ret a, f => ∃ v, f = .ret v ∧ VR h a v
noncomputable abbrev WEv (prog : Program) (w : World) (cx : CX) (e : Expr) (σ : AS) (Q : AV → AS → Prop) (E : Value → AS → Prop) : Prop := Wp prog w VR cx (eval e cx.env) σ Q E
noncomputable abbrev WTr (prog : Program) (w : World) (cx : CX) (e : Expr) (σ : AS) (Q : Bool → AS → Prop) (E : Value → AS → Prop) : Prop := Wp prog w BR cx (isTrue e cx.env (eval e cx.env)) σ Q E
noncomputable abbrev WEx (prog : Program) (w : World) (cx : CX) (st : Stmt) (σ : AS) (Q : AF → AS → Prop) (E : Value → AS → Prop) : Prop := Wp prog w FR cx (exec st cx.env) σ Q E
noncomputable abbrev WExs (prog : Program) (w : World) (cx : CX) (st : List Stmt) (σ : AS) (Q : AF → AS → Prop) (E : Value → AS → Prop) : Prop := Wp prog w FR cx (execs st cx.env) σ Q E
noncomputable def WOp1 (prog : Program) (w : World) (cx : CX) (t : Value → Sem Value) (a : AV) (σ : AS) (Q : AV → AS → Prop) (E : Value → AS → Prop) : Prop :=
 ∀ s va, R prog w cx σ s → VR s.heap a va → wpAny (model prog w) cx.A (t va) (PostR prog w VR cx s Q) (PostE prog w cx s E) s
noncomputable def WOp2 (prog : Program) (w : World) (cx : CX) (t : Value → Value → Sem Value) (a b : AV) (σ : AS) (Q : AV → AS → Prop) (E : Value → AS → Prop) : Prop :=
 ∀ s va vb, R prog w cx σ s → VR s.heap a va → VR s.heap b vb → wpAny (model prog w) cx.A (t va vb) (PostR prog w VR cx s Q) (PostE prog w cx s E) s
noncomputable def WOp3 (prog : Program) (w : World) (cx : CX) (t : Value → Value → Value → Sem Unit) (a b c : AV) (σ : AS) (Q : Unit → AS → Prop) (E : Value → AS → Prop) : Prop :=
 ∀ s va vb vc, R prog w cx σ s → VR s.heap a va → VR s.heap b vb → VR s.heap c vc → wpAny (model prog w) cx.A (t va vb vc) (PostR prog w UR cx s Q) (PostE prog w cx s E) s
noncomputable def WSt (prog : Program) (w : World) (cx : CX) (t : Value → Sem Unit) (a : AV) (σ : AS) (Q : Unit → AS → Prop) (E : Value → AS → Prop) : Prop :=
 ∀ s va, R prog w cx σ s → VR s.heap a va → wpAny (model prog w) cx.A (t va) (PostR prog w UR cx s Q) (PostE prog w cx s E) s
variable {Q : AV → AS → Prop} {QB : Bool → AS → Prop} {QF : AF → AS → Prop} {E : Value → AS → Prop} {pos : Pos}
theorem here {α β : Type} {rel : Heap → β → α → Prop} {s : Shared} {tk : Nat} {b : β} {v : α} {Q : β → AS → Prop} (r : R prog w cx σ s) (hv : rel s.heap b v) (h : Q b σ) : PostR prog w rel cx s Q v { s with toks := tk } :=
 ⟨b, σ, r.tok, hv, VM.refl _, h⟩
theorem here0 {α β : Type} {rel : Heap → β → α → Prop} {s : Shared} {b : β} {v : α} {Q : β → AS → Prop} (r : R prog w cx σ s) (hv : rel s.heap b v) (h : Q b σ) : PostR prog w rel cx s Q v s :=
 ⟨b, σ, r, hv, VM.refl _, h⟩
theorem vr_int {h : Heap} {i : Int} {t : Tok} : VR h (.int i) (.int i t) := ⟨t, rfl⟩
theorem vr_str {h : Heap} {x : Str} {t : Tok} : VR h (.str x) (.str x t) := ⟨t, rfl⟩
theorem vr_bool {h : Heap} {b : Bool} : VR h (.bool b) (.bool b) := rfl
theorem vr_none {h : Heap} : VR h .none .none := rfl
theorem vr_ref {h : Heap} {a : Addr} : VR h (.ref a) (.ref a) := rfl
theorem ev_int {i : Int} {k : Nat} (h : Q (.int i) σ) : WEv prog w cx (.Constant (.int i) k pos) σ Q E := fun s r => wpAny_Constant_int (here r vr_int h)
theorem ev_none {k : Nat} (h : Q .none σ) : WEv prog w cx (.Constant .none k pos) σ Q E := fun s r => wpAny_pure (here0 r vr_none h)
theorem ev_bool {b : Bool} {k : Nat} (h : Q (.bool b) σ) : WEv prog w cx (.Constant (.bool b) k pos) σ Q E := fun s r => wpAny_pure (here0 r vr_bool h)
theorem ev_str {x : Str} {k : Nat} (h : Q (.str x) σ) : WEv prog w cx (.Constant (.str x) k pos) σ Q E := fun s r => wpAny_mkText (here r vr_str h)
theorem ev_name (ok : Ok prog K cx sc n) {x : Str} {v : AV} (hv : σ.loc x = some v) (h : Q v σ) (hd : (x == ("__debug__" : Str)) = false := by decide) (hc : (x == ("__classdict__" : Str)) = false := by decide) :
  WEv prog w cx (.Name x pos) σ Q E := fun s r => by
 have hk : cx.env.scope.kind = .function := by rw [ok.scope]; exact ok.kind
 obtain ⟨u, l, hu⟩ := r.loc x v hv
 refine wpAny_Name ?_ hd
 unfold LocAt at l
 split at l
 ·rename_i hx; obtain ⟨m, a, b⟩ := l; exact wpAny_loadName_local hk hx a b (here0 r hu h)
 ·rename_i hx; obtain ⟨c, o, a, b, d⟩ := l; exact wpAny_loadName_cell hk hx a ⟨o, b, d⟩ (here0 r hu h)
 ·rename_i hx; obtain ⟨c, o, a, b, d⟩ := l; exact wpAny_loadName_free hk hx a ⟨o, b, d⟩ (here0 r hu h) hc
 ·exact l.elim
theorem ev_gname (ok : Ok prog K cx sc n) {x : Str} {v : AV} {u : Value} (hx : sc.names.lookup x = some .globalImplicit) (e : nsIn K mainGlobals x = some (some u)) (hv : ∀ h : Heap, VR h v u) (h : Q v σ) (hd : (x == ("__debug__" : Str)) = false := by decide) :
  WEv prog w cx (.Name x pos) σ Q E := fun s r => by
 have hk : cx.env.scope.kind = .function := by rw [ok.scope]; exact ok.kind
 obtain ⟨mg, hg⟩ := ok.glo.g
 exact Name_function_global hk (by unfold Env.kindOf; rw [ok.scope]; exact hx) (loadGlobal_global (by rw [ok.glob]; exact hg.keeps r.stay) (mg_of ok.glo.KX hg e) (here0 r (hv _) h)) hd
theorem ev_bin {l rr : Expr} {op : Operator} (h : WEv prog w cx l σ (fun a σ₁ => WEv prog w cx rr σ₁ (fun b σ₂ => WOp2 prog w cx (binaryOp op) a b σ₂ Q E) E) E) :
  WEv prog w cx (.BinOp l op rr pos) σ Q E := fun s r => by
 refine wpAny_BinOp (wpAny_mono (h s r) (fun va s₁ zz => zz.use fun a σ₁ r₁ v₁ m₁ q₁ => wpAny_mono (q₁ s₁ r₁) (fun vb s₂ zz => zz.use fun b σ₂ r₂ v₂ m₂ q₂ => ?_) fun ux ux e => e.mono m₁) fun ux ux e => e)
 refine wpAny_mono (q₂ s₂ va vb r₂ (v₁.mono m₂) v₂) (fun v s₃ zz => zz.use fun c σ₃ r₃ v₃ m₃ q₃ => ⟨c, σ₃, r₃, v₃, (m₁.trans m₂).trans m₃, q₃⟩) fun ux ux e => e.mono (m₁.trans m₂)
theorem op_add {a b : Int} (h : Q (.int (a + b)) σ) : WOp2 prog w cx (binaryOp .Add) (.int a) (.int b) σ Q E := by
 rintro s _ _ r ⟨t, rfl⟩ ⟨u, rfl⟩; exact PyProof.Rows.add_int (here r vr_int h)
theorem op_sub {a b : Int} (h : Q (.int (a - b)) σ) : WOp2 prog w cx (binaryOp .Sub) (.int a) (.int b) σ Q E := by
 rintro s _ _ r ⟨t, rfl⟩ ⟨u, rfl⟩; exact PyProof.Rows.sub_int (here r vr_int h)
theorem op_mul {a b : Int} (hm : IntMulOk a b) (h : Q (.int (a * b)) σ) : WOp2 prog w cx (binaryOp .Mult) (.int a) (.int b) σ Q E := by
 rintro s _ _ r ⟨t, rfl⟩ ⟨u, rfl⟩; exact PyProof.Rows.mul_int (here r vr_int h) hm
theorem op_mod {a b : Int} (hb : 0 < b) (h : Q (.int (a % b)) σ) : WOp2 prog w cx (binaryOp .Mod) (.int a) (.int b) σ Q E := by
 rintro s _ _ r ⟨t, rfl⟩ ⟨u, rfl⟩
 refine PyProof.Rows.mod_int (by lia) (here (b := AV.int _) r vr_int ?_)
 rw [Int.fmod_eq_emod_of_nonneg _ (by lia)]; exact h
theorem op_div (ok : Ok prog K cx sc n) {a b : Int} (hb : 0 < b) (h : Q (.int (a / b)) σ) : WOp2 prog w cx (binaryOp .FloorDiv) (.int a) (.int b) σ Q E := by
 rintro s _ _ r ⟨t, rfl⟩ ⟨u, rfl⟩
 refine PyProof.Rows.floordiv_int (by lia) (here (b := AV.int _) r vr_int ?_) (.inr (PylongRoom.of (ok.glo.nolimit.keeps r.stay) (by have := ok.depth; unfold Builtin.pylongFrames; lia)
  (SeerAt.of (ok.glo.seer.keeps r.stay) ok.glo.tree ok.fr ok.fgen ok.fco ok.fbi ok.fglob)))
 rw [Int.fdiv_eq_ediv_of_nonneg _ (by lia)]; exact h
theorem op_pow {a : Int} {k : Int} (hn : 0 ≤ k) (hsz : (Builtin.Int.intBits a : Int) * k ≤ 2 ^ 27) (h : Q (.int (a ^ k.toNat)) σ) : WOp2 prog w cx (binaryOp .Pow) (.int a) (.int k) σ Q E := by
 rintro s _ _ r ⟨t, rfl⟩ ⟨u, rfl⟩; exact PyProof.Rows.pow_int hn hsz (here r vr_int h)
theorem ev_cmp {l rr : Expr} {op : CmpOp} (h : WEv prog w cx l σ (fun a σ₁ => WEv prog w cx rr σ₁ (fun b σ₂ => WOp2 prog w cx (compareOp op) a b σ₂ Q E) E) E) (hm : behindInMarks op rr = false := by with_unfolding_all rfl) :
  WEv prog w cx (.Compare l [op] [rr] pos) σ Q E := fun s r => by
 refine wpAny_Compare1 (wpAny_mono (h s r) (fun va s₁ zz => zz.use fun a σ₁ r₁ v₁ m₁ q₁ => wpAny_mono (q₁ s₁ r₁) (fun vb s₂ zz => zz.use fun b σ₂ r₂ v₂ m₂ q₂ => ?_) fun ux ux e => e.mono m₁) fun ux ux e => e) hm
 refine wpAny_mono (q₂ s₂ va vb r₂ (v₁.mono m₂) v₂) (fun v s₃ zz => zz.use fun c σ₃ r₃ v₃ m₃ q₃ => ⟨c, σ₃, r₃, v₃, (m₁.trans m₂).trans m₃, q₃⟩) fun ux ux e => e.mono (m₁.trans m₂)
theorem tr_cmp {l rr : Expr} {op : CmpOp} (h : WEv prog w cx l σ (fun a σ₁ => WEv prog w cx rr σ₁ (fun b σ₂ => WOp2 prog w cx (compareOp op) a b σ₂ (fun v σ₃ => ∃ c, v = .bool c ∧ QB c σ₃) E) E) E) (hm : behindInMarks op rr = false := by with_unfolding_all rfl) :
  WTr prog w cx (.Compare l [op] [rr] pos) σ QB E := fun s r => by
 refine wpAny_isTrue_Compare1 (wpAny_mono (h s r) (fun va s₁ zz => zz.use fun a σ₁ r₁ v₁ m₁ q₁ => wpAny_mono (q₁ s₁ r₁) (fun vb s₂ zz => zz.use fun b σ₂ r₂ v₂ m₂ q₂ => ?_) fun ux ux e => e.mono m₁) fun ux ux e => e) hm
 refine wpAny_mono (q₂ s₂ va vb r₂ (v₁.mono m₂) v₂) (fun v s₃ zz => zz.use fun c σ₃ r₃ v₃ m₃ zz => ?_) fun ux ux e => e.mono (m₁.trans m₂)
 obtain ⟨d, hc, q₃⟩ := zz
 subst hc
 rw [show v = .bool d from v₃]
 exact wpAny_truthy_bool ⟨d, σ₃, r₃, rfl, (m₁.trans m₂).trans m₃, q₃⟩
theorem cmp_lt {a b : Int} (h : Q (.bool (decide (a < b))) σ) : WOp2 prog w cx (compareOp .Lt) (.int a) (.int b) σ Q E := by
 rintro s _ _ r ⟨t, rfl⟩ ⟨u, rfl⟩; exact PyProof.Rows.lt_int (here0 r vr_bool h)
theorem cmp_gt {a b : Int} (h : Q (.bool (decide (b < a))) σ) : WOp2 prog w cx (compareOp .Gt) (.int a) (.int b) σ Q E := by
 rintro s _ _ r ⟨t, rfl⟩ ⟨u, rfl⟩; exact PyProof.Rows.gt_int (here0 r vr_bool h)
theorem cmp_le {a b : Int} (h : Q (.bool (decide (a ≤ b))) σ) : WOp2 prog w cx (compareOp .LtE) (.int a) (.int b) σ Q E := by
 rintro s _ _ r ⟨t, rfl⟩ ⟨u, rfl⟩; exact PyProof.Rows.le_int (here0 r vr_bool h)
theorem cmp_eq {a b : Int} (h : Q (.bool (a == b)) σ) : WOp2 prog w cx (compareOp .Eq) (.int a) (.int b) σ Q E := by
 rintro s _ _ r ⟨t, rfl⟩ ⟨u, rfl⟩; exact PyProof.Rows.eq_int (here0 r vr_bool h)
theorem cmp_ne {a b : Int} (h : Q (.bool (a != b)) σ) : WOp2 prog w cx (compareOp .NotEq) (.int a) (.int b) σ Q E := by
 rintro s _ _ r ⟨t, rfl⟩ ⟨u, rfl⟩; exact PyProof.Rows.ne_int (here0 r vr_bool h)
theorem tr_not {e : Expr} (h : WTr prog w cx e σ (fun c σ₁ => QB (!c) σ₁) E) : WTr prog w cx (.UnaryOp .Not e pos) σ QB E := fun s r =>
 isTrue_not (wpAny_mono (h s r) (fun c s₁ zz => zz.use fun c' σ₁ r₁ v₁ m₁ q₁ => ⟨!c', σ₁, r₁, by rw [show c' = c from v₁]; rfl, m₁, q₁⟩) fun ux ux e => e)
theorem wtr_and {s : Shared} {x : Expr} {rest : List Expr} {pos : Pos} {whole : Sem Value} (r : R prog w cx σ s)
  (h : WTr prog w cx x σ (fun c σ₁ => if c then ∀ s₁, R prog w cx σ₁ s₁ → wpAny (model prog w) cx.A (isTrue (.BoolOp .And rest pos) cx.env whole) (PostR prog w BR cx s₁ QB) (PostE prog w cx s₁ E) s₁ else QB false σ₁) E) :
  wpAny (model prog w) cx.A (isTrue (.BoolOp .And (x :: rest) pos) cx.env whole) (PostR prog w BR cx s QB) (PostE prog w cx s E) s := by
 refine isTrue_and (wpAny_mono (h s r) (fun c s₁ zz => zz.use fun c' σ₁ r₁ v₁ m₁ q₁ => ?_) fun ux ux e => e)
 have hc : c' = c := v₁
 subst hc
 cases c' with
 | true =>
  rw [if_pos rfl] at q₁ ⊢
  exact wpAny_mono (q₁ s₁ r₁) (fun v s₂ zz => zz.use fun d σ₂ r₂ v₂ m₂ q₂ => ⟨d, σ₂, r₂, v₂, m₁.trans m₂, q₂⟩) fun ux ux e => e.mono m₁
 | false => exact ⟨false, σ₁, r₁, rfl, m₁, q₁⟩
theorem wtr_or {s : Shared} {x : Expr} {rest : List Expr} {pos : Pos} {whole : Sem Value} (r : R prog w cx σ s)
  (h : WTr prog w cx x σ (fun c σ₁ => if c then QB true σ₁ else ∀ s₁, R prog w cx σ₁ s₁ → wpAny (model prog w) cx.A (isTrue (.BoolOp .Or rest pos) cx.env whole) (PostR prog w BR cx s₁ QB) (PostE prog w cx s₁ E) s₁) E) :
  wpAny (model prog w) cx.A (isTrue (.BoolOp .Or (x :: rest) pos) cx.env whole) (PostR prog w BR cx s QB) (PostE prog w cx s E) s := by
 refine isTrue_or (wpAny_mono (h s r) (fun c s₁ zz => zz.use fun c' σ₁ r₁ v₁ m₁ q₁ => ?_) fun ux ux e => e)
 have hc : c' = c := v₁
 subst hc
 cases c' with
 | false =>
  simp only [Bool.false_eq_true, if_false] at q₁ ⊢
  exact wpAny_mono (q₁ s₁ r₁) (fun v s₂ zz => zz.use fun d σ₂ r₂ v₂ m₂ q₂ => ⟨d, σ₂, r₂, v₂, m₁.trans m₂, q₂⟩) fun ux ux e => e.mono m₁
 | true => exact ⟨true, σ₁, r₁, rfl, m₁, q₁⟩
theorem tr_val {e : Expr} (h : WEv prog w cx e σ (fun v σ₁ => ∃ c, v = .bool c ∧ QB c σ₁) E) (he : isTrue e cx.env (eval e cx.env) = (do let v ← eval e cx.env; standAt e.pos; holding [v] (truthy v)) := by rfl) : WTr prog w cx e σ QB E := fun s r => by
 refine isTrue_plain (wpAny_mono (h s r) (fun v s₁ zz => zz.use fun c σ₁ r₁ v₁ m₁ zz => ?_) fun ux ux e => e) he
 obtain ⟨d, hc, q₁⟩ := zz
 subst hc
 rw [show v = .bool d from v₁]
 exact wpAny_truthy_bool ⟨d, σ₁, r₁, rfl, m₁, q₁⟩
end
section
variable {prog : Program} {w : World} {K : Frag} {cx : CX} {sc : Scope} {n : Nat} {σ : AS} {Q : AV → AS → Prop} {QB : Bool → AS → Prop} {QF : AF → AS → Prop} {E : Value → AS → Prop} {pos : Pos}
theorem PostR.mono {α β : Type} {rel : Heap → β → α → Prop} {s s₁ s' : Shared} {Q : β → AS → Prop} {v : α} (vm : VM s.heap s₁.heap) (h : PostR prog w rel cx s₁ Q v s') : PostR prog w rel cx s Q v s' :=
 let ⟨b, σ', a, c, d, e⟩ := h; ⟨b, σ', a, c, vm.trans d, e⟩
theorem PostR.imp {α β : Type} {rel : Heap → β → α → Prop} {s s' : Shared} {Q Q' : β → AS → Prop} {v : α} (hq : ∀ b σ, Q b σ → Q' b σ) (h : PostR prog w rel cx s Q v s') : PostR prog w rel cx s Q' v s' :=
 let ⟨b, σ', a, c, d, e⟩ := h; ⟨b, σ', a, c, d, hq b σ' e⟩
theorem PostE.imp {s s' : Shared} {E E' : Value → AS → Prop} {v : Value} (hq : ∀ b σ, E b σ → E' b σ) (h : PostE prog w cx s E v s') : PostE prog w cx s E' v s' :=
 let ⟨e, C, σ', s₀, L, a, b, c, d, f, g, i⟩ := h; ⟨e, C, σ', s₀, L, a, b, c, d, f, g, hq C σ' i⟩
theorem Wp.imp {α β : Type} {rel : Heap → β → α → Prop} {t : Sem α} {Q Q' : β → AS → Prop} {E E' : Value → AS → Prop} (h : Wp prog w rel cx t σ Q E) (hq : ∀ b σ, Q b σ → Q' b σ) (he : ∀ b σ, E b σ → E' b σ) : Wp prog w rel cx t σ Q' E' :=
 fun s r => wpAny_mono (h s r) (fun ux ux p => p.imp hq) fun ux ux p => p.imp he
theorem exs_nil (h : QF .next σ) : WExs prog w cx [] σ QF E := fun s r => wpAny_execs_nil (here0 (rel := FR) (b := AF.next) r rfl h)
theorem exs_cons {st : Stmt} {rest : List Stmt} (h : WEx prog w cx st σ (fun f σ₁ => match f with | .next => WExs prog w cx rest σ₁ QF E | f => QF f σ₁) E) : WExs prog w cx (st :: rest) σ QF E := fun s r => by
 refine wpAny_execs_cons (wpAny_mono (h s r) (fun f s₁ zz => zz.use fun a σ₁ r₁ v₁ m₁ q₁ => ?_) fun ux ux e => e)
 cases a with
 | next =>
  rw [show f = .next from v₁]
  exact wpAny_mono (q₁ s₁ r₁) (fun ux ux p => p.mono m₁) fun ux ux e => e.mono m₁
 | brk => rw [show f = .brk from v₁]; exact ⟨.brk, σ₁, r₁, rfl, m₁, q₁⟩
 | cont => rw [show f = .cont from v₁]; exact ⟨.cont, σ₁, r₁, rfl, m₁, q₁⟩
 | ret a =>
  obtain ⟨v, rfl, hv⟩ := v₁
  exact ⟨.ret a, σ₁, r₁, ⟨v, rfl, hv⟩, m₁, q₁⟩
theorem ex_if {test : Expr} {body orelse : List Stmt} (h : WTr prog w cx test σ (fun c σ₁ => if c then WExs prog w cx body σ₁ QF E else WExs prog w cx orelse σ₁ QF E) E) : WEx prog w cx (.If test body orelse pos) σ QF E := fun s r => by
 refine wpAny_If (wpAny_mono (h s r) (fun c s₁ zz => zz.use fun c' σ₁ r₁ v₁ m₁ q₁ => ?_) fun ux ux e => e)
 have hc : c' = c := v₁
 subst hc
 cases c' with
 | true => exact wpAny_mono (q₁ s₁ r₁) (fun ux ux p => p.mono m₁) fun ux ux e => e.mono m₁
 | false => exact wpAny_mono (q₁ s₁ r₁) (fun ux ux p => p.mono m₁) fun ux ux e => e.mono m₁
theorem ex_ret {e : Expr} (h : WEv prog w cx e σ (fun a σ₁ => QF (.ret a) σ₁) E) : WEx prog w cx (.Return (some e) pos) σ QF E := fun s r =>
 wpAny_Return_some (wpAny_mono (h s r) (fun v s₁ zz => zz.use fun a σ₁ r₁ v₁ m₁ q₁ => ⟨.ret a, σ₁, r₁, ⟨v, rfl, v₁⟩, m₁, q₁⟩) fun ux ux e => e)
theorem st_name (ok : Ok prog K cx sc n) {x : Str} {a : AV} {Q : Unit → AS → Prop} (hx : sc.names.lookup x = some .local) (h : Q () (σ.set x a)) : WSt prog w cx (storeName cx.env x) a σ Q E := fun s va r hv => by
 have hk : cx.env.kindOf x = some .local := by unfold Env.kindOf; rw [ok.scope]; exact hx
 obtain ⟨m, hn⟩ := r.ns
 refine wpAny_storeName_local hk hn (fun h' hn' hs => ?_) (by rw [ok.scope, ok.kind]; rfl)
 obtain ⟨r', vm⟩ := r.storeL (tk := s.toks + 1) hk hn hv hn' hs
 exact ⟨(), _, r', trivial, vm, h⟩
theorem ex_assign (ok : Ok prog K cx sc n) {x : Str} {value : Expr} {pos' : Pos} (h : WEv prog w cx value σ (fun a σ₁ => QF .next (σ₁.set x a)) E) (hx : sc.names.lookup x = some .local)
  (hs : swapsWith value (some (.Name x pos')) pos.line cx.env = pure false) : WEx prog w cx (.Assign [.Name x pos'] value pos) σ QF E := fun s r => by
 refine wpAny_Assign_Name (wpAny_mono (h s r) (fun v s₁ zz => zz.use fun a σ₁ r₁ v₁ m₁ q₁ => ?_) fun ux ux e => e) hs
 refine wpAny_mono (st_name (Q := fun ux σ' => QF .next σ') ok hx q₁ s₁ v r₁ v₁) (fun ux s₂ zz => zz.use fun ux σ₂ r₂ ux m₂ q₂ => ⟨.next, σ₂, r₂, rfl, m₁.trans m₂, q₂⟩) fun ux ux e => e.mono m₁
end
section
variable {prog : Program} {w : World} {K : Frag} {cx : CX} {sc : Scope} {n : Nat} {σ : AS} {E : Value → AS → Prop}
theorem mem_frame {a : Addr} {l : List Env} (h : a ∈ l.filterMap (·.frame)) : ∃ e ∈ l, e.frame = some a := by
 obtain ⟨e, he, hf⟩ := List.mem_filterMap.mp h; exact ⟨e, he, hf⟩
theorem R.slots {s₀ : Shared} {h' : Heap} {tk : Nat} (r : R prog w cx σ s₀) (k : (hideAll s₀.heap cx.frames).StaysIn h') (u : s₀.heap.UpToSlots h') : R prog w cx σ { s₀ with heap := h', toks := tk } := by
 have keep : ∀ b o, b ∉ cx.frames → s₀.heap.get? b = some o → h'.get? b = some o := fun b o n e => k b o (hideAll_get _ e n)
 have vm := VM.of_slots u
 have offBase : ∀ b o, cx.base.get? b = some o → b ∉ cx.frames := fun b o e hm => by
  have := (r.ff.mem hm).1; rw [this] at e; cases e
 refine ⟨fun b o e => keep b o (offBase b o e) (r.stay b o e), ?_, ?_, fun x v e => ?_, fun b o e => ?_, fun b m e => ?_, fun a ao e => ?_, r.own, fun x c e => ?_, r.oth, r.gens, r.drawn, r.os⟩
 ·exact r.ff.of_keeps fun b o e hn => let ⟨sl, e'⟩ := u b o e hn; ⟨_, e', rfl⟩
 ·obtain ⟨m, hm⟩ := r.ns; exact ⟨m, u.ns hm⟩
 ·obtain ⟨y, l, b⟩ := r.loc x v e
  refine ⟨y, ?_, b.mono vm⟩
  unfold LocAt at l ⊢
  split at l
  ·obtain ⟨m, a1, a2⟩ := l; exact ⟨m, u.ns a1, a2⟩
  ·obtain ⟨c, o, a1, a2, a3⟩ := l
   exact ⟨c, o, a1, keep c o (fun hm => by obtain ⟨en, he, hf⟩ := mem_frame hm; exact (r.cel x c a1).2.2 en he hf) a2, a3⟩
  ·obtain ⟨c, o, a1, a2, a3⟩ := l
   exact ⟨c, o, a1, keep c o (fun hm => by obtain ⟨en, he, hf⟩ := mem_frame hm; exact (r.cel x c a1).2.2 en he hf) a2, a3⟩
  ·exact l
 ·obtain ⟨e', f⟩ := r.pr b o e
  exact ⟨keep b _ f e', f⟩
 ·obtain ⟨e', f⟩ := r.pn b m e
  exact ⟨u.ns e', f⟩
 ·obtain ⟨p, q1, q2, q3, q4⟩ := r.ob a ao e
  exact ⟨p.at vm fun o e' => keep a o (fun hm => by obtain ⟨en, he, hf⟩ := mem_frame hm; exact q4 en he hf) e', q1, q2, q3, q4⟩
 ·obtain ⟨p, ⟨o, v, q1, q2⟩, q3⟩ := r.cel x c e
  exact ⟨p, ⟨o, v, keep c o (fun hm => by obtain ⟨en, he, hf⟩ := mem_frame hm; exact q3 en he hf) q1, q2⟩, q3⟩
theorem upToSlots_of {h h' : Heap} (k : ∀ b o, h.get? b = some o → (∀ vs, o.data ≠ .fields vs) → ∃ sl, h'.get? b = some { o with slots := sl }) : h.UpToSlots h' := k
theorem note_x {M : Model} {s : Shared} {h₀ : Heap} {L e : Addr} {C : Value} {E' : Value → Shared → Prop} {Q : Unit → Shared → Prop} (hfr : cx.A.frames = some (cx.fenv :: cx.outer)) (hfe : cx.env = cx.fenv) (x : XC cx h₀ s.heap L e) (es : ExSt (hideAll h₀ cx.frames) L e C s.heap)
  (hq : ∀ h' a0, XC cx h₀ h' L e → h'.TracedAtW (hideAll h₀ cx.frames) e C a0 (rawInt L) → Q () { s with heap := h' }) : wpAny M cx.A (noteFrame (.ref e) cx.env) Q E' s := by
 rw [hfe]
 rcases es with ⟨oe, vs, a0, he, hC, hd, h1, h0⟩ | ⟨a0, ht⟩ | ⟨a0, ht⟩
 ·unfold noteFrame
  simp only [x.fr]
  refine wpAny_bind (wpAny_field he hd h1 ?_)
  rw [if_neg (by decide)]
  subst hC
  exact wpAny_entryW hfr x.ff x.fr he x.st x.new hd (Array.getElem?_eq_some_iff.mp h1).1 h0 fun h' ⟨x1, x2, x3, x4⟩ => hq h' a0 ⟨x.fr, x1, x.new, x2, x.up.trans (upToSlots_of x4)⟩ x3
 ·exact wpAny_noteFrame_onW hfr x.ff x.fr ht x.st x.new fun h' ⟨x1, x2, x3, x4⟩ => hq h' a0 ⟨x.fr, x1, x.new, x2, x.up.trans (upToSlots_of x4)⟩ x3
 ·exact wpAny_noteFrame_againW x.fr ht (hq s.heap a0 x ht)
theorem back_x {M : Model} {s : Shared} {h₀ : Heap} {L e : Addr} {C a0 : Value} {E' : Value → Shared → Prop} (hfe : cx.env = cx.fenv) (x : XC cx h₀ s.heap L e) (ht : s.heap.TracedAtW (hideAll h₀ cx.frames) e C a0 (rawInt L))
  (hq : ∀ h', XC cx h₀ h' L e → h'.TracedAtW (hideAll h₀ cx.frames) e C a0 (rawInt L) → E' (.ref e) { s with heap := h' }) : cameBackBy M cx.A cx.env E' (.ref e) s := by
 unfold cameBackBy
 rw [hfe]
 obtain ⟨oe, vs, T, oT, ts, he, hcls, hd, h1, hnT, hTe, hT, hdT, h3⟩ := ht
 have hsz3 : 3 < ts.size := (Array.getElem?_eq_some_iff.mp h3).1
 refine wpAny_bind (wpAny_field he hd h1 ?_)
 rw [if_neg (show ¬ ((Value.ref T == Value.none) = true) from by simp)]
 unfold setFlight
 refine wpAny_bind (wpAny_field he hd h1 ?_)
 rw [if_pos (show (Value.ref T != Value.none) = true from by simp)]
 rw [x.fr]
 have other : ∀ b, b ≠ T → (s.heap.update T (Obj.mapFields (·.setIfInBounds 3 ((some L : Option Addr).elim Value.none fun f => rawInt f)))).get? b = s.heap.get? b := fun b hb => Heap.get?_update_other _ _ (Ne.symm hb)
 have noRecord : ∀ b o, s.heap.get? b = some o → (∀ vs, o.data ≠ .fields vs) → b ≠ T := fun b o hb hnf q => by
  rw [q, hT] at hb; injection hb with hb; subst hb; exact hnf ts hdT
 refine wpAny_setField hT hdT hsz3 (hq _ ⟨x.fr, fun b o hbo => (other b fun q => by rw [q, hnT] at hbo; cases hbo).trans (x.st b o hbo), x.new,
  x.ff.of_keeps fun b o hb hnf => ⟨o, (other b (noRecord b o hb hnf)).trans hb, rfl⟩, x.up.trans fun b o hb hnf => ⟨o.slots, (other b (noRecord b o hb hnf)).trans hb⟩⟩ ?_)
 exact ⟨oe, vs, T, _, _, (other e (Ne.symm hTe)).trans he, hcls, hd, h1, hnT, hTe, Heap.get?_update_self _ hT (Obj.isFreed_of_fields (Obj.data_mapFields hdT _)), Obj.data_mapFields hdT _, by simp [hsz3]⟩
theorem passes {s s₁ : Shared} (hfr : cx.A.frames = some (cx.fenv :: cx.outer)) (hfe : cx.env = cx.fenv) (vm : VM s.heap s₁.heap) {v : Value} {s' : Shared} (h : PostE prog w cx s₁ E v s') :
  notedBy (model prog w) cx.A cx.env (fun e s'' => cameBackBy (model prog w) cx.A cx.env (PostE prog w cx s E) e s'') v s' := by
 obtain ⟨e, C, σ', s₀, L, rfl, r, hs, x, es, m, he⟩ := h
 unfold notedBy
 refine note_x hfr hfe x es fun h' a0 x' ht => ?_
 refine back_x hfe x' ht fun h'' x'' ht' => ?_
 exact ⟨e, C, σ', s₀, L, rfl, r, by rw [hs], x'', .inr (.inr ⟨a0, ht'⟩), vm.trans m, he⟩
end
section
variable {prog : Program} {w : World} {K : Frag} {cx : CX} {sc : Scope} {n : Nat} {σ : AS} {Q : AV → AS → Prop} {QB : Bool → AS → Prop} {QF : AF → AS → Prop} {E : Value → AS → Prop} {pos : Pos}
noncomputable def CX.withP (cx : CX) (P' : Addr → Obj → Prop) : CX := { cx with P := P' }
theorem Ok.withP (ok : Ok prog K cx sc n) (P' : Addr → Obj → Prop) : Ok prog K (cx.withP P') sc n := ⟨ok.1, ok.2, ok.3, ok.4, ok.5, ok.6, ok.7, ok.8, ok.9, ok.10, ok.11, ok.12, ok.13, ok.14, ok.15, ok.16, ok.17⟩
theorem R.lessP {P' : Addr → Obj → Prop} {s : Shared} (hP : ∀ b o, cx.P b o → P' b o) (r : R prog w (cx.withP P') σ s) : R prog w cx σ s :=
 ⟨r.stay, r.ff, r.ns, r.loc, fun b o e => r.pr b o (hP b o e), r.pn, fun a ao e => let ⟨p, q1, q2, q3⟩ := r.ob a ao e; ⟨p, q1, fun o e' => q2 o (hP a o e'), q3⟩,
  fun a e => let ⟨q1, q2, q3⟩ := r.own a e; ⟨q1, fun o e' => q2 o (hP a o e'), q3⟩, r.cel, r.oth, r.gens, r.drawn, r.os⟩
theorem PostE.lessP {P' : Addr → Obj → Prop} {s s' : Shared} {v : Value} (hP : ∀ b o, cx.P b o → P' b o) (h : PostE prog w (cx.withP P') s E v s') : PostE prog w cx s E v s' :=
 let ⟨e, C, σ', s₀, L, a, b, c, d, f, g, i⟩ := h; ⟨e, C, σ', s₀, L, a, b.lessP hP, c, ⟨d.1, d.2, d.3, d.4, d.5⟩, f, g, i⟩
structure Off (cx : CX) (σ : AS) (I : Addr) : Prop where
 base : cx.base.get? I = none
 P : ∀ o, ¬ cx.P I o
 hp : ∀ ao, σ.hp I ≠ some ao
 own : ¬ cx.own I
 fr : I ∉ cx.frames
theorem Off.new {s : Shared} {I : Addr} (r : R prog w cx σ s) (hn : s.heap.get? I = none) : Off cx σ I := by
 have fresh : ∀ b o, s.heap.get? b = some o → b ≠ I := fun b o e q => by subst q; rw [hn] at e; cases e
 refine ⟨?_, fun o e => fresh _ _ (r.pr I o e).1 rfl, fun ao e => ?_, fun hb => ?_, fun hm => ?_⟩
 ·cases q : cx.base.get? I with
  | none => rfl
  | some o => exact absurd rfl (fresh _ _ (r.stay I o q))
 ·obtain ⟨o, ho, _⟩ := (r.ob I ao e).1.there
  exact fresh _ _ ho rfl
 ·rcases hb with q | ⟨x, q⟩
  ·obtain ⟨m, o, es, ep, e1, _⟩ := r.ns
   exact fresh _ _ e1 q.symm
  ·obtain ⟨_, ⟨o, v, c1, _⟩, _⟩ := r.cel x I q
   exact fresh _ _ c1 rfl
 ·obtain ⟨_, o, h1, _⟩ := r.ff.mem hm
  exact fresh _ _ h1 rfl
theorem R.off {s : Shared} {h' : Heap} {tk : Nat} {I : Addr} {o₀ : Obj} (r : R prog w cx σ s) (f : Off cx σ I) (h0 : s.heap.get? I = some o₀) (n0 : ∀ xs n, o₀.data ≠ .seq xs n) (keep : ∀ b o, b ≠ I → s.heap.get? b = some o → h'.get? b = some o) :
  R prog w cx σ { s with heap := h', toks := tk } ∧ VM s.heap h' := by
 have vm : VM s.heap h' := fun b o xs n e ux d => ⟨o.slots, keep b o (fun q => by subst q; rw [h0] at e; cases e; exact n0 _ _ d) e⟩
 have ownNe : ∀ b, cx.own b → b ≠ I := fun b hb q => by subst q; exact f.own hb
 have frNe : ∀ b, b ∈ cx.frames → b ≠ I := fun b hb q => by subst q; exact f.fr hb
 refine ⟨⟨fun b o e => ?_, ?_, ?_, fun x v e => ?_, fun b o e => ?_, fun b m e => ?_, fun b bo e => ?_, r.own, fun x c e => ?_, r.oth, r.gens, r.drawn, r.os⟩, vm⟩
 ·exact keep b o (fun q => by subst q; rw [f.base] at e; cases e) (r.stay b o e)
 ·have : ∀ l, (∀ e ∈ l, ∀ a, e.frame = some a → a ≠ I) → s.heap.FunFrames cx.base l → h'.FunFrames cx.base l := by
   intro l
   induction l with
   | nil => exact fun ux ux => trivial
   | cons e l ih =>
    rintro hne ⟨hk, ⟨L, o, hf, hn, ho, hd⟩, hr⟩
    exact ⟨hk, ⟨L, o, hf, hn, keep L o (hne e (.head _) L hf) ho, hd⟩, ih (fun e he => hne e (.tail _ he)) hr⟩
  exact this _ (fun e he a ha => frNe a (List.mem_filterMap.mpr ⟨e, he, ha⟩)) r.ff
 ·obtain ⟨m, o, es, ep, e1, e2⟩ := r.ns
  exact ⟨m, o, es, ep, keep _ o (ownNe _ (.inl rfl)) e1, e2⟩
 ·obtain ⟨u, l, b⟩ := r.loc x v e
  refine ⟨u, ?_, b.mono vm⟩
  unfold LocAt at l ⊢
  split at l
  ·obtain ⟨m, ⟨o, es, ep, e1, e2⟩, a2⟩ := l
   exact ⟨m, ⟨o, es, ep, keep _ o (ownNe _ (.inl rfl)) e1, e2⟩, a2⟩
  ·obtain ⟨c, o, a1, a2, a3⟩ := l
   exact ⟨c, o, a1, keep c o (ownNe c (.inr ⟨x, a1⟩)) a2, a3⟩
  ·obtain ⟨c, o, a1, a2, a3⟩ := l
   exact ⟨c, o, a1, keep c o (ownNe c (.inr ⟨x, a1⟩)) a2, a3⟩
  ·exact l
 ·obtain ⟨e', g⟩ := r.pr b o e
  exact ⟨keep b _ (fun q => by subst q; exact f.P o e) e', g⟩
 ·obtain ⟨⟨o, es, ep, e1, e2⟩, g⟩ := r.pn b m e
  exact ⟨⟨o, es, ep, keep b o (frNe b g) e1, e2⟩, g⟩
 ·obtain ⟨p', q'⟩ := r.ob b bo e
  exact ⟨p'.at vm fun o e' => keep b o (fun q => by subst q; exact f.hp _ e) e', q'⟩
 ·obtain ⟨p', ⟨o, v, c1, c2⟩, c3⟩ := r.cel x c e
  exact ⟨p', ⟨o, v, keep c o (ownNe c (.inr ⟨x, e⟩)) c1, c2⟩, c3⟩
theorem R.guard {s : Shared} {I : Addr} {o : Obj} (r : R prog w cx σ s) (f : Off cx σ I) (h0 : s.heap.get? I = some o) : R prog w (cx.withP fun b x => cx.P b x ∨ (b = I ∧ x = o)) σ s :=
 ⟨r.stay, r.ff, r.ns, r.loc, fun b x e => e.elim (r.pr b x) (fun ⟨p, q⟩ => by subst p; subst q; exact ⟨h0, f.fr⟩), r.pn,
  fun a ao e => let ⟨p, q1, q2, q3⟩ := r.ob a ao e; ⟨p, q1, fun x e' => e'.elim (q2 x) fun ⟨p', _⟩ => by subst p'; exact f.hp _ e, q3⟩,
  fun a e => let ⟨q1, q2, q3⟩ := r.own a e; ⟨q1, fun x e' => e'.elim (q2 x) fun ⟨p', _⟩ => by subst p'; exact f.own e, q3⟩, r.cel, r.oth, r.gens, r.drawn, r.os⟩
theorem Off.of_guard {s : Shared} {I : Addr} {o : Obj} {σ σ' : AS} (f : Off cx σ I) (r : R prog w (cx.withP fun b x => cx.P b x ∨ (b = I ∧ x = o)) σ' s) : Off cx σ' I :=
 ⟨f.base, f.P, fun ao e => (r.ob I ao e).2.2.1 o (.inr ⟨rfl, rfl⟩), f.own, f.fr⟩
theorem ex_while (ok : Ok prog K cx sc n) (hfe : cx.env = cx.fenv) {test : Expr} {body : List Stmt} (J : Nat → AS → Prop) (k₀ : Nat) (h0 : J k₀ σ)
  (turn : ∀ k σ₁, J k σ₁ → WTr prog w cx test σ₁ (fun c σ₂ => if c then WExs prog w cx body σ₂ (fun f σ₃ => match f with | .next | .cont => ∃ m, m < k ∧ J m σ₃ | .brk => QF .next σ₃ | .ret v => QF (.ret v) σ₃) E else QF .next σ₂) E) :
  WEx prog w cx (.While test body [] pos) σ QF E := fun s r => by
 refine wpAny_While (codeAny_whileLoop (I := fun k s' => ∃ σ', R prog w cx σ' s' ∧ VM s.heap s'.heap ∧ J k σ') ?_ k₀ ⟨σ, r, VM.refl _, h0⟩)
 rintro k s₁ ⟨σ₁, r₁, m₁, hj⟩
 refine wpAny_mono (turn k σ₁ hj s₁ r₁) (fun c s₂ zz => zz.use fun c' σ₂ r₂ v₂ m₂ q₂ => ?_) fun e s' p => passes ok.fr hfe m₁ p
 have hc : c' = c := v₂
 subst hc
 cases c' with
 | false => exact wpAny_execs_nil ⟨.next, σ₂, r₂, rfl, m₁.trans m₂, q₂⟩
 | true =>
  refine wpAny_mono (q₂ s₂ r₂) (fun f s₃ zz => zz.use fun a σ₃ r₃ v₃ m₃ q₃ => ?_) fun e s' p => passes ok.fr hfe (m₁.trans m₂) p
  have mm := (m₁.trans m₂).trans m₃
  cases a with
  | next => rw [show f = .next from v₃]; obtain ⟨m, hm, hj'⟩ := q₃; exact ⟨m, hm, σ₃, r₃, mm, hj'⟩
  | cont => rw [show f = .cont from v₃]; obtain ⟨m, hm, hj'⟩ := q₃; exact ⟨m, hm, σ₃, r₃, mm, hj'⟩
  | brk => rw [show f = .brk from v₃]; exact ⟨.next, σ₃, r₃, rfl, mm, q₃⟩
  | ret a => obtain ⟨v, rfl, hv⟩ := v₃; exact ⟨.ret a, σ₃, r₃, ⟨v, rfl, hv⟩, mm, q₃⟩
noncomputable def Turn (J : AS → Prop) (QF : AF → AS → Prop) (f : AF) (σ : AS) : Prop := match f with | .next | .cont => J σ | .brk => QF .next σ | .ret v => QF (.ret v) σ
theorem listIter_data {h : Heap} {I l : Addr} {i : Nat} (x : h.IsListIter I l i) : ∃ o, h.get? I = some o ∧ (∀ xs n, o.data ≠ .seq xs n) ∧ ∀ h' : Heap, h'.get? I = some o → h'.IsListIter I l i := by
 obtain ⟨o, a, b, c⟩ := x
 exact ⟨o, a, by intro xs n; rw [c]; simp, fun h' e => ⟨o, e, b, c⟩⟩
theorem rangeSize_nonneg (a b c : Int) (hc : c ≠ 0) : 0 ≤ Builtin.Range.rangeSize a b c := by
 unfold Builtin.Range.rangeSize
 split
 ·split
  ·have : 0 ≤ (b - a - 1) / c := Int.ediv_nonneg (by omega) (by omega)
   omega
  ·omega
 ·split
  ·have : 0 ≤ (a - b - 1) / (-c) := Int.ediv_nonneg (by omega) (by omega)
   omega
  ·omega
noncomputable def AS.lst (σ : AS) (a : Addr) (l : List AV) : Prop := σ.hp a = some (.list l) ∨ σ.hp a = some (.ro l)
theorem R.lst {s : Shared} {a : Addr} {l : List AV} (r : R prog w cx σ s) (h : σ.lst a l) : ∃ vs, s.heap.IsList a (List.toArray vs) ∧ VRs s.heap l vs := by
 rcases h with h | h
 ·obtain ⟨⟨vs, p, q⟩, _⟩ := r.ob _ _ h
  exact ⟨vs, p.isList, q⟩
 ·obtain ⟨⟨vs, p, q⟩, _⟩ := r.ob _ _ h
  exact ⟨vs, p, q⟩
structure Src (prog : Program) (w : World) (cx : CX) (I : Addr) (l : List AV) (T : AS → Prop) (It : Nat → Heap → Prop) : Prop where
 data : ∀ i h, It i h → ∃ o, h.get? I = some o ∧ (∀ xs n, o.data ≠ .seq xs n) ∧ ∀ h' : Heap, h'.get? I = some o → It i h'
 item : ∀ i s σ a (Q : Option Value → Shared → Prop) (E : Value → Shared → Prop), l[i]? = some a → R prog w cx σ s → T σ → It i s.heap →
  (∀ v h' tk, VR s.heap a v → It (i + 1) h' → (∀ b o, b ≠ I → s.heap.get? b = some o → h'.get? b = some o) → Q (some v) { s with heap := h', toks := tk }) → wpAny (model prog w) cx.A (pyNext (.ref I)) Q E s
 done : ∀ s σ (Q : Option Value → Shared → Prop) (E : Value → Shared → Prop), R prog w cx σ s → T σ → It l.length s.heap →
  (∀ h' tk, (∀ b o, b ≠ I → s.heap.get? b = some o → h'.get? b = some o) → Q none { s with heap := h', toks := tk }) → wpAny (model prog w) cx.A (pyNext (.ref I)) Q E s
 self : ∀ i s (Q : Value → Shared → Prop) (E : Value → Shared → Prop), It i s.heap → Q (.ref I) s → wpAny (model prog w) cx.A (pyIter (.ref I)) Q E s
theorem src_list (hh : cx.A.handled = none) (I ax : Addr) (l : List AV) : Src prog w cx I l (fun σ => σ.lst ax l) (fun i h => h.IsListIter I ax i) where
 data := fun i h it => listIter_data it
 item := fun i s σ a Q E ha r hT it hQ => by
  obtain ⟨vs, hl, hv⟩ := r.lst hT
  obtain ⟨v, hvi, hva⟩ := hv.get ha
  exact wpAny_pyNext_list_item it hl (x := v) (by simpa using hvi) fun h' it' hs' => hQ v h' s.toks hva it' fun b o hb e => (hs'.2 b hb).trans e
 done := fun s σ Q E r hT it hQ => by
  obtain ⟨vs, hl, hv⟩ := r.lst hT
  exact wpAny_pyNext_list_end hh it hl (by simp [hv.length]) fun h' he' => hQ h' s.toks fun b o hb e => he' b o hb e
 self := fun i s Q E it hQ => wpAny_pyIter_listiter it hQ
theorem src_range (hh : cx.A.handled = none) (I : Addr) (a c : Int) (N : Nat) : Src prog w cx I ((List.range N).map fun i : Nat => AV.int (a + i * c)) (fun ux => True) (fun i h => IsRangeIter h I (a + (i : Nat) * c) ((N : Int) - (i : Nat)) c) where
 data := fun i h it => ⟨_, it, by intro xs n; simp, fun h' e => e⟩
 item := fun i s σ x Q E ha r hT it hQ => by
  have hi : i < N := by
   rw [List.getElem?_map] at ha
   cases q : (List.range N)[i]? with
   | none => rw [q] at ha; cases ha
   | some j => have := (List.getElem?_eq_some_iff.mp q).1; simpa using this
  have hx : x = .int (a + i * c) := by
   rw [List.getElem?_map, List.getElem?_range hi] at ha
   simpa using ha.symm
  subst hx
  refine (Walks.range (prog := prog) (w := w) hh I a c N).item i s Q E hi it fun v h' tk hv it' hs' => ?_
  obtain ⟨tv, rfl⟩ := hv
  exact hQ _ h' tk vr_int it' fun b o hb e => hs' b o (by simpa using hb) e
 done := fun s σ Q E r hT it hQ => by
  rw [List.length_map, List.length_range] at it
  exact (Walks.range (prog := prog) (w := w) hh I a c N).done s Q E it fun h' tk he' => hQ h' tk fun b o hb e => he' b o (by simpa using hb) e
 self := fun i s Q E it hQ => (Walks.range (prog := prog) (w := w) hh I a c N).self i s Q E it hQ
inductive Iter (σ : AS) (J : AS → Prop) : AV → List AV → Prop
 | list {x l} : σ.lst x l → (∀ σ', J σ' → σ'.lst x l) → Iter σ J (.ref x) l
 | range {x a b c} : σ.hp x = some (.range a b c) → c ≠ 0 → Builtin.Range.small a b c = true → Iter σ J (.ref x) ((List.range (Builtin.Range.rangeSize a b c).toNat).map fun i : Nat => AV.int (a + i * c))
theorem pyIter_src (hh : cx.A.handled = none) {s : Shared} {v : Value} {a : AV} {l : List AV} {E' : Value → Shared → Prop} (r : R prog w cx σ s) {J : AS → Prop} (hi : Iter σ J a l) (hv : VR s.heap a v) :
  wpAny (model prog w) cx.A (pyIter v) (fun it s₂ => ∃ I T It, it = .ref I ∧ R prog w cx σ s₂ ∧ VM s.heap s₂.heap ∧ Src prog w cx I l T It ∧ (∀ σ', J σ' → T σ') ∧ It 0 s₂.heap ∧ Off cx σ I) E' s := by
 have hnone : s.heap.get? s.heap.objs.size = none := by
  cases q : s.heap.get? s.heap.objs.size with
  | none => rfl
  | some o => exact absurd (Heap.lt_size q) (Nat.lt_irrefl _)
 cases hi with
 | @list ax l hl hJ =>
  rw [show v = .ref ax from hv]
  obtain ⟨vs, hl', hv'⟩ := r.lst hl
  refine wpAny_pyIter_list hl' ?_
  have k : ∀ b o, s.heap.get? b = some o → (s.heap.push { cls := .type "list_iterator", data := .fields #[.ref ax, .int 0 0] }).get? b = some o := fun b o e => Heap.get?_push_of_some _ e
  exact ⟨_, _, _, rfl, r.grow (tk := s.toks) k, VM.of_keeps k, src_list hh _ ax l, hJ, ⟨_, Heap.get?_push_size _ rfl, rfl, rfl⟩, Off.new r hnone⟩
 | @range ax x y c hr hc0 hsm =>
  rw [show v = .ref ax from hv]
  obtain ⟨⟨t, u, v', hR⟩, _⟩ := r.ob ax _ hr
  refine wpAny_pyIter_range hR hsm ?_
  obtain ⟨N, hN⟩ : ∃ N : Nat, Builtin.Range.rangeSize x y c = N := ⟨(Builtin.Range.rangeSize x y c).toNat, by rw [Int.toNat_of_nonneg (rangeSize_nonneg x y c hc0)]⟩
  rw [hN, Int.toNat_natCast]
  have k : ∀ b o, s.heap.get? b = some o → (s.heap.push { cls := .type "range_iterator", data := .fields #[rawInt x, rawInt N, rawInt c] }).get? b = some o := fun b o e => Heap.get?_push_of_some _ e
  have it0 : IsRangeIter (s.heap.push { cls := .type "range_iterator", data := .fields #[rawInt x, rawInt N, rawInt c] }) s.heap.objs.size x N c := Heap.get?_push_size _ rfl
  exact ⟨_, _, _, rfl, r.grow (tk := s.toks) k, VM.of_keeps k, src_range hh _ x c N, fun ux ux => trivial, by simpa using it0, Off.new r hnone⟩
noncomputable def MkIter (prog : Program) (w : World) (cx : CX) (tgt : Expr) (σ : AS) (J : AS → Prop) (a : AV) (l : List AV) : Prop := ∀ (s : Shared) (v : Value) (E' : Value → Shared → Prop), R prog w cx σ s → VR s.heap a v →
  wpAny (model prog w) cx.A (pyIter v) (fun it s₂ => ∃ I T It, it = .ref I ∧ R prog w cx σ s₂ ∧ VM s.heap s₂.heap ∧ Src prog w cx I l T It ∧ (∀ σ', J σ' → T σ') ∧ It 0 s₂.heap ∧ Off cx σ I ∧
   ∀ (i : Nat) (a : AV) (s : Shared) (v : Value) (Q : Unit → Shared → Prop) (E : Value → Shared → Prop), l[i]? = some a → VR s.heap a v → It (i + 1) s.heap → Q () s → wpAny (model prog w) cx.A (letOwnedTupleGo tgt (.ref I) v) Q E s) E' s
inductive ForG (prog : Program) (w : World) (cx : CX) (tgt : Expr) (upd : AV → AS → AS) (body : List Stmt) (QF : AF → AS → Prop) (E : Value → AS → Prop) (v : AV) (σ₁ : AS) : Prop
 | mk (l : List AV) (J : Nat → AS → Prop) (hi : MkIter prog w cx tgt σ₁ (fun σ => ∃ i, J i σ) v l) (st : ∀ (i : Nat) (P' : Addr → Obj → Prop) (a : AV) (σ : AS) (Q : Unit → AS → Prop), l[i]? = some a → Q () (upd a σ) → WSt prog w (cx.withP P') (assign tgt cx.env) a σ Q E) (j0 : J 0 σ₁) (turn : ∀ i a σ P', l[i]? = some a → J i σ → (∀ b o, cx.P b o → P' b o) → WExs prog w (cx.withP P') body (upd a σ) (Turn (J (i + 1)) QF) E) (fin : ∀ σ, J l.length σ → QF .next σ) : ForG prog w cx tgt upd body QF E v σ₁
theorem ex_forG (ok : Ok prog K cx sc n) (hfe : cx.env = cx.fenv) {tgt : Expr} {upd : AV → AS → AS} {iter : Expr} {body : List Stmt}
  (h : WEv prog w cx iter σ (ForG prog w cx tgt upd body QF E) E) (hs : ∀ v, foldedSetIterable iter cx.env v = pure v) : WEx prog w cx (.For tgt iter body [] pos) σ QF E := fun s r => by
 refine wpAny_For (wpAny_mono (h s r) (fun v s₁ zz => ?_) fun ux ux e => e) hs
 obtain ⟨a, σ₁, r₁, v₁, m₁, l, J, hi, st, j0, turn, fin⟩ := zz
 refine wpAny_mono (hi _ _ _ r₁ v₁) (fun it s₂ zz => ?_) fun ux ux e => e
 obtain ⟨I, T, It, e, r₂, m₂, S, hT, it0, off, go⟩ := zz
 subst e
 refine codeAny_forLoop_any (I := fun k s' => ∃ i σ', k + i = l.length + 1 ∧ i ≤ l.length ∧ R prog w cx σ' s' ∧ VM s.heap s'.heap ∧ J i σ' ∧ Off cx σ' I ∧ It i s'.heap) ?_ (l.length + 1) ⟨0, σ₁, by omega, by omega, r₂, m₁.trans m₂, j0, off, it0⟩
 rintro k s₃ ⟨i, σ₃, hk, hil, r₃, m₃, j₃, off₃, it₃⟩
 obtain ⟨o₀, ho₀, nd₀, _⟩ := S.data _ _ it₃
 by_cases hi : i < l.length
 ·refine S.item i s₃ σ₃ l[i] _ _ (by simp [hi]) r₃ (hT _ ⟨i, j₃⟩) it₃ fun v h' tk hv it' hk' => ?_
  obtain ⟨r₄, m₄⟩ := r₃.off (h' := h') (tk := tk) off₃ ho₀ nd₀ hk'
  obtain ⟨o₁, ho₁, nd₁, back⟩ := S.data _ _ it'
  have hP : ∀ b o, cx.P b o → (fun b x => cx.P b x ∨ (b = I ∧ x = o₁)) b o := fun b o e => .inl e
  have g₄ := r₄.guard off₃ ho₁
  refine go i l[i] _ v _ _ (by simp [hi]) (hv.mono m₄) it' ?_
  refine wpAny_mono (st i (fun b x => cx.P b x ∨ (b = I ∧ x = o₁)) l[i] σ₃ (fun ux σ' => σ' = upd l[i] σ₃) (by simp [hi]) rfl _ v g₄ (hv.mono m₄)) (fun ux s₅ zz => zz.use fun _ σ₅ r₅ _ m₅ q₅ => ?_) fun e s' p => passes ok.fr hfe (m₃.trans m₄) (p.lessP hP)
  subst q₅
  have m₅' := (m₃.trans m₄).trans m₅
  refine wpAny_mono (turn i l[i] σ₃ _ (by simp [hi]) j₃ hP s₅ r₅) (fun f s₆ zz => zz.use fun fa σ₆ r₆ v₆ m₆ q₆ => ?_) fun e s' p => passes ok.fr hfe m₅' (p.lessP hP)
  have mm := m₅'.trans m₆
  have again : J (i + 1) σ₆ → ∃ m, m < k ∧ ∃ i σ', m + i = l.length + 1 ∧ i ≤ l.length ∧ R prog w cx σ' s₆ ∧ VM s.heap s₆.heap ∧ J i σ' ∧ Off cx σ' I ∧ It i s₆.heap := fun hj =>
   ⟨k - 1, by omega, i + 1, σ₆, by omega, by omega, r₆.lessP hP, mm, hj, off₃.of_guard r₆, back _ (r₆.pr I o₁ (.inr ⟨rfl, rfl⟩)).1⟩
  cases fa with
  | next => rw [show f = .next from v₆]; exact again q₆
  | cont => rw [show f = .cont from v₆]; exact again q₆
  | brk => rw [show f = .brk from v₆]; exact ⟨.next, σ₆, r₆.lessP hP, rfl, mm, q₆⟩
  | ret a => obtain ⟨v, rfl, hv⟩ := v₆; exact ⟨.ret a, σ₆, r₆.lessP hP, ⟨v, rfl, hv⟩, mm, q₆⟩
 ·have : i = l.length := by omega
  subst this
  refine S.done s₃ σ₃ _ _ r₃ (hT _ ⟨_, j₃⟩) it₃ fun h' tk he' => ?_
  obtain ⟨r₄, m₄⟩ := r₃.off (h' := h') (tk := tk) off₃ ho₀ nd₀ he'
  exact wpAny_execs_nil ⟨.next, σ₃, r₄, rfl, m₃.trans m₄, fin σ₃ j₃⟩
inductive ForI (prog : Program) (w : World) (cx : CX) (x : Str) (body : List Stmt) (QF : AF → AS → Prop) (E : Value → AS → Prop) (v : AV) (σ₁ : AS) : Prop
 | mk (l : List AV) (J : Nat → AS → Prop) (hi : Iter σ₁ (fun σ => ∃ i, J i σ) v l) (j0 : J 0 σ₁) (turn : ∀ i a σ P', l[i]? = some a → J i σ → (∀ b o, cx.P b o → P' b o) → WExs prog w (cx.withP P') body (σ.set x a) (Turn (J (i + 1)) QF) E) (fin : ∀ σ, J l.length σ → QF .next σ) : ForI prog w cx x body QF E v σ₁
theorem ex_forS (ok : Ok prog K cx sc n) (hfe : cx.env = cx.fenv) (hh : cx.A.handled = none) {x : Str} {px : Pos} {iter : Expr} {body : List Stmt} (st : ∀ (P' : Addr → Obj → Prop) (a : AV) (σ : AS) (Q : Unit → AS → Prop), Q () (σ.set x a) → WSt prog w (cx.withP P') (storeName cx.env x) a σ Q E)
  (h : WEv prog w cx iter σ (ForI prog w cx x body QF E) E) (hs : ∀ v, foldedSetIterable iter cx.env v = pure v) : WEx prog w cx (.For (.Name x px) iter body [] pos) σ QF E :=
 ex_forG ok hfe (upd := fun a σ => σ.set x a) (h.imp (fun v σ₁ z => by
  obtain ⟨l, J, hi, j0, turn, fin⟩ := z
  exact ⟨l, J, fun s v E' r hv => wpAny_mono (pyIter_src hh r hi hv) (fun it s₂ ⟨I, T, It, e, r₂, m₂, S, hT, it0, off⟩ => ⟨I, T, It, e, r₂, m₂, S, hT, it0, off, fun i a s v Q E ux ux ux hq => wpAny_of_eq (a := ()) rfl hq⟩) fun ux ux e => e, fun i P' a σ Q ha hq s v r hv => wpAny_assign_Name (st P' a σ Q hq s v r hv), j0, turn, fin⟩) fun ux ux e => e) hs
theorem ex_for (ok : Ok prog K cx sc n) (hfe : cx.env = cx.fenv) (hh : cx.A.handled = none) {x : Str} {px : Pos} {iter : Expr} {body : List Stmt} (hx : sc.names.lookup x = some .local)
  (h : WEv prog w cx iter σ (ForI prog w cx x body QF E) E) (hs : ∀ v, foldedSetIterable iter cx.env v = pure v) : WEx prog w cx (.For (.Name x px) iter body [] pos) σ QF E :=
 ex_forS ok hfe hh (fun P' a σ Q q => st_name (cx := cx.withP P') (ok.withP P') hx q) h hs
theorem leaves_x {M : Model} {s : Shared} {h₀ : Heap} {L e : Addr} {C : Value} {E' : Value → Shared → Prop} {Q : Unit → Shared → Prop} (hfr : cx.A.frames = some (cx.fenv :: cx.outer)) (x : XC cx h₀ s.heap L e) (es : ExSt (hideAll h₀ cx.frames) L e C s.heap)
  (hq : ∀ h' a0, XC cx h₀ h' L e → h'.TracedW (hideAll h₀ cx.frames) e C a0 → Q () { s with heap := h' }) : wpAny M cx.A (leaving cx.fenv (.ref e)) Q E' s := by
 rcases es with ⟨oe, vs, a0, he, hC, hd, h1, h0⟩ | ⟨a0, ht⟩ | ⟨a0, ht⟩
 ·subst hC
  exact wpAny_leaving_firstW hfr x.ff x.fr he x.st x.new hd h1 h0 fun h' ⟨x1, x2, x3, x4⟩ => hq h' a0 ⟨x.fr, x1, x.new, x2, x.up.trans (upToSlots_of x4)⟩ x3
 ·exact wpAny_leaving_nextW hfr x.ff x.fr ht x.st x.new fun h' ⟨x1, x2, x3, x4⟩ => hq h' a0 ⟨x.fr, x1, x.new, x2, x.up.trans (upToSlots_of x4)⟩ x3
 ·unfold leaving
  refine wpAny_bind (wpAny_noteFrame_againW x.fr ht ?_)
  refine wpAny_setFlight_noneW x.st x.ff ht fun h' k1 k2 k3 k4 => hq h' a0 ⟨x.fr, k1, x.new, k2, x.up.trans fun b o hb hn => ⟨o.slots, k4 b o hb hn⟩⟩ k3
theorem cellsFrom_some : ∀ (names : List (Str × NameKind)) (k : Nat) (acc : List (Str × Addr)) (x : Str), (acc.lookup x).isSome = true ∨ names.lookup x = some .cell → ((cellsFrom k names acc).lookup x).isSome = true
 | [], k, acc, x, h => by
  unfold cellsFrom
  rcases h with h | h
  ·exact h
  ·cases h
 | (y, kd) :: r, k, acc, x, h => by
  unfold cellsFrom
  split
  ·rename_i hk
   refine cellsFrom_some r _ _ x ?_
   rcases h with h | h
   ·left
    rw [List.lookup_cons]
    split
    ·rfl
    ·exact h
   ·rw [List.lookup_cons] at h
    split at h
    ·rename_i q; left; rw [List.lookup_cons, q]; rfl
    ·exact .inr h
  ·rename_i hk
   refine cellsFrom_some r _ _ x ?_
   rcases h with h | h
   ·exact .inl h
   ·rw [List.lookup_cons] at h
    split at h
    ·cases h; exact absurd rfl hk
    ·exact .inr h
theorem cellsFrom_mem : ∀ (names : List (Str × NameKind)) (k : Nat) (acc : List (Str × Addr)) (p : Str × Addr), p ∈ cellsFrom k names acc → p ∈ acc ∨ (p.1, NameKind.cell) ∈ names
 | [], k, acc, p, h => by
  unfold cellsFrom at h
  exact .inl h
 | (y, kd) :: r, k, acc, p, h => by
  unfold cellsFrom at h
  split at h
  ·rename_i hk
   rcases cellsFrom_mem r _ _ p h with q | q
   ·rcases List.mem_cons.mp q with q | q
    ·subst q; right
     rw [show kd = .cell by simpa using hk]
     exact .head _
    ·exact .inl q
   ·exact .inr (.tail _ q)
  ·rcases cellsFrom_mem r _ _ p h with q | q
   ·exact .inl q
   ·exact .inr (.tail _ q)
theorem bindL_other {ko : Str → Option NameKind} : ∀ (b : List (Str × Value)) (m : Str → Option Value) (x : Str), x ∉ b.map (·.1) → bindL ko b m x = m x
 | [], m, x, _ => rfl
 | (y, v) :: r, m, x, h => by
  unfold bindL
  rw [bindL_other r _ x fun q => h (.tail _ q)]
  split
  ·show (if x = y then some v else m x) = m x
   exact if_neg fun q => h (by rw [q]; exact .head _)
  ·rfl
theorem bindC_other {ko : Str → Option NameKind} : ∀ (b : List (Str × Value)) (m : Str → Option Value) (x : Str), x ∉ b.map (·.1) → bindC ko b m x = m x
 | [], m, x, _ => rfl
 | (y, v) :: r, m, x, h => by
  unfold bindC
  rw [bindC_other r _ x fun q => h (.tail _ q)]
  split
  ·rfl
  ·show (if x = y then some v else m x) = m x
   exact if_neg fun q => h (by rw [q]; exact .head _)
theorem bindL_at {ko : Str → Option NameKind} (b : List (Str × Value)) (m : Str → Option Value) (x : Str) (v : Value) (hn : (b.map (·.1)).Nodup) (hm : (x, v) ∈ b) (hk : ko x = some .local) : bindL ko b m x = some v := by
 induction b generalizing m with
 | nil => cases hm
 | cons p r ih =>
  unfold bindL
  rw [List.map_cons, List.nodup_cons] at hn
  rcases List.mem_cons.mp hm with e | hm
  ·subst e
   rw [bindL_other _ _ _ hn.1, if_pos hk, if_pos rfl]
  ·exact ih _ hn.2 hm
theorem bindC_at {ko : Str → Option NameKind} (b : List (Str × Value)) (m : Str → Option Value) (x : Str) (v : Value) (hn : (b.map (·.1)).Nodup) (hm : (x, v) ∈ b) (hk : ko x ≠ some .local) : bindC ko b m x = some v := by
 induction b generalizing m with
 | nil => cases hm
 | cons p r ih =>
  unfold bindC
  rw [List.map_cons, List.nodup_cons] at hn
  rcases List.mem_cons.mp hm with e | hm
  ·subst e
   rw [bindC_other _ _ _ hn.1, if_neg hk, if_pos rfl]
  ·exact ih _ hn.2 hm
theorem zip_get {h : Heap} : ∀ {ps : List Str} {l : List AV} {vs : List Value} {x : Str} {a : AV}, VRs h l vs → (ps.zip l).lookup x = some a → ∃ v, (x, v) ∈ ps.zip vs ∧ VR h a v
 | [], _, _, _, _, _, e => by simp at e
 | p :: ps, [], _, _, _, _, e => by simp at e
 | p :: ps, b :: l, _, x, a, ⟨v, r, rfl, q1, q2⟩, e => by
  rw [List.zip_cons_cons, List.lookup_cons] at e
  split at e
  ·rename_i q; cases e; rw [beq_iff_eq.mp q]; exact ⟨v, .head _, q1⟩
  ·obtain ⟨u, h1, h2⟩ := zip_get q2 e
   exact ⟨u, .tail _ h1, h2⟩
structure Fn (K : Frag) (f : Addr) (sc : Scope) (body : List Stmt) (ps : List Str) : Prop where
 ex : ∃ oc od osl name qual params dV kV doc pm an cdv ct, K.lookup f = some ⟨oc, od, .func (fnOf name qual params body sc dV kV doc pm an cdv ct), osl⟩ ∧ codeIn K cdv qual = true ∧ keepIn K (.ref f) = true ∧
  ∀ vs : List Value, vs.length = ps.length → bindArgs (fnOf name qual params body sc dV kV doc pm an cdv ct) ⟨vs, []⟩ = pure (ps.zip vs)
 nd : ps.Nodup
 kind : sc.kind = .function
 gen : sc.isGenerator = false
 co : sc.isCoroutine = false
 ks : ∀ x ∈ ps, sc.names.lookup x = some .local ∨ sc.names.lookup x = some .cell
 cu : ∀ p ∈ sc.names, p.2 = .cell → sc.names.lookup p.1 = some .cell
noncomputable def CX.callee (cx : CX) (env' : Env) (h : Heap) : CX where
 A := cx.A.deeper env'
 env := env'
 fenv := env'
 outer := cx.fenv :: cx.outer
 base := cx.base
 P := fun b o => cx.P b o ∨ (cx.own b ∧ b ∉ cx.frames ∧ h.get? b = some o)
 N := fun b m => cx.N b m ∨ (b = cx.env.locals ∧ b ∈ cx.frames ∧ h.Ns b m)
 gens := cx.gens
 drawn := cx.drawn
 os := cx.os
noncomputable def AS.enter (σ : AS) (ps : List Str) (l : List AV) : AS := ⟨fun x => (ps.zip l).lookup x, σ.hp⟩
theorem R.enter {s s₁ : Shared} {sc' : Scope} {fd : FuncData} {f : Addr} {ps : List Str} {l : List AV} {vs : List Value} (r : R prog w cx σ s) (hl : VRs s.heap l vs) (hlen : ps.length = l.length) (nd : ps.Nodup) (hsc : fd.scope.kind = .function)
  (hk : ∀ x ∈ ps, fd.scope.names.lookup x = some .local ∨ fd.scope.names.lookup x = some .cell)
  (x : InCallC s (callEnvC fd s.heap.objs.size f).locals (bindL (callEnvC fd s.heap.objs.size f).kindOf (ps.zip vs) fun ux => none) (callEnvC fd s.heap.objs.size f).cells (bindC (callEnvC fd s.heap.objs.size f).kindOf (ps.zip vs) fun ux => none) s₁) :
  R prog w (cx.callee (callEnvC fd s.heap.objs.size f) s.heap) (σ.enter ps l) s₁ := by
 have L0 : (callEnvC fd s.heap.objs.size f).locals = s.heap.objs.size := rfl
 have fr0 : (callEnvC fd s.heap.objs.size f).frame = some s.heap.objs.size := rfl
 have keep := x.toInCall.keep
 have old : ∀ (b : Nat) o, s.heap.get? b = some o → b < s.heap.objs.size := fun b o e => Heap.lt_size e
 have hnb : ∀ b : Nat, s.heap.objs.size ≤ b → cx.base.get? b = none := fun b hb => by
  cases q : cx.base.get? b with
  | none => rfl
  | some o => have := old _ _ (r.stay b o q); lia
 have frOld : ∀ b : Nat, b ∈ cx.frames → b < s.heap.objs.size := fun b hb => by obtain ⟨_, o, h1, _⟩ := r.ff.mem hb; exact old _ _ h1
 have above : ∀ y (c : Nat), (callEnvC fd s.heap.objs.size f).cells.lookup y = some c → s.heap.objs.size < c := fun y c e => x.above y c (mem_of_lookup e)
 have own' : ∀ a : Nat, (cx.callee (callEnvC fd s.heap.objs.size f) s.heap).own a → s.heap.objs.size ≤ a := by
  rintro a (e | ⟨y, e⟩)
  ·rw [show a = s.heap.objs.size from e]; exact Nat.le_refl _
  ·exact Nat.le_of_lt (above y a e)
 have vm : VM s.heap s₁.heap := VM.of_keeps keep
 have names : (ps.zip vs).map (·.1) = ps := by
  rw [List.map_fst_zip]
  rw [hl.length]; lia
 have nd' : ((ps.zip vs).map (·.1)).Nodup := by rw [names]; exact nd
 obtain ⟨h₁, tk, hs₁⟩ := x.toInCall.same
 have ffk : s₁.heap.FunFrames cx.base (cx.fenv :: cx.outer) := r.ff.of_keeps fun b o e ux => ⟨o, keep b o e, rfl⟩
 refine ⟨fun b o e => keep b o (r.stay b o e), ?_, ⟨_, x.toInCall.ns⟩, fun y a e => ?_, fun b o e => ?_, fun b m e => ?_, fun a ao e => ?_, fun a e => ?_, fun y c e => ?_, fun e he hf => ?_, by rw [hs₁]; exact r.gens, by rw [hs₁]; exact r.drawn, by rw [hs₁]; exact r.os⟩
 ·obtain ⟨o, h1, h2⟩ := nofields_ns x.toInCall.ns
  refine ⟨?_, ⟨s.heap.objs.size, o, fr0, hnb _ (Nat.le_refl _), h1, h2⟩, ffk⟩
  show fd.scope.kind ≠ .module
  rw [hsc]; decide
 ·obtain ⟨v, hm, hv⟩ := zip_get hl e
  refine ⟨v, ?_, hv.mono vm⟩
  have hy : y ∈ ps := by rw [← names]; exact List.mem_map.mpr ⟨_, hm, rfl⟩
  unfold LocAt
  rcases hk y hy with q | q
  ·have hko : (callEnvC fd s.heap.objs.size f).kindOf y = some .local := q
   show match (callEnvC fd s.heap.objs.size f).kindOf y with | some .local => _ | some .cell => _ | some .free => _ | _ => False
   rw [hko]
   exact ⟨_, x.toInCall.ns, bindL_at _ _ _ _ nd' hm hko⟩
  ·have hko : (callEnvC fd s.heap.objs.size f).kindOf y = some .cell := q
   show match (callEnvC fd s.heap.objs.size f).kindOf y with | some .local => _ | some .cell => _ | some .free => _ | _ => False
   rw [hko]
   obtain ⟨c, hc⟩ := Option.isSome_iff_exists.mp (cellsFrom_some fd.scope.names (s.heap.objs.size + 1) [] y (.inr q))
   obtain ⟨o, h1, h2⟩ := x.cell y c hc
   exact ⟨c, o, hc, h1, by rw [h2, bindC_at _ _ _ _ nd' hm (by rw [hko]; decide)]⟩
 ·have : s.heap.get? b = some o ∧ b ∉ cx.frames := e.elim (fun e => r.pr b o e) fun ⟨_, q, q'⟩ => ⟨q', q⟩
  refine ⟨keep b o this.1, fun hm => ?_⟩
  rcases List.mem_cons.mp (show b ∈ s.heap.objs.size :: cx.frames from hm) with q | q
  ·have lt := old _ _ this.1; rw [q] at lt; exact absurd lt (Nat.lt_irrefl _)
  ·exact this.2 q
 ·have : s.heap.Ns b m ∧ b ∈ cx.frames := e.elim (fun e => r.pn b m e) fun ⟨_, q, q'⟩ => ⟨q', q⟩
  exact ⟨this.1.keeps keep, List.mem_cons_of_mem _ this.2⟩
 ·obtain ⟨p, q1, q2, q3, q4⟩ := r.ob a ao e
  obtain ⟨o, ho, _⟩ := p.there
  have lt := old _ _ ho
  refine ⟨p.at vm fun o => keep a o, q1, fun o e' => e'.elim (q2 o) fun ⟨q, _⟩ => q3 q, fun q => by have := own' a q; lia, fun e he hf => ?_⟩
  rcases List.mem_cons.mp he with q | q
  ·subst q; injection (fr0.symm.trans hf) with hf; rw [← hf] at lt; exact absurd lt (Nat.lt_irrefl _)
  ·exact q4 e q hf
 ·have := own' a e
  refine ⟨hnb a this, fun o e' => ?_, fun m e' => ?_⟩
  ·have : s.heap.get? a = some o := e'.elim (fun e => (r.pr a o e).1) fun ⟨_, _, q'⟩ => q'
   have := old _ _ this; lia
  ·have : s.heap.Ns a m := e'.elim (fun e => (r.pn a m e).1) fun ⟨_, _, q'⟩ => q'
   obtain ⟨o, h1, _⟩ := nofields_ns this
   have := old _ _ h1; lia
 ·have lt := above y c e
  refine ⟨fun q => ?_, ?_, fun e he hf => ?_⟩
  ·rw [show c = s.heap.objs.size from q] at lt; exact absurd lt (Nat.lt_irrefl _)
  ·obtain ⟨o, h1, h2⟩ := x.cell y c e
   exact ⟨o, _, h1, h2⟩
  ·rcases List.mem_cons.mp he with q | q
   ·subst q; injection (fr0.symm.trans hf) with hf; rw [← hf] at lt; exact absurd lt (Nat.lt_irrefl _)
   ·have := frOld c (List.mem_filterMap.mpr ⟨e, q, hf⟩); lia
 ·have := frOld s.heap.objs.size (List.mem_filterMap.mpr ⟨e, he, hf⟩); lia
theorem R.leave {s s₂ : Shared} {env' : Env} {σ₂ : AS} (r : R prog w cx σ s) (r₂ : R prog w (cx.callee env' s.heap) σ₂ s₂) (vm : VM s.heap s₂.heap) : R prog w cx ⟨σ.loc, σ₂.hp⟩ s₂ := by
 have ownIn : ∀ a o, cx.own a → s.heap.get? a = some o → a ∉ cx.frames → s₂.heap.get? a = some o := fun a o h1 h2 h3 => (r₂.pr a o (.inr ⟨h1, h3, h2⟩)).1
 have nsIn : ∀ m, s.heap.Ns cx.env.locals m → s₂.heap.Ns cx.env.locals m := fun m hm => by
  by_cases hf : cx.env.locals ∈ cx.frames
  ·exact (r₂.pn _ m (.inr ⟨rfl, hf, hm⟩)).1
  ·obtain ⟨o, es, ep, h1, h2⟩ := hm
   exact ⟨o, es, ep, ownIn _ _ (.inl rfl) h1 hf, h2⟩
 have cellIn : ∀ x c o, cx.env.cells.lookup x = some c → s.heap.get? c = some o → s₂.heap.get? c = some o := fun x c o h1 h2 =>
  ownIn c o (.inr ⟨x, h1⟩) h2 fun hm => by obtain ⟨e, he, hf⟩ := mem_frame hm; exact (r.cel x c h1).2.2 e he hf
 refine ⟨r₂.stay, r₂.ff.2.2, ?_, fun x v e => ?_, fun b o e => ?_, fun b m e => ?_, fun a ao e => ?_, r.own, fun x c e => ?_, r.oth, r₂.gens, r₂.drawn, r₂.os⟩
 ·obtain ⟨m, hm⟩ := r.ns; exact ⟨m, nsIn m hm⟩
 ·obtain ⟨u, l, b⟩ := r.loc x v e
  refine ⟨u, ?_, b.mono vm⟩
  unfold LocAt at l ⊢
  split at l
  ·obtain ⟨m, a1, a2⟩ := l; exact ⟨m, nsIn m a1, a2⟩
  ·obtain ⟨c, o, a1, a2, a3⟩ := l; exact ⟨c, o, a1, cellIn x c o a1 a2, a3⟩
  ·obtain ⟨c, o, a1, a2, a3⟩ := l; exact ⟨c, o, a1, cellIn x c o a1 a2, a3⟩
  ·exact l
 ·exact ⟨(r₂.pr b o (.inl e)).1, (r.pr b o e).2⟩
 ·exact ⟨(r₂.pn b m (.inl e)).1, (r.pn b m e).2⟩
 ·obtain ⟨p, q1, q2, q3, q4⟩ := r₂.ob a ao e
  refine ⟨p, q1, fun o e' => q2 o (.inl e'), fun hb => ?_, fun e he hf => q4 e (.tail _ he) hf⟩
  by_cases hf : a ∈ cx.frames
  ·obtain ⟨en, he, hf⟩ := mem_frame hf
   exact q4 en (.tail _ he) hf
  ·rcases hb with q | ⟨x, q⟩
   ·obtain ⟨m, hm⟩ := r.ns
    obtain ⟨o, h1, _⟩ := nofields_ns hm
    exact q2 o (.inr ⟨.inl q, hf, by rw [q]; exact h1⟩)
   ·obtain ⟨_, ⟨o, v, c1, _⟩, _⟩ := r.cel x a q
    exact q2 o (.inr ⟨.inr ⟨x, q⟩, hf, c1⟩)
 ·obtain ⟨p, ⟨o, v, c1, c2⟩, c3⟩ := r.cel x c e
  exact ⟨p, ⟨o, v, cellIn x c o e c1, c2⟩, c3⟩
theorem postE_leave {s s₀ s' : Shared} {σ₂ : AS} {env' : Env} {L e : Addr} {h' : Heap} {C a0 : Value} (r : R prog w cx σ s) (hx : ∃ L, cx.fenv.frame = some L) (hf : env'.frame = some L) (hlo : env'.locals = L) (r₂ : R prog w (cx.callee env' s.heap) σ₂ s₀) (vm : VM s.heap s₀.heap)
  (x : XC (cx.callee env' s.heap) s₀.heap h' L e) (t : h'.TracedW (hideAll s₀.heap (cx.callee env' s.heap).frames) e C a0) (hs : s' = { s₀ with heap := h', toks := s'.toks }) (q : E C ⟨σ.loc, σ₂.hp⟩) : PostE prog w cx s E (.ref e) s' := by
 obtain ⟨Lc, hLc⟩ := hx
 have frs : (cx.callee env' s.heap).frames = L :: cx.frames := by
  show ((env' :: cx.fenv :: cx.outer).filterMap (·.frame)) = _
  rw [List.filterMap_cons, hf]
  rfl
 rw [frs] at t
 have x1 := x.st; have x2 := x.new; have x4 := x.ff; have x5 := x.up
 rw [frs] at x1 x2 x4
 have r₃ := r.leave r₂ vm
 have own' : (cx.callee env' s.heap).own L := .inl hlo.symm
 obtain ⟨o1, o2, o3⟩ := r₂.own L own'
 have off : Off cx ⟨σ.loc, σ₂.hp⟩ L := by
  have fr : L ∉ cx.frames := fun hm => by obtain ⟨en, he, hf'⟩ := mem_frame hm; exact r₂.oth en he (by rw [hf']; exact congrArg some hlo.symm)
  refine ⟨o1, fun o e' => o2 o (.inl e'), fun ao e' => (r₂.ob L ao e').2.2.2.1 own', fun hb => ?_, fr⟩
  rcases hb with q | ⟨y, q⟩
  ·obtain ⟨m, hm⟩ := r.ns
   obtain ⟨o, h1, _⟩ := nofields_ns hm
   exact o2 o (.inr ⟨.inl q, fr, by rw [q]; exact h1⟩)
  ·obtain ⟨_, ⟨o, v, c1, _⟩, _⟩ := r.cel y L q
   exact o2 o (.inr ⟨.inr ⟨y, q⟩, fr, c1⟩)
 obtain ⟨m, hm⟩ := r₂.ns
 rw [show (cx.callee env' s.heap).env.locals = L from hlo] at hm
 obtain ⟨o₀, es, ep, g0, g1, g2⟩ := hm
 obtain ⟨sl, gL⟩ := x5 L o₀ g0 (by intro vs q; rw [g1] at q; cases q)
 obtain ⟨h₀', hh₀⟩ : ∃ h₀' : Heap, h₀' = s₀.heap.update L (fun ux => { o₀ with slots := sl }) := ⟨_, rfl⟩
 have gL' : h₀'.get? L = some { o₀ with slots := sl } := by
  rw [hh₀]; exact Heap.get?_update_self _ g0 (Heap.get?_some_iff.mp gL).2
 have gO : ∀ b, b ≠ L → h₀'.get? b = s₀.heap.get? b := fun b hb => by rw [hh₀]; exact Heap.get?_update_other _ _ (Ne.symm hb)
 obtain ⟨r₄, vm₄⟩ := r₃.off (h' := h₀') (tk := s₀.toks) off g0 (by intro xs n q; rw [g1] at q; cases q) fun b o hb e' => (gO b hb).trans e'
 obtain ⟨oe, vs, T, oT, ts, he, hcls, hd, h1, hnT, hTe, hT, hdT, h3⟩ := t
 have eL : e ≠ L := fun q => by subst q; rw [gL] at he; injection he with he; subst he; rw [show ({ o₀ with slots := sl } : Obj).data = _ from g1] at hd; cases hd
 have TL : T ≠ L := fun q => by subst q; rw [gL] at hT; injection hT with hT; subst hT; rw [show ({ o₀ with slots := sl } : Obj).data = _ from g1] at hdT; cases hdT
 have hid : ∀ b o, (hideAll h₀' cx.frames).get? b = some o → h'.get? b = some o := fun b o e' => by
  have e1 := of_hideAll _ e'
  have nf : b ∉ cx.frames := fun hm => by rw [hideAll_none _ hm] at e'; cases e'
  by_cases hb : b = L
  ·subst hb; rw [gL'] at e1; rw [← e1]; exact gL
  ·exact x1 b o (hideAll_get _ ((gO b hb).symm.trans e1) fun hm => by
    rcases List.mem_cons.mp hm with q | q
    ·exact hb q
    ·exact nf q)
 have hidN : ∀ b, b ≠ L → (hideAll s₀.heap (L :: cx.frames)).get? b = none → (hideAll h₀' cx.frames).get? b = none := fun b hb e' => by
  cases q : (hideAll h₀' cx.frames).get? b with
  | none => rfl
  | some o =>
   have e1 := of_hideAll _ q
   have nf : b ∉ cx.frames := fun hm => by rw [hideAll_none _ hm] at q; cases q
   rw [hideAll_get _ ((gO b hb).symm.trans e1) fun hm => by
    rcases List.mem_cons.mp hm with q | q
    ·exact hb q
    ·exact nf q] at e'
   cases e'
 refine ⟨e, C, _, { s₀ with heap := h₀', toks := s₀.toks }, Lc, rfl, r₄, by rw [hs], ?_, .inr (.inl ⟨a0, oe, vs, T, oT, ts, ?_, hcls, hd, h1, hidN T TL hnT, hTe, ?_, hdT, h3⟩), vm.trans vm₄, q⟩
 ·have heq : s'.heap = h' := by rw [hs]
  rw [heq]
  refine ⟨hLc, hid, hidN e eL x2, ?_, fun b o hb hn => ?_⟩
  ·have : ∀ l : List Env, (∀ en ∈ l, ∀ a, en.frame = some a → a ∈ cx.frames) → h'.FunFrames (hideAll s₀.heap (L :: cx.frames)) l → h'.FunFrames (hideAll h₀' cx.frames) l := by
    intro l
    induction l with
    | nil => exact fun ux ux => trivial
    | cons en l ih =>
     rintro hm ⟨hk, ⟨a, o, hf, hn, ho, hd⟩, hr⟩
     exact ⟨hk, ⟨a, o, hf, hideAll_none _ (hm en (.head _) a hf), ho, hd⟩, ih (fun e he => hm e (.tail _ he)) hr⟩
   exact this _ (fun en he a ha => List.mem_filterMap.mpr ⟨en, he, ha⟩) x4.2.2
  ·by_cases hb' : b = L
   ·subst hb'; rw [gL'] at hb; injection hb with hb; subst hb; exact ⟨_, gL⟩
   ·exact x5 b o ((gO b hb').symm.trans hb) hn
 ·rw [hs]; exact he
 ·rw [hs]; exact hT
noncomputable def WCl (prog : Program) (w : World) (cx : CX) (f : Value) (l : List AV) (σ : AS) (Q : AV → AS → Prop) (E : Value → AS → Prop) : Prop :=
 ∀ s vs, R prog w cx σ s → VRs s.heap l vs → wpAny (model prog w) cx.A (call f vs) (PostR prog w VR cx s Q) (PostE prog w cx s E) s
noncomputable def retOf : AF → AV | .ret v => v | _ => .none
noncomputable def WCd (prog : Program) (w : World) (cx : CX) (f : Value) (l : List AV) (σ : AS) (Q : AV → AS → Prop) (E : Value → AS → Prop) : Prop :=
 ∀ s vs, R prog w cx σ s → VRs s.heap l vs → codeAny (model prog w) cx.A (.call f ⟨vs, []⟩) (fun r s' => match r with | .ok (.ret v) => PostR prog w VR cx s Q v s' | .ok _ => False | .error e => PostE prog w cx s E e s') s
theorem WCd.cl {f : Value} {l : List AV} (h : WCd prog w cx f l σ Q E) : WCl prog w cx f l σ Q E := fun s vs r hv => wpAny_call (h s vs r hv)
noncomputable def codeOfFn (K : Frag) (f : Addr) : Option (Value × Str) := match K.lookup f with
 | some ⟨_, _, .func fd, _⟩ => some (fd.code, fd.qualname)
 | _ => none
theorem cd_fnC (ok : Ok prog K cx sc (n + 1)) {f : Addr} {sc' : Scope} {body : List Stmt} {ps : List Str} {l : List AV} (F : Fn K f sc' body ps) (hlen : ps.length = l.length)
  (h : ∀ cx', Ok prog K cx' sc' n → cx'.env = cx'.fenv → cx'.A.handled = cx.A.handled → (∀ v q, codeOfFn K f = some (v, q) → cx'.env.code = v ∧ cx'.env.qual = q ++ ".<locals>.") → WExs prog w cx' body (σ.enter ps l) (fun fl σ₂ => Q (retOf fl) ⟨σ.loc, σ₂.hp⟩) (fun C σ₂ => E C ⟨σ.loc, σ₂.hp⟩)) :
  WCd prog w cx (.ref f) l σ Q E := by
 intro s vs r hv
 obtain ⟨oc, od, osl, name, qual, params, dV, kV, doc, pm, an, cdv, ct, hlk, hcd, _, hb⟩ := F.ex
 have KX := ok.glo.KX
 have X : K.In s.heap := fun a o e => r.stay a o (KX a o e)
 have hvl : vs.length = ps.length := by rw [hv.length, hlen]
 refine codeAny_call_cells (fd := fnOf name qual params body sc' dV kV doc pm an cdv ct) (body := body) (binds := ps.zip vs) (by have := ok.depth; lia) (X _ _ hlk) rfl (ok.glo.nolimit.keeps r.stay) (codeRec_of X hcd) rfl (hb vs hvl) rfl ?_ ?_ F.co F.gen F.kind
 ·intro y hy
  rcases F.ks y.1 ((List.of_mem_zip hy).1) with q | q
  ·exact .inl q
  ·exact .inr ⟨q, cellsFrom_some _ _ _ _ (.inr q)⟩
 ·intro s₁ x
  have r₁ := r.enter (sc' := sc') hv hlen F.nd (fd := fnOf name qual params body sc' dV kV doc pm an cdv ct) F.kind F.ks x
  have ok' : Ok prog K (cx.callee (callEnvC (fnOf name qual params body sc' dV kV doc pm an cdv ct) s.heap.objs.size f) s.heap) sc' n :=
   ⟨ok.glo, by show (cx.A.frames.map _) = _; rw [ok.fr]; rfl, rfl, F.kind, rfl, rfl, rfl, F.gen, F.co, rfl, rfl, F.kind, by have := ok.depth; show cx.A.depth + 1 + 4 * n + 140 < _; lia, by have := ok.units; show cx.A.units + 3 + 16 * n + 200 < _; lia, fun y z c h1 h2 => name_of_addr x.apart (mem_of_lookup h1) (mem_of_lookup h2), fun y c h1 => .inl (by
    rcases cellsFrom_mem _ _ _ _ (mem_of_lookup h1) with q | q
    ·cases q
    ·exact F.cu _ q rfl), fun y h1 => cellsFrom_some _ _ _ _ (.inr h1)⟩
  have vm : VM s.heap s₁.heap := VM.of_keeps x.toInCall.keep
  refine wpAny_mono (h _ ok' rfl rfl (fun v q e => by unfold codeOfFn at e; rw [hlk] at e; cases e; exact ⟨rfl, rfl⟩) s₁ r₁) (fun fl s₂ zz => zz.use fun a σ₂ r₂ v₂ m₂ q₂ => ?_) fun v s₂ he => ?_
  ·have r₃ := r.leave r₂ (vm.trans m₂)
   cases a with
   | next => rw [show fl = .next from v₂]; exact ⟨AV.none, _, r₃, vr_none, vm.trans m₂, q₂⟩
   | brk => rw [show fl = .brk from v₂]; exact ⟨AV.none, _, r₃, vr_none, vm.trans m₂, q₂⟩
   | cont => rw [show fl = .cont from v₂]; exact ⟨AV.none, _, r₃, vr_none, vm.trans m₂, q₂⟩
   | ret a => obtain ⟨v, rfl, hv'⟩ := v₂; exact ⟨_, _, r₃, hv', vm.trans m₂, q₂⟩
  ·obtain ⟨e, C, σ₂, s₀, L, rfl, r₂, hs, x₂, es, m₂, q₂⟩ := he
   have hL : L = s.heap.objs.size := by
    have := x₂.fr
    injection ((show some L = some s.heap.objs.size from this.symm.trans rfl))
   refine leaves_x ok'.fr x₂ es fun h' a0 x₃ t => ?_
   have : ∃ L, cx.fenv.frame = some L := by obtain ⟨_, ⟨L, o, hf, _⟩, _⟩ := r.ff; exact ⟨L, hf⟩
   exact postE_leave r this (by rw [hL]; rfl) (by rw [hL]; rfl) r₂ (vm.trans m₂) x₃ t (by rw [hs]) q₂
theorem cd_fn (ok : Ok prog K cx sc (n + 1)) {f : Addr} {sc' : Scope} {body : List Stmt} {ps : List Str} {l : List AV} (F : Fn K f sc' body ps) (hlen : ps.length = l.length)
  (h : ∀ cx', Ok prog K cx' sc' n → cx'.env = cx'.fenv → cx'.A.handled = cx.A.handled → WExs prog w cx' body (σ.enter ps l) (fun fl σ₂ => Q (retOf fl) ⟨σ.loc, σ₂.hp⟩) (fun C σ₂ => E C ⟨σ.loc, σ₂.hp⟩)) :
  WCd prog w cx (.ref f) l σ Q E := cd_fnC ok F hlen fun cx' a b c ux => h cx' a b c
theorem cl_fn (ok : Ok prog K cx sc (n + 1)) {f : Addr} {sc' : Scope} {body : List Stmt} {ps : List Str} {l : List AV} (F : Fn K f sc' body ps) (hlen : ps.length = l.length)
  (h : ∀ cx', Ok prog K cx' sc' n → cx'.env = cx'.fenv → cx'.A.handled = cx.A.handled → WExs prog w cx' body (σ.enter ps l) (fun fl σ₂ => Q (retOf fl) ⟨σ.loc, σ₂.hp⟩) (fun C σ₂ => E C ⟨σ.loc, σ₂.hp⟩)) :
  WCl prog w cx (.ref f) l σ Q E := (cd_fn ok F hlen h).cl
noncomputable abbrev WAr (prog : Program) (w : World) (cx : CX) (pos : Pos) (es : List Expr) (σ : AS) (Q : List AV → AS → Prop) (E : Value → AS → Prop) : Prop := Wp prog w VRs cx (spliced (backTo pos (starEach es cx.env))) σ Q E
theorem ar_nil {Q : List AV → AS → Prop} (h : Q [] σ) : WAr prog w cx pos [] σ Q E := fun s r => args_nil (here0 (rel := VRs) (b := []) r rfl h)
theorem ar_cons {e : Expr} {rest : List Expr} {Q : List AV → AS → Prop} (h : WEv prog w cx e σ (fun a σ₁ => WAr prog w cx pos rest σ₁ (fun l σ₂ => Q (a :: l) σ₂) E) E) (he : ∀ env, starEach (e :: rest) env = (false, eval e env) :: starEach rest env := by intro env; rfl) :
  WAr prog w cx pos (e :: rest) σ Q E := fun s r => by
 refine args_cons (wpAny_mono (h s r) (fun v s₁ zz => zz.use fun a σ₁ r₁ v₁ m₁ q₁ => ?_) fun ux ux e => e) (he _)
 exact wpAny_mono (q₁ s₁ r₁) (fun vs s₂ zz => zz.use fun l σ₂ r₂ v₂ m₂ q₂ => ⟨a :: l, σ₂, r₂, ⟨v, vs, rfl, v₁.mono m₂, v₂⟩, m₁.trans m₂, q₂⟩) fun ux ux e => e.mono m₁
theorem evalArgs_all {M : Model} {A : Around} {s : Shared} {E : Value → Shared → Prop} {f : Value} {a : List (Bool × Sem Value)} {Q : Args → Shared → Prop} (hp : a.any (·.1) = false) (h : wpAny M A (spliced a) (fun vs s' => Q ⟨vs, []⟩ s') E s) : wpAny M A (evalArgs f true a []) Q E s := by
 cases a with
 | nil =>
  unfold evalArgs
  show wpAny M A (spliced [] >>= _) Q E s
  refine wpAny_bind (wpAny_mono h (fun vs s' h' => wpAny_bind (wpAny_pure ?_)) fun ux ux x => x)
  refine wpAny_holding ?_
  exact wpAny_bind (wpAny_pure (wpAny_bind (wpAny_pure (wpAny_pure h'))))
 | cons x rest =>
  obtain ⟨b, x⟩ := x
  cases b with
  | true => cases hp
  | false => exact evalArgs_plain h
theorem ev_call (ok : Ok prog K cx sc n) {func : Expr} {args : List Expr} {f : Addr} (hk : keepIn K (.ref f) = true) (h : WEv prog w cx func σ (fun a σ₁ => a = .ref f ∧ WAr prog w cx pos args σ₁ (fun l σ₂ => WCl prog w cx (.ref f) l σ₂ Q E) E) E)
  (he : ∀ env, eval (.Call func args [] pos) env = (do callWith pos (← eval func env) [] (backTo pos (starEach args env)) (backToKw pos (keywordEach [] env))) := by intro env; rfl) (hpl : ∀ env, (backTo pos (starEach args env)).any (·.1) = false := by intro env; rfl) :
  WEv prog w cx (.Call func args [] pos) σ Q E := fun s r => by
 refine Call_ (wpAny_mono (h s r) (fun v s₁ zz => zz.use fun a σ₁ r₁ v₁ m₁ ⟨ha, q₁⟩ => ?_) fun ux ux e => e) (he _)
 subst ha
 rw [show v = .ref f from v₁]
 have KX := ok.glo.KX
 refine callWith_of (P := fun h => K.In h) (by rw [hpl]; rfl) (fun h X => keeps_K hk h X) ?_
 have key : wpAny (model prog w) cx.A (spliced (backTo pos (starEach args cx.env))) (fun vs s₂ => K.In s₂.heap ∧ wpAny (model prog w) cx.A (call (.ref f) ([] ++ vs)) (PostR prog w VR cx s Q) (PostE prog w cx s E) s₂) (PostE prog w cx s E) s₁ := by
  refine wpAny_mono (q₁ s₁ r₁) (fun vs s₂ zz => zz.use fun l σ₂ r₂ v₂ m₂ q₂ => ⟨fun a o e => r₂.stay a o (KX a o e), ?_⟩) fun ux ux e => e.mono m₁
  exact wpAny_mono (q₂ s₂ vs r₂ v₂) (fun ux ux p => p.mono (m₁.trans m₂)) fun ux ux e => e.mono (m₁.trans m₂)
 exact evalArgs_all (hpl _) key
theorem vr_raw {h : Heap} {v : Value} : VR h (.raw v) v := rfl
theorem ev_bname (ok : Ok prog K cx sc n) {x : Str} {u : Value} (hx : sc.names.lookup x = some .globalImplicit) (e : nsIn K mainGlobals x = some none) (hn : x ≠ "__name__") (hb : bootBuiltins x = some u) (h : Q (.raw u) σ) (hd : (x == ("__debug__" : Str)) = false := by decide) :
  WEv prog w cx (.Name x pos) σ Q E := fun s r => by
 have hk : cx.env.scope.kind = .function := by rw [ok.scope]; exact ok.kind
 obtain ⟨mg, hg⟩ := ok.glo.g
 obtain ⟨mb, hm, hbt⟩ := ok.glo.b
 exact Name_function_global hk (by unfold Env.kindOf; rw [ok.scope]; exact hx) (loadGlobal_builtin (by rw [ok.glob]; exact hg.keeps r.stay) (mg_none_of ok.glo.KX hg e) (by rw [ok.bi]; exact hm.keeps r.stay) ((hbt x hn).trans hb) (here0 r vr_raw h)) hd
theorem ev_callb {func : Expr} {args : List Expr} {id : String} (h : WEv prog w cx func σ (fun a σ₁ => a = .raw (.builtin id) ∧ WAr prog w cx pos args σ₁ (fun l σ₂ => WCl prog w cx (.builtin id) l σ₂ Q E) E) E)
  (he : ∀ env, eval (.Call func args [] pos) env = (do callWith pos (← eval func env) [] (backTo pos (starEach args env)) (backToKw pos (keywordEach [] env))) := by intro env; rfl) (hpl : ∀ env, (backTo pos (starEach args env)).any (·.1) = false := by intro env; rfl) :
  WEv prog w cx (.Call func args [] pos) σ Q E := fun s r => by
 refine Call_ (wpAny_mono (h s r) (fun v s₁ zz => zz.use fun a σ₁ r₁ v₁ m₁ ⟨ha, q₁⟩ => ?_) fun ux ux e => e) (he _)
 subst ha
 rw [show v = .builtin id from v₁]
 refine PySem.Calls.callWith_builtin (hpl _) (evalArgs_all (hpl _) ?_)
 refine wpAny_mono (q₁ s₁ r₁) (fun vs s₂ zz => zz.use fun l σ₂ r₂ v₂ m₂ q₂ => ?_) fun ux ux e => e.mono m₁
 exact wpAny_mono (q₂ s₂ vs r₂ v₂) (fun ux ux p => p.mono (m₁.trans m₂)) fun ux ux e => e.mono (m₁.trans m₂)
theorem ev_callt {func : Expr} {args : List Expr} {T : String} (h : WEv prog w cx func σ (fun a σ₁ => a = .raw (.type T) ∧ WAr prog w cx pos args σ₁ (fun l σ₂ => WCl prog w cx (.type T) l σ₂ Q E) E) E)
  (he : ∀ env, eval (.Call func args [] pos) env = (do callWith pos (← eval func env) [] (backTo pos (starEach args env)) (backToKw pos (keywordEach [] env))) := by intro env; rfl) (hpl : ∀ env, (backTo pos (starEach args env)).any (·.1) = false := by intro env; rfl) :
  WEv prog w cx (.Call func args [] pos) σ Q E := fun s r => by
 refine Call_ (wpAny_mono (h s r) (fun v s₁ zz => zz.use fun a σ₁ r₁ v₁ m₁ ⟨ha, q₁⟩ => ?_) fun ux ux e => e) (he _)
 subst ha
 rw [show v = .type T from v₁]
 refine PyProof.Rows.callWith_type (hpl _) (evalArgs_all (hpl _) ?_)
 refine wpAny_mono (q₁ s₁ r₁) (fun vs s₂ zz => zz.use fun l σ₂ r₂ v₂ m₂ q₂ => ?_) fun ux ux e => e.mono m₁
 exact wpAny_mono (q₂ s₂ vs r₂ v₂) (fun ux ux p => p.mono (m₁.trans m₂)) fun ux ux e => e.mono (m₁.trans m₂)
theorem vrs1 {h : Heap} {a : AV} {vs : List Value} (x : VRs h [a] vs) : ∃ v, vs = [v] ∧ VR h a v := by
 obtain ⟨v, r, e, p, q⟩ := x
 rw [show r = [] from q] at e
 exact ⟨v, e, p⟩
theorem vrs2 {h : Heap} {a b : AV} {vs : List Value} (x : VRs h [a, b] vs) : ∃ v u, vs = [v, u] ∧ VR h a v ∧ VR h b u := by
 obtain ⟨v, r, e, p, q⟩ := x
 obtain ⟨u, rfl, q'⟩ := vrs1 q
 exact ⟨v, u, e, p, q'⟩
theorem cl_len {a : Addr} {l : List AV} (hl : σ.lst a l) (hf : (l.length : Int) < 2 ^ 63) (h : Q (.int l.length) σ) : WCl prog w cx (.builtin "len") [.ref a] σ Q E := fun s vs r hv => by
 obtain ⟨v, rfl, q⟩ := vrs1 hv
 rw [show v = .ref a from q]
 obtain ⟨us, p, q⟩ := r.lst hl
 have : (us.toArray.size : Int) = l.length := by rw [List.size_toArray, q.length]
 refine call_len_list p (by lia) ?_
 rw [this]
 exact here r vr_int h
theorem push_none (h : Heap) : h.get? h.objs.size = none := by
 cases q : h.get? h.objs.size with
 | none => rfl
 | some o => exact absurd (Heap.lt_size q) (Nat.lt_irrefl _)
theorem cl_range1 {a : Int} (h : ∀ x, σ.hp x = none → Q (.ref x) (σ.put x (.range 0 a 1))) : WCl prog w cx (.type "range") [.int a] σ Q E := fun s vs r hv => by
 obtain ⟨v, rfl, ⟨t, rfl⟩⟩ := vrs1 hv
 refine call_range_1 ?_
 refine ⟨.ref _, _, r.new (ao := .range 0 a 1) (push_none _) (fun b o e => Heap.get?_push_of_some _ e) ⟨_, _, _, Heap.get?_push_size _ rfl⟩, vr_ref, VM.of_keeps fun b o e => Heap.get?_push_of_some _ e, h _ ?_⟩
 cases q : σ.hp s.heap.objs.size with
 | none => rfl
 | some ao => exact absurd q ((Off.new r (push_none _)).hp ao)
theorem cl_isi_int (ok : Ok prog K cx sc n) {i : Int} {c : AV} {cv : Value} {b : Bool} (hc : ∀ h v, VR h c v → v = cv) (e : kitOne K (.type "int") cv = some b) (h : Q (.bool b) σ) : WCl prog w cx (.builtin "isinstance") [.int i, c] σ Q E := fun s vs r hv => by
 obtain ⟨v, u, rfl, ⟨t, rfl⟩, q⟩ := vrs2 hv
 rw [hc _ _ q]
 exact kia_one kitx_int (fun a o e => r.stay a o (ok.glo.KX a o e)) trivial e (by simp) fun tk => here r vr_bool h
theorem ev_tuple {elts : List Expr} {k : Nat} (h : WAr prog w cx pos elts σ (fun l σ₁ => l.length ≤ sizeLine ∧ Q (.tup l) σ₁) E) : WEv prog w cx (.Tuple elts k pos) σ Q E := fun s r => by
 refine Tuple_ (wpAny_mono (h s r) (fun vs s₁ zz => zz.use fun l σ₁ r₁ v₁ m₁ ⟨hl, q₁⟩ => ?_) fun ux ux e => e)
 have kp : ∀ b o, s₁.heap.get? b = some o → (s₁.heap.push { cls := .type "tuple", data := .seq vs.toArray }).get? b = some o := fun b o e => Heap.get?_push_of_some _ e
 refine wpAny_newTuple ⟨.tup l, σ₁, r₁.grow (tk := s₁.toks) kp, ⟨_, vs, rfl, ⟨_, _, Heap.get?_push_size _ rfl, rfl, rfl⟩, v₁.mono (VM.of_keeps kp)⟩, m₁.trans (VM.of_keeps kp), q₁⟩ (by rw [v₁.length]; exact hl)
theorem ev_list {elts : List Expr} (h : WAr prog w cx pos elts σ (fun l σ₁ => l.length ≤ sizeLine ∧ ∀ x, σ₁.hp x = none → Q (.ref x) (σ₁.put x (.list l))) E) : WEv prog w cx (.List elts pos) σ Q E := fun s r => by
 refine List_ (wpAny_mono (h s r) (fun vs s₁ zz => zz.use fun l σ₁ r₁ v₁ m₁ ⟨hl, q₁⟩ => ?_) fun ux ux e => e)
 have kp : ∀ b o, s₁.heap.get? b = some o → (s₁.heap.push { cls := .type "list", data := .seq vs.toArray }).get? b = some o := fun b o e => Heap.get?_push_of_some _ e
 refine wpAny_newList ⟨.ref _, _, r₁.new (ao := .list l) (tk := s₁.toks) (push_none _) kp ⟨vs, ⟨_, Heap.get?_push_size _ rfl⟩, v₁.mono (VM.of_keeps kp)⟩, vr_ref, m₁.trans (VM.of_keeps kp), q₁ _ ?_⟩ (by rw [v₁.length]; exact hl)
 cases q : σ₁.hp s₁.heap.objs.size with
 | none => rfl
 | some ao => exact absurd q ((Off.new r₁ (push_none _)).hp ao)
theorem ev_sub {value slice : Expr} (h : WEv prog w cx value σ (fun a σ₁ => WEv prog w cx slice σ₁ (fun b σ₂ => WOp2 prog w cx (subscriptTail value slice) a b σ₂ Q E) E) E) : WEv prog w cx (.Subscript value slice pos) σ Q E := fun s r => by
 refine Subscript_ (wpAny_mono (h s r) (fun va s₁ zz => zz.use fun a σ₁ r₁ v₁ m₁ q₁ => wpAny_mono (q₁ s₁ r₁) (fun vb s₂ zz => zz.use fun b σ₂ r₂ v₂ m₂ q₂ => ?_) fun ux ux e => e.mono m₁) fun ux ux e => e)
 refine wpAny_mono (q₂ s₂ va vb r₂ (v₁.mono m₂) v₂) (fun v s₃ zz => zz.use fun c σ₃ r₃ v₃ m₃ q₃ => ⟨c, σ₃, r₃, v₃, (m₁.trans m₂).trans m₃, q₃⟩) fun ux ux e => e.mono (m₁.trans m₂)
theorem sub_list {value slice : Expr} {x : Addr} {l : List AV} {i : Int} {a : AV} (hl : σ.lst x l) (hlo : 0 ≤ i) (hhi : i < 2 ^ 63) (ha : l[i.toNat]? = some a) (h : Q a σ)
  (hs : ∀ o i, subscripted slice false o i = operate [o, i] (getItem o i) := by intro _ _; with_unfolding_all rfl) (ht : ∀ o r, letTemporaryGo value o r = pure () := by intro _ _; with_unfolding_all rfl) :
  WOp2 prog w cx (subscriptTail value slice) (.ref x) (.int i) σ Q E := by
 rintro s va _ r q0 ⟨t, rfl⟩
 rw [show va = .ref x from q0]
 obtain ⟨vs, p, q⟩ := r.lst hl
 obtain ⟨v, hv, hva⟩ := q.get ha
 exact subscriptTail_builtin p.typeIs slot_list_getitem.lookup (wpAny_getItem_list p hlo hhi (by simpa using hv) (here0 r hva h)) (hs _ _) (ht _)
end
structure Fx (prog : Program) (K : Frag) (cx : CX) (sc : Scope) (n : Nat) : Prop where
 ok : Ok prog K cx sc n
 fe : cx.env = cx.fenv
 hh : cx.A.handled = none
section
variable {prog : Program} {w : World} {K : Frag} {cx : CX} {sc : Scope} {n : Nat} {σ : AS} {Q : AV → AS → Prop} {QB : Bool → AS → Prop} {QF : AF → AS → Prop} {E : Value → AS → Prop} {pos : Pos}
theorem Fx.withP (g : Fx prog K cx sc n) (P' : Addr → Obj → Prop) : Fx prog K (cx.withP P') sc n := ⟨g.ok.withP P', g.fe, g.hh⟩
noncomputable def WTl (prog : Program) (w : World) (cx : CX) (pos : Pos) (op : BoolOp) (es : List Expr) (σ : AS) (QB : Bool → AS → Prop) (E : Value → AS → Prop) : Prop := ∀ whole, Wp prog w BR cx (isTrue (.BoolOp op es pos) cx.env whole) σ QB E
theorem tr_bool {op : BoolOp} {es : List Expr} (h : WTl prog w cx pos op es σ QB E) : WTr prog w cx (.BoolOp op es pos) σ QB E := h _
theorem tl_and_nil (h : QB true σ) : WTl prog w cx pos .And [] σ QB E := fun whole s r => isTrue_and_nil (here0 (rel := BR) (b := true) r rfl h)
theorem tl_or_nil (h : QB false σ) : WTl prog w cx pos .Or [] σ QB E := fun whole s r => isTrue_or_nil (here0 (rel := BR) (b := false) r rfl h)
theorem tl_and {e : Expr} {es : List Expr} (h : WTr prog w cx e σ (fun c σ₁ => if c then WTl prog w cx pos .And es σ₁ QB E else QB false σ₁) E) : WTl prog w cx pos .And (e :: es) σ QB E := fun whole s r => by
 refine wtr_and r (fun s₀ r₀ => wpAny_mono (h s₀ r₀) (fun c s₁ zz => zz.use fun c' σ₁ r₁ v₁ m₁ q₁ => ⟨c', σ₁, r₁, v₁, m₁, ?_⟩) fun ux ux e => e)
 cases c' with
 | false => exact q₁
 | true => rw [if_pos rfl] at q₁ ⊢; exact fun s₂ r₂ => q₁ _ s₂ r₂
theorem tl_or {e : Expr} {es : List Expr} (h : WTr prog w cx e σ (fun c σ₁ => if c then QB true σ₁ else WTl prog w cx pos .Or es σ₁ QB E) E) : WTl prog w cx pos .Or (e :: es) σ QB E := fun whole s r => by
 refine wtr_or r (fun s₀ r₀ => wpAny_mono (h s₀ r₀) (fun c s₁ zz => zz.use fun c' σ₁ r₁ v₁ m₁ q₁ => ⟨c', σ₁, r₁, v₁, m₁, ?_⟩) fun ux ux e => e)
 cases c' with
 | true => exact q₁
 | false => simp only [Bool.false_eq_true, if_false] at q₁ ⊢; exact fun s₂ r₂ => q₁ _ s₂ r₂
theorem ev_one {e : Expr} {op : BoolOp} (h : WEv prog w cx e σ Q E) : WEv prog w cx (.BoolOp op [e] pos) σ Q E := fun s r => BoolOp_one (h s r)
theorem ev_and {e₁ e₂ : Expr} {es : List Expr} (h : WEv prog w cx e₁ σ (fun a σ₁ => ∃ c, a = .bool c ∧ if c then WEv prog w cx (.BoolOp .And (e₂ :: es) pos) σ₁ Q E else Q (.bool false) σ₁) E) : WEv prog w cx (.BoolOp .And (e₁ :: e₂ :: es) pos) σ Q E := fun s r => by
 refine BoolOp_and (wpAny_mono (h s r) (fun v s₁ zz => zz.use fun a σ₁ r₁ v₁ m₁ zz => ?_) fun ux ux e => e)
 obtain ⟨c, ha, q₁⟩ := zz
 subst ha
 rw [show v = .bool c from v₁]
 refine wpAny_truthy_bool ?_
 cases c with
 | true => exact wpAny_mono (q₁ s₁ r₁) (fun ux ux p => p.mono m₁) fun ux ux e => e.mono m₁
 | false => exact ⟨.bool false, σ₁, r₁, vr_bool, m₁, q₁⟩
theorem ev_un {e : Expr} {op : UnaryOp} (h : WEv prog w cx e σ (fun a σ₁ => WOp1 prog w cx (unaryOp op) a σ₁ Q E) E) : WEv prog w cx (.UnaryOp op e pos) σ Q E := fun s r => by
 refine UnaryOp_ (wpAny_mono (h s r) (fun va s₁ zz => zz.use fun a σ₁ r₁ v₁ m₁ q₁ => ?_) fun ux ux e => e)
 exact wpAny_mono (q₁ s₁ va r₁ v₁) (fun ux ux p => p.mono m₁) fun ux ux e => e.mono m₁
theorem op_not {b : Bool} (h : Q (.bool (!b)) σ) : WOp1 prog w cx (unaryOp .Not) (.bool b) σ Q E := fun s va r hv => by
 rw [show va = .bool b from hv]
 exact not_of (wpAny_truthy_bool (here0 r vr_bool h))
theorem op_neg {i : Int} (h : Q (.int (-i)) σ) : WOp1 prog w cx (unaryOp .USub) (.int i) σ Q E := fun s va r hv => by
 obtain ⟨t, rfl⟩ := hv
 exact PySem.P.neg_int (here r vr_int h)
theorem ite_dec {p : Prop} [Decidable p] {X Y : Prop} (h1 : p → X) (h0 : ¬ p → Y) : if decide p = true then X else Y := by
 by_cases h : p
 ·rw [if_pos (decide_eq_true h)]; exact h1 h
 ·rw [if_neg (by simpa using h)]; exact h0 h
theorem ite_beq {a b : Int} {X Y : Prop} (h1 : a = b → X) (h0 : a ≠ b → Y) : if (a == b) = true then X else Y := by
 by_cases h : a = b
 ·rw [if_pos (by simpa using h)]; exact h1 h
 ·rw [if_neg (by simpa using h)]; exact h0 h
theorem ite_bne {a b : Int} {X Y : Prop} (h1 : a ≠ b → X) (h0 : a = b → Y) : if (a != b) = true then X else Y := by
 by_cases h : a = b
 ·rw [if_neg (by simpa using h)]; exact h0 h
 ·rw [if_pos (by simpa using h)]; exact h1 h
theorem ite_true' {X Y : Prop} (h : X) : if true = true then X else Y := by rw [if_pos rfl]; exact h
theorem ite_false' {X Y : Prop} (h : Y) : if false = true then X else Y := by rw [if_neg (by decide)]; exact h
theorem ite_neg {b : Bool} {X Y : Prop} (h : if b = true then Y else X) : if (!b) = true then X else Y := by
 cases b <;> simpa using h
theorem call_fnO (ok : Ok prog K cx sc (n + 1)) (hh : cx.A.handled = none) {f : Addr} {sc' : Scope} {body : List Stmt} {ps : List Str} {l : List AV} (F : Fn K f sc' body ps) (hlen : ps.length = l.length)
  (h : ∀ cx', Fx prog K cx' sc' n → WExs prog w cx' body (σ.enter ps l) (fun fl σ₂ => Q (retOf fl) ⟨σ.loc, σ₂.hp⟩) (fun C σ₂ => E C ⟨σ.loc, σ₂.hp⟩)) : WCl prog w cx (.ref f) l σ Q E :=
 cl_fn ok F hlen fun cx' ok fe hh' => h cx' ⟨ok, fe, hh'.trans hh⟩
theorem call_fn (g : Fx prog K cx sc (n + 1)) {f : Addr} {sc' : Scope} {body : List Stmt} {ps : List Str} {l : List AV} (F : Fn K f sc' body ps) (hlen : ps.length = l.length)
  (h : ∀ cx', Fx prog K cx' sc' n → WExs prog w cx' body (σ.enter ps l) (fun fl σ₂ => Q (retOf fl) ⟨σ.loc, σ₂.hp⟩) (fun C σ₂ => E C ⟨σ.loc, σ₂.hp⟩)) : WCl prog w cx (.ref f) l σ Q E := call_fnO g.ok g.hh F hlen h
theorem while_ (g : Fx prog K cx sc n) {test : Expr} {body : List Stmt} (J : Nat → AS → Prop) (k₀ : Nat) (h0 : J k₀ σ)
  (turn : ∀ k σ₁, J k σ₁ → WTr prog w cx test σ₁ (fun c σ₂ => if c then WExs prog w cx body σ₂ (fun f σ₃ => match f with | .next | .cont => ∃ m, m < k ∧ J m σ₃ | .brk => QF .next σ₃ | .ret v => QF (.ret v) σ₃) E else QF .next σ₂) E) :
  WEx prog w cx (.While test body [] pos) σ QF E := ex_while g.ok g.fe J k₀ h0 turn
theorem ints_vr {h : Heap} : ∀ {vs : List Value} {ns : List Int}, IntsAre vs ns → VRs h (ns.map AV.int) vs
 | _, _, .nil => rfl
 | _, _, .cons i t r => ⟨_, _, rfl, vr_int, ints_vr r⟩
theorem law_top {s₁ : Shared} {h₁ : Heap} {l fa : Addr} {vs : List Value} {ns : List Int} {name : Str} {cd : Value} {tk : Nat} {body : List Stmt} {Qw : Flow → Shared → Prop} {Ew : Value → Shared → Prop} {m : Str → Option Value} (glo : Glo prog K s₁.heap)
  (hL : s₁.heap.IsList l vs.toArray) (hI : IntsAre vs ns) (F : Fr s₁.heap s₁.heap.objs.size h₁ m) (hm : m (Str.ofString "_law_script") = some (.ref l)) (hk : sc.kind = .function) (hx : sc.names.lookup (Str.ofString "_law_script") = some .local) (hgn : sc.isGenerator = false) (hco : sc.isCoroutine = false) (hcc : ∀ p ∈ sc.names, p.2 ≠ .cell)
  (hq : ∀ f s', (∃ v, f = .ret v ∧ v = .bool true) → (∀ b o, s₁.heap.get? b = some o → s'.heap.get? b = some o) → s'.os = s₁.os → s'.gens = s₁.gens → Qw f s')
  (h : ∀ cx σ, Fx prog K cx sc 30 → σ.loc (Str.ofString "_law_script") = some (.ref l) → σ.hp l = some (.ro (ns.map AV.int)) → WExs prog w cx body σ (fun f ux => f = .ret (.bool true)) (fun ux ux => False)) :
  wpAny (model prog w) (callerA.deeper (envOf name sc s₁.heap.objs.size fa cd)) (execs body (envOf name sc s₁.heap.objs.size fa cd)) Qw Ew { heap := h₁, gens := s₁.gens, drawn := s₁.drawn, toks := tk, os := s₁.os } := by
 let cx : CX := ⟨callerA.deeper (envOf name sc s₁.heap.objs.size fa cd), envOf name sc s₁.heap.objs.size fa cd, envOf name sc s₁.heap.objs.size fa cd, [], s₁.heap, fun ux ux => False, fun ux ux => False, s₁.gens, s₁.drawn, s₁.os⟩
 have ok : Fx prog K cx sc 30 := ⟨⟨glo, rfl, rfl, hk, rfl, rfl, rfl, hgn, hco, rfl, rfl, hk, by show callerA.depth + 1 + 4 * 30 + 140 < recursionLimit; decide, by show callerA.units + 3 + 16 * 30 + 200 < cLine; decide, (fun _ _ _ q => by cases q), (fun _ _ q => by cases q), fun x q => absurd rfl (hcc _ (mem_of_lookup q))⟩, rfl, rfl⟩
 obtain ⟨o, hl1, hl2, hl3⟩ := hL
 have lt : (l : Nat) < s₁.heap.objs.size := Heap.lt_size hl1
 have r : R prog w cx ⟨fun x => if x = Str.ofString "_law_script" then some (.ref l) else none, fun a => if a = l then some (.ro (ns.map AV.int)) else none⟩ { heap := h₁, gens := s₁.gens, drawn := s₁.drawn, toks := tk, os := s₁.os } := by
  refine ⟨F.keep, ?_, ⟨m, F.ns⟩, fun x v e => ?_, fun ux ux e => e.elim, fun ux ux e => e.elim, fun a ao e => ?_, fun a e => ?_, fun x c e => (by cases e), fun ux e => (nomatch e), rfl, rfl, rfl⟩
  ·obtain ⟨oL, h1, h2⟩ := nofields_ns F.ns
   exact ⟨by show sc.kind ≠ _; rw [hk]; decide, ⟨_, oL, rfl, push_none _, h1, h2⟩, trivial⟩
  ·dsimp only at e
   split at e
   ·rename_i q; subst q; cases e
    refine ⟨.ref l, ?_, vr_ref⟩
    unfold LocAt
    rw [show cx.env.kindOf (Str.ofString "_law_script") = some .local from hx]
    exact ⟨m, F.ns, hm⟩
   ·cases e
  ·dsimp only at e
   split at e
   ·rename_i q; subst q; cases e
    refine ⟨⟨vs, ⟨o, F.keep _ _ hl1, hl2, hl3⟩, ints_vr hI⟩, fun q => (by cases q), fun ux q => q, fun q => ?_, fun e he hf => ?_⟩
    ·rcases q with q | ⟨x, q⟩
     ·rw [show a = s₁.heap.objs.size from q] at lt; exact absurd lt (Nat.lt_irrefl _)
     ·cases q
    ·rcases List.mem_cons.mp he with q | q
     ·subst q
      injection (show some s₁.heap.objs.size = some a from hf) with hf
      rw [← hf] at lt; exact absurd lt (Nat.lt_irrefl _)
     ·cases q
   ·cases e
  ·rcases e with q | ⟨x, q⟩
   ·rw [show a = s₁.heap.objs.size from q]; exact ⟨push_none _, fun ux q => q, fun ux q => q⟩
   ·cases q
 refine wpAny_mono (h cx _ ok (by simp) (by simp) _ r) (fun f s' zz => zz.use fun a σ' r' v' _ q' => ?_) fun v s' ⟨_, _, _, _, _, _, _, _, _, _, _, e⟩ => e.elim
 subst q'
 obtain ⟨v, rfl, hv⟩ := v'
 exact hq _ _ ⟨v, rfl, hv⟩ r'.stay r'.os r'.gens
theorem fn_of {f : Addr} {sc : Scope} {body : List Stmt} {ps : List Str} {oc : Value} {od : Option Addr} {osl : Array (Option Value)} {name qual : Str} {params : Arguments} {dV kV doc pm cdv ct : Value} {an : Option Addr}
  (hlk : K.lookup f = some ⟨oc, od, .func (fnOf name qual params body sc dV kV doc pm an cdv ct), osl⟩) (hcd : codeIn K cdv qual = true) (hk : keepIn K (.ref f) = true)
  (hb : ∀ vs : List Value, vs.length = ps.length → bindArgs (fnOf name qual params body sc dV kV doc pm an cdv ct) ⟨vs, []⟩ = pure (ps.zip vs)) (nd : ps.Nodup) (kind : sc.kind = .function) (gen : sc.isGenerator = false) (co : sc.isCoroutine = false)
  (ks : ∀ x ∈ ps, sc.names.lookup x = some .local ∨ sc.names.lookup x = some .cell) (cu : ∀ p ∈ sc.names, p.2 = .cell → sc.names.lookup p.1 = some .cell := by decide) : Fn K f sc body ps :=
 ⟨⟨_, _, _, _, _, _, _, _, _, _, _, _, _, hlk, hcd, hk, hb⟩, nd, kind, gen, co, ks, cu⟩
theorem len1 {P : List Value → Prop} {ps : List Str} (hp : ps.length = 1) (h : ∀ a, P [a]) : ∀ vs : List Value, vs.length = ps.length → P vs := fun vs hv => by
 rw [hp] at hv
 obtain ⟨a, rfl⟩ := List.length_eq_one_iff.mp hv
 exact h a
theorem lenZ {P : List Value → Prop} (h : P []) : ∀ vs : List Value, vs.length = 0 → P vs := fun vs hv => by rw [List.length_eq_zero_iff.mp hv]; exact h
theorem lenS {P : List Value → Prop} {k : Nat} (h : ∀ a (vs : List Value), vs.length = k → P (a :: vs)) : ∀ vs : List Value, vs.length = k + 1 → P vs := fun vs hv => by
 cases vs with
 | nil => cases hv
 | cons a vs => exact h a vs (Nat.succ.inj hv)
theorem len2 {P : List Value → Prop} {ps : List Str} (hp : ps.length = 2) (h : ∀ a b, P [a, b]) : ∀ vs : List Value, vs.length = ps.length → P vs := fun vs hv =>
 lenS (fun a => lenS (P := fun l => P (a :: l)) fun b => lenZ (P := fun l => P (a :: b :: l)) (h a b)) vs (hv.trans hp)
theorem ev_callf (ok : Ok prog K cx sc n) {x : Str} {px : Pos} {args : List Expr} {f : Addr} (hx : sc.names.lookup x = some .globalImplicit) (e : nsIn K mainGlobals x = some (some (.ref f))) (hk : keepIn K (.ref f) = true)
  (h : WAr prog w cx pos args σ (fun l σ₁ => WCl prog w cx (.ref f) l σ₁ Q E) E) (hd : (x == ("__debug__" : Str)) = false := by decide)
  (he : ∀ env, eval (.Call (.Name x px) args [] pos) env = (do callWith pos (← eval (.Name x px) env) [] (backTo pos (starEach args env)) (backToKw pos (keywordEach [] env))) := by intro env; rfl) (hpl : ∀ env, (backTo pos (starEach args env)).any (·.1) = false := by intro env; rfl) :
  WEv prog w cx (.Call (.Name x px) args [] pos) σ Q E := ev_call ok hk (ev_gname ok hx e (fun ux => vr_ref) ⟨rfl, h⟩ hd) he hpl
theorem ev_callb' (ok : Ok prog K cx sc n) {x : Str} {px : Pos} {args : List Expr} {id : String} (hx : sc.names.lookup x = some .globalImplicit) (e : nsIn K mainGlobals x = some none) (hn : x ≠ "__name__") (hb : bootBuiltins x = some (.builtin id))
  (h : WAr prog w cx pos args σ (fun l σ₁ => WCl prog w cx (.builtin id) l σ₁ Q E) E) (hd : (x == ("__debug__" : Str)) = false := by decide)
  (he : ∀ env, eval (.Call (.Name x px) args [] pos) env = (do callWith pos (← eval (.Name x px) env) [] (backTo pos (starEach args env)) (backToKw pos (keywordEach [] env))) := by intro env; rfl) (hpl : ∀ env, (backTo pos (starEach args env)).any (·.1) = false := by intro env; rfl) :
  WEv prog w cx (.Call (.Name x px) args [] pos) σ Q E := ev_callb (ev_bname ok hx e hn hb ⟨rfl, h⟩ hd) he hpl
theorem ev_callt' (ok : Ok prog K cx sc n) {x : Str} {px : Pos} {args : List Expr} {id : String} (hx : sc.names.lookup x = some .globalImplicit) (e : nsIn K mainGlobals x = some none) (hn : x ≠ "__name__") (hb : bootBuiltins x = some (.type id))
  (h : WAr prog w cx pos args σ (fun l σ₁ => WCl prog w cx (.type id) l σ₁ Q E) E) (hd : (x == ("__debug__" : Str)) = false := by decide)
  (he : ∀ env, eval (.Call (.Name x px) args [] pos) env = (do callWith pos (← eval (.Name x px) env) [] (backTo pos (starEach args env)) (backToKw pos (keywordEach [] env))) := by intro env; rfl) (hpl : ∀ env, (backTo pos (starEach args env)).any (·.1) = false := by intro env; rfl) :
  WEv prog w cx (.Call (.Name x px) args [] pos) σ Q E := ev_callt (ev_bname ok hx e hn hb ⟨rfl, h⟩ hd) he hpl
theorem set_same {x : Str} {v : AV} : (σ.set x v).loc x = some v := by unfold AS.set; simp
theorem set_ne {x y : Str} {v : AV} {u : Option AV} (h : y ≠ x) (h' : σ.loc y = u) : (σ.set x v).loc y = u := by unfold AS.set; simp [h, h']
theorem put_same {a : Addr} {o : AO} : (σ.put a o).hp a = some o := by unfold AS.put; simp
theorem put_ne {a b : Addr} {o : AO} {u : Option AO} (h : b ≠ a) (h' : σ.hp b = u) : (σ.put a o).hp b = u := by unfold AS.put; simp [h, h']
theorem set_hp {x : Str} {v : AV} {b : Addr} {u : Option AO} (h' : σ.hp b = u) : (σ.set x v).hp b = u := h'
theorem put_loc {a : Addr} {o : AO} {y : Str} {u : Option AV} (h' : σ.loc y = u) : (σ.put a o).loc y = u := h'
theorem x_while (g : Fx prog K cx sc n) {test : Expr} {body : List Stmt} (J : Nat → AS → Prop) (k₀ : Nat) (h0 : J k₀ σ)
  (turn : ∀ k σ₁, J k σ₁ → WTr prog w cx test σ₁ (fun c σ₂ => if c then WExs prog w cx body σ₂ (Turn (fun σ => ∃ m, m < k ∧ J m σ) QF) E else QF .next σ₂) E) :
  WEx prog w cx (.While test body [] pos) σ QF E := while_ g J k₀ h0 fun k σ₁ hj => (turn k σ₁ hj).imp (fun c σ₂ q => by
   cases c with
   | false => exact q
   | true => exact Wp.imp q (fun f σ₃ q => by cases f <;> exact q) fun ux ux e => e) fun ux ux e => e
theorem x_assign (g : Ok prog K cx sc n) {x : Str} {value : Expr} {pos' : Pos} (hx : sc.names.lookup x = some .local)
  (hs : swapsWith value (some (.Name x pos')) pos.line cx.env = pure false) (h : WEv prog w cx value σ (fun a σ₁ => QF .next (σ₁.set x a)) E) : WEx prog w cx (.Assign [.Name x pos'] value pos) σ QF E := ex_assign g h hx hs
theorem v_name (g : Ok prog K cx sc n) {x : Str} {v : AV} (hd : (x == ("__debug__" : Str)) = false) (hc : (x == ("__classdict__" : Str)) = false) (hv : σ.loc x = some v) (h : Q v σ) : WEv prog w cx (.Name x pos) σ Q E := ev_name g hv h hd hc
theorem v_gname (g : Ok prog K cx sc n) {x : Str} {v : AV} {u : Value} (hx : sc.names.lookup x = some .globalImplicit) (hd : (x == ("__debug__" : Str)) = false) (e : nsIn K mainGlobals x = some (some u)) (hv : ∀ h : Heap, VR h v u) (h : Q v σ) : WEv prog w cx (.Name x pos) σ Q E := ev_gname g hx e hv h hd
theorem v_bname (g : Ok prog K cx sc n) {x : Str} {u : Value} (hx : sc.names.lookup x = some .globalImplicit) (hd : (x == ("__debug__" : Str)) = false) (e : nsIn K mainGlobals x = some none) (hn : x ≠ "__name__") (hb : bootBuiltins x = some u) (h : Q (.raw u) σ) : WEv prog w cx (.Name x pos) σ Q E := ev_bname g hx e hn hb h hd
theorem v_callb (g : Ok prog K cx sc n) {x : Str} {px : Pos} {args : List Expr} {id : String} (hx : sc.names.lookup x = some .globalImplicit) (e : nsIn K mainGlobals x = some none) (hn : x ≠ "__name__") (hb : bootBuiltins x = some (.builtin id))
  (hd : (x == ("__debug__" : Str)) = false) (he : ∀ env, eval (.Call (.Name x px) args [] pos) env = (do callWith pos (← eval (.Name x px) env) [] (backTo pos (starEach args env)) (backToKw pos (keywordEach [] env)))) (hpl : ∀ env, (backTo pos (starEach args env)).any (·.1) = false)
  (h : WAr prog w cx pos args σ (fun l σ₁ => WCl prog w cx (.builtin id) l σ₁ Q E) E) : WEv prog w cx (.Call (.Name x px) args [] pos) σ Q E := ev_callb' g hx e hn hb h hd he hpl
theorem v_callt (g : Ok prog K cx sc n) {x : Str} {px : Pos} {args : List Expr} {id : String} (hx : sc.names.lookup x = some .globalImplicit) (e : nsIn K mainGlobals x = some none) (hn : x ≠ "__name__") (hb : bootBuiltins x = some (.type id))
  (hd : (x == ("__debug__" : Str)) = false) (he : ∀ env, eval (.Call (.Name x px) args [] pos) env = (do callWith pos (← eval (.Name x px) env) [] (backTo pos (starEach args env)) (backToKw pos (keywordEach [] env)))) (hpl : ∀ env, (backTo pos (starEach args env)).any (·.1) = false)
  (h : WAr prog w cx pos args σ (fun l σ₁ => WCl prog w cx (.type id) l σ₁ Q E) E) : WEv prog w cx (.Call (.Name x px) args [] pos) σ Q E := ev_callt' g hx e hn hb h hd he hpl
theorem a_cons {e : Expr} {rest : List Expr} {Q : List AV → AS → Prop} (he : ∀ env, starEach (e :: rest) env = (false, eval e env) :: starEach rest env) (h : WEv prog w cx e σ (fun a σ₁ => WAr prog w cx pos rest σ₁ (fun l σ₂ => Q (a :: l) σ₂) E) E) : WAr prog w cx pos (e :: rest) σ Q E := ar_cons h he
theorem v_cmp {l rr : Expr} {op : CmpOp} (hm : behindInMarks op rr = false) (h : WEv prog w cx l σ (fun a σ₁ => WEv prog w cx rr σ₁ (fun b σ₂ => WOp2 prog w cx (compareOp op) a b σ₂ Q E) E) E) : WEv prog w cx (.Compare l [op] [rr] pos) σ Q E := ev_cmp h hm
theorem t_cmp {l rr : Expr} {op : CmpOp} (hm : behindInMarks op rr = false) (h : WEv prog w cx l σ (fun a σ₁ => WEv prog w cx rr σ₁ (fun b σ₂ => WOp2 prog w cx (compareOp op) a b σ₂ (fun v σ₃ => ∃ c, v = .bool c ∧ QB c σ₃) E) E) E) : WTr prog w cx (.Compare l [op] [rr] pos) σ QB E := tr_cmp h hm
theorem t_val {e : Expr} (he : ∀ env, isTrue e env (eval e env) = (do let v ← eval e env; standAt e.pos; holding [v] (truthy v))) (h : WEv prog w cx e σ (fun v σ₁ => ∃ c, v = .bool c ∧ QB c σ₁) E) : WTr prog w cx e σ QB E := tr_val h (he _)
theorem v_div (g : Ok prog K cx sc n) {a b : Int} (hb : 0 < b) (h : Q (.int (a / b)) σ) : WOp2 prog w cx (binaryOp .FloorDiv) (.int a) (.int b) σ Q E := op_div g hb h
noncomputable abbrev Plain (x : Str) (px : Pos) (args : List Expr) (pos : Pos) : Prop := (∀ env, eval (.Call (.Name x px) args [] pos) env = (do callWith pos (← eval (.Name x px) env) [] (backTo pos (starEach args env)) (backToKw pos (keywordEach [] env)))) ∧ ∀ env, (backTo pos (starEach args env)).any (·.1) = false
theorem v_callf (g : Ok prog K cx sc n) {x : Str} {px : Pos} {args : List Expr} {f : Addr} (hx : sc.names.lookup x = some .globalImplicit) (e : nsIn K mainGlobals x = some (some (.ref f))) (hk : keepIn K (.ref f) = true)
  (hd : (x == ("__debug__" : Str)) = false) (hp : Plain x px args pos) (h : WAr prog w cx pos args σ (fun l σ₁ => WCl prog w cx (.ref f) l σ₁ Q E) E) : WEv prog w cx (.Call (.Name x px) args [] pos) σ Q E := ev_callf g hx e hk h hd hp.1 hp.2
end
noncomputable def AS.Sub (σ σ' : AS) : Prop := ∀ a o, σ.hp a = some o → σ'.hp a = some o
theorem AS.Sub.set {σ σ' : AS} {x : Str} {v : AV} (a : σ.Sub σ') : σ.Sub (σ'.set x v) := a
theorem AS.Sub.put {σ σ' : AS} {x : Addr} {o : AO} (a : σ.Sub σ') (h : σ'.hp x = none) : σ.Sub (σ'.put x o) := fun y o' e => by
 unfold AS.put
 dsimp only
 split
 ·rename_i q; subst q; rw [a y o' e] at h; cases h
 ·exact a y o' e
section
variable {prog : Program} {w : World} {K : Frag} {cx : CX} {sc : Scope} {n : Nat} {σ : AS} {Q : AV → AS → Prop} {QB : Bool → AS → Prop} {QF : AF → AS → Prop} {E : Value → AS → Prop} {pos : Pos}
theorem WCl.forget {f : Value} {l : List AV} (h : WCl prog w cx f l σ (fun b σ' => ∃ σ₀, σ₀.Le σ' ∧ Q b σ₀) (fun C σ' => ∃ σ₀, σ₀.Le σ' ∧ E C σ₀)) : WCl prog w cx f l σ Q E := fun s vs r hv =>
 wpAny_mono (h s vs r hv) (fun v s' zz => zz.use fun b σ' r' v' m' ⟨σ₀, l, q⟩ => ⟨b, σ₀, r'.le l, v', m', q⟩) fun v s' ⟨e, C, σ', s₀, L, a, b, c, d, f, g, σ₀, l, i⟩ => ⟨e, C, σ₀, s₀, L, a, b.le l, c, d, f, g, i⟩
structure Pur (Q : AV → AS → Prop) (σ : AS) (fl : AF) (σ₂ : AS) : Prop where
 s : σ.Sub σ₂
 q : Q (retOf fl) σ
structure PurE (E : Value → AS → Prop) (σ : AS) (C : Value) (σ₂ : AS) : Prop where
 s : σ.Sub σ₂
 q : E C σ
theorem call_pureO (ok : Ok prog K cx sc (n + 1)) (hh : cx.A.handled = none) {f : Addr} {sc' : Scope} {body : List Stmt} {ps : List Str} {l : List AV} (F : Fn K f sc' body ps) (hlen : ps.length = l.length)
  (h : ∀ cx', Fx prog K cx' sc' n → WExs prog w cx' body (σ.enter ps l) (Pur Q σ) (PurE E σ)) : WCl prog w cx (.ref f) l σ Q E :=
 WCl.forget (call_fnO ok hh F hlen fun cx' g' => (h cx' g').imp (fun fl σ₂ ⟨a, b⟩ => ⟨σ, ⟨fun ux ux e => e, a⟩, b⟩) fun C σ₂ ⟨a, b⟩ => ⟨σ, ⟨fun ux ux e => e, a⟩, b⟩)
theorem call_pure (g : Fx prog K cx sc (n + 1)) {f : Addr} {sc' : Scope} {body : List Stmt} {ps : List Str} {l : List AV} (F : Fn K f sc' body ps) (hlen : ps.length = l.length)
  (h : ∀ cx', Fx prog K cx' sc' n → WExs prog w cx' body (σ.enter ps l) (Pur Q σ) (PurE E σ)) : WCl prog w cx (.ref f) l σ Q E := call_pureO g.ok g.hh F hlen h
theorem rangeSize_one {a b : Int} (h : a ≤ b) : Builtin.Range.rangeSize a b 1 = b - a := by
 unfold Builtin.Range.rangeSize
 rw [if_pos (by decide)]
 split
 ·rw [Int.ediv_one]; lia
 ·lia
inductive RangeH (prog : Program) (w : World) (K : Frag) (sc : Scope) (n : Nat) (x : Str) (body : List Stmt) (QF : AF → AS → Prop) (E : Value → AS → Prop) (v : AV) (σ₁ : AS) : Prop
 | mk (ax : Addr) (a b : Int) (J : Nat → AS → Prop) (h1 : v = .ref ax) (h2 : σ₁.hp ax = some (.range a b 1)) (h3 : -(2 ^ 62) ≤ a) (h4 : a ≤ b) (h5 : b < 2 ^ 62) (h6 : J 0 σ₁)
   (h7 : ∀ (i : Nat) σ cx', Fx prog K cx' sc n → a + i < b → J i σ → WExs prog w cx' body (σ.set x (.int (a + i))) (Turn (J (i + 1)) QF) E) (h8 : ∀ σ, J (b - a).toNat σ → QF .next σ) : RangeH prog w K sc n x body QF E v σ₁
theorem x_range (g : Fx prog K cx sc n) {x : Str} {px : Pos} {iter : Expr} {body : List Stmt} (hx : sc.names.lookup x = some .local) (hs : ∀ v, foldedSetIterable iter cx.env v = pure v)
  (h : WEv prog w cx iter σ (RangeH prog w K sc n x body QF E) E) : WEx prog w cx (.For (.Name x px) iter body [] pos) σ QF E :=
 ex_for g.ok g.fe g.hh hx (h.imp (fun v σ₁ ⟨ax, a, b, J, h1, h2, h3, h4, h5, h6, h7, h8⟩ => by
  subst h1
  refine ⟨_, J, .range h2 (by decide) (small_one h3 (by lia) (by lia) h5), h6, fun i x σ P' hi hj _ => ?_, fun σ hj => h8 σ (by rw [List.length_map, List.length_range, rangeSize_one h4] at hj; exact hj)⟩
  obtain ⟨hi', e⟩ := List.getElem?_eq_some_iff.mp hi
  rw [List.length_map, List.length_range, rangeSize_one h4] at hi'
  rw [List.getElem_map, List.getElem_range, Int.mul_one] at e
  subst e
  exact h7 i σ _ (g.withP P') (by lia) hj) fun ux ux e => e) hs
noncomputable def cellAt (ns : List Int) (k : Nat) : Int := ns[k]?.getD 0
theorem v_mul {a b : Int} (hm : IntMulOk a b) (h : Q (.int (a * b)) σ) : WOp2 prog w cx (binaryOp .Mult) (.int a) (.int b) σ Q E := op_mul hm h
theorem v_pow {a k : Int} (hn : 0 ≤ k) (hsz : (Builtin.Int.intBits a : Int) * k ≤ 2 ^ 27) (h : Q (.int (a ^ k.toNat)) σ) : WOp2 prog w cx (binaryOp .Pow) (.int a) (.int k) σ Q E := op_pow hn hsz h
noncomputable def A_twin (Q : AV → AS → Prop) (l : List AV) (σ : AS) : Prop := ∃ a b : Int, l = [.int a, .int b] ∧ 0 < b ∧ Q (.int (if a / b % 2 = 0 then a + b else a - b)) σ
theorem a_twin {a b : Int} (hb : 0 < b) (h : Q (.int (if a / b % 2 = 0 then a + b else a - b)) σ) : A_twin Q [.int a, .int b] σ := ⟨a, b, rfl, hb, h⟩
noncomputable def A_whole (Q : AV → AS → Prop) (l : List AV) (σ : AS) : Prop := ∃ a : Int, l = [.int a] ∧ Q (.bool true) σ
theorem a_whole {a : Int} (h : Q (.bool true) σ) : A_whole Q [.int a] σ := ⟨a, rfl, h⟩
inductive Fgt (Q : AV → AS → Prop) (l : Str → Option AV) (fl : AF) (σ₂ : AS) : Prop
 | mk (σ₀ : AS) (h : σ₀.Le ⟨l, σ₂.hp⟩) (q : Q (retOf fl) σ₀) : Fgt Q l fl σ₂
inductive FgtE (E : Value → AS → Prop) (l : Str → Option AV) (C : Value) (σ₂ : AS) : Prop
 | mk (σ₀ : AS) (h : σ₀.Le ⟨l, σ₂.hp⟩) (q : E C σ₀) : FgtE E l C σ₂
theorem call_fgt (g : Fx prog K cx sc (n + 1)) {f : Addr} {sc' : Scope} {body : List Stmt} {ps : List Str} {l : List AV} (F : Fn K f sc' body ps) (hlen : ps.length = l.length)
  (h : ∀ cx', Fx prog K cx' sc' n → WExs prog w cx' body (σ.enter ps l) (Fgt Q σ.loc) (FgtE E σ.loc)) : WCl prog w cx (.ref f) l σ Q E :=
 WCl.forget (call_fn g F hlen fun cx' g' => (h cx' g').imp (fun fl σ₂ ⟨a, b, c⟩ => ⟨a, b, c⟩) fun C σ₂ ⟨a, b, c⟩ => ⟨a, b, c⟩)
noncomputable def A_cell (Q : AV → AS → Prop) (l : List AV) (σ : AS) : Prop := ∃ x k ns, l = [.ref x, .int k] ∧ σ.hp x = some (.ro (ns.map AV.int)) ∧ ns.length ≤ 63 ∧ 0 ≤ k ∧ k < 2 ^ 62 ∧ Q (.int (cellAt ns k.toNat)) σ
theorem a_cell {x : Addr} {k : Int} {ns : List Int} (h1 : σ.hp x = some (.ro (ns.map AV.int))) (h2 : ns.length ≤ 63) (h3 : 0 ≤ k) (h4 : k < 2 ^ 62) (h : Q (.int (cellAt ns k.toNat)) σ) : A_cell Q [.ref x, .int k] σ := ⟨x, k, ns, rfl, h1, h2, h3, h4, h⟩
noncomputable def A_doubled (Q : AV → AS → Prop) (l : List AV) (σ : AS) : Prop := ∃ k : Int, l = [.int k] ∧ 0 ≤ k ∧ k < 2 ^ 20 ∧ Q (.int (2 ^ k.toNat)) σ
theorem a_doubled {k : Int} (h0 : 0 ≤ k) (h1 : k < 2 ^ 20) (h : Q (.int (2 ^ k.toNat)) σ) : A_doubled Q [.int k] σ := ⟨k, rfl, h0, h1, h⟩
theorem good_end {c : ClaimW} {cl : Str → Option Addr} {mean : ExcName → Option Value} {args : List WData} {s₁ s' : Shared} {f : Flow} (hn : ∀ cls, c.raises args cls = false) (hp : c.post args (.bool true) args = true) (hg : s₁.gens = #[])
  (k : ∀ b o, s₁.heap.get? b = some o → s'.heap.get? b = some o) (ho : s'.os = s₁.os) (hg' : s'.gens = s₁.gens) :
  (∃ v, f = .ret v ∧ v = .bool true) → GoodW c cl mean args s₁ (.ok (.ret (match f with | .ret v => v | _ => .none))) s' := by
 rintro ⟨v, rfl, rfl⟩
 exact ⟨.inl ⟨.bool true, .bool true, [], rfl, hn, ReadsW.bool _, hp, fun ux => ⟨.nil, fun ux ha => nomatch ha⟩⟩, k, ho, hg'.trans hg⟩
theorem glo_of {p : Program} {loose : List Str} {mean : ExcName → Option Value} {mg mb : Str → Option Value} {h : Heap} (T : Top p loose mean mg mb h) (KX : K.In h) (hi : importsNone p = true) (ht : prog.given.tree = none) : Glo prog K h :=
 ⟨KX, ⟨mg, T.g⟩, ⟨mb, T.b, T.builtins⟩, T.nolimit, T.seer hi, ht, ⟨p, loose, mg, mb, topRead_of T⟩, ⟨mg, T.g, T.bmain⟩⟩
theorem frames_some {s : Shared} (r : R prog w cx σ s) : ∃ L, cx.fenv.frame = some L := by obtain ⟨_, ⟨L, o, hf, _⟩, _⟩ := r.ff; exact ⟨L, hf⟩
theorem ff_hide {h : Heap} {base : Heap} {h₀ : Heap} {fr : List Addr} : ∀ l : List Env, (∀ en ∈ l, ∀ a, en.frame = some a → a ∈ fr) → h.FunFrames base l → h.FunFrames (hideAll h₀ fr) l
 | [], _, _ => trivial
 | en :: l, hm, ⟨hk, ⟨a, o, hf, hn, ho, hd⟩, hr⟩ => ⟨hk, ⟨a, o, hf, hideAll_none _ (hm en (.head _) a hf), ho, hd⟩, ff_hide l (fun e he => hm e (.tail _ he)) hr⟩
theorem ex_raise (ok : Ok prog K cx sc n) (hh : cx.A.handled = none) {x : Str} {C : Addr} {bmB : List Value} {B newId initId : String} {np cpos : Pos} {args : List Expr} (hx : sc.names.lookup x = some .globalImplicit) (e : nsIn K mainGlobals x = some (some (.ref C)))
  (q : excIn K C bmB newId = true) (FB : ExcBaseFacts B newId initId bmB) (hd : (x == ("__debug__" : Str)) = false) (hpl : ∀ env, (backTo cpos (starEach args env)).any (·.1) = false)
  (h : WAr prog w cx cpos args σ (fun l σ₁ => l.length ≤ sizeLine ∧ E (.ref C) σ₁) E) : WEx prog w cx (.Raise (some (.Call (.Name x np) args [] cpos)) none pos) σ QF E := fun s r => by
 obtain ⟨p, loose, mg, mb, T⟩ := ok.glo.top
 obtain ⟨tl, N, nm, qn, bs, hdct, sn, sub, ab, col, dd, k0, k1, k2, k3, k5, mN, hC, hN, hni, TL⟩ := (own_of_in ok.glo.KX T e q).obj
 refine wpAny_Raise_call_subT (C := C) (nm := nm) (q := qn) (N := N) (bs := bs) (bm := tl) (hdct := hdct) (sn := sn) (sub := sub) (ab := ab) (col := col) (dd := dd) (k0 := k0) (k1 := k1) (k2 := k2) (k3 := k3) (k5 := k5)
  FB (mN := mN) (TL.hasType FB.hasBase) hh (hpl _) hni ?_
 refine wpAny_mono (ev_gname (E := E) (pos := np) (Q := fun v σ₁ => v = .ref C ∧ σ₁ = σ) ok hx e (fun ux => vr_ref) ⟨rfl, rfl⟩ hd s r) (fun f s₁ zz => zz.use fun a σ₁ r₁ v₁ m₁ ⟨ha, hσ⟩ => ?_) fun ux ux e => e
 subst ha hσ
 refine ⟨v₁, evalArgs_all (hpl _) (wpAny_mono (h s₁ r₁) (fun vs s₂ zz => zz.use fun l σ₂ r₂ v₂ m₂ ⟨hl, hE⟩ => ?_) fun ux ux e => e.mono m₁)⟩
 refine ⟨rfl, by show vs.length ≤ _; rw [v₂.length]; exact hl, r₂.stay _ _ hC, hN.keeps r₂.stay, TL.keeps r₂.stay, fun h' e' M => ?_⟩
 obtain ⟨t, he, htn, ht⟩ := M.there
 obtain ⟨L, hL⟩ := frames_some r₂
 refine ⟨e', .ref C, σ₂, s₂, L, rfl, r₂, rfl, ⟨hL, fun b o hb => M.keeps b o (of_hideAll _ hb), ?_, ?_, Heap.UpToSlots.of_keeps M.keeps⟩, .inl ⟨_, _, _, he, rfl, rfl, rfl, rfl⟩, m₁.trans m₂, hE⟩
 ·cases qq : (hideAll s₂.heap cx.frames).get? e' with
  | none => rfl
  | some o => have := of_hideAll _ qq; rw [M.new] at this; cases this
 ·exact ff_hide _ (fun en he a ha => List.mem_filterMap.mpr ⟨en, he, ha⟩) (r₂.ff.of_keeps fun b o hb ux => ⟨o, M.keeps b o hb, rfl⟩)
noncomputable def CX.mark (cx : CX) (e : Addr) : CX := { cx with A := cx.A.mark (some (.ref e)) }
theorem Ok.mark (ok : Ok prog K cx sc n) (e : Addr) : Ok prog K (cx.mark e) sc n := ⟨ok.1, ok.2, ok.3, ok.4, ok.5, ok.6, ok.7, ok.8, ok.9, ok.10, ok.11, ok.12, ok.13, ok.14, ok.15, ok.16, ok.17⟩
theorem R.mark {s : Shared} (r : R prog w cx σ s) (e : Addr) : R prog w (cx.mark e) σ s := ⟨r.1, r.2, r.3, r.4, r.5, r.6, r.7, r.8, r.9, r.10, r.11, r.12, r.13⟩
theorem R.unmark {s : Shared} {e : Addr} (r : R prog w (cx.mark e) σ s) : R prog w cx σ s := ⟨r.1, r.2, r.3, r.4, r.5, r.6, r.7, r.8, r.9, r.10, r.11, r.12, r.13⟩
noncomputable def WHd (prog : Program) (w : World) (cx : CX) (hs : List ExceptHandler) (C : Value) (σ : AS) (QF : AF → AS → Prop) (E : Value → AS → Prop) : Prop :=
 ∀ s e L a0 h₀ tk, R prog w cx σ { s with heap := h₀, toks := tk } → XC cx h₀ s.heap L e → s.heap.TracedW (hideAll h₀ cx.frames) e C a0 → wpAny (model prog w) cx.A (handleBy (.ref e) cx.env hs) (PostR prog w FR cx { s with heap := h₀ } QF) (PostE prog w cx { s with heap := h₀ } E) s
theorem ex_try (g : Fx prog K cx sc n) {body : List Stmt} {h₀ : ExceptHandler} {hs : List ExceptHandler} (h : WExs prog w cx body σ QF (fun C σ₁ => WHd prog w cx (h₀ :: hs) C σ₁ QF E)) : WEx prog w cx (.Try body (h₀ :: hs) [] [] pos) σ QF E := fun s r => by
 refine wpAny_Try_except (wpAny_mono (h s r) (fun f s₁ zz => zz.use fun a σ₁ r₁ v₁ m₁ q₁ => ?_) fun v s₁ ⟨e, C, σ₁, s₀, L, hv, r₁, hs, x, es, m₁, q⟩ => ?_)
 ·cases a with
  | next => rw [show f = .next from v₁]; exact wpAny_execs_nil ⟨.next, σ₁, r₁, rfl, m₁, q₁⟩
  | brk => rw [show f = .brk from v₁]; exact ⟨.brk, σ₁, r₁, rfl, m₁, q₁⟩
  | cont => rw [show f = .cont from v₁]; exact ⟨.cont, σ₁, r₁, rfl, m₁, q₁⟩
  | ret a => obtain ⟨v, rfl, hv⟩ := v₁; exact ⟨.ret a, σ₁, r₁, ⟨v, rfl, hv⟩, m₁, q₁⟩
 ·subst hv
  refine note_x g.ok.fr g.fe x es fun h' a0 x' ht => ?_
  refine wpAny_setFlight_noneW x'.st x'.ff ht fun h'' k1 k2 k3 k4 => ?_
  have x'' : XC cx s₀.heap h'' L e := ⟨x'.fr, k1, x'.new, k2, x'.up.trans fun b o hb hn => ⟨o.slots, k4 b o hb hn⟩⟩
  have := q { s₁ with heap := h'' } e L a0 s₀.heap s₀.toks (by rw [hs]; exact r₁) x'' k3
  exact wpAny_mono this (fun ux ux p => p.mono (by exact m₁)) fun ux ux p => p.mono (by exact m₁)
theorem R.add {s : Shared} {a : Addr} {ao : AO} (r : R prog w cx σ s) (ho : OR prog w s.heap a ao) (h1 : cx.base.get? a = none) (h2 : ∀ o, ¬ cx.P a o) (h3 : ¬ cx.own a) (h4 : ∀ e ∈ cx.fenv :: cx.outer, e.frame ≠ some a) : R prog w cx (σ.put a ao) s := by
 refine { r with ob := fun b bo e => ?_ }
 unfold AS.put at e
 dsimp only at e
 split at e
 ·rename_i q; subst q; cases e; exact ⟨ho, fun ux => h1, h2, h3, h4⟩
 ·exact r.ob b bo e
theorem exc_new {h₀ h : Heap} {L e : Addr} {tk : Nat} {s : Shared} (r : R prog w cx σ { s with heap := h₀, toks := tk }) (x : XC cx h₀ h L e) : cx.base.get? e = none ∧ (∀ o, ¬ cx.P e o) ∧ σ.hp e = none := by
 have key : ∀ o, h₀.get? e = some o → e ∉ cx.frames → False := fun o h1 h2 => by
  have := x.new; rw [hideAll_get _ h1 h2] at this; cases this
 refine ⟨?_, fun o hp => key o (r.pr e o hp).1 (r.pr e o hp).2, ?_⟩
 ·cases q : cx.base.get? e with
  | none => rfl
  | some o => exact (key o (r.stay e o q) fun hm => by have := (r.ff.mem hm).1; rw [this] at q; cases q).elim
 ·cases q : σ.hp e with
  | none => rfl
  | some ao =>
   obtain ⟨p, _, _, _, q4⟩ := r.ob e ao q
   obtain ⟨o, ho, _⟩ := p.there
   exact (key o ho fun hm => by obtain ⟨en, he, hf⟩ := mem_frame hm; exact q4 en he hf).elim
theorem exc_in {h₀ : Heap} {L e : Addr} {tk tk' : Nat} {s : Shared} {C a0 : Value} {h : Heap} (r : R prog w cx σ { s with heap := h₀, toks := tk }) (x : XC cx h₀ h L e) (t : h.TracedW (hideAll h₀ cx.frames) e C a0) :
  R prog w cx (σ.put e (.exc C)) { s with heap := h, toks := tk' } := by
 obtain ⟨b1, b2, b3⟩ := exc_new r x
 have r' : R prog w cx σ { s with heap := h, toks := tk' } := r.slots (tk := tk') x.st x.up
 obtain ⟨oe, vs, T, oT, ts, he, ⟨hcls, h0⟩, hd, h1, hnT, hTe, hT, hdT, h3⟩ := t
 refine r'.add ⟨oe, vs, he, hcls, hd⟩ b1 b2 (fun q => ?_) fun en hen hf => ?_
 ·rcases q with q | ⟨y, q⟩
  ·obtain ⟨m, hm⟩ := r'.ns
   obtain ⟨o, g1, g2⟩ := nofields_ns hm
   rw [← q] at g1
   rw [show h.get? e = some o from g1] at he; cases he; exact g2 _ hd
  ·obtain ⟨_, ⟨o, v, c1, c2⟩, _⟩ := r'.cel y e q
   rw [show h.get? e = some o from c1] at he; cases he; rw [c2] at hd; cases hd
 ·obtain ⟨_, o, g1, g2⟩ := r'.ff.mem (List.mem_filterMap.mpr ⟨en, hen, hf⟩)
  rw [show h.get? e = some o from g1] at he; cases he; exact g2 _ hd
theorem vm_up {h h' : Heap} (u : h.UpToSlots h') : VM h h' := VM.of_slots u
theorem hd_test (ok : Ok prog K cx sc n) {x : Str} {np hpos : Pos} {D Ca : Addr} {b : Bool} {name : Option Str} {b₀ : Stmt} {body : List Stmt} {rest : List ExceptHandler} (hx : sc.names.lookup x = some .globalImplicit) (e : nsIn K mainGlobals x = some (some (.ref D)))
    (hm : exmOne K (.ref Ca) (.ref D) = some b) (hd : (x == ("__debug__" : Str)) = false) {s : Shared} {ex L : Addr} {a0 : Value} {h₀ : Heap} {tk : Nat} {Qw : Flow → Shared → Prop} {Ew : Value → Shared → Prop}
    (r : R prog w cx σ { s with heap := h₀, toks := tk }) (xc : XC cx h₀ s.heap L ex) (t : s.heap.TracedW (hideAll h₀ cx.frames) ex (.ref Ca) a0)
    (h1 : b = true → codeAny (model prog w) (cx.A.mark (some (.ref ex))) (.handlers (.ref ex) [.ExceptHandler none name (b₀ :: body) hpos] cx.env) (fun r s₂ => match r with
          | .ok f => (match name with
            | none => Qw f s₂
            | some n => wpAny (model prog w) cx.A (do bindName cx.env n .none; unbindBehindTheSuite cx.env n hpos) (fun ux s₃ => Qw f s₃) Ew s₂)
          | .error x => cameBackBy (model prog w) cx.A cx.env Ew x s₂) s)
    (h0 : b = false → wpAny (model prog w) cx.A (handleBy (.ref ex) cx.env rest) Qw Ew s) :
    wpAny (model prog w) cx.A (handleBy (.ref ex) cx.env (.ExceptHandler (some (.Name x np)) name (b₀ :: body) hpos :: rest)) Qw Ew s := by
  have r' : R prog w cx σ { s with heap := s.heap, toks := s.toks } := r.slots (tk := s.toks) xc.st xc.up
  have KX : K.In s.heap := fun a o q => r'.stay a o (ok.glo.KX a o q)
  have hk : cx.env.scope.kind = .function := by rw [ok.scope]; exact ok.kind
  obtain ⟨mg, hg⟩ := ok.glo.g
  obtain ⟨oe, vs, T, oT, ts, he, ⟨hcls, _⟩, _⟩ := t
  have LT : Looks (model prog w) s.heap (typeOf (.ref ex)) (.ref Ca) := hcls ▸ (Looks.ld he).andThen .now
  refine wpAny_handleBy_cons (codeAny_handlers_test (Name_function_global hk (by unfold Env.kindOf; rw [ok.scope]; exact hx) (loadGlobal_global (by rw [ok.glob]; exact hg.keeps r'.stay) (mg_of ok.glo.KX hg e) ?_) hd)) (by intro q; cases q)
  refine (exm_one KX LT hm).here ?_
  cases b with
  | true => exact h1 rfl
  | false => exact h0 rfl
theorem hd_plain (ok : Ok prog K cx sc n) {x : Str} {np hpos : Pos} {D Ca : Addr} {b₀ : Stmt} {body : List Stmt} {rest : List ExceptHandler} (hx : sc.names.lookup x = some .globalImplicit) (e : nsIn K mainGlobals x = some (some (.ref D)))
  (hm : exmOne K (.ref Ca) (.ref D) = some true) (hd : (x == ("__debug__" : Str)) = false) (h : ∀ cx', Ok prog K cx' sc n → WExs prog w cx' (b₀ :: body) σ QF (fun ux ux => False)) : WHd prog w cx (.ExceptHandler (some (.Name x np)) none (b₀ :: body) hpos :: rest) (.ref Ca) σ QF E :=
 fun s ex L a0 h₀ tk r xc t => hd_test ok hx e hm hd r xc t (fun _ => by
  refine codeAny_handlers_suite (lands_againW ⟨xc.st, xc.new, xc.ff, t⟩ fun h' ⟨k1, k2, k3, k4⟩ u => ?_)
  have r' : R prog w cx σ { s with heap := h', toks := s.toks } := r.slots (tk := s.toks) k1 (xc.up.trans u)
  refine wpAny_mono (h (cx.mark ex) (ok.mark ex) { s with heap := h' } (r'.mark ex)) (fun f s₂ zz => zz.use fun a σ₂ r₂ v₂ m₂ q₂ => ?_) fun v s₂ ⟨_, _, _, _, _, _, _, _, _, _, _, q⟩ => q.elim
  exact ⟨a, σ₂, r₂.unmark, v₂, (vm_up (xc.up.trans u)).trans m₂, q₂⟩) fun q => by cases q
noncomputable def AS.del (σ : AS) (x : Str) : AS := ⟨fun y => if y = x then none else σ.loc y, σ.hp⟩
theorem R.goes {s : Shared} {h' : Heap} {tk : Nat} {x : Str} {v : Option Value} {m : Str → Option Value} (r : R prog w cx σ s) (hk : cx.env.kindOf x = some .local) (hn : s.heap.Ns cx.env.locals m)
  (hn' : h'.Ns cx.env.locals (fun y => if y = x then v else m y)) (hs : Heap.SameBut cx.env.locals s.heap h') : R prog w cx (σ.del x) { s with heap := h', toks := tk } ∧ VM s.heap h' := by
 obtain ⟨o₀, es, ep, h0, d0⟩ := ns_data hn
 obtain ⟨o₁, es₁, ep₁, h1, d1⟩ := ns_data hn'
 have vm : VM s.heap h' := fun b o xs n e ux d => ⟨o.slots, (hs.2 b (fun q => by subst q; rw [h0] at e; cases e; rw [d0] at d; cases d)).trans e⟩
 refine r.ownSet (.inl rfl) hs h0 h1 (by intro xs n; rw [d0]; simp) (by intro _ vs; rw [d1]; simp) ⟨_, hn'⟩ (fun y c e => ?_) (fun y a e => ?_) rfl
 ·obtain ⟨p, ⟨o, v', q1, q2⟩, _⟩ := r.cel y c e
  exact ⟨o, v', (hs.2 c p).trans q1, q2⟩
 ·unfold AS.del at e
  dsimp only at e
  split at e
  ·cases e
  ·rename_i q
   obtain ⟨u', l, b⟩ := r.loc y a e
   refine ⟨u', ?_, b.mono vm⟩
   unfold LocAt at l ⊢
   split at l
   ·obtain ⟨m', a1, a2⟩ := l
    have : m' = m := by
     obtain ⟨o1, e1, p1, f1, f2, f3, f4⟩ := a1
     obtain ⟨o2, e2, p2, g1, g2, g3, g4⟩ := hn
     rw [f1] at g1; cases g1; rw [f2] at g2; cases g2
     funext z; rw [← f4 z, ← g4 z]
    exact ⟨_, hn', by rw [if_neg q, ← this]; exact a2⟩
   ·obtain ⟨c, o, a1, a2, a3⟩ := l
    exact ⟨c, o, a1, (hs.2 c (r.cel y c a1).1).trans a2, a3⟩
   ·obtain ⟨c, o, a1, a2, a3⟩ := l
    exact ⟨c, o, a1, (hs.2 c (r.cel y c a1).1).trans a2, a3⟩
   ·exact l
theorem FR.mono {h h' : Heap} (k : VM h h') {a : AF} {f : Flow} (x : FR h a f) : FR h' a f := by
 cases a with
 | ret a => obtain ⟨v, e, hv⟩ := x; exact ⟨v, e, hv.mono k⟩
 | _ => exact x
theorem hd_as (ok : Ok prog K cx sc n) {x y : Str} {np hpos : Pos} {D Ca : Addr} {b₀ : Stmt} {body : List Stmt} {rest : List ExceptHandler} (hx : sc.names.lookup x = some .globalImplicit) (e : nsIn K mainGlobals x = some (some (.ref D)))
  (hm : exmOne K (.ref Ca) (.ref D) = some true) (hd : (x == ("__debug__" : Str)) = false) (hy : sc.names.lookup y = some .local)
  (h : ∀ cx' ex, Ok prog K cx' sc n → σ.hp ex = none → WExs prog w cx' (b₀ :: body) ((σ.put ex (.exc (.ref Ca))).set y (.ref ex)) (fun f σ' => QF f (σ'.del y)) (fun ux ux => False)) : WHd prog w cx (.ExceptHandler (some (.Name x np)) (some y) (b₀ :: body) hpos :: rest) (.ref Ca) σ QF E :=
 fun s ex L a0 h₀ tk r xc t => hd_test ok hx e hm hd r xc t (fun _ => by
  refine codeAny_handlers_suite_as (lands_againW ⟨xc.st, xc.new, xc.ff, t⟩ fun h' ⟨k1, k2, k3, k4⟩ u => ?_)
  have xc' : XC cx h₀ h' L ex := ⟨xc.fr, k1, k2, k3, xc.up.trans u⟩
  have r' : R prog w cx (σ.put ex (.exc (.ref Ca))) { s with heap := h', toks := s.toks } := exc_in r xc' k4
  have hk : cx.env.kindOf y = some .local := by unfold Env.kindOf; rw [ok.scope]; exact hy
  refine wpAny_mono (st_name (E := fun ux ux => False) (Q := fun ux σ' => σ' = (σ.put ex (.exc (.ref Ca))).set y (.ref ex)) (ok.mark ex) hy rfl { s with heap := h', toks := s.toks } (.ref ex) (r'.mark ex) rfl) (fun ux s₁ zz => zz.use fun _ σ₁ r₁ _ m₁ q₁ => ?_) fun v s₂ ⟨_, _, _, _, _, _, _, _, _, _, _, q⟩ => q.elim
  subst q₁
  refine wpAny_mono (h (cx.mark ex) ex (ok.mark ex) (exc_new r xc).2.2 s₁ r₁) (fun f s₂ zz => zz.use fun a σ₂ r₂ v₂ m₂ q₂ => ?_) fun v s₂ ⟨_, _, _, _, _, _, _, _, _, _, _, q⟩ => q.elim
  obtain ⟨m, hn⟩ := r₂.ns
  refine wpAny_nameGoes_keeps hk hn (by rw [ok.scope, ok.kind]; rfl) fun h'' v hn' hs' => ?_
  obtain ⟨r₃, m₃⟩ := r₂.unmark.goes (tk := s₂.toks + 1) hk hn hn' hs'
  exact ⟨a, _, r₃, FR.mono m₃ v₂, (((vm_up (xc.up.trans u)).trans m₁).trans m₂).trans m₃, q₂⟩) fun q => by cases q
end
section
open PySem PySem.W PyProof.Rows PySem.Calls Builtin Builtin.ObjectAttr Builtin.Getset_descriptor
set_option autoImplicit false
set_option linter.unusedVariables false
set_option maxRecDepth 100000
section
variable {prog : Program} {w : World} {K : Frag} {A : Around} {E : Value → Shared → Prop} {s : Shared} {x D : Addr}
theorem exc_find {M : Model} {h : Heap} {name : Str} {a g : Value} (X : K.In h) (ha : findIn K (.ref D) name = some (some a)) (hg : specialIn K a "__get__" = some (some g)) (ht : takesIn K a = some true) : Looks M h (find (.ref x) (.ref D) name) (.bind g a) := by
 have L1 := looks_findIn (M := M) X ha
 have L2 := looks_specialIn (M := M) X hg
 have L3 := looks_takesIn (M := M) X ht
 exact L1.andThen ((show Looks M h (getOf (some a)) (some g) from L2).andThen ((show Looks M h (dataDescriptor? (some a) (some g)) (some (g, a)) from L3.andThen .now).andThen (Looks.tag .now)))
theorem exc_get {R : Result → Shared → Prop} {tp : Value} (X : K.In s.heap) (L0 : Looks (model prog w) s.heap (typeOf (.ref x)) (.ref D)) (hm : mroIn K D (.type "object") = some true) (h : R (.ok (.ret (.ref D))) s) :
  codeAny (model prog w) A (.call (.builtin "getset_descriptor.__get__") ⟨[.builtin "object.__class__", .ref x, tp], []⟩) R s := by
 obtain ⟨hh, g, dr, t, os⟩ := s
 have L1 := looks_mroIn (M := model prog w) X hm
 refine codeAny_call_builtin KF.slot_gs.plain KF.entry_gs (KF.slot_gs.check _ _ _ _ _ _ _ _ KF.type_class (KF.args_gs _ _ _) ?_)
 unfold Builtin.«getset_descriptor.__get__» descrGet
 rw [dga_obj]
 refine wpAny_bind (wpAny_pure ?_)
 unfold descrGetter descrCheckInstance descrNameAndClass isInstance
 simp only [KF.owner_class]
 repeat lk
 refine ⟨Code.quiet_builtin _ (by decide +kernel), codeAny_builtin KF.entry_class ?_⟩
 unfold Builtin.«object.__class__» shownTypeOf
 repeat lk
 exact h
theorem exc_class {Q : Option Value → Shared → Prop} (X : K.In s.heap) (L0 : Looks (model prog w) s.heap (typeOf (.ref x)) (.ref D)) (hga : findIn K (.ref D) "__getattribute__" = some (some (.builtin "BaseException.__getattribute__")))
  (hgt : findIn K (.ref D) "__getattr__" = some none) (ha : findIn K (.ref D) "__class__" = some (some (.builtin "object.__class__"))) (hg : specialIn K (.builtin "object.__class__") "__get__" = some (some (.builtin "getset_descriptor.__get__")))
  (ht : takesIn K (.builtin "object.__class__") = some true) (hm : mroIn K D (.type "object") = some true) (hb : mroIn K D (.type "BaseException") = some true) (h : Q (some (.ref D)) { s with toks := s.toks + 1 }) :
  wpAny (model prog w) A (getAttr? (.ref x) "__class__") Q E s := by
 obtain ⟨hh, g, d, t, os⟩ := s
 have L1 := looks_findIn (M := model prog w) X hga
 have L2 := looks_findIn (M := model prog w) X hgt
 have L3 := exc_find (M := model prog w) (x := x) X ha hg ht
 have L4 := looks_mroIn (M := model prog w) X hb
 have f3 := PySem.F.excAttr_ValueError.ga.bind (.ref x)
 unfold getAttr? getAttrBy? getAttrBy
 refine wpAny_bind (wpAny_mkText (wpAny_bind (wpAny_attempt (wpAny_holding (wpAny_bind (L0.at (wpAny_bind (L1.at ?_))))))))
 dsimp only
 have hne : (Value.builtin "BaseException.__getattribute__" == Value.builtin "object.__getattribute__") = false := by decide +kernel
 rw [if_neg (by rw [hne, Bool.and_false]; decide)]
 unfold getAttrByItsOwn hookBefore
 rw [show onTheHeap (Value.ref D) = true from rfl, if_pos rfl]
 refine wpAny_bind (L2.at (wpAny_bind (wpAny_attempt (wpAny_holding ?_))))
 unfold callGetattribute boundAndCalled
 rw [if_neg (by decide)]
 refine wpAny_bind (wpAny_of_eq f3 ?_)
 dsimp only
 refine wpAny_call (codeAny_call_builtin PySem.F.excAttr_ValueError.ga.plain PySem.F.entry_bexc_ga ?_)
 have hk : builtinKind "BaseException.__getattribute__" = some .slot := by decide +kernel
 have hsplit : splitId "BaseException.__getattribute__" = some ("BaseException", "__getattribute__") := by decide +kernel
 have hargs := PySem.F.args_bexc_ga (.ref x) (.str "__class__" t)
 simp only [checkBuiltinCall, hk, hsplit]
 refine wpAny_bind ?_
 unfold isInstance
 repeat lk
 show wpAny _ _ (run (.call (.builtin "getset_descriptor.__get__") ⟨[.builtin "object.__class__", .ref x, .ref D], []⟩) none) _ _ _
 refine wpAny_run (exc_get (s := ⟨hh, g, d, t + 1, os⟩) X L0 hm ?_)
 refine wpAny_pure (wpAny_pure ?_)
 exact handed_on rfl (wpAny_pure h)
theorem kitx_exc (hga : findIn K (.ref D) "__getattribute__" = some (some (.builtin "BaseException.__getattribute__")))
  (hgt : findIn K (.ref D) "__getattr__" = some none) (ha : findIn K (.ref D) "__class__" = some (some (.builtin "object.__class__"))) (hg : specialIn K (.builtin "object.__class__") "__get__" = some (some (.builtin "getset_descriptor.__get__")))
  (ht : takesIn K (.builtin "object.__class__") = some true) (hm : mroIn K D (.type "object") = some true) (hb : mroIn K D (.type "BaseException") = some true) (hdct : isClsIn K D = true) :
  KitX K (.ref x) (.ref D) (fun h => ∃ o vs, h.get? x = some o ∧ o.cls = .ref D ∧ o.data = .fields vs) where
 ty := fun M h _ ⟨o, vs, h1, h2, _⟩ => h2 ▸ (Looks.ld h1).andThen .now
 it := fun _ _ X _ => by
  obtain ⟨cdD, hcD⟩ := Option.isSome_iff_exists.mp hdct
  unfold clsIn at hcD
  split at hcD
  ·rename_i c' d' cd' sl' ho
   intro A' Q' E' s' k q
   unfold isType loadHead
   exact wpAny_bind (wpAny_loadPart (k _ _ (X _ _ ho)) (wpAny_pure q))
  ·cases hcD
 ne := fun h tp dd its n sl X htp => by
  obtain ⟨cdD, hcD⟩ := Option.isSome_iff_exists.mp hdct
  refine Bool.eq_false_iff.mpr fun q => ?_
  have e : D = tp := Value.ref.inj (beq_iff_eq.mp q)
  subst e
  unfold clsIn at hcD
  split at hcD
  ·rename_i c' d' cd' sl' ho
   have z := (X _ _ ho).symm.trans htp
   cases z
  ·cases hcD
 ca := fun {_ _ _ _ _ s} X ⟨o, vs, h1, h2, _⟩ k => exc_class X (h2 ▸ (Looks.ld h1).andThen .now) hga hgt ha hg ht hm hb k
end
section
variable {prog : Program} {w : World} {K : Frag} {cx : CX} {sc : Scope} {n : Nat} {σ : AS} {Q : AV → AS → Prop} {QB : Bool → AS → Prop} {QF : AF → AS → Prop} {E : Value → AS → Prop} {pos : Pos}
structure ExcCls (K : Frag) (D : Addr) : Prop where
 ga : findIn K (.ref D) "__getattribute__" = some (some (.builtin "BaseException.__getattribute__"))
 gt : findIn K (.ref D) "__getattr__" = some none
 a : findIn K (.ref D) "__class__" = some (some (.builtin "object.__class__"))
 g : specialIn K (.builtin "object.__class__") "__get__" = some (some (.builtin "getset_descriptor.__get__"))
 t : takesIn K (.builtin "object.__class__") = some true
 m : mroIn K D (.type "object") = some true
 b : mroIn K D (.type "BaseException") = some true
 c : isClsIn K D = true
theorem cl_isi_exc (ok : Ok prog K cx sc n) {x D : Addr} (z : ExcCls K D) (hx : σ.hp x = some (.exc (.ref D))) {c : AV} {cv : Value} {b : Bool} (hc : ∀ h v, VR h c v → v = cv) (e : kitOne K (.ref D) cv = some b) (h : Q (.bool b) σ) : WCl prog w cx (.builtin "isinstance") [.ref x, c] σ Q E := fun s vs r hv => by
 obtain ⟨v, u, rfl, p, q⟩ := vrs2 hv
 rw [hc _ _ q, show v = .ref x from p]
 exact kia_one (kitx_exc z.ga z.gt z.a z.g z.t z.m z.b z.c) (fun a o e => r.stay a o (ok.glo.KX a o e)) (r.ob x _ hx).1 e (by simp) fun tk => here r vr_bool h
noncomputable def refsOf : List AV → Option (List Value)
 | [] => some []
 | .ref a :: l => (refsOf l).map (.ref a :: ·)
 | .raw v :: l => (refsOf l).map (v :: ·)
 | _ => none
theorem refs_of {h : Heap} : ∀ {l : List AV} {us : List Value} {vs : List Value}, refsOf l = some us → VRs h l vs → vs = us
 | [], _, _, e, q => by cases e; exact q
 | .ref a :: l, _, _, e, ⟨v, r, ev, p, q⟩ => by
  subst ev
  rw [show v = .ref a from p]
  unfold refsOf at e
  cases h : refsOf l with
  | none => rw [h] at e; cases e
  | some ns => rw [h] at e; cases e; rw [refs_of h q]
 | .raw a :: l, _, _, e, ⟨v, r, ev, p, q⟩ => by
  subst ev
  rw [show v = a from p]
  unfold refsOf at e
  cases h : refsOf l with
  | none => rw [h] at e; cases e
  | some ns => rw [h] at e; cases e; rw [refs_of h q]
theorem cl_isi_exct (ok : Ok prog K cx sc n) {x D : Addr} (z : ExcCls K D) (hx : σ.hp x = some (.exc (.ref D))) {l : List AV} {us : List Value} {b : Bool} (hc : refsOf l = some us) (e : kitAny K (.ref D) us = some b) (h : Q (.bool b) σ) : WCl prog w cx (.builtin "isinstance") [.ref x, .tup l] σ Q E := fun s vs r hv => by
 obtain ⟨v, u, rfl, p, ⟨a, ws, rfl, ⟨o, m, h1, h2, h3⟩, q⟩⟩ := vrs2 hv
 rw [show v = .ref x from p]
 have := refs_of hc q
 subst this
 obtain ⟨oc, od, oda, osl⟩ := o
 dsimp only at h2 h3
 subst h2 h3
 exact kia_tup (kitx_exc z.ga z.gt z.a z.g z.t z.m z.b z.c) (fun a o e => r.stay a o (ok.glo.KX a o e)) (r.ob x _ hx).1 h1 e (by simp) fun tk => here r vr_bool h
theorem nsEq {C C' : Addr} {x : Str} (h : nsIn K mainGlobals x = some (some (.ref C))) (h' : nsIn K mainGlobals x = some (some (.ref C'))) : C = C' := by
 rw [h] at h'; injection h' with h'; injection h' with h'; injection h'
theorem x_raise (g : Fx prog K cx sc n) {x : Str} {C : Addr} {np cpos : Pos} {args : List Expr} (hx : sc.names.lookup x = some .globalImplicit) (e : nsIn K mainGlobals x = some (some (.ref C)))
  (q : excIn K C [.type "ValueError", .type "Exception", .type "BaseException", .type "object"] "ValueError.__new__" = true) (hd : (x == ("__debug__" : Str)) = false) (hpl : ∀ env, (backTo cpos (starEach args env)).any (·.1) = false)
  (h : WAr prog w cx cpos args σ (fun l σ₁ => l.length ≤ sizeLine ∧ E (.ref C) σ₁) E) : WEx prog w cx (.Raise (some (.Call (.Name x np) args [] cpos)) none pos) σ QF E :=
 ex_raise g.ok g.hh hx e q PySem.F.excBase_ValueError hd hpl h
noncomputable def AV.flat : AV → Bool
 | .none | .bool _ | .int _ | .str _ => true
 | _ => false
theorem cmp_is_none {a : AV} (h : Q (.bool (match a with | .none => true | _ => false)) σ) (hf : a.flat = true) : WOp2 prog w cx (compareOp .Is) a .none σ Q E := by
 intro s va vb r h1 h2
 rw [show vb = .none from h2]
 cases a with
 | none => rw [show va = .none from h1]; exact wpAny_is_self rfl (here0 r vr_bool h)
 | bool b => rw [show va = .bool b from h1]; exact is_none_ne (by intro x; cases x) (here0 r vr_bool h)
 | int b => obtain ⟨t, rfl⟩ := h1; exact is_none_ne (by intro x; cases x) (here0 r vr_bool h)
 | str b => obtain ⟨t, rfl⟩ := h1; exact is_none_ne (by intro x; cases x) (here0 r vr_bool h)
 | _ => cases hf
end
end
section
variable {prog : Program} {w : World} {K : Frag} {cx : CX} {sc : Scope} {n : Nat} {σ : AS} {Q : AV → AS → Prop} {QB : Bool → AS → Prop} {QF : AF → AS → Prop} {E : Value → AS → Prop} {pos : Pos}
noncomputable def Fit (v : Int) (e : Nat) : Prop := e ≤ 60 ∧ v ≤ 2 ^ e ∧ ∀ j, j < e → (2 : Int) ^ j < v
noncomputable def A_issize (Q : AV → AS → Prop) (l : List AV) (σ : AS) : Prop := ∃ v : Int, l = [.int v] ∧ ((v < 1 ∨ 2 ^ 60 < v) → Q (.bool false) σ) ∧ (1 ≤ v → v ≤ 2 ^ 60 → ∀ e, Fit v e → Q (.bool ((2 : Int) ^ e == v)) σ)
theorem a_issize {v : Int} (h1 : (v < 1 ∨ 2 ^ 60 < v) → Q (.bool false) σ) (h2 : 1 ≤ v → v ≤ 2 ^ 60 → ∀ e, Fit v e → Q (.bool ((2 : Int) ^ e == v)) σ) : A_issize Q [.int v] σ := ⟨v, rfl, h1, h2⟩
noncomputable def Dbl (x y : Str) (v : Int) (σ₀ : AS) (k : Nat) (σ : AS) : Prop := ∃ i, k + i = 61 ∧ i ≤ 60 ∧ σ.loc x = some (.int (2 ^ i)) ∧ σ.loc y = some (.int v) ∧ (∀ j, j < i → (2 : Int) ^ j < v) ∧ σ₀.Sub σ
theorem fit_unique {k e : Nat} (h : Fit (2 ^ k) e) : e = k := by
 obtain ⟨_, h1, h2⟩ := h
 rcases Nat.lt_trichotomy e k with q | q | q
 ·have : (2 : Nat) ^ e < 2 ^ k := Nat.pow_lt_pow_right (by decide) q
  have : (2 : Int) ^ e < 2 ^ k := by exact_mod_cast this
  lia
 ·exact q
 ·have := h2 k q
  lia
theorem pow_le_60 {e : Nat} (h : e ≤ 60) : (2 : Int) ^ e ≤ 2 ^ 60 := by
 have : (2 : Nat) ^ e ≤ 2 ^ 60 := Nat.pow_le_pow_right (by decide) h
 exact_mod_cast this
theorem pow_pos' (e : Nat) : (0 : Int) < 2 ^ e := Int.pow_pos (by decide)
theorem inst_at {s : Shared} {x C dx : Addr} {fs : List (Str × AV)} (r : R prog w cx σ s) (hx : σ.hp x = some (.inst C dx)) (hd : σ.hp dx = some (.attrs fs)) : ∃ es n, InstAt s.heap x (instObj C dx) C (some (dictOf es n)) ∧ ESR w.params s.heap fs es := by
 obtain ⟨⟨es, n, p, q⟩, _⟩ := r.ob dx _ hd
 exact ⟨es, n, ⟨(r.ob x _ hx).1, rfl, rfl, p⟩, q⟩
theorem esr_refKey {P : Params} {h : Heap} : ∀ {fs : List (Str × AV)} {es : List DictEntry}, ESR P h fs es → es.any (·.refKey) = false
 | [], _, e => by rw [show _ = [] from e]; rfl
 | (x, a) :: r, _, ⟨t, v, es', e, _, q⟩ => by
  subst e
  rw [List.any_cons, esr_refKey q]
  rfl
theorem isStr_str {x y : Str} {t : Tok} : (Value.str x t).isStr y = (x == y) := by
 rfl
theorem esr_get {P : Params} {h : Heap} {y : Str} : ∀ {fs : List (Str × AV)} {es : List DictEntry}, ESR P h fs es → match fs.lookup y with | some a => ∃ v, getL y es = some (some v) ∧ VR h a v | none => getL y es = some none
 | [], _, e => by rw [show _ = [] from e]; rfl
 | (x, a) :: r, _, ⟨t, v, es', e, hv, q⟩ => by
  subst e
  have ih := esr_get (y := y) q
  have hk := esr_refKey q
  rw [List.lookup_cons]
  unfold getL at ih ⊢
  rw [List.find?_cons, List.any_cons]
  show match (match y == x with | true => some a | false => r.lookup y) with | some a => _ | none => _
  have hs : (Value.str x t).isStr y = (y == x) := by
   rw [isStr_str]
   exact Bool.eq_iff_iff.mpr ⟨fun q => by rw [beq_iff_eq.mp q]; exact beq_self_eq_true _, fun q => by rw [beq_iff_eq.mp q]; exact beq_self_eq_true _⟩
  dsimp only
  rw [hs]
  cases hb : y == x with
  | true => exact ⟨v, rfl, hv⟩
  | false => exact ih
noncomputable def AV.plain : AV → Bool | .raw _ => false | _ => true
theorem VR.handed {h : Heap} {a : AV} {v : Value} (p : a.plain = true) (x : VR h a v) : handedIn v = true := by
 cases a with
 | none => rw [show v = .none from x]; rfl
 | bool b => rw [show v = .bool b from x]; rfl
 | int i => obtain ⟨t, rfl⟩ := x; rfl
 | str i => obtain ⟨t, rfl⟩ := x; rfl
 | tup l => obtain ⟨a, vs, rfl, _⟩ := x; rfl
 | ref a => rw [show v = .ref a from x]; rfl
 | raw v => cases p
theorem Ok.in_ {s : Shared} (ok : Ok prog K cx sc n) (r : R prog w cx σ s) : K.In s.heap := fun a o e => r.stay a o (ok.glo.KX a o e)
inductive AtAttr (K : Frag) (attr : Str) (Q : AV → AS → Prop) (a : AV) (σ₁ : AS) : Prop
 | mk (x C dx : Addr) (fs : List (Str × AV)) (v : AV) (ca : Option Value) (ha : a = .ref x) (hx : σ₁.hp x = some (.inst C dx)) (hd : σ₁.hp dx = some (.attrs fs)) (h1 : plainGet K C attr = true) (h2 : hasDictIn K C = true) (h3 : findIn K (.ref C) attr = some ca) (h4 : noGet K ca = true) (h5 : fs.lookup attr = some v) (h6 : v.plain = true) (q : Q v σ₁) : AtAttr K attr Q a σ₁
inductive AtMeth (prog : Program) (w : World) (K : Frag) (cx : CX) (pos : Pos) (args : List Expr) (name : Str) (Q : AV → AS → Prop) (E : Value → AS → Prop) (a : AV) (σ₁ : AS) : Prop
 | mk (x C dx : Addr) (fs : List (Str × AV)) (f : Addr) (ha : a = .ref x) (hx : σ₁.hp x = some (.inst C dx)) (hd : σ₁.hp dx = some (.attrs fs)) (h1 : plainGet K C name = true) (h2 : findIn K (.ref C) name = some (some (.ref f))) (h3 : isFn K (.ref f) = true) (h4 : keepIn K (.ref f) = true) (h5 : fs.lookup name = none)
   (q : WAr prog w cx pos args σ₁ (fun l σ₂ => WCl prog w cx (.ref f) (.ref x :: l) σ₂ Q E) E) : AtMeth prog w K cx pos args name Q E a σ₁
theorem v_attr (ok : Ok prog K cx sc n) {value : Expr} {attr : Str} (he : ∀ env, eval (.Attribute value attr pos) env = (do
   let o ← eval value env
   standAt pos.atName
   let r ← holding [o] (getAttr o attr true)
   letTemporaryGo value o r
   pure r))
  (h : WEv prog w cx value σ (AtAttr K attr Q) E) :
  WEv prog w cx (.Attribute value attr pos) σ Q E := fun s r => by
 refine Attribute_any_ (wpAny_mono (h s r) (fun va s₁ zz => ?_) fun ux ux e => e) (he _)
 obtain ⟨a, σ₁, r₁, v₁, m₁, x, C, dx, fs, v, ca, ha, hx, hd, h1, h2, h3, h4, h5, h6, q₁⟩ := zz
 subst ha
 rw [show va = .ref x from v₁]
 obtain ⟨es, n, I, e⟩ := inst_at r₁ hx hd
 have := esr_get (y := attr) e
 rw [h5] at this
 obtain ⟨u, hu, hv⟩ := this
 exact get_value (ok.in_ r₁) I (plainGet_of h1).1 (findObj_own h2 h3 h4 hu) (hv.handed h6) ⟨v, σ₁, r₁.tok, hv, m₁, q₁⟩
theorem v_meth (ok : Ok prog K cx sc n) {o : Expr} {name : Str} {apos : Pos} {args : List Expr} {pl : Env → Sem Bool} (he : ∀ env, eval (.Call (.Attribute o name apos) args [] pos) env = (do
   let ov ← eval o env
   standAt apos.atName
   let (f, first) ← holding [ov] (getMethod ov name (pl env))
   callWith pos f first (backTo pos (starEach args env)) (backToKw pos (keywordEach [] env)))) (hpl : ∀ env, (backTo pos (starEach args env)).any (·.1) = false)
  (h : WEv prog w cx o σ (AtMeth prog w K cx pos args name Q E) E) : WEv prog w cx (.Call (.Attribute o name apos) args [] pos) σ Q E := fun s r => by
 refine methodCall_KW (kws := []) (pl := pl cx.env) (wpAny_mono (h s r) (fun va s₁ zz => ?_) fun ux ux e => e) (he _)
 obtain ⟨a, σ₁, r₁, v₁, m₁, x, C, dx, fs, f, ha, hx, hd, h1, h2, h3, h4, h5, q₁⟩ := zz
 subst ha
 rw [show va = .ref x from v₁]
 obtain ⟨es, n, I, e⟩ := inst_at r₁ hx hd
 have hl := esr_get (y := name) e
 rw [h5] at hl
 refine method_fn (ok.in_ r₁) I (plainGet_of h1).1 (plainGet_of h1).2 h2 (beq_iff_eq.mp h3) (by show (lookIn name (dictOf es n)).map _ = _; rw [lookIn_dict, hl]; rfl) ?_
 refine callWith_of (P := fun h => K.In h) (by rw [hpl]; rfl) (fun h X => keeps_K h4 h X) (evalArgs_all (hpl _) ?_)
 refine wpAny_mono (q₁ s₁ r₁) (fun vs s₂ zz => zz.use fun l σ₂ r₂ v₂ m₂ q₂ => ⟨ok.in_ r₂, ?_⟩) fun ux ux e => e.mono m₁
 exact wpAny_mono (q₂ s₂ (.ref x :: vs) r₂ ⟨_, _, rfl, vr_ref, v₂⟩) (fun ux ux p => p.mono (m₁.trans m₂)) fun ux ux e => e.mono (m₁.trans m₂)
noncomputable def allBut (h : Heap) (L d : Addr) : List (Addr × Obj) := (List.range h.objs.size).filterMap fun b => if b = L ∨ b = d then none else (h.get? b).map fun o => (b, o)
theorem mem_allBut {h : Heap} {L d b : Addr} {o : Obj} (e : h.get? b = some o) (h1 : b ≠ L) (h2 : b ≠ d) : (b, o) ∈ allBut h L d := by
 unfold allBut
 refine List.mem_filterMap.mpr ⟨b, List.mem_range.mpr (Heap.lt_size e), ?_⟩
 rw [if_neg (by rintro (q | q); exact h1 q; exact h2 q), e]
 rfl
theorem of_allBut {h : Heap} {L d : Addr} {p : Addr × Obj} (m : p ∈ allBut h L d) : h.get? p.1 = some p.2 ∧ p.1 ≠ L ∧ p.1 ≠ d := by
 unfold allBut at m
 obtain ⟨b, _, e⟩ := List.mem_filterMap.mp m
 split at e
 ·cases e
 ·rename_i q
  obtain ⟨o, ho, rfl⟩ := Option.map_eq_some_iff.mp e
  exact ⟨ho, fun z => q (.inl z), fun z => q (.inr z)⟩
theorem getL_some {P : Params} {h : Heap} {y : Str} {fs : List (Str × AV)} {es : List DictEntry} (e : ESR P h fs es) : (getL y es).isSome = true := by
 have := esr_get (y := y) e
 split at this
 ·obtain ⟨v, q, _⟩ := this; rw [q]; rfl
 ·rw [this]; rfl
noncomputable def putA (fs : List (Str × AV)) (y : Str) (a : AV) : List (Str × AV) := match fs with
 | [] => [(y, a)]
 | (x, b) :: r => if x == y then (x, a) :: r else (x, b) :: putA r y a
theorem esr_put {P : Params} {h : Heap} {y : Str} {a : AV} {v : Value} {t : Tok} (hv : VR h a v) : ∀ {fs : List (Str × AV)} {es : List DictEntry}, ESR P h fs es → ESR P h (putA fs y a) (putL y (PyData.keyHash P y) (.str y t) v es)
 | [], _, e => by rw [show _ = [] from e]; exact ⟨t, v, [], rfl, hv, rfl⟩
 | (x, b) :: r, _, ⟨t', u, es', e, hb, q⟩ => by
  subst e
  unfold putA putL
  dsimp only
  rw [isStr_str]
  split
  ·exact ⟨t', v, es', rfl, hv, q⟩
  ·exact ⟨t', u, _, rfl, hb, esr_put hv q⟩
theorem esr_len {P : Params} {h : Heap} : ∀ {fs : List (Str × AV)} {es : List DictEntry}, ESR P h fs es → es.length = fs.length
 | [], _, e => by rw [show _ = [] from e]; rfl
 | (x, b) :: r, _, ⟨t', u, es', e, hb, q⟩ => by subst e; rw [List.length_cons, List.length_cons, esr_len q]
inductive SetAt (K : Frag) (attr : Str) (QF : AF → AS → Prop) (v a : AV) (σ₂ : AS) : Prop
 | mk (x C dx : Addr) (fs : List (Str × AV)) (ha : a = .ref x) (hx : σ₂.hp x = some (.inst C dx)) (hd : σ₂.hp dx = some (.attrs fs)) (h1 : findIn K (.ref C) "__setattr__" = some (some (.builtin "object.__setattr__"))) (h2 : plainOver K C = true) (h3 : takerIn K C attr = some none) (h4 : hasDictIn K C = true) (h5 : (putA fs attr v).length ≤ 1000) (q : QF .next (σ₂.put dx (.attrs (putA fs attr v)))) : SetAt K attr QF v a σ₂
theorem x_setattr (ok : Ok prog K cx sc n) {o : Expr} {attr : Str} {apos : Pos} {value : Expr} (hs : ∀ env, swapsWith value (some (.Attribute o attr apos)) pos.line env = pure false)
  (h : WEv prog w cx value σ (fun v σ₁ => WEv prog w cx o σ₁ (SetAt K attr QF v) E) E) : WEx prog w cx (.Assign [.Attribute o attr apos] value pos) σ QF E := fun s r => by
 refine plainObj_wpAny_Assign_Attribute (wpAny_mono (h s r) (fun vv s₁ zz => zz.use fun v σ₁ r₁ v₁ m₁ q₁ => wpAny_mono (q₁ s₁ r₁) (fun va s₂ zz => ?_) fun ux ux e => e.mono m₁) fun ux ux e => e) (hs _)
 obtain ⟨a, σ₂, r₂, v₂, m₂, x, C, dx, fs, ha, hx, hd, h1, h2, h3, h4, h5, q₂⟩ := zz
 subst ha
 rw [show va = .ref x from v₂]
 obtain ⟨es, n, I, e⟩ := inst_at r₂ hx hd
 obtain ⟨m, hm⟩ := r₂.ns
 have hdx : s₂.heap.get? dx = some (dictOf es n) := I.dict
 have ne : dx ≠ cx.env.locals := fun q => (r₂.ob dx _ hd).2.2.2.1 (.inl q)
 have v₁' := v₁.mono m₂
 let h₀ : Heap := { s₂.heap with objs := #[] }
 have hno : ∀ b, h₀.get? b = none := fun b => by
  cases q : h₀.get? b with
  | none => rfl
  | some o => exact absurd (Heap.lt_size q) (Nat.not_lt_zero _)
 have F : Fr h₀ cx.env.locals s₂.heap m := ⟨hm, fun b o q => (by rw [hno b] at q; cases q), Nat.zero_le _⟩
 have N : News h₀ cx.env.locals s₂.heap ([] ++ (dx, dictOf es n) :: allBut s₂.heap cx.env.locals dx) := fun p hp => by
  rcases List.mem_cons.mp hp with q | q
  ·subst q; exact ⟨hdx, ne, hno _⟩
  ·obtain ⟨q1, q2, q3⟩ := of_allBut q
   exact ⟨q1, q2, hno _⟩
 have e' := esr_put (y := attr) (t := s₂.toks + 1) v₁' e
 refine set_plain (ok.in_ r₂) I h1 (osa_dict (s := { s₂ with toks := s₂.toks + 1 }) F N (show K.In s₂.heap from ok.in_ r₂) I rfl h2 h3 h4 (by rw [lookIn_dict]; exact getL_some e) (fun ux q => nomatch q) (fun p hp => (of_allBut hp).2.2)
  (putName_dict ..) rfl (by rw [esr_len e']; exact h5) fun h' F' N' => ?_)
 obtain ⟨r₃, m₃⟩ := r₂.upd2 (h' := h') (tk := s₂.toks + 1 + 1) (ao' := .attrs (putA fs attr v)) hd rfl (fun b o b1 b2 eb => (N' (b, o) (.tail _ (mem_allBut eb b2 b1))).1) (fun m' hm' => by
   have : m' = m := by
    obtain ⟨o1, e1, p1, f1, f2, f3, f4⟩ := hm'
    obtain ⟨o2, e2, p2, g1, g2, g3, g4⟩ := hm
    rw [f1] at g1; cases g1; rw [f2] at g2; cases g2
    funext z; rw [← f4 z, ← g4 z]
   rw [this]; exact F'.ns) fun vm => ⟨_, _, (N' (dx, _) (.head _)).1, e'.mono vm⟩
 exact ⟨.next, _, r₃, rfl, (m₁.trans m₂).trans m₃, q₂⟩
noncomputable def CX.withA (cx : CX) (A : Around) : CX := { cx with A := A }
theorem R.withA {s : Shared} {A : Around} (r : R prog w cx σ s) : R prog w (cx.withA A) σ s := ⟨r.1, r.2, r.3, r.4, r.5, r.6, r.7, r.8, r.9, r.10, r.11, r.12, r.13⟩
theorem R.unA {s : Shared} {A : Around} (r : R prog w (cx.withA A) σ s) : R prog w cx σ s := ⟨r.1, r.2, r.3, r.4, r.5, r.6, r.7, r.8, r.9, r.10, r.11, r.12, r.13⟩
theorem PostE.unA {s s' : Shared} {A : Around} {v : Value} (h : PostE prog w (cx.withA A) s E v s') : PostE prog w cx s E v s' :=
 let ⟨e, C, σ', s₀, L, a, b, c, d, f, g, i⟩ := h; ⟨e, C, σ', s₀, L, a, b.unA, c, ⟨d.1, d.2, d.3, d.4, d.5⟩, f, g, i⟩
theorem tc_weight {C : Addr} {vs : List Value} : (Code.builtin "type.__call__" ⟨.ref C :: vs, []⟩).weight ≤ 4 := by
 exact Nat.le_of_ble_eq_true rfl
theorem tc_units {C : Addr} {vs : List Value} : (Code.builtin "type.__call__" ⟨.ref C :: vs, []⟩).cUnits ≤ 16 := by
 exact Nat.le_of_ble_eq_true rfl
theorem cl_cls (g : Fx prog K cx sc (n + 1)) {C fI : Addr} {l : List AV} (hm : makesIn K C = true) (hi : findIn K (.ref C) "__init__" = some (some (.ref fI))) (hf : isFn K (.ref fI) = true)
  (h : ∀ cx' x dx, Fx prog K cx' sc n → σ.hp x = none → σ.hp dx = none → x ≠ dx → WCd prog w cx' (.ref fI) (.ref x :: l) ((σ.put dx (.attrs [])).put x (.inst C dx)) (fun v σ' => v = .none ∧ Q (.ref x) σ') E) : WCl prog w cx (.ref C) l σ Q E := fun s vs r hv => by
 obtain ⟨hh, gn, d, t, os⟩ := s
 have X : K.In hh := g.ok.in_ r
 refine wpAny_call (make_core (makes_of X hm) (looks_findIn X hi) (fun self => bind_fn X self (beq_iff_eq.mp hf)) (.inl rfl) ?_)
 have k1 : ∀ b o, hh.get? b = some o → (hh.push emptyDict).get? b = some o := fun b o e => Heap.get?_push_of_some _ e
 have k2 : ∀ b o, (hh.push emptyDict).get? b = some o → ((hh.push emptyDict).push (instObj C hh.objs.size)).get? b = some o := fun b o e => Heap.get?_push_of_some _ e
 have sz : (hh.push emptyDict).objs.size = hh.objs.size + 1 := Heap.size_push ..
 have n2 : (hh.push emptyDict).get? (hh.objs.size + 1) = none := by have := push_none (hh.push emptyDict); rw [sz] at this; exact this
 have r₁ : R prog w cx (σ.put hh.objs.size (.attrs [])) ⟨hh.push emptyDict, gn, d, t, os⟩ := r.new (tk := t) (ao := .attrs []) (push_none _) k1 ⟨[], 0, Heap.get?_push_size _ rfl, rfl⟩
 have r₂ : R prog w cx ((σ.put hh.objs.size (.attrs [])).put (hh.objs.size + 1) (.inst C hh.objs.size)) ⟨(hh.push emptyDict).push (instObj C hh.objs.size), gn, d, t, os⟩ :=
  r₁.new (tk := t) (ao := .inst C hh.objs.size) n2 k2 (by show ((hh.push emptyDict).push _).get? (hh.objs.size + 1) = _; have := Heap.get?_push_size (hh.push emptyDict) (o := instObj C hh.objs.size) rfl; rw [sz] at this; exact this)
 have vm : VM hh ((hh.push emptyDict).push (instObj C hh.objs.size)) := VM.of_keeps fun b o e => k2 b o (k1 b o e)
 have f1 : σ.hp hh.objs.size = none := by
  cases q : σ.hp hh.objs.size with
  | none => rfl
  | some ao => exact absurd q ((Off.new r (push_none _)).hp ao)
 have f2 : σ.hp (hh.objs.size + 1) = none := by
  cases q : σ.hp (hh.objs.size + 1) with
  | none => rfl
  | some ao =>
   obtain ⟨o, ho, _⟩ := (r.ob _ ao q).1.there
   exact absurd (Heap.lt_size ho) (by show ¬ (hh.objs.size + 1 < hh.objs.size); lia)
 have g' : Fx prog K (cx.withA (cx.A.under (.builtin "type.__call__" ⟨.ref C :: vs, []⟩))) sc n := by
  have hw := tc_weight (C := C) (vs := vs)
  have hu := tc_units (C := C) (vs := vs)
  have ok := g.ok
  refine ⟨⟨ok.glo, ?_, ok.scope, ok.kind, ok.frame, ok.glob, ok.bi, ok.fgen, ok.fco, ok.fglob, ok.fbi, ok.fkind, ?_, ?_, ok.inj, ok.ck, ok.cc⟩, g.fe, g.hh⟩
  ·exact ok.fr
  ·have := ok.depth
   show cx.A.depth + _ + 4 * n + 140 < _
   lia
  ·have := ok.units
   show cx.A.units + _ + 16 * n + 200 < _
   lia
 refine codeAny_mono (h _ (hh.objs.size + 1) hh.objs.size g' f2 f1 (Nat.succ_ne_self _) _ (.ref (hh.objs.size + 1) :: vs) r₂.withA ⟨_, _, rfl, vr_ref, hv.mono vm⟩) fun res s' p => ?_
 match res, p with
 | .ok (.ret v), p =>
  obtain ⟨b, σ', r', v', m', hb, q⟩ := p
  subst hb
  exact ⟨v', _, σ', r'.unA, vr_ref, vm.trans m', q⟩
 | .error e, p => exact (PostE.unA p).mono vm
theorem KVR.length : ∀ {d : List (Int × Int)} {kvs : List (Int × Value)}, KVR d kvs → kvs.length = d.length
 | [], _, e => by rw [show _ = [] from e]; rfl
 | (i, a) :: r, _, ⟨t, kvs', e, q⟩ => by subst e; rw [List.length_cons, List.length_cons, q.length]
theorem KVR.get {k : Int} : ∀ {d : List (Int × Int)} {kvs : List (Int × Value)}, KVR d kvs → match dget d k with | some a => ∃ t, valueAt kvs k = some (.int a t) | none => valueAt kvs k = none
 | [], _, e => by rw [show _ = [] from e]; rfl
 | (i, a) :: r, _, ⟨t, kvs', e, q⟩ => by
  subst e
  have ih := KVR.get (k := k) q
  unfold dget valueAt at *
  rw [List.find?_cons, List.find?_cons]
  by_cases h : i = k
  ·rw [decide_eq_true h]; exact ⟨t, rfl⟩
  ·rw [decide_eq_false h]; exact ih
theorem KVR.snoc {k v : Int} {t : Tok} : ∀ {d : List (Int × Int)} {kvs : List (Int × Value)}, KVR d kvs → KVR (d ++ [(k, v)]) (kvs ++ [(k, .int v t)])
 | [], _, e => by rw [show _ = [] from e]; exact ⟨t, [], rfl, rfl⟩
 | (i, a) :: r, _, ⟨t', kvs', e, q⟩ => by subst e; exact ⟨t', _, rfl, q.snoc⟩
theorem KVR.map {k v : Int} {t : Tok} : ∀ {d : List (Int × Int)} {kvs : List (Int × Value)}, KVR d kvs → KVR (d.map fun p => if p.1 = k then (p.1, v) else p) (kvs.map fun kv => if kv.1 = k then (kv.1, .int v t) else kv)
 | [], _, e => by rw [show _ = [] from e]; rfl
 | (i, a) :: r, _, ⟨t', kvs', e, q⟩ => by
  subst e
  have ih := KVR.map (k := k) (v := v) (t := t) q
  rw [List.map_cons, List.map_cons]
  by_cases h : i = k
  ·rw [if_pos h, if_pos h]; exact ⟨t, _, rfl, ih⟩
  ·rw [if_neg h, if_neg h]; exact ⟨t', _, rfl, ih⟩
theorem KVR.any {k : Int} : ∀ {d : List (Int × Int)} {kvs : List (Int × Value)}, KVR d kvs → kvs.any (fun kv => decide (kv.1 = k)) = d.any (fun p => decide (p.1 = k))
 | [], _, e => by rw [show _ = [] from e]; rfl
 | (i, a) :: r, _, ⟨t', kvs', e, q⟩ => by subst e; rw [List.any_cons, List.any_cons, q.any]
theorem KVR.put {k v : Int} {t : Tok} {d : List (Int × Int)} {kvs : List (Int × Value)} (x : KVR d kvs) : KVR (dput d k v) (stored kvs k (.int v t)) := by
 unfold dput stored
 rw [x.any]
 split
 ·exact x.map
 ·exact x.snoc
theorem isInt_int {k : Int} {t : Tok} : (intKind prog w).is k (.int k t) = true := by
 show Value.isInt k (.int k t) = true
 simp [Value.isInt]
theorem sub_dict {value slice : Expr} {x : Addr} {d : List (Int × Int)} {k v : Int} (hx : σ.hp x = some (.dict d)) (hk : dget d k = some v) (h : Q (.int v) σ)
  (hs : ∀ o i, subscripted slice false o i = operate [o, i] (getItem o i)) : WOp2 prog w cx (subscriptTail value slice) (.ref x) (.int k) σ Q E := by
 rintro s va _ r q0 ⟨t, rfl⟩
 rw [show va = .ref x from q0]
 obtain ⟨⟨kvs, hd, kv, lo⟩, _⟩ := r.ob x _ hx
 have := kv.get (k := k)
 rw [hk] at this
 obtain ⟨t', ht⟩ := this
 exact subscriptTail_builtin_flat hd.typeIs slot_dict_getitem.lookup (wpAny_getItem_of isInt_int hd.mapOf ht ⟨by simp, here r vr_int h⟩) (hs _ _)
theorem set_dict' {x : Addr} {d : List (Int × Int)} {k v : Int} {Q : Unit → AS → Prop} (hx : σ.hp x = some (.dict d)) (hz : d.length ≤ sizeLine) (h : Q () (σ.put x (.dict (dput d k v)))) : WOp3 prog w cx (setItem) (.ref x) (.int k) (.int v) σ Q E := by
 rintro s va _ _ r q0 ⟨t, rfl⟩ ⟨t', rfl⟩
 rw [show va = .ref x from q0]
 obtain ⟨⟨kvs, hd, kv, lo⟩, _⟩ := r.ob x _ hx
 refine wpAny_setItem_pairs isInt_int hd (fun h' hd' hs' => ?_) (by rw [kv.length]; exact hz)
 obtain ⟨r', m'⟩ := r.upd (h' := h') (tk := s.toks + 1) (ao' := .dict (dput d k v)) hx rfl (fun b o hb e => (hs'.2 b hb).trans e) fun ux => ⟨_, hd', kv.put, lo⟩
 exact ⟨(), _, r', trivial, m', h⟩
theorem x_setitem {o i value : Expr} {spos : Pos} (hs : ∀ env, swapsWith value (some (.Subscript o i spos)) pos.line env = pure false)
  (h : WEv prog w cx value σ (fun v σ₁ => WEv prog w cx o σ₁ (fun a σ₂ => WEv prog w cx i σ₂ (fun b σ₃ => WOp3 prog w cx setItem a b v σ₃ (fun ux σ₄ => QF .next σ₄) E) E) E) E) : WEx prog w cx (.Assign [.Subscript o i spos] value pos) σ QF E := fun s r => by
 refine wpAny_Assign_Subscript (wpAny_mono (h s r) (fun vv s₁ zz => zz.use fun v σ₁ r₁ v₁ m₁ q₁ => wpAny_mono (q₁ s₁ r₁) (fun va s₂ zz => zz.use fun a σ₂ r₂ v₂ m₂ q₂ => wpAny_mono (q₂ s₂ r₂) (fun vb s₃ zz => zz.use fun b σ₃ r₃ v₃ m₃ q₃ => ?_) fun ux ux e => e.mono (m₁.trans m₂)) fun ux ux e => e.mono m₁) fun ux ux e => e) (hs _)
 refine wpAny_mono (q₃ s₃ va vb vv r₃ (v₂.mono m₃) v₃ (v₁.mono (m₂.trans m₃))) (fun ux s₄ zz => zz.use fun ux σ₄ r₄ ux m₄ q₄ => ⟨.next, σ₄, r₄, rfl, ((m₁.trans m₂).trans m₃).trans m₄, q₄⟩) fun ux ux e => e.mono ((m₁.trans m₂).trans m₃)
noncomputable def AO.type : AO → Option String
 | .list _ => some "list"
 | .dict _ => some "dict"
 | _ => none
theorem ao_type {s : Shared} {x : Addr} {ao : AO} {T : String} (r : R prog w cx σ s) (hx : σ.hp x = some ao) (ht : ao.type = some T) : s.TypeIs (.ref x) T ∧ ∃ ob, s.heap.get? x = some ob ∧ ob.dict = none := by
 cases ao with
 | list l => cases ht; obtain ⟨⟨vs, ⟨n, p⟩, q⟩, _⟩ := r.ob x _ hx; exact ⟨⟨_, p, rfl⟩, _, p, rfl⟩
 | dict d => cases ht; obtain ⟨⟨kvs, hd, kv, lo⟩, _⟩ := r.ob x _ hx; exact ⟨hd.typeIs, hd.mapOf.noDict x rfl⟩
 | _ => cases ht
inductive MethB (prog : Program) (w : World) (cx : CX) (pos : Pos) (args : List Expr) (name : Str) (Q : AV → AS → Prop) (E : Value → AS → Prop) (a : AV) (σ₁ : AS) : Prop
 | mk (x : Addr) (ao : AO) (T id : String) (ha : a = .ref x) (hx : σ₁.hp x = some ao) (ht : ao.type = some T) (pa : PlainAttrs T) (sl : Slot T name id) (ty : typeOf (.builtin id) = pure (.type "method_descriptor")) (q : WAr prog w cx pos args σ₁ (fun l σ₂ => WCl prog w cx (.builtin id) (.ref x :: l) σ₂ Q E) E) : MethB prog w cx pos args name Q E a σ₁
theorem v_methb {o : Expr} {name : Str} {apos : Pos} {args : List Expr} (hbase : ∀ env, attributeBase o name env (eval o env) = eval o env)
  (hfew : ∀ env, ((backTo pos (starEach args env)).all (fun x => !x.1) && (backToKw pos (keywordEach [] env)).all (fun x => x.1.isSome) && decide (args.length + ([] : List Keyword).length + (if ([] : List Keyword).isEmpty then 0 else 1) < 30)) = true)
  (hline : (apos.endLine == pos.line) = true) (hpl : ∀ env, (backTo pos (starEach args env)).any (·.1) = false)
  (h : WEv prog w cx o σ (MethB prog w cx pos args name Q E) E) :
  WEv prog w cx (.Call (.Attribute o name apos) args [] pos) σ Q E := fun s r => by
 refine wpAny_Call_method_lateS (hbase _) (hfew _) hline (wpAny_mono (h s r) (fun va s₁ zz => ?_) fun ux ux e => e)
 obtain ⟨a, σ₁, r₁, v₁, m₁, x, ao, T, id, ha, hx, ht, pa, sl, ty, q₁⟩ := zz
 subst ha
 rw [show va = .ref x from v₁]
 obtain ⟨t1, t2⟩ := ao_type r₁ hx ht
 refine ⟨T, id, pa, sl, ty, t1, fun a ha => (by injection ha with ha; rw [← ha]; exact t2), ?_⟩
 refine PySem.Calls.callWith_builtin (hpl _) (evalArgs_all (hpl _) ?_)
 refine wpAny_mono (q₁ s₁ r₁) (fun vs s₂ zz => zz.use fun l σ₂ r₂ v₂ m₂ q₂ => ?_) fun ux ux e => e.mono m₁
 exact wpAny_mono (q₂ s₂ (.ref x :: vs) r₂ ⟨_, _, rfl, vr_ref, v₂⟩) (fun ux ux p => p.mono (m₁.trans m₂)) fun ux ux e => e.mono (m₁.trans m₂)
theorem cl_append {x : Addr} {l : List AV} {a : AV} (hx : σ.hp x = some (.list l)) (hz : l.length ≤ sizeLine) (h : Q .none (σ.put x (.list (l ++ [a])))) : WCl prog w cx (.builtin "list.append") [.ref x, a] σ Q E := fun s vs r hv => by
 obtain ⟨v, u, rfl, p, q⟩ := vrs2 hv
 rw [show v = .ref x from p]
 obtain ⟨⟨ws, pl, qs⟩, _⟩ := r.ob x _ hx
 refine wpAny_list_append_plain pl (fun h' pl' hs' => ?_) (by rw [List.size_toArray, qs.length]; exact hz)
 obtain ⟨r', m'⟩ := r.upd (h' := h') (tk := s.toks) (ao' := .list (l ++ [a])) hx rfl (fun b o hb e => (hs'.2 b hb).trans e) fun vm => ⟨ws ++ [u], by simpa using pl', (qs.mono vm).snoc (q.mono vm)⟩
 exact ⟨.none, _, r', vr_none, m', h⟩
theorem cl_get {x : Addr} {d : List (Int × Int)} {k : Int} (hx : σ.hp x = some (.dict d)) (h : Q (match dget d k with | some v => .int v | none => .none) σ) : WCl prog w cx (.builtin "dict.get") [.ref x, .int k] σ Q E := fun s vs r hv => by
 obtain ⟨va, u, rfl, p, ⟨t, rfl⟩⟩ := vrs2 hv
 rw [show va = .ref x from p]
 obtain ⟨⟨kvs, hd, kv, lo⟩, _⟩ := r.ob x _ hx
 refine call_meetsIn PySem.F.slot_dict_get hd.typeIs PySem.F.entry_dict_get (PySem.F.args_dict_get_2 _ _) (meets_dict_get (intKind prog w) x isInt_int lo) ⟨_, hd.mapOf, ?_⟩
 have := kv.get (k := k)
 cases q : dget d k with
 | none => rw [q] at this h; rw [this]; exact here r vr_none h
 | some v => rw [q] at this h; obtain ⟨t', ht⟩ := this; rw [ht]; exact here r vr_int h
theorem low {s : Shared} (ok : Ok prog K cx sc n) (r : R prog w cx σ s) : (s.heap.objs.size == sysModules) = false :=
 beq_eq_false_iff_ne.mpr (Nat.ne_of_gt (modules_low (ok.glo.nolimit.keeps r.stay)))
theorem fresh_hp {s : Shared} (r : R prog w cx σ s) : σ.hp s.heap.objs.size = none := by
 cases q : σ.hp s.heap.objs.size with
 | none => rfl
 | some ao => exact absurd q ((Off.new r (push_none _)).hp ao)
theorem v_dict0 (ok : Ok prog K cx sc n) (h : ∀ x, σ.hp x = none → Q (.ref x) (σ.put x (.dict []))) : WEv prog w cx (.Dict [] [] pos) σ Q E := fun s r => by
 have kp : ∀ b o, s.heap.get? b = some o → (s.heap.push { cls := .type "dict", data := .dict #[] }).get? b = some o := fun b o e => Heap.get?_push_of_some _ e
 exact wpAny_Dict_empty ⟨.ref _, _, r.new (tk := s.toks) (ao := .dict []) (push_none _) kp ⟨[], Heap.DictOf.new _, rfl, low ok r⟩, vr_ref, VM.of_keeps kp, h _ (fresh_hp r)⟩
theorem v_dict1 (ok : Ok prog K cx sc n) {k v : Expr} (h : ∀ x, σ.hp x = none → WEv prog w cx k (σ.put x (.dict [])) (fun a σ₁ => WEv prog w cx v σ₁ (fun b σ₂ => ∃ i j, a = .int i ∧ b = .int j ∧ σ₂.hp x = some (.dict []) ∧ Q (.ref x) (σ₂.put x (.dict [(i, j)]))) E) E) :
  WEv prog w cx (.Dict [some k] [v] pos) σ Q E := fun s r => by
 have kp : ∀ b o, s.heap.get? b = some o → (s.heap.push { cls := .type "dict", data := .dict #[] }).get? b = some o := fun b o e => Heap.get?_push_of_some _ e
 have vm := VM.of_keeps kp
 have r₀ : R prog w cx (σ.put s.heap.objs.size (.dict [])) { s with heap := s.heap.push { cls := .type "dict", data := .dict #[] } } := r.new (tk := s.toks) (ao := .dict []) (push_none _) kp ⟨[], Heap.DictOf.new _, rfl, low ok r⟩
 refine wpAny_Dict_walk (knd := intKind prog w) rfl rfl (by simp) (Nat.le_of_ble_eq_true rfl) ?_
 refine evalPairs_cons (wpAny_mono (h _ (fresh_hp r) _ r₀) (fun va s₁ zz => zz.use fun a σ₁ r₁ v₁ m₁ q₁ => ?_) fun ux ux e => e.mono vm)
 refine wpAny_bind (wpAny_mono (q₁ s₁ r₁) (fun vb s₂ ⟨b, σ₂, r₂, v₂, m₂, i, j, ha, hb, hx, q₂⟩ => wpAny_bind (wpAny_standAt (wpAny_pure ?_))) fun ux ux e => (e.mono m₁).mono vm)
 subst ha hb
 obtain ⟨t, rfl⟩ := v₁
 obtain ⟨t', rfl⟩ := v₂
 refine evalPairs_nil ?_
 obtain ⟨⟨kvs, hd, kv, lo⟩, _⟩ := r₂.ob _ _ hx
 rw [show kvs = [] from kv] at hd
 refine ⟨[(i, .int j t')], ⟨isInt_int, rfl, trivial⟩, hd, fun h' hd' hs' => ?_⟩
 obtain ⟨r', m'⟩ := r₂.upd (h' := h') (tk := s₂.toks + [(Value.int i t, Value.int j t')].length) (ao' := .dict [(i, j)]) hx rfl (fun b o hb e => (hs'.2 b hb).trans e) fun ux => ⟨_, hd', ⟨t', [], rfl, rfl⟩, lo⟩
 exact ⟨.ref _, _, r', vr_ref, ((vm.trans m₁).trans m₂).trans m', q₂⟩
theorem vrs_keys {h : Heap} : ∀ {d : List (Int × Int)} {kvs : List (Int × Value)} {vs : List Value}, KVR d kvs → vs.length = kvs.length → (∀ (j : Nat) v, vs[j]? = some v → ∃ k x, kvs[j]? = some (k, x) ∧ (intKind prog w).is k v = true) → VRs h (d.map fun p => .int p.1) vs
 | [], _, vs, e, hl, _ => by
  rw [show _ = [] from e] at hl
  exact List.length_eq_zero_iff.mp hl
 | (i, a) :: r, _, vs, ⟨t, kvs', e, q⟩, hl, hp => by
  subst e
  cases vs with
  | nil => cases hl
  | cons v vs =>
   obtain ⟨k, x, h1, h2⟩ := hp 0 v rfl
   cases h1
   obtain ⟨t', rfl⟩ := Value.isInt_shape (show Value.isInt i v = true from h2)
   exact ⟨_, vs, rfl, vr_int, vrs_keys q (by simpa using hl) fun j v e => hp (j + 1) v e⟩
theorem cl_list_dict (g : Fx prog K cx sc n) {x : Addr} {d : List (Int × Int)} (hx : σ.hp x = some (.dict d)) (hz : d.length ≤ sizeLine) (h : ∀ y, σ.hp y = none → Q (.ref y) (σ.put y (.list (d.map fun p => .int p.1)))) : WCl prog w cx (.type "list") [.ref x] σ Q E := fun s vs r hv => by
 obtain ⟨va, rfl, p⟩ := vrs1 hv
 rw [show va = .ref x from p]
 obtain ⟨⟨kvs, hd, kv, lo⟩, _⟩ := r.ob x _ hx
 obtain ⟨o, es, ep, d1, d2, d3, d4⟩ := id hd
 refine kdl_call (kdl_dict (knd := intKind prog w) (kvs := kvs) (ep := ep) lo) g.hh ?_ (by rw [kv.length]; exact hz) fun h' tk acc c k hl hi => ?_
 ·exact ⟨o, es, d1, d2, d3, d4⟩
 ·have vm := VM.of_keeps k
  refine ⟨.ref _, _, r.new (tk := tk) (ao := .list (d.map fun p => .int p.1)) (push_none _) k ⟨acc.toList, ⟨c, by simpa using hl⟩, ?_⟩, vr_ref, vm, h _ (fresh_hp r)⟩
  exact vrs_keys (prog := prog) (w := w) kv (by rw [Array.length_toList]; exact hi.1) fun j v e => hi.2 j v (by rw [← Array.getElem?_toList]; exact e)
theorem vrs_ints {h : Heap} : ∀ {ns : List Int} {vs : List Value}, VRs h (ns.map AV.int) vs → vs.map keyI = ns ∧ ∀ v ∈ vs, ∃ i t, v = .int i t
 | [], _, e => by rw [show _ = [] from e]; exact ⟨rfl, fun ux q => nomatch q⟩
 | i :: ns, _, ⟨v, r, e, p, q⟩ => by
  obtain ⟨t, rfl⟩ := p
  subst e
  obtain ⟨h1, h2⟩ := vrs_ints q
  refine ⟨by rw [List.map_cons, h1]; rfl, fun v hv => ?_⟩
  rcases List.mem_cons.mp hv with q | q
  ·exact ⟨i, t, q⟩
  ·exact h2 v q
theorem ints_vrs {h : Heap} : ∀ {vs : List Value}, (∀ v ∈ vs, ∃ i t, v = .int i t) → VRs h ((vs.map keyI).map AV.int) vs
 | [], _ => rfl
 | v :: vs, hv => by
  obtain ⟨i, t, rfl⟩ := hv v (.head _)
  exact ⟨_, vs, rfl, vr_int, ints_vrs fun v h => hv v (.tail _ h)⟩
theorem cl_sorted {x : Addr} {ns : List Int} (hx : σ.lst x (ns.map AV.int)) (hz : ns.length ≤ sizeLine) (h : ∀ y (ms : List Int), σ.hp y = none → ms.Perm ns → ms.Pairwise (· ≤ ·) → Q (.ref y) (σ.put y (.list (ms.map AV.int)))) : WCl prog w cx (.builtin "sorted") [.ref x] σ Q E := fun s vs r hv => by
 obtain ⟨va, rfl, p⟩ := vrs1 hv
 rw [show va = .ref x from p]
 obtain ⟨us, hl, q⟩ := r.lst hx
 obtain ⟨hk, hi⟩ := vrs_ints q
 have hlen : us.length ≤ sizeLine := by rw [q.length, List.length_map]; exact hz
 refine sorted_ints_any hl hi hlen fun ws hp hs => ?_
 have kp : ∀ b o, s.heap.get? b = some o → (sortedAll s.heap us ws.toArray).get? b = some o := fun b o e => sortedAll_old e
 obtain ⟨e, he⟩ := sortedAll_at s.heap us ws.toArray
 have n1 : s.heap.get? (s.heap.objs.size + 1) = none := by
  cases q : s.heap.get? (s.heap.objs.size + 1) with
  | none => rfl
  | some o => exact absurd (Heap.lt_size q) (by show ¬ (s.heap.objs.size + 1 < s.heap.objs.size); lia)
 have wi : ∀ v ∈ ws, ∃ i t, v = .int i t := fun v hv => hi v (hp.mem_iff.mp hv)
 refine ⟨.ref _, _, r.new (tk := s.toks) (ao := .list ((ws.map keyI).map AV.int)) n1 kp ⟨ws, ⟨e, by simpa using he⟩, ints_vrs wi⟩, vr_ref, VM.of_keeps kp, h _ (ws.map keyI) ?_ ?_ ?_⟩
 ·cases q : σ.hp (s.heap.objs.size + 1) with
  | none => rfl
  | some ao => exact absurd q ((Off.new r n1).hp ao)
 ·rw [← hk]; exact hp.map _
 ·rw [List.pairwise_map]; exact hs
end
mutual
noncomputable def dataOf : AV → Option PyData
 | .none => some .none
 | .bool b => some (.bool b)
 | .int i => some (.int i)
 | .tup l => (datasOf l).map .tuple
 | .str _ => none
 | .ref _ => none
 | .raw _ => none
noncomputable def datasOf : List AV → Option (List PyData)
 | [] => some []
 | a :: l => match dataOf a, datasOf l with
  | some d, some ds => some (d :: ds)
  | _, _ => none
end
mutual
theorem reads_of {h : Heap} : ∀ {a : AV} {d : PyData} {v : Value}, dataOf a = some d → VR h a v → ∃ as, Reads h v d as
 | .none, d, v, e, x => by cases e; rw [show v = .none from x]; exact ⟨_, .none⟩
 | .bool b, d, v, e, x => by cases e; rw [show v = .bool b from x]; exact ⟨_, .bool b⟩
 | .int i, d, v, e, x => by cases e; obtain ⟨t, rfl⟩ := x; exact ⟨_, .int i t⟩
 | .tup l, d, v, e, x => by
  unfold dataOf at e
  obtain ⟨ds, h1, rfl⟩ := Option.map_eq_some_iff.mp e
  obtain ⟨a, vs, rfl, ⟨o, n, g1, g2, g3⟩, q⟩ := x
  obtain ⟨as, hr⟩ := reads_ofs h1 q
  exact ⟨_, .tuple g1 g2 g3 (by simpa using hr)⟩
 | .str _, _, _, e, _ => by cases e
 | .ref _, _, _, e, _ => by cases e
 | .raw _, _, _, e, _ => by cases e
theorem reads_ofs {h : Heap} : ∀ {l : List AV} {ds : List PyData} {vs : List Value}, datasOf l = some ds → VRs h l vs → ∃ as, ReadsAll h vs ds as
 | [], ds, vs, e, x => by
  unfold datasOf at e
  cases e; rw [show vs = [] from x]; exact ⟨_, .nil⟩
 | a :: l, ds, vs, e, ⟨v, r, ev, p, q⟩ => by
  unfold datasOf at e
  split at e
  ·rename_i d ds' h1 h2
   cases e
   subst ev
   obtain ⟨as, ha⟩ := reads_of h1 p
   obtain ⟨bs, hb⟩ := reads_ofs h2 q
   exact ⟨_, .cons ha hb⟩
  ·cases e
end
section
variable {prog : Program} {w : World} {K : Frag} {cx : CX} {sc : Scope} {n : Nat} {σ : AS} {Q : AV → AS → Prop} {QB : Bool → AS → Prop} {QF : AF → AS → Prop} {E : Value → AS → Prop} {pos : Pos}
theorem reads_lst {s : Shared} {x : Addr} {l : List AV} {ds : List PyData} (r : R prog w cx σ s) (hx : σ.lst x l) (hd : datasOf l = some ds) : ∃ as, Reads s.heap (.ref x) (.list ds) as := by
 obtain ⟨vs, ⟨o, h1, h2, m, h3⟩, q⟩ := r.lst hx
 obtain ⟨as, ha⟩ := reads_ofs hd q
 exact ⟨_, .list h1 h2 h3 (by simpa using ha)⟩
theorem cmp_eq_lists (ok : Ok prog K cx sc n) {x y : Addr} {l l' : List AV} {ds es : List PyData} (hx : σ.lst x l) (hy : σ.lst y l') (hd : datasOf l = some ds) (he : datasOf l' = some es) (c1 : PyData.canLayAll0 ds = true) (c2 : PyData.canLayAll0 es = true)
  (hu : min (PyData.list ds).depth (PyData.list es).depth ≤ 100) (h : Q (.bool (PyData.eqvAll ds es)) σ) : WOp2 prog w cx (compareOp .Eq) (.ref x) (.ref y) σ Q E := by
 intro s va vb r p q
 rw [show va = .ref x from p, show vb = .ref y from q]
 obtain ⟨as, ra⟩ := reads_lst r hx hd
 obtain ⟨bs, rb⟩ := reads_lst r hy he
 exact SeqAt.compareEq_reads ra rb (by unfold PyData.canLay0; exact c1) (by unfold PyData.canLay0; exact c2) (by have := ok.units; lia) (by
  have e : PyData.eqv (.list ds) (.list es) = PyData.eqvAll ds es := by unfold PyData.eqv; rfl
  rw [e]; exact here0 r vr_bool h)
theorem cmp_eq_data (ok : Ok prog K cx sc n) {a b : AV} {d e : PyData} (hd : dataOf a = some d) (he : dataOf b = some e) (c1 : d.canLay0 = true) (c2 : e.canLay0 = true) (hu : min d.depth e.depth ≤ 100) (h : Q (.bool (PyData.eqv d e)) σ) : WOp2 prog w cx (compareOp .Eq) a b σ Q E := by
 intro s va vb r p q
 obtain ⟨as, ra⟩ := reads_of hd p
 obtain ⟨bs, rb⟩ := reads_of he q
 exact SeqAt.compareEq_reads ra rb c1 c2 (by have := ok.units; lia) (here0 r vr_bool h)
noncomputable def prA (p : Int × Int) : AV := .tup [.int p.1, .int p.2]
noncomputable def prD (p : Int × Int) : PyData := .tuple [.int p.1, .int p.2]
theorem dataOf_pr (p : Int × Int) : dataOf (prA p) = some (prD p) := by unfold prA prD; simp [dataOf, datasOf]
theorem datasOf_prs : ∀ ps : List (Int × Int), datasOf (ps.map prA) = some (ps.map prD)
 | [] => by simp [datasOf]
 | p :: ps => by rw [List.map_cons, List.map_cons]; unfold datasOf; rw [dataOf_pr, datasOf_prs ps]
theorem can_pr (p : Int × Int) : (prD p).canLay0 = true := by unfold prD; simp [PyData.canLay0, PyData.canLayAll0]
theorem can_prs : ∀ ps : List (Int × Int), PyData.canLayAll0 (ps.map prD) = true
 | [] => by simp [PyData.canLayAll0]
 | p :: ps => by rw [List.map_cons]; unfold PyData.canLayAll0; rw [can_pr, can_prs ps]; rfl
theorem depth_pr (p : Int × Int) : (prD p).depth = 1 := by unfold prD; simp [PyData.depth, PyData.depthAll]
theorem depth_prs : ∀ ps : List (Int × Int), PyData.depthAll (ps.map prD) ≤ 1
 | [] => by simp [PyData.depthAll]
 | p :: ps => by
  rw [List.map_cons]; unfold PyData.depthAll; rw [depth_pr]
  have := depth_prs ps
  lia
theorem eqv_pr (p q : Int × Int) : PyData.eqv (prD p) (prD q) = decide (p = q) := by
 obtain ⟨a, b⟩ := p
 obtain ⟨c, d⟩ := q
 unfold prD
 simp [PyData.eqv, PyData.eqvAll, Prod.ext_iff]
 by_cases h1 : a = c <;> by_cases h2 : b = d <;> simp [h1, h2]
theorem eqv_prs : ∀ ps qs : List (Int × Int), PyData.eqvAll (ps.map prD) (qs.map prD) = decide (ps = qs)
 | [], [] => by simp [PyData.eqvAll]
 | [], _ :: _ => by simp [PyData.eqvAll]
 | _ :: _, [] => by simp [PyData.eqvAll]
 | p :: ps, q :: qs => by
  rw [List.map_cons, List.map_cons]; unfold PyData.eqvAll; rw [eqv_pr, eqv_prs ps qs]
  by_cases h1 : p = q <;> by_cases h2 : ps = qs <;> simp [h1, h2]
theorem cmp_eq_prs (ok : Ok prog K cx sc n) {x y : Addr} {ps qs : List (Int × Int)} (hx : σ.lst x (ps.map prA)) (hy : σ.lst y (qs.map prA)) (h : Q (.bool (decide (ps = qs))) σ) : WOp2 prog w cx (compareOp .Eq) (.ref x) (.ref y) σ Q E :=
 cmp_eq_lists ok hx hy (datasOf_prs _) (datasOf_prs _) (can_prs _) (can_prs _) (by unfold PyData.depth; have := depth_prs ps; lia) (by rw [eqv_prs]; exact h)
end
noncomputable def closeOf (env : Env) : List (Str × NameKind) → List (Str × Addr) → List (Str × Addr)
 | [], cs => cs
 | (x, k) :: r, cs => if k == .free then closeOf env r ((x, (env.cells.lookup x).getD 0) :: cs) else closeOf env r cs
theorem closeOf_mem {env : Env} : ∀ {names : List (Str × NameKind)} {cs : List (Str × Addr)} {p : Str × Addr}, p ∈ closeOf env names cs → p ∈ cs ∨ (∃ k, (p.1, k) ∈ names ∧ k = .free) ∧ p.2 = (env.cells.lookup p.1).getD 0
 | [], cs, p, h => .inl h
 | (x, k) :: r, cs, p, h => by
  unfold closeOf at h
  split at h
  ·rename_i hk
   rcases closeOf_mem h with q | ⟨⟨k', q1, q2⟩, q3⟩
   ·rcases List.mem_cons.mp q with q | q
    ·subst q; exact .inr ⟨⟨k, .head _, by simpa using hk⟩, rfl⟩
    ·exact .inl q
   ·exact .inr ⟨⟨k', .tail _ q1, q2⟩, q3⟩
  ·rcases closeOf_mem h with q | ⟨⟨k', q1, q2⟩, q3⟩
   ·exact .inl q
   ·exact .inr ⟨⟨k', .tail _ q1, q2⟩, q3⟩
theorem closeOf_has {env : Env} : ∀ {names : List (Str × NameKind)} {cs : List (Str × Addr)} {x : Str}, ((∃ c, (x, c) ∈ cs) ∨ (x, .free) ∈ names) → ∃ c, (x, c) ∈ closeOf env names cs
 | [], cs, x, h => by
  rcases h with ⟨c, h⟩ | h
  ·exact ⟨c, h⟩
  ·cases h
 | (y, k) :: r, cs, x, h => by
  unfold closeOf
  split
  ·rename_i hk
   refine closeOf_has ?_
   rcases h with ⟨c, h⟩ | h
   ·exact .inl ⟨c, .tail _ h⟩
   ·rcases List.mem_cons.mp h with q | q
    ·injection q with q1 q2; subst q1; exact .inl ⟨_, .head _⟩
    ·exact .inr q
  ·rename_i hk
   refine closeOf_has ?_
   rcases h with ⟨c, h⟩ | h
   ·exact .inl ⟨c, h⟩
   ·rcases List.mem_cons.mp h with q | q
    ·injection q with q1 q2; subst q2; exact absurd rfl hk
    ·exact .inr q
theorem closure_eq {env : Env} {scope : Scope} (h : ∀ x ∈ scope.names, x.2 = .free → (env.cells.lookup x.1).isSome = true) : closureFor scope env = pure (closeOf env scope.names []) := by
 unfold closureFor
 have : ∀ (names : List (Str × NameKind)) (cs : List (Str × Addr)), (∀ x ∈ names, x.2 = .free → (env.cells.lookup x.1).isSome = true) →
   (do let r ← forIn names cs (fun (x : Str × NameKind) (r : List (Str × Addr)) => match x with | (name, kind) => if kind == NameKind.free then (do let a ← cellOf env name; pure (ForInStep.yield ((name, a) :: r))) else pure (ForInStep.yield r)); (pure r : Sem (List (Str × Addr)))) = pure (closeOf env names cs) := by
  intro names
  induction names with
  | nil => intro cs _; rfl
  | cons p names ih =>
   obtain ⟨x, k⟩ := p
   intro cs hn
   rw [List.forIn_cons]
   unfold closeOf
   by_cases hk : (k == .free) = true
   ·rw [if_pos hk]
    obtain ⟨c, hc⟩ := Option.isSome_iff_exists.mp (hn (x, k) (.head _) (by simpa using hk))
    have hc : env.cells.lookup x = some c := hc
    have e : cellOf env x = pure c := by unfold cellOf; rw [hc]
    simp only [hk, if_true, e]
    rw [hc]
    exact ih _ fun p hp => hn p (.tail _ hp)
   ·rw [if_neg hk]
    simp only [hk, if_false, Bool.false_eq_true]
    exact ih _ fun p hp => hn p (.tail _ hp)
 have k := this scope.names [] h
 dsimp only
 erw [k]
 rfl
section
variable {prog : Program} {w : World} {K : Frag} {cx : CX} {sc : Scope} {n : Nat} {σ : AS}
noncomputable def CX.comp (cx : CX) (scope : Scope) (cl : List (Str × Addr)) (C : Addr) (h : Heap) (I : Addr) (oI : Obj) : CX where
 A := cx.A
 env := compEnvC scope cl C cx.env
 fenv := cx.fenv
 outer := cx.outer
 base := cx.base
 P := fun b o => cx.P b o ∨ (cx.own b ∧ b ∉ cx.frames ∧ (∀ y, cl.lookup y ≠ some b) ∧ h.get? b = some o) ∨ (b = I ∧ o = oI)
 N := fun b m => cx.N b m ∨ (b = cx.env.locals ∧ b ∈ cx.frames ∧ h.Ns b m)
 gens := cx.gens
 drawn := cx.drawn
 os := cx.os
noncomputable def AS.compLocB (σ : AS) (cl : List (Str × Addr)) (bd : Str → Option AV) : AS := ⟨fun y => match bd y with | some a => some a | none => if (cl.lookup y).isSome = true then σ.loc y else none, σ.hp⟩
theorem R.enterComp {s : Shared} {scope : Scope} {cl : List (Str × Addr)} {C I : Addr} {oI : Obj} {bd : Str → Option AV} {m : Str → Option Value} (r : R prog w cx σ s) (fI : Off cx σ I) (hI : s.heap.get? I = some oI) (fC : Off cx σ C) (hCI : C ≠ I)
  (hm : s.heap.Ns C m) (hmx : ∀ y a, bd y = some a → ∃ v, m y = some v ∧ VR s.heap a v) (hcl : ∀ y c, cl.lookup y = some c → cx.env.cells.lookup y = some c) (hx : ∀ y a, bd y = some a → (relabel scope cx.env).names.lookup y = some .local)
  (hk : ∀ y, (cl.lookup y).isSome = true → (relabel scope cx.env).names.lookup y = some .cell ∨ (relabel scope cx.env).names.lookup y = some .free)
  (hck : ∀ y c, cx.env.cells.lookup y = some c → cx.env.kindOf y = some .cell ∨ cx.env.kindOf y = some .free) :
  R prog w (cx.comp scope cl C s.heap I oI) (σ.compLocB cl bd) s := by
 have own' : ∀ b, (cx.comp scope cl C s.heap I oI).own b → b = C ∨ ∃ y, cl.lookup y = some b := fun b hb => hb
 refine ⟨r.stay, r.ff, ⟨m, hm⟩, fun y u e => ?_, fun b o e => ?_, fun b m' e => ?_, fun b bo e => ?_, fun b e => ?_, fun y c e => ?_, fun e he hf => ?_, r.gens, r.drawn, r.os⟩
 ·unfold AS.compLocB at e
  dsimp only at e
  split at e
  ·rename_i a hb
   cases e
   obtain ⟨v, h1, h2⟩ := hmx y _ hb
   refine ⟨v, ?_, h2⟩
   unfold LocAt
   rw [show (cx.comp scope cl C s.heap I oI).env.kindOf y = some .local from hx y _ hb]
   exact ⟨m, hm, h1⟩
  ·rename_i q1
   split at e
   ·rename_i q2
    obtain ⟨c, hc⟩ := Option.isSome_iff_exists.mp q2
    obtain ⟨u', l, hu⟩ := r.loc y u e
    refine ⟨u', ?_, hu⟩
    have hcc := hcl y c hc
    have body : ∃ c o, cx.env.cells.lookup y = some c ∧ s.heap.get? c = some o ∧ o.data = .cell (some u') := by
     unfold LocAt at l
     rcases hck y c hcc with z | z
     ·rw [z] at l; exact l
     ·rw [z] at l; exact l
    obtain ⟨c', o, h1, h2, h3⟩ := body
    rw [hcc] at h1; cases h1
    unfold LocAt
    rcases hk y q2 with z | z
    ·rw [show (cx.comp scope cl C s.heap I oI).env.kindOf y = some .cell from z]; exact ⟨c, o, hc, h2, h3⟩
    ·rw [show (cx.comp scope cl C s.heap I oI).env.kindOf y = some .free from z]; exact ⟨c, o, hc, h2, h3⟩
   ·cases e
 ·rcases e with e | ⟨_, e2, _, e4⟩ | ⟨e1, e2⟩
  ·exact r.pr b o e
  ·exact ⟨e4, e2⟩
  ·subst e1 e2; exact ⟨hI, fI.fr⟩
 ·rcases e with e | ⟨_, e2, e3⟩
  ·exact r.pn b m' e
  ·exact ⟨e3, e2⟩
 ·obtain ⟨p, q1, q2, q3, q4⟩ := r.ob b bo e
  refine ⟨p, q1, fun o e' => ?_, fun q => ?_, q4⟩
  ·rcases e' with e' | ⟨e1, _⟩ | ⟨e1, _⟩
   ·exact q2 o e'
   ·exact q3 e1
   ·subst e1; exact fI.hp _ e
  ·rcases own' b q with z | ⟨y, z⟩
   ·subst z; exact fC.hp _ e
   ·exact q3 (.inr ⟨y, hcl y b z⟩)
 ·rcases own' b e with z | ⟨y, z⟩
  ·subst z
   refine ⟨fC.base, fun o e' => ?_, fun m' e' => ?_⟩
   ·rcases e' with e' | ⟨e1, _⟩ | ⟨e1, _⟩
    ·exact fC.P o e'
    ·exact fC.own e1
    ·exact hCI e1
   ·rcases e' with e' | ⟨e1, _⟩
    ·exact fC.fr (r.pn _ _ e').2
    ·exact fC.own (.inl e1)
  ·have ho : cx.own b := .inr ⟨y, hcl y b z⟩
   obtain ⟨w1, w2, w3⟩ := r.own b ho
   refine ⟨w1, fun o e' => ?_, fun m' e' => ?_⟩
   ·rcases e' with e' | ⟨_, _, e3, _⟩ | ⟨e1, _⟩
    ·exact w2 o e'
    ·exact e3 y z
    ·subst e1; exact fI.own ho
   ·rcases e' with e' | ⟨e1, _⟩
    ·exact w3 m' e'
    ·exact (r.cel y b (hcl y b z)).1 e1
 ·have hcc := hcl y c e
  obtain ⟨c1, c2, c3⟩ := r.cel y c hcc
  exact ⟨fun q => fC.own (by rw [← (show c = C from q)]; exact .inr ⟨y, hcc⟩), c2, c3⟩
 ·exact fC.fr (List.mem_filterMap.mpr ⟨e, .tail _ he, hf⟩)
theorem R.leaveComp {s s₂ : Shared} {scope : Scope} {cl : List (Str × Addr)} {C I : Addr} {oI : Obj} {σ₂ : AS} (r : R prog w cx σ s) (r₂ : R prog w (cx.comp scope cl C s.heap I oI) σ₂ s₂) (vm : VM s.heap s₂.heap)
  (hcl : ∀ y c, cl.lookup y = some c → cx.env.cells.lookup y = some c) (hloc : ∀ y, (cl.lookup y).isSome = true → σ₂.loc y = σ.loc y)
  (hinj : ∀ x y c, cx.env.cells.lookup x = some c → cx.env.cells.lookup y = some c → x = y)
  (hk : ∀ y, (cl.lookup y).isSome = true → (relabel scope cx.env).names.lookup y = some .cell ∨ (relabel scope cx.env).names.lookup y = some .free)
  (hck : ∀ y c, cx.env.cells.lookup y = some c → cx.env.kindOf y = some .cell ∨ cx.env.kindOf y = some .free) : R prog w cx ⟨σ.loc, σ₂.hp⟩ s₂ := by
 have ownIn : ∀ a o, cx.own a → s.heap.get? a = some o → a ∉ cx.frames → (∀ y, cl.lookup y ≠ some a) → s₂.heap.get? a = some o := fun a o h1 h2 h3 h4 => (r₂.pr a o (.inr (.inl ⟨h1, h3, h4, h2⟩))).1
 have locNo : ∀ y, cl.lookup y ≠ some cx.env.locals := fun y q => (r.cel y _ (hcl y _ q)).1 rfl
 have nsIn : ∀ m, s.heap.Ns cx.env.locals m → s₂.heap.Ns cx.env.locals m := fun m hm => by
  by_cases hf : cx.env.locals ∈ cx.frames
  ·exact (r₂.pn _ m (.inr ⟨rfl, hf, hm⟩)).1
  ·obtain ⟨o, es, ep, h1, h2⟩ := hm
   exact ⟨o, es, ep, ownIn _ _ (.inl rfl) h1 hf locNo, h2⟩
 have noFr : ∀ x c, cx.env.cells.lookup x = some c → c ∉ cx.frames := fun x c h hm => by obtain ⟨e, he, hf⟩ := mem_frame hm; exact (r.cel x c h).2.2 e he hf
 refine ⟨r₂.stay, r₂.ff, ?_, fun x v e => ?_, fun b o e => ?_, fun b m e => ?_, fun a ao e => ?_, r.own, fun x c e => ?_, r.oth, r₂.gens, r₂.drawn, r₂.os⟩
 ·obtain ⟨m, hm⟩ := r.ns; exact ⟨m, nsIn m hm⟩
 ·obtain ⟨u, l, b⟩ := r.loc x v e
  by_cases hc : (cl.lookup x).isSome = true
  ·obtain ⟨u', l', b'⟩ := r₂.loc x v (by rw [hloc x hc]; exact e)
   refine ⟨u', ?_, b'⟩
   obtain ⟨c, hc'⟩ := Option.isSome_iff_exists.mp hc
   have hcc := hcl x c hc'
   have body : ∃ c o, cl.lookup x = some c ∧ s₂.heap.get? c = some o ∧ o.data = .cell (some u') := by
    unfold LocAt at l'
    rcases hk x hc with z | z
    ·rw [show (cx.comp scope cl C s.heap I oI).env.kindOf x = some .cell from z] at l'; exact l'
    ·rw [show (cx.comp scope cl C s.heap I oI).env.kindOf x = some .free from z] at l'; exact l'
   obtain ⟨c', o, h1, h2, h3⟩ := body
   rw [hc'] at h1; cases h1
   unfold LocAt
   rcases hck x c hcc with z | z
   ·rw [z]; exact ⟨c, o, hcc, h2, h3⟩
   ·rw [z]; exact ⟨c, o, hcc, h2, h3⟩
  ·refine ⟨u, ?_, b.mono vm⟩
   have noCl : ∀ c, cx.env.cells.lookup x = some c → ∀ y, cl.lookup y ≠ some c := fun c hc' y q => hc (by rw [hinj x y c hc' (hcl y c q), q]; rfl)
   unfold LocAt at l ⊢
   split at l
   ·obtain ⟨m, a1, a2⟩ := l; exact ⟨m, nsIn m a1, a2⟩
   ·obtain ⟨c, o, a1, a2, a3⟩ := l; exact ⟨c, o, a1, ownIn c o (.inr ⟨x, a1⟩) a2 (noFr x c a1) (noCl c a1), a3⟩
   ·obtain ⟨c, o, a1, a2, a3⟩ := l; exact ⟨c, o, a1, ownIn c o (.inr ⟨x, a1⟩) a2 (noFr x c a1) (noCl c a1), a3⟩
   ·exact l
 ·exact r₂.pr b o (.inl e)
 ·exact r₂.pn b m (.inl e)
 ·obtain ⟨p, q1, q2, q3, q4⟩ := r₂.ob a ao e
  refine ⟨p, q1, fun o e' => q2 o (.inl e'), fun hb => ?_, q4⟩
  by_cases hf : a ∈ cx.frames
  ·obtain ⟨en, he, hf⟩ := mem_frame hf
   exact q4 en he hf
  ·by_cases hcl' : ∃ y, cl.lookup y = some a
   ·obtain ⟨y, hy⟩ := hcl'; exact q3 (.inr ⟨y, hy⟩)
   ·have hno : ∀ y, cl.lookup y ≠ some a := fun y q => hcl' ⟨y, q⟩
    rcases hb with q | ⟨x, q⟩
    ·obtain ⟨m, hm⟩ := r.ns
     obtain ⟨o, h1, _⟩ := nofields_ns hm
     exact q2 o (.inr (.inl ⟨.inl q, hf, hno, by rw [q]; exact h1⟩))
    ·obtain ⟨_, ⟨o, v, c1, _⟩, _⟩ := r.cel x a q
     exact q2 o (.inr (.inl ⟨.inr ⟨x, q⟩, hf, hno, c1⟩))
 ·obtain ⟨p, ⟨o, v, c1, c2⟩, c3⟩ := r.cel x c e
  by_cases hcl' : ∃ y, cl.lookup y = some c
  ·obtain ⟨y, hy⟩ := hcl'
   exact ⟨p, (r₂.cel y c hy).2.1, c3⟩
  ·exact ⟨p, ⟨o, v, ownIn c o (.inr ⟨x, e⟩) c1 (noFr x c e) fun y q => hcl' ⟨y, q⟩, c2⟩, c3⟩
end
section
variable {prog : Program} {w : World} {K : Frag} {cx : CX} {sc : Scope} {n : Nat} {σ : AS} {Q : AV → AS → Prop} {QB : Bool → AS → Prop} {QF : AF → AS → Prop} {E : Value → AS → Prop} {pos : Pos}
theorem lst_put {x D : Addr} {l : List AV} {ao : AO} (h : σ.lst x l) (hD : σ.hp D = none) : (σ.put D ao).lst x l := by
 have ne : x ≠ D := fun q => by subst q; rcases h with h | h <;> (rw [hD] at h; cases h)
 rcases h with h | h
 ·exact .inl (put_ne ne h)
 ·exact .inr (put_ne ne h)
noncomputable def Drawn (σ : AS) (v : AV) (l : List AV) : Prop := Iter σ (fun σ' => ∃ D ao, σ.hp D = none ∧ σ' = σ.put D ao) v l
theorem iter_list {x : Addr} {l : List AV} (h : σ.lst x l) : Drawn σ (.ref x) l := .list h fun σ' ⟨D, ao, hD, e⟩ => by rw [e]; exact lst_put h hD
noncomputable abbrev WTs (prog : Program) (w : World) (cx : CX) (ifs : List Expr) (σ : AS) (Q : Bool → AS → Prop) (E : Value → AS → Prop) : Prop :=
 Wp prog w BR cx (forIn ifs true fun c r => if r = true then do let ok ← isTrue c cx.env (eval c cx.env); pure (ForInStep.yield ok) else pure (ForInStep.yield r)) σ Q E
theorem ts_nil (h : QB true σ) : WTs prog w cx [] σ QB E := fun s r => wpAny_pure (here0 (rel := BR) (b := true) r rfl h)
noncomputable def relabelS (scope sc : Scope) : Scope := { scope with names := scope.names.map fun (n, k) => if (k == .free && sc.kind == .function && sc.names.lookup n == some .cell) then (n, .cell) else (n, k) }
theorem relabel_eq {scope : Scope} {env : Env} (h : env.scope = sc) : relabel scope env = relabelS scope sc := by subst h; rfl
structure CScope (scope sc : Scope) (x : Str) : Prop where
 kind : scope.kind = .function
 nocell : ∀ y ∈ scope.names, y.2 ≠ .cell
 locs : ∀ y ∈ scope.names, y.2 = .local → scope.names.lookup y.1 = some .local
 frees : ∀ y ∈ scope.names, y.2 = .free → scope.names.lookup y.1 = some .free
 cells : ∀ y ∈ scope.names, y.2 = .free → sc.names.lookup y.1 = some .cell
 x : scope.names.lookup x = some .local
theorem lookup_relabel_free {sc : Scope} (hk : sc.kind = .function) : ∀ {names : List (Str × NameKind)} {x : Str}, names.lookup x = some .free → sc.names.lookup x = some .cell →
  (names.map fun (n, k) => if (k == NameKind.free && sc.kind == .function && sc.names.lookup n == some .cell) then (n, NameKind.cell) else (n, k)).lookup x = some .cell
 | [], _, h, _ => by simp at h
 | (n, k) :: r, x, h, hc => by
  have ih := @lookup_relabel_free sc hk r x
  show List.lookup x ((if (k == NameKind.free && sc.kind == .function && sc.names.lookup n == some .cell) = true then (n, NameKind.cell) else (n, k)) :: _) = _
  cases hx : x == n with
  | true =>
   simp only [List.lookup_cons, hx] at h
   cases h
   have : x = n := by simpa using hx
   subst this
   rw [if_pos (by simp [hk, hc])]
   simp [List.lookup_cons]
  | false =>
   simp only [List.lookup_cons, hx] at h
   by_cases hb : (k == NameKind.free && sc.kind == .function && sc.names.lookup n == some .cell) = true
   ·rw [if_pos hb]; simp only [List.lookup_cons, hx]; exact ih h hc
   ·rw [if_neg hb]; simp only [List.lookup_cons, hx]; exact ih h hc
noncomputable def AS.comp (σ : AS) (scope : Scope) (x : Str) (a : AV) : AS := ⟨fun y => if y = x then some a else if (scope.names.lookup y == some .free) = true then σ.loc y else none, σ.hp⟩
noncomputable def AS.compB (σ : AS) (scope : Scope) (bd : Str → Option AV) : AS := ⟨fun y => match bd y with | some a => some a | none => if (scope.names.lookup y == some .free) = true then σ.loc y else none, σ.hp⟩
noncomputable def bind1 (x : Str) (a : AV) (y : Str) : Option AV := if y = x then some a else none
theorem comp_eqB {scope : Scope} {x : Str} {a : AV} : σ.compB scope (bind1 x a) = σ.comp scope x a := by
 unfold AS.comp AS.compB bind1
 congr 1
 funext y
 by_cases q : y = x
 ·rw [if_pos q, if_pos q]
 ·rw [if_neg q, if_neg q]
noncomputable def AS.Kept (σ σ' : AS) : Prop := σ'.loc = σ.loc ∧ σ.Sub σ'
theorem AS.Kept.refl (σ : AS) : σ.Kept σ := ⟨rfl, fun ux ux e => e⟩
section
variable {scope : Scope} {x : Str}
theorem cl_in (ok : Ok prog K cx sc n) (cs : CScope scope sc x) {y : Str} {c : Addr} (h : (closeOf cx.env scope.names []).lookup y = some c) : cx.env.cells.lookup y = some c ∧ scope.names.lookup y = some .free := by
 rcases closeOf_mem (mem_of_lookup h) with q | ⟨⟨k, q1, rfl⟩, q3⟩
 ·cases q
 ·have h1 := cs.cells _ q1 rfl
  obtain ⟨c', hc'⟩ := Option.isSome_iff_exists.mp (ok.cc _ h1)
  refine ⟨?_, cs.frees _ q1 rfl⟩
  rw [hc'] at q3 ⊢
  exact congrArg some q3.symm
theorem cl_has (cs : CScope scope sc x) {y : Str} (h : scope.names.lookup y = some .free) : ((closeOf cx.env scope.names []).lookup y).isSome = true := by
 obtain ⟨c, hc⟩ := closeOf_has (env := cx.env) (cs := []) (.inr (mem_of_lookup h))
 cases q : (closeOf cx.env scope.names []).lookup y with
 | some _ => rfl
 | none =>
  have := List.lookup_eq_none_iff.mp q _ hc
  simp at this
theorem Ok.comp (ok : Ok prog K cx sc n) (cs : CScope scope sc x) {C I : Addr} {h : Heap} {oI : Obj} : Ok prog K (cx.comp scope (closeOf cx.env scope.names []) C h I oI) (relabelS scope sc) n := by
 have hk : ∀ y c, (closeOf cx.env scope.names []).lookup y = some c → (relabelS scope sc).names.lookup y = some .cell := fun y c hy => by
  obtain ⟨_, h2⟩ := cl_in ok cs hy
  exact lookup_relabel_free ok.kind h2 (cs.cells _ (mem_of_lookup h2) rfl)
 refine ⟨ok.glo, ok.fr, relabel_eq ok.scope, cs.kind, ok.frame, ok.glob, ok.bi, ok.fgen, ok.fco, ok.fglob, ok.fbi, ok.fkind, ok.depth, ok.units, fun y z c h1 h2 => ok.inj y z c (cl_in ok cs h1).1 (cl_in ok cs h2).1, fun y c hy => .inl ?_, fun y hy => ?_⟩
 ·show (relabel scope cx.env).names.lookup y = _
  rw [relabel_eq ok.scope]; exact hk y c hy
 ·refine cl_has (cx := cx) cs ?_
  have : ∀ {names : List (Str × NameKind)}, (∀ p ∈ names, p.2 ≠ .cell) → (names.map fun (n, k) => if (k == NameKind.free && sc.kind == .function && sc.names.lookup n == some .cell) then (n, NameKind.cell) else (n, k)).lookup y = some .cell → names.lookup y = some .free := by
   intro names
   induction names with
   | nil => intro _ h; simp at h
   | cons p r ih =>
    obtain ⟨z, k⟩ := p
    intro hn h
    rw [List.map_cons] at h
    by_cases hz : y = z
    ·subst hz
     by_cases hb : (k == NameKind.free && sc.kind == .function && sc.names.lookup y == some .cell) = true
     ·have : k = .free := by simp at hb; exact hb.1.1
      subst this; simp [List.lookup_cons]
     ·simp only [hb, if_false, List.lookup_cons] at h
      simp at h
      exact absurd h (hn _ (.head _))
    ·have hz' : (y == z) = false := by simpa using hz
     rw [List.lookup_cons]
     rw [hz']
     refine ih (fun p hp => hn p (.tail _ hp)) ?_
     by_cases hb : (k == NameKind.free && sc.kind == .function && sc.names.lookup z == some .cell) = true
     ·simpa only [hb, if_true, List.lookup_cons, hz'] using h
     ·simpa only [hb, if_false, Bool.false_eq_true, List.lookup_cons, hz'] using h
  exact this cs.nocell hy
theorem Off.put_other {D I : Addr} {ao ao' : AO} (f : Off cx (σ.put D ao) I) : Off cx (σ.put D ao') I :=
 ⟨f.base, f.P, fun o e => by
  unfold AS.put at e
  dsimp only at e
  split at e
  ·rename_i q; subst q; exact f.hp ao put_same
  ·rename_i q; exact f.hp o (put_ne q e), f.own, f.fr⟩
theorem Off.put_new {D I : Addr} {ao : AO} (f : Off cx σ I) (h : I ≠ D) : Off cx (σ.put D ao) I :=
 ⟨f.base, f.P, fun o e => by
  unfold AS.put at e
  dsimp only at e
  rw [if_neg h] at e
  exact f.hp o e, f.own, f.fr⟩
theorem put_put {D : Addr} {a b : AO} : (σ.put D a).put D b = σ.put D b := by
 unfold AS.put
 congr 1
 funext y
 dsimp only
 split <;> rfl
noncomputable def CompTurn (prog : Program) (w : World) (K : Frag) (n : Nat) (scope sc : Scope) (x : Str) (ifs : List Expr) (elt : Expr) (σ₁ : AS) (l : List AV) (p : AV → Bool) (f : AV → AV) : Prop :=
 ∀ (i : Nat) a D acc cx', l[i]? = some a → σ₁.hp D = none → Ok prog K cx' (relabelS scope sc) n → cx'.A.handled = none →
  WTs prog w cx' ifs ((σ₁.put D (.list acc)).comp scope x a) (fun c σ₂ => c = p a ∧ ((σ₁.put D (.list acc)).comp scope x a).Kept σ₂) (fun ux ux => False) ∧
  (p a = true → WEv prog w cx' elt ((σ₁.put D (.list acc)).comp scope x a) (fun u σ₂ => u = f a ∧ ((σ₁.put D (.list acc)).comp scope x a).Kept σ₂) (fun ux ux => False))
inductive All2 (G : AV → AV → Prop) : List AV → List AV → Prop
 | nil : All2 G [] []
 | cons {a u : AV} {l us : List AV} (h : G a u) (t : All2 G l us) : All2 G (a :: l) (u :: us)
theorem All2.length {G : AV → AV → Prop} {l us : List AV} (h : All2 G l us) : us.length = l.length := by
 induction h with
 | nil => rfl
 | cons _ _ ih => rw [List.length_cons, List.length_cons, ih]
theorem All2.snoc {G : AV → AV → Prop} {l us : List AV} {a u : AV} (h : All2 G l us) (g : G a u) : All2 G (l ++ [a]) (us ++ [u]) := by
 induction h with
 | nil => exact .cons g .nil
 | cons h _ ih => exact .cons h ih
theorem All2.map {f : AV → AV} {l us : List AV} (h : All2 (fun a u => u = f a) l us) : us = l.map f := by
 induction h with
 | nil => rfl
 | cons h _ ih => rw [List.map_cons, h, ih]
noncomputable def CompTurnR (prog : Program) (w : World) (K : Frag) (n : Nat) (scope sc : Scope) (x : Str) (ifs : List Expr) (elt : Expr) (σ₁ : AS) (l : List AV) (p : AV → Bool) (G : AV → AV → Prop) : Prop :=
 ∀ (i : Nat) a D acc cx', l[i]? = some a → σ₁.hp D = none → Ok prog K cx' (relabelS scope sc) n → cx'.A.handled = none →
  WTs prog w cx' ifs ((σ₁.put D (.list acc)).comp scope x a) (fun c σ₂ => c = p a ∧ ((σ₁.put D (.list acc)).comp scope x a).Kept σ₂) (fun ux ux => False) ∧
  (p a = true → WEv prog w cx' elt ((σ₁.put D (.list acc)).comp scope x a) (fun u σ₂ => G a u ∧ ((σ₁.put D (.list acc)).comp scope x a).Kept σ₂) (fun ux ux => False))
inductive CompHR (prog : Program) (w : World) (K : Frag) (n : Nat) (scope sc : Scope) (x : Str) (ifs : List Expr) (elt : Expr) (Q : AV → AS → Prop) (v : AV) (σ₁ : AS) : Prop
 | mk (l : List AV) (p : AV → Bool) (G : AV → AV → Prop) (hd : Drawn σ₁ v l) (hz : l.length ≤ sizeLine) (turn : CompTurnR prog w K n scope sc x ifs elt σ₁ l p G) (q : ∀ D us, σ₁.hp D = none → All2 G (l.filter p) us → Q (.ref D) (σ₁.put D (.list us))) : CompHR prog w K n scope sc x ifs elt Q v σ₁
inductive CompH (prog : Program) (w : World) (K : Frag) (n : Nat) (scope sc : Scope) (x : Str) (ifs : List Expr) (elt : Expr) (Q : AV → AS → Prop) (v : AV) (σ₁ : AS) : Prop
 | mk (l : List AV) (p : AV → Bool) (f : AV → AV) (hd : Drawn σ₁ v l) (hz : l.length ≤ sizeLine) (turn : CompTurn prog w K n scope sc x ifs elt σ₁ l p f) (q : ∀ D, σ₁.hp D = none → Q (.ref D) (σ₁.put D (.list ((l.filter p).map f)))) : CompH prog w K n scope sc x ifs elt Q v σ₁
theorem CompH.r {ifs : List Expr} {elt : Expr} {v : AV} (h : CompH prog w K n scope sc x ifs elt Q v σ) : CompHR prog w K n scope sc x ifs elt Q v σ :=
 let ⟨l, p, f, hd, hz, turn, q⟩ := h
 ⟨l, p, fun a u => u = f a, hd, hz, turn, fun D us hD hu => by rw [hu.map]; exact q D hD⟩
noncomputable def CompTurnG (prog : Program) (w : World) (K : Frag) (n : Nat) (scope sc : Scope) (bd : AV → Str → Option AV) (ifs : List Expr) (elt : Expr) (σ₁ : AS) (l : List AV) (p : AV → Bool) (G : AV → AV → Prop) : Prop :=
 ∀ (i : Nat) a D acc cx', l[i]? = some a → σ₁.hp D = none → Ok prog K cx' (relabelS scope sc) n → cx'.A.handled = none →
  WTs prog w cx' ifs ((σ₁.put D (.list acc)).compB scope (bd a)) (fun c σ₂ => c = p a ∧ ((σ₁.put D (.list acc)).compB scope (bd a)).Kept σ₂) (fun ux ux => False) ∧
  (p a = true → WEv prog w cx' elt ((σ₁.put D (.list acc)).compB scope (bd a)) (fun u σ₂ => G a u ∧ ((σ₁.put D (.list acc)).compB scope (bd a)).Kept σ₂) (fun ux ux => False))
noncomputable def CompAsg (prog : Program) (w : World) (A : Around) (env : Env) (C : Addr) (tgt : Expr) (bd : AV → Str → Option AV) (a : AV) : Prop := ∀ (s : Shared) (v : Value) (m : Str → Option Value) (Q : Unit → Shared → Prop) (E' : Value → Shared → Prop), VR s.heap a v → s.heap.Ns C m →
  (∀ h' tk m', h'.Ns C m' → (∀ y u, bd a y = some u → ∃ v', m' y = some v' ∧ VR h' u v') → (∀ b o, b ≠ C → s.heap.get? b = some o → h'.get? b = some o) → Q () { s with heap := h', toks := tk }) → wpAny (model prog w) A (assign tgt env v) Q E' s
theorem comp_loop_any {A : Around} {elt target iter : Expr} {ifs : List Expr} {scope : Scope} {pos : Pos} {it acc : Value} {env : Env} {s : Shared} {RR : Result → Shared → Prop} (I : Nat → Shared → Prop)
  (turn : ∀ n s, I n s → wpAny (model prog w) A (pyNext it) (fun r s₁ => match r with
   | none => RR (.ok .next) s₁
   | some v => wpAny (model prog w) A (letOwnedTupleGo target it v) (fun ux s₁ => wpAny (model prog w) A (assign target env v) (fun ux s₂ =>
     wpAny (model prog w) A (forIn ifs true fun c r => if r = true then do let ok ← isTrue c env (eval c env); pure (ForInStep.yield ok) else pure (ForInStep.yield r)) (fun ok s₃ =>
      if ok = true then wpAny (model prog w) A (eval elt env) (fun x s₄ =>
       wpAny (model prog w) A (call (.builtin "list.append") [acc, x]) (fun ux s₅ => ∃ m, m < n ∧ I m s₅) (notedBy (model prog w) A env fun e s' => RR (.error e) s') s₄) (notedBy (model prog w) A env fun e s' => RR (.error e) s') s₃
      else ∃ m, m < n ∧ I m s₃) (notedBy (model prog w) A env fun e s' => RR (.error e) s') s₂) (notedBy (model prog w) A env fun e s' => RR (.error e) s') s₁) (notedBy (model prog w) A env fun e s' => RR (.error e) s') s₁) (notedBy (model prog w) A env fun e s' => RR (.error e) s') s)
  (n : Nat) (h : I n s) : codeAny (model prog w) A (.compLoop (.ListComp elt [⟨target, iter, ifs, 0⟩] scope pos) 0 it acc env) RR s := by
 refine codeAny_loop rfl I (fun n s hI => ?_) n h
 show wpAny _ A ((compTurn (.ListComp elt [⟨target, iter, ifs, 0⟩] scope pos) 0 it acc env).onRaise (fun x => do noteFrame x env; theTreesLotGoes x)) _ _ s
 refine wpAny_noted ?_
 rw [compTurn_list]
 refine wpAny_bind (wpAny_standAt (wpAny_bind (wpAny_mono (turn n s hI) (fun r s₁ h₁ => ?_) fun ux ux h' => h')))
 cases r with
 | none => exact wpAny_pure h₁
 | some v =>
  refine wpAny_bind (wpAny_mono h₁ (fun _ s₁ h₁ => ?_) fun ux ux h' => h')
  refine wpAny_bind (wpAny_mono h₁ (fun ux s₂ h₂ => wpAny_bind (wpAny_mono h₂ (fun ok s₃ h₃ => ?_) fun ux ux h' => h')) fun ux ux h' => h')
  cases ok with
  | false => exact wpAny_pure ⟨rfl, h₃⟩
  | true => exact wpAny_bind (wpAny_bind (wpAny_mono h₃ (fun x s₄ h₄ => wpAny_bind (wpAny_mono h₄ (fun ux s₅ h₅ => wpAny_pure (wpAny_pure ⟨rfl, h₅⟩)) fun ux ux h' => h')) fun ux ux h' => h'))
theorem comp_coreG (ok : Ok prog K cx sc n) (hh : cx.A.handled = none) (cs : CScope scope sc x) {elt iter tgt : Expr} {bd : AV → Str → Option AV} {ifs : List Expr} {s₂ : Shared} {I : Addr} {l : List AV} {T : AS → Prop} {It : Nat → Heap → Prop} {p : AV → Bool} {G : AV → AV → Prop}
  {RR : Value → Addr → Result → Shared → Prop} {E' : Value → Shared → Prop} (r₂ : R prog w cx σ s₂) (S : Src prog w cx I l T It) (hT : ∀ D ao, σ.hp D = none → T (σ.put D ao)) (it0 : It 0 s₂.heap) (fI : Off cx σ I) (hz : l.length ≤ sizeLine)
  (hbd : ∀ a y u, bd a y = some u → scope.names.lookup y = some .local) (asg : ∀ (i : Nat) a C, l[i]? = some a → CompAsg prog w cx.A (compEnvC scope (closeOf cx.env scope.names []) C cx.env) C tgt bd a)
  (go : ∀ (i : Nat) (a : AV) (s : Shared) (v : Value) (Q : Unit → Shared → Prop) (E : Value → Shared → Prop), l[i]? = some a → VR s.heap a v → It (i + 1) s.heap → Q () s → wpAny (model prog w) cx.A (letOwnedTupleGo tgt (.ref I) v) Q E s)
  (turn : CompTurnG prog w K n scope sc bd ifs elt σ l p G)
  (hRR : ∀ D C us s', All2 G (l.filter p) us → R prog w cx (σ.put D (.list us)) s' → VM s₂.heap s'.heap → σ.hp D = none → Off cx (σ.put D (.list us)) C → (∃ m, s'.heap.Ns C m) → RR (.ref D) C (.ok .next) s') :
  wpAny (model prog w) cx.A (newList []) (fun acc s₃ => wpAny (model prog w) cx.A (newFunctionEnv scope cx.env.globals (closeOf cx.env scope.names []) [] cx.env.qual none .none (some cx.env)) (fun cenv s₄ =>
   codeAny (model prog w) cx.A (.compStart (.ListComp elt [⟨tgt, iter, ifs, 0⟩] scope pos) 0 (.ref I) acc { cenv with scope := relabel scope cx.env }) (RR acc cenv.locals) s₄) E' s₃) E' s₂ := by
 refine wpAny_newObj_type (wpAny_newFunctionEnv cs.nocell (by intro y hy; simp at hy) (fun h₁ hns₁ hsb₁ => ?_) cs.kind)
 dsimp only at hns₁ hsb₁ ⊢
 generalize hH2 : s₂.heap.push { cls := .type "list", dict := none, data := .seq ([] : List Value).toArray } = H2 at hns₁ hsb₁ ⊢
 generalize hD : s₂.heap.objs.size = D at hns₁ hsb₁ ⊢
 have hC : H2.objs.size = D + 1 := by rw [← hH2, Heap.size_push, hD]
 generalize hCC : H2.objs.size = C at hns₁ hsb₁ hC ⊢
 have hDC : D ≠ C := by rw [hC]; exact Nat.ne_of_lt (Nat.lt_succ_self _)
 have hnD : s₂.heap.get? D = none := by rw [← hD]; exact push_none _
 have hnC : H2.get? C = none := by rw [← hCC]; exact push_none _
 have k2 : ∀ b o, s₂.heap.get? b = some o → H2.get? b = some o := fun b o e => by rw [← hH2]; exact Heap.get?_push_of_some _ e
 have gD : H2.get? D = some { cls := .type "list", dict := none, data := .seq ([] : List Value).toArray } := by rw [← hH2, ← hD]; exact Heap.get?_push_size _ rfl
 have rD : R prog w cx (σ.put D (.list [])) { s₂ with heap := H2 } := r₂.new (tk := s₂.toks) (ao := .list []) hnD k2 ⟨[], ⟨_, gD⟩, rfl⟩
 have hσD : σ.hp D = none := by
  cases q : σ.hp D with
  | none => rfl
  | some ao => exact absurd q ((Off.new r₂ hnD).hp ao)
 have fC : ∀ acc, Off cx (σ.put D (.list acc)) C := fun acc => (Off.new rD hnC).put_other
 obtain ⟨oI₀, hoI₀, _, backI₀⟩ := S.data _ _ it0
 have hID : I ≠ D := fun q => by subst q; rw [hnD] at hoI₀; cases hoI₀
 have hIC : I ≠ C := fun q => by have := k2 _ _ hoI₀; rw [q, hnC] at this; cases this
 have fI' : ∀ acc, Off cx (σ.put D (.list acc)) I := fun acc => fI.put_new hID
 have k1 : ∀ b o, H2.get? b = some o → h₁.get? b = some o := fun b o e => by
  have nb : b ≠ C := fun q => by subst q; rw [hnC] at e; cases e
  exact (hsb₁.2 b nb).trans (Heap.get?_push_of_some _ e)
 have r₁ : R prog w cx (σ.put D (.list [])) { s₂ with heap := h₁, toks := s₂.toks + ([] : List (Str × Value)).length } := rD.grow (tk := s₂.toks + ([] : List (Str × Value)).length) k1
 have it₁ : It 0 h₁ := backI₀ h₁ (k1 _ _ (k2 _ _ hoI₀))
 have vm₁ : VM s₂.heap h₁ := VM.of_keeps fun b o e => k1 b o (k2 b o e)
 have hcl : ∀ y c, (closeOf cx.env scope.names []).lookup y = some c → cx.env.cells.lookup y = some c := fun y c h => (cl_in ok cs h).1
 have hxl : ∀ a y u, bd a y = some u → (relabel scope cx.env).names.lookup y = some .local := fun a y u e => lookup_relabel_local (hbd a y u e)
 have hk : ∀ y, ((closeOf cx.env scope.names []).lookup y).isSome = true → (relabel scope cx.env).names.lookup y = some .cell ∨ (relabel scope cx.env).names.lookup y = some .free := fun y hy => by
  obtain ⟨c, hc⟩ := Option.isSome_iff_exists.mp hy
  obtain ⟨_, h2⟩ := cl_in ok cs hc
  rw [relabel_eq ok.scope]
  exact .inl (lookup_relabel_free ok.kind h2 (cs.cells _ (mem_of_lookup h2) rfl))
 have loop : ∀ s₃ : Shared, s₃ = { s₂ with heap := h₁, toks := s₂.toks + ([] : List (Str × Value)).length } →
   codeAny (model prog w) cx.A (.compLoop (.ListComp elt [⟨tgt, iter, ifs, 0⟩] scope pos) 0 (.ref I) (.ref D) (compEnvC scope (closeOf cx.env scope.names []) C cx.env)) (RR (.ref D) C) s₃ := by
  rintro s₃ rfl
  refine comp_loop_any (fun k s' => ∃ i acc, k + i = l.length + 1 ∧ i ≤ l.length ∧ All2 G ((l.take i).filter p) acc ∧ R prog w cx (σ.put D (.list acc)) s' ∧ VM s₂.heap s'.heap ∧ It i s'.heap ∧ ∃ m, s'.heap.Ns C m) ?_ (l.length + 1) ⟨0, [], by lia, by lia, .nil, r₁, vm₁, it₁, _, hns₁⟩
  rintro k s₃ ⟨i, acc, hki, hil, hacc, r₃, m₃, it₃, mm, hns₃⟩
  obtain ⟨o₀, ho₀, nd₀, _⟩ := S.data _ _ it₃
  by_cases hi : i < l.length
  ·refine S.item i s₃ _ l[i] _ _ (by simp [hi]) r₃ (hT D _ hσD) it₃ fun v h₄ tk₄ hv it₄ hk₄ => ?_
   obtain ⟨r₄, m₄⟩ := r₃.off (h' := h₄) (tk := tk₄) (fI' acc) ho₀ nd₀ hk₄
   have hns₄ : h₄.Ns C mm := hns₃.at' fun o e => hk₄ _ o (Ne.symm hIC) e
   refine go i l[i] _ v _ _ (by simp [hi]) (hv.mono m₄) it₄ ?_
   refine asg i l[i] C (by simp [hi]) _ v mm _ _ (hv.mono m₄) hns₄ fun h₅ tk₅ m' hn₅ hb₅ hs₅ => ?_
   obtain ⟨oC, es, ep, hoC, hdC⟩ := ns_data hns₄
   obtain ⟨r₅, m₅⟩ := r₄.off (h' := h₅) (tk := tk₅) (fC acc) hoC (by intro xs n; rw [hdC]; simp) fun b o hb e => hs₅ b o hb e
   obtain ⟨o₄, ho₄, _, back₄⟩ := S.data _ _ it₄
   have it₅ : It (i + 1) h₅ := back₄ h₅ (hs₅ I _ hIC ho₄)
   obtain ⟨oI, hoI, ndI, backI⟩ := S.data _ _ it₅
   have e₅ := r₅.enterComp (scope := scope) (cl := closeOf cx.env scope.names []) (bd := bd l[i]) (fI' acc) hoI (fC acc) (Ne.symm hIC) hn₅ hb₅ hcl (hxl l[i]) hk ok.ck
   have e₅' : R prog w (cx.comp scope (closeOf cx.env scope.names []) C h₅ I oI) ((σ.put D (.list acc)).compB scope (bd l[i])) _ := e₅.le (by
    refine ⟨fun y u e => ?_, fun ux ux e => e⟩
    unfold AS.compB at e
    unfold AS.compLocB
    dsimp only at e ⊢
    split at e
    ·rename_i q; (try rw [q]); exact e
    ·rename_i q
     (try rw [q])
     (try dsimp only)
     split at e
     ·rename_i q2
      rw [if_pos (cl_has (cx := cx) cs (by simpa using q2))]; exact e
     ·cases e)
   have ok' : Ok prog K (cx.comp scope (closeOf cx.env scope.names []) C h₅ I oI) (relabelS scope sc) n := ok.comp cs
   obtain ⟨ht, he⟩ := turn i l[i] D acc _ (by simp [hi]) hσD ok' hh
   have back : ∀ σ₆ (s₆ : Shared), R prog w (cx.comp scope (closeOf cx.env scope.names []) C h₅ I oI) σ₆ s₆ → VM h₅ s₆.heap → ((σ.put D (.list acc)).compB scope (bd l[i])).Kept σ₆ → R prog w cx (σ.put D (.list acc)) s₆ ∧ VM s₂.heap s₆.heap ∧ It (i + 1) s₆.heap ∧ ∃ m, s₆.heap.Ns C m := fun σ₆ s₆ r₆ m₆ ⟨q1, q2⟩ => by
    refine ⟨?_, ((m₃.trans m₄).trans m₅).trans m₆, backI _ (r₆.pr I oI (.inr (.inr ⟨rfl, rfl⟩))).1, r₆.ns⟩
    refine (r₅.leaveComp r₆ m₆ hcl (fun y hy => ?_) ok.inj hk ok.ck).le ⟨fun ux ux e => e, fun b o e => q2 b o e⟩
    obtain ⟨c, hc⟩ := Option.isSome_iff_exists.mp hy
    have h2 := (cl_in ok cs hc).2
    rw [q1]
    unfold AS.compB
    dsimp only
    have hb0 : bd l[i] y = none := by
     cases q : bd l[i] y with
     | none => rfl
     | some u => have := hbd _ _ _ q; rw [h2] at this; cases this
    rw [hb0]
    dsimp only
    rw [if_pos (by rw [h2]; rfl)]
   have take : l.take (i + 1) = l.take i ++ [l[i]] := by rw [List.take_succ, List.getElem?_eq_getElem hi]; rfl
   refine wpAny_mono (ht _ e₅') (fun c s₆ zz => zz.use fun c' σ₆ r₆ v₆ m₆ ⟨q1, q2⟩ => ?_) fun _ _ ⟨_, _, _, _, _, _, _, _, _, _, _, e⟩ => e.elim
   have hc' : c' = c := v₆
   subst hc'
   subst q1
   obtain ⟨b1, b2, b3, b4⟩ := back σ₆ s₆ r₆ m₆ q2
   cases hp : p l[i] with
   | false =>
    rw [if_neg (by simp)]
    exact ⟨k - 1, by lia, i + 1, acc, by lia, by lia, by rw [take, List.filter_append, List.filter_cons, hp, if_neg (by decide), List.filter_nil, List.append_nil]; exact hacc, b1, b2, b3, b4⟩
   | true =>
    rw [if_pos rfl]
    have r₆' : R prog w (cx.comp scope (closeOf cx.env scope.names []) C h₅ I oI) ((σ.put D (.list acc)).compB scope (bd l[i])) s₆ := r₆.le ⟨fun y u e => by rw [q2.1]; exact e, q2.2⟩
    refine wpAny_mono (he hp s₆ r₆') (fun u s₇ zz => zz.use fun u' σ₇ r₇ v₇ m₇ ⟨q3, q4⟩ => ?_) fun _ _ ⟨_, _, _, _, _, _, _, _, _, _, _, e⟩ => e.elim
    obtain ⟨c1, c2, c3, mC, c4⟩ := back σ₇ s₇ r₇ (m₆.trans m₇) q4
    obtain ⟨⟨ws, pl, qs⟩, _⟩ := c1.ob D _ put_same
    have hlen : acc.length ≤ sizeLine := by
     rw [hacc.length]
     refine Nat.le_trans (List.length_filter_le _ _) ?_
     rw [List.length_take]; lia
    refine wpAny_list_append_plain pl (fun h₈ pl' hs₈ => ?_) (by rw [List.size_toArray, qs.length]; exact hlen)
    obtain ⟨r₈, m₈⟩ := c1.upd (h' := h₈) (tk := s₇.toks) (ao' := .list (acc ++ [u'])) put_same rfl (fun b o hb e => (hs₈.2 b hb).trans e) fun vm => ⟨ws ++ [u], by simpa using pl', (qs.mono vm).snoc (VR.mono vm _ v₇)⟩
    rw [put_put] at r₈
    obtain ⟨o₇, ho₇, _, back₇⟩ := S.data _ _ c3
    exact ⟨k - 1, by lia, i + 1, _, by lia, by lia, by rw [take, List.filter_append, List.filter_cons, hp, if_pos rfl, List.filter_nil]; exact hacc.snoc q3, r₈, c2.trans m₈, back₇ h₈ ((hs₈.2 I hID).trans ho₇), mC, c4.sameBut hs₈ (Ne.symm hDC)⟩
  ·have : i = l.length := by lia
   subst this
   rw [List.take_length] at hacc
   refine S.done s₃ _ _ _ r₃ (hT D _ hσD) it₃ fun h₄ tk₄ hk₄ => ?_
   obtain ⟨r₄, m₄⟩ := r₃.off (h' := h₄) (tk := tk₄) (fI' _) ho₀ nd₀ hk₄
   exact hRR D C acc _ hacc r₄ (m₃.trans m₄) hσD (fC _) ⟨mm, hns₃.at' fun o e => hk₄ _ o (Ne.symm hIC) e⟩
 exact codeAny_compStart_list (loop _ rfl) (S.self 0 _ _ _ it₁ (loop _ rfl))
theorem asg_name {A : Around} {scope : Scope} {x : Str} {px : Pos} {cl : List (Str × Addr)} {env : Env} {C : Addr} {a : AV} (hk : scope.kind = .function) (hx : scope.names.lookup x = some .local) : CompAsg prog w A (compEnvC scope cl C env) C (.Name x px) (bind1 x) a := fun s v m Q E' hv hns hq => by
 refine wpAny_assign_Name (wpAny_storeName_local (env := compEnvC scope cl C env) (lookup_relabel_local hx) hns (fun h₅ hn₅ hs₅ => ?_) (by simp [compEnvC, relabel, hk]))
 obtain ⟨oC, es, ep, hoC, hdC⟩ := ns_data hns
 have vm : VM s.heap h₅ := fun b o xs n e c d => by
  have nb : b ≠ C := fun q => by subst q; rw [hoC] at e; cases e; rw [hdC] at d; cases d
  exact ⟨o.slots, (hs₅.2 b nb).trans e⟩
 refine hq h₅ _ _ hn₅ (fun y u e => ?_) fun b o hb e => (hs₅.2 b hb).trans e
 unfold bind1 at e
 split at e
 ·rename_i q; subst q; cases e; exact ⟨v, by simp, hv.mono vm⟩
 ·cases e
theorem CompTurnR.g {ifs : List Expr} {elt : Expr} {l : List AV} {p : AV → Bool} {G : AV → AV → Prop} (h : CompTurnR prog w K n scope sc x ifs elt σ l p G) : CompTurnG prog w K n scope sc (bind1 x) ifs elt σ l p G := fun i a D acc cx' h1 h2 h3 h4 => by
 rw [comp_eqB]; exact h i a D acc cx' h1 h2 h3 h4
theorem bind1_loc {scope : Scope} {x : Str} (hx : scope.names.lookup x = some .local) : ∀ a y u, bind1 x a y = some u → scope.names.lookup y = some .local := fun a y u e => by
 unfold bind1 at e
 split at e
 ·rename_i q; subst q; exact hx
 ·cases e
theorem v_compR (ok : Ok prog K cx sc n) (hh : cx.A.handled = none) (cs : CScope scope sc x) {elt iter : Expr} {px : Pos} {ifs : List Expr}
  (h : WEv prog w cx iter σ (CompHR prog w K n scope sc x ifs elt Q) E)
  (hs : ∀ v, foldedSetIterable iter cx.env v = pure v) : WEv prog w cx (.ListComp elt [⟨.Name x px, iter, ifs, 0⟩] scope pos) σ Q E := fun s r => by
 rw [eval_ListComp]
 refine wpAny_comprehension_free (use := none) rfl hs (closure_eq fun y hy hf => ok.cc _ (cs.cells y hy hf)) cs.kind cs.locs (wpAny_mono (h s r) (fun v s₁ zz => ?_) fun ux ux e => e)
 obtain ⟨a, σ₁, r₁, v₁, m₁, l, p, G, q1, q2, q3, q4⟩ := zz
 refine wpAny_mono (pyIter_src hh r₁ q1 v₁) (fun it s₂ zz => ?_) fun ux ux e => e
 obtain ⟨I, T, It, e, r₂, m₂, S, hT, it0, fI⟩ := zz
 subst e
 refine comp_coreG ok hh cs (bd := bind1 x) (p := p) (G := G) (RR := fun acc C => compPost (model prog w) cx.A (PostE prog w cx s E) none (PostR prog w VR cx s Q) acc C) r₂ S (fun D ao hD => hT _ ⟨D, ao, hD, rfl⟩) it0 fI q2 (bind1_loc cs.x) (fun i a C ux => asg_name cs.kind cs.x) (fun i a s v Q E ux ux ux hq => wpAny_of_eq (a := ()) rfl hq) q3.g fun D C us s' hu r' m' hD fC ⟨m, hm⟩ => ?_
 obtain ⟨oC, es, ep, hoC, hdC⟩ := ns_data hm
 refine ⟨m, hm, fun h' hs' => ?_⟩
 obtain ⟨r'', m''⟩ := r'.off (h' := h') (tk := s'.toks) fC hoC (by intro xs n; rw [hdC]; simp) fun b o hb e => (hs'.2 b hb).trans e
 exact ⟨.ref D, _, r'', vr_ref, ((m₁.trans m₂).trans m').trans m'', q4 D us hD hu⟩
theorem v_comp (ok : Ok prog K cx sc n) (hh : cx.A.handled = none) (cs : CScope scope sc x) {elt iter : Expr} {px : Pos} {ifs : List Expr}
  (h : WEv prog w cx iter σ (CompH prog w K n scope sc x ifs elt Q) E)
  (hs : ∀ v, foldedSetIterable iter cx.env v = pure v) : WEv prog w cx (.ListComp elt [⟨.Name x px, iter, ifs, 0⟩] scope pos) σ Q E := v_compR ok hh cs (h.imp (fun ux ux q => q.r) fun ux ux e => e) hs
theorem x_compR (ok : Ok prog K cx sc n) (hh : cx.A.handled = none) (cs : CScope scope sc x) {elt iter : Expr} {px : Pos} {ifs : List Expr} {y : Str} {py spos : Pos} (hy : sc.names.lookup y = some .local)
  (hsw : swapsWith (.ListComp elt [⟨.Name x px, iter, ifs, 0⟩] scope pos) (some (.Name y py)) spos.line cx.env = pure true)
  (h : WEv prog w cx iter σ (CompHR prog w K n scope sc x ifs elt (fun a σ => QF .next (σ.set y a))) E)
  (hs : ∀ v, foldedSetIterable iter cx.env v = pure v) : WEx prog w cx (.Assign [.Name y py] (.ListComp elt [⟨.Name x px, iter, ifs, 0⟩] scope pos) spos) σ QF E := fun s r => by
 rw [exec_Assign_Name_used _ _ _ _ hsw]
 refine wpAny_bind (wpAny_standAt (wpAny_bind ?_))
 show wpAny _ cx.A (do let _ ← comprehension (.ListComp elt [⟨.Name x px, iter, ifs, 0⟩] scope pos) scope cx.env _ (newList []) false (eval iter cx.env) (some (assign (.Name y py) cx.env))) _ _ s
 refine wpAny_bind (wpAny_mono (wpAny_comprehension_free (use := some (assign (.Name y py) cx.env)) (Q := fun ux s' => PostR prog w FR cx s QF .next s') rfl hs (closure_eq fun y hy hf => ok.cc _ (cs.cells y hy hf)) cs.kind cs.locs
  (wpAny_mono (h s r) (fun v s₁ ⟨a, σ₁, r₁, v₁, m₁, l, p, G, q1, q2, q3, q4⟩ => ?_) fun ux ux e => e)) (fun ux s' hq => wpAny_pure (wpAny_pure hq)) fun ux ux e => e)
 refine wpAny_mono (pyIter_src hh r₁ q1 v₁) (fun it s₂ zz => ?_) fun ux ux e => e
 obtain ⟨I, T, It, e, r₂, m₂, S, hT, it0, fI⟩ := zz
 subst e
 refine comp_coreG ok hh cs (bd := bind1 x) (p := p) (G := G) (RR := fun acc C => compPost (model prog w) cx.A (PostE prog w cx s E) (some (assign (.Name y py) cx.env)) (fun ux s' => PostR prog w FR cx s QF .next s') acc C) r₂ S (fun D ao hD => hT _ ⟨D, ao, hD, rfl⟩) it0 fI q2 (bind1_loc cs.x) (fun i a C ux => asg_name cs.kind cs.x) (fun i a s v Q E ux ux ux hq => wpAny_of_eq (a := ()) rfl hq) q3.g fun D C us s' hu r' m' hD fC ⟨m, hm⟩ => ?_
 obtain ⟨oC, es, ep, hoC, hdC⟩ := ns_data hm
 have g' := r'.guard fC hoC
 have hP : ∀ b o, cx.P b o → (fun b x => cx.P b x ∨ (b = C ∧ x = oC)) b o := fun b o e => .inl e
 show wpAny _ cx.A (assign (.Name y py) cx.env (.ref D)) _ _ _
 refine wpAny_assign_Name (wpAny_mono (st_name (cx := cx.withP fun b x => cx.P b x ∨ (b = C ∧ x = oC)) (Q := fun ux σ' => σ' = (σ₁.put D (.list us)).set y (.ref D)) (E := fun ux ux => False) (ok.withP _) hy rfl _ (.ref D) g' vr_ref) (fun ux s₅ zz => zz.use fun _ σ₅ r₅ _ m₅ q₅ => ?_) fun _ _ ⟨_, _, _, _, _, _, _, _, _, _, _, e⟩ => e.elim)
 subst q₅
 have hC5 := (r₅.pr C oC (.inr ⟨rfl, rfl⟩)).1
 have fC5 := fC.of_guard r₅
 obtain ⟨m5, hm5⟩ : ∃ m, s₅.heap.Ns C m := ⟨m, hm.at' fun o e => by rw [hoC] at e; cases e; exact hC5⟩
 refine ⟨m5, hm5, fun h' hs' => ?_⟩
 obtain ⟨r'', m''⟩ := (r₅.lessP hP).off (h' := h') (tk := s₅.toks) fC5 hC5 (by intro xs n; rw [hdC]; simp) fun b o hb e => (hs'.2 b hb).trans e
 exact ⟨.next, _, r'', rfl, (((m₁.trans m₂).trans m').trans m₅).trans m'', q4 D us hD hu⟩
theorem x_comp (ok : Ok prog K cx sc n) (hh : cx.A.handled = none) (cs : CScope scope sc x) {elt iter : Expr} {px : Pos} {ifs : List Expr} {y : Str} {py spos : Pos} (hy : sc.names.lookup y = some .local)
  (hsw : swapsWith (.ListComp elt [⟨.Name x px, iter, ifs, 0⟩] scope pos) (some (.Name y py)) spos.line cx.env = pure true)
  (h : WEv prog w cx iter σ (CompH prog w K n scope sc x ifs elt (fun a σ => QF .next (σ.set y a))) E)
  (hs : ∀ v, foldedSetIterable iter cx.env v = pure v) : WEx prog w cx (.Assign [.Name y py] (.ListComp elt [⟨.Name x px, iter, ifs, 0⟩] scope pos) spos) σ QF E := x_compR ok hh cs hy hsw (h.imp (fun ux ux q => q.r) fun ux ux e => e) hs
end
theorem subTail_any {A : Around} {s : Shared} {E' : Value → Shared → Prop} {value slice : Expr} {o i : Value} {T id : String} {ops : List Value} {Q : Value → Shared → Prop} (hT : s.TypeIs o T)
  (hl : typeLookup (.type T) "__getitem__" = pure (some (.builtin id))) (h : wpAny (model prog w) A (getItem o i) Q E' s)
  (hs : subscripted slice false o i = operate ops (getItem o i)) : wpAny (model prog w) A (subscriptTail value slice o i) Q E' s := by
 unfold subscriptTail
 refine wpAny_bind ?_
 rw [getitemInPython_of_ne hT.not_modules]
 refine wpAny_bind (wpAny_specialOf hT hl ?_)
 have fin : wpAny (model prog w) A (subscripted slice false o i) (fun r s₃ => wpAny (model prog w) A (letTemporaryGo value o r >>= fun ux => pure r) Q E' s₃) E' s := by
  rw [hs]
  exact wpAny_operating (wpAny_mono h (fun r s₃ h₃ => wpAny_bind (wpAny_letTemporaryGo (wpAny_pure h₃))) fun ux ux x => x)
 first
  | exact wpAny_pure (wpAny_bind fin)
  | exact wpAny_bind (wpAny_pure (wpAny_bind fin))
  | exact wpAny_bind fin
theorem sub_list' {value slice : Expr} {x : Addr} {l : List AV} {i : Int} {a : AV} (hl : σ.lst x l) (hlo : 0 ≤ i) (hhi : i < 2 ^ 63) (ha : l[i.toNat]? = some a) (h : Q a σ)
  (hs : ∀ o i, subscripted slice false o i = operate [o, i] (getItem o i) := by intro _ _; with_unfolding_all rfl) : WOp2 prog w cx (subscriptTail value slice) (.ref x) (.int i) σ Q E := by
 rintro s va _ r q0 ⟨t, rfl⟩
 rw [show va = .ref x from q0]
 obtain ⟨vs, p, q⟩ := r.lst hl
 obtain ⟨v, hv, hva⟩ := q.get ha
 exact subTail_any p.typeIs slot_list_getitem.lookup (wpAny_getItem_list p hlo hhi (by simpa using hv) (here0 r hva h)) (hs _ _)
theorem sub_tup' {value slice : Expr} {l : List AV} {i : Int} {k : Nat} {a : AV} (hlo : -(2 ^ 63) ≤ i) (hhi : i < 2 ^ 63) (hk : seqIndex? i l.length = some k) (ha : l[k]? = some a) (h : Q a σ)
  (hs : ∀ o i, subscripted slice false o i = operate [o, i] (getItem o i) := by intro _ _; with_unfolding_all rfl) : WOp2 prog w cx (subscriptTail value slice) (.tup l) (.int i) σ Q E := by
 rintro s _ _ r ⟨x, vs, rfl, ⟨o, m, h1, h2, h3⟩, q⟩ ⟨t, rfl⟩
 obtain ⟨v, hv, hva⟩ := q.get ha
 have ht : IsTup s.heap x vs.toArray := ⟨o, h1, h2, m, h3⟩
 exact subTail_any ht.typeIs slot_tuple_getitem.lookup (getItem_tuple ht hlo hhi (by rw [List.size_toArray, q.length]; exact hk) (by simpa using hv) (here0 r hva h)) (hs _ _)
theorem sub_pr0 {value slice : Expr} {p : Int × Int} (h : Q (.int p.1) σ) (hs : ∀ o i, subscripted slice false o i = operate [o, i] (getItem o i)) : WOp2 prog w cx (subscriptTail value slice) (prA p) (.int 0) σ Q E :=
 sub_tup' (by decide) (by decide) (k := 0) rfl rfl h hs
theorem sub_pr1 {value slice : Expr} {p : Int × Int} (h : Q (.int p.2) σ) (hs : ∀ o i, subscripted slice false o i = operate [o, i] (getItem o i)) : WOp2 prog w cx (subscriptTail value slice) (prA p) (.int 1) σ Q E :=
 sub_tup' (by decide) (by decide) (k := 1) rfl rfl h hs
theorem vrs_drop {h : Heap} : ∀ {l : List AV} {vs : List Value} (a : Nat), VRs h l vs → VRs h (l.drop a) (vs.drop a)
 | [], vs, a, e => by rw [show vs = [] from e]; simp; rfl
 | y :: l, _, 0, q => q
 | y :: l, _, a + 1, ⟨v, r, e, p, q⟩ => by subst e; exact vrs_drop a q
theorem vrs_take {h : Heap} : ∀ {l : List AV} {vs : List Value} (a : Nat), VRs h l vs → VRs h (l.take a) (vs.take a)
 | [], vs, a, e => by rw [show vs = [] from e]; simp; rfl
 | y :: l, _, 0, q => rfl
 | y :: l, _, a + 1, ⟨v, r, e, p, q⟩ => by subst e; exact ⟨v, r.take a, rfl, p, vrs_take a q⟩
theorem slice_core {s : Shared} {value : Expr} {lower upper : Option Expr} {p : Pos} {x : Addr} {l : List AV} {lo hi : Option Int} {vl vu : Value} (r : R prog w cx σ s) (hl : σ.lst x l) (hz : l.length ≤ sizeLine) (pl : IsPart vl lo) (pu : IsPart vu hi)
  (h : ∀ z, σ.hp z = none → Q (.ref z) (σ.put z (.list ((l.drop (lo.elim 0 (clipAt l.length))).take (hi.elim l.length (clipAt l.length) - lo.elim 0 (clipAt l.length)))))) :
  wpAny (model prog w) cx.A (subscriptTail value (.Slice lower upper none p) (.ref x) (.ref s.heap.objs.size)) (PostR prog w VR cx s Q) (PostE prog w cx s E) { s with heap := s.heap.push { cls := .type "slice", data := .fields #[vl, vu, .none] } } := by
 obtain ⟨vs, p, q⟩ := r.lst hl
 have k1 : ∀ b o, s.heap.get? b = some o → (s.heap.push { cls := .type "slice", data := .fields #[vl, vu, .none] }).get? b = some o := fun b o e => Heap.get?_push_of_some _ e
 refine subTail_any (Heap.IsList.typeIs (s := { s with heap := s.heap.push { cls := .type "slice", data := .fields #[vl, vu, .none] } }) (p.push _)) slot_list_getitem.lookup
  (wpAny_getItem_list_slice (p.push _) (Heap.IsSliceOf.new ..) pl pu .none (by simp) ?_ (by rw [List.size_toArray, q.length]; exact hz)) (ops := [.ref s.heap.objs.size, .ref x]) rfl
 have r₄ := r.grow (tk := s.toks) k1
 rw [slicePick_plain]
 simp only [List.size_toArray, q.length]
 generalize hH : s.heap.push { cls := .type "slice", data := .fields #[vl, vu, .none] } = H at r₄ k1 ⊢
 generalize hw : ((vs.drop (lo.elim 0 (clipAt l.length))).take (hi.elim l.length (clipAt l.length) - lo.elim 0 (clipAt l.length))) = ws
 have q' : VRs s.heap ((l.drop (lo.elim 0 (clipAt l.length))).take (hi.elim l.length (clipAt l.length) - lo.elim 0 (clipAt l.length))) ws := by rw [← hw]; exact vrs_take _ (vrs_drop _ q)
 have k2 : ∀ b o, H.get? b = some o → (H.push { cls := .type "list", data := .seq ws.toArray }).get? b = some o := fun b o e => Heap.get?_push_of_some _ e
 have vm1 := VM.of_keeps k1
 have vm2 := VM.of_keeps k2
 exact ⟨.ref _, _, r₄.new (tk := s.toks) (ao := .list ((l.drop (lo.elim 0 (clipAt l.length))).take (hi.elim l.length (clipAt l.length) - lo.elim 0 (clipAt l.length)))) (push_none _) k2 ⟨_, ⟨_, Heap.get?_push_size _ rfl⟩, (q'.mono vm1).mono vm2⟩, vr_ref, vm1.trans vm2, h _ (fresh_hp r₄)⟩
theorem v_slice {value lower upper : Expr} {p : Pos} (h : WEv prog w cx value σ (fun a σ₁ => WEv prog w cx lower σ₁ (fun b σ₂ => WEv prog w cx upper σ₂ (fun c σ₃ => ∃ x l i j, a = .ref x ∧ b = .int i ∧ c = .int j ∧ σ₃.lst x l ∧ l.length ≤ sizeLine ∧
  ∀ z, σ₃.hp z = none → Q (.ref z) (σ₃.put z (.list ((l.drop (clipAt l.length i)).take (clipAt l.length j - clipAt l.length i))))) E) E) E) : WEv prog w cx (.Subscript value (.Slice (some lower) (some upper) none p) pos) σ Q E := fun s r => by
 refine Subscript_ (wpAny_mono (h s r) (fun va s₁ zz => zz.use fun a σ₁ r₁ v₁ m₁ q₁ => ?_) fun ux ux e => e)
 refine wpAny_Slice ?_
 rw [evalPart_some, evalPart_some, evalPart_none]
 refine wpAny_mono (q₁ s₁ r₁) (fun vb s₂ zz => zz.use fun b σ₂ r₂ v₂ m₂ q₂ => ?_) fun ux ux e => e.mono m₁
 refine wpAny_mono (q₂ s₂ r₂) (fun vc s₃ zz => ?_) fun ux ux e => e.mono (m₁.trans m₂)
 obtain ⟨c, σ₃, r₃, v₃, m₃, x, l, i, j, ha, hb, hc, hl, hz, q₃⟩ := zz
 subst ha hb hc
 rw [show va = .ref x from v₁]
 obtain ⟨t2, rfl⟩ := v₂
 obtain ⟨t3, rfl⟩ := v₃
 exact wpAny_pure (wpAny_mono (slice_core (Q := Q) (E := E) r₃ hl hz (.int i t2) (.int j t3) q₃) (fun ux ux p => p.mono ((m₁.trans m₂).trans m₃)) fun ux ux e => e.mono ((m₁.trans m₂).trans m₃))
theorem op_addl {x y : Addr} {l l' : List AV} (hx : σ.lst x l) (hy : σ.lst y l') (hz : l.length + l'.length ≤ sizeLine) (h : ∀ z, σ.hp z = none → Q (.ref z) (σ.put z (.list (l ++ l')))) : WOp2 prog w cx (binaryOp .Add) (.ref x) (.ref y) σ Q E := by
 rintro s va vb r q1 q2
 rw [show va = .ref x from q1, show vb = .ref y from q2]
 obtain ⟨vs, ⟨⟨cls, dd, data, sl⟩, ho, hc, n, hd⟩, q⟩ := r.lst hx
 obtain ⟨ws, ⟨⟨cls2, dd2, data2, sl2⟩, ho2, hc2, n2, hd2⟩, q'⟩ := r.lst hy
 simp only at hc hd hc2 hd2
 subst hc hd hc2 hd2
 have e : vs.toArray ++ ws.toArray = (vs ++ ws).toArray := by simp
 refine concat_meets ⟨_, ho, rfl⟩ ⟨_, ho2, rfl⟩ noFill_list_add seq_list_add PySem.F.slot_list_add PySem.F.entry_list_add (PySem.F.args_list_add_2 _ _) (list_addW x y vs.toArray ws.toArray n n2 dd dd2 sl sl2 (by simpa [q.length, q'.length] using hz)) ⟨ho, ho2, ?_⟩
 rw [e]
 have k : ∀ b o, s.heap.get? b = some o → (s.heap.push { cls := .type "list", data := .seq (vs ++ ws).toArray }).get? b = some o := fun b o e => Heap.get?_push_of_some _ e
 exact ⟨.ref _, _, r.new (tk := s.toks) (ao := .list (l ++ l')) (push_none _) k ⟨_, ⟨_, Heap.get?_push_size _ rfl⟩, (q.append q').mono (VM.of_keeps k)⟩, vr_ref, VM.of_keeps k, h _ (fresh_hp r)⟩
theorem x_expra (ok : Ok prog K cx sc n) {v : Expr} (hs : ∀ env, swapsWith v none pos.line env = pure false) (h : WEv prog w cx v σ (fun ux σ₁ => QF .next σ₁) E) : WEx prog w cx (.Expr v pos) σ QF E := fun s r => by
 exact wpAny_Expr_any (wpAny_mono (h s r) (fun va s₁ zz => zz.use fun a σ₁ r₁ v₁ m₁ q₁ => ⟨.next, σ₁, r₁, rfl, m₁, q₁⟩) fun ux ux e => e) (by unfold interactive; rw [ok.scope, ok.kind]; rfl) (hs _)
theorem x_list (g : Fx prog K cx sc n) {x : Str} {px : Pos} {iter : Expr} {body : List Stmt} (hx : sc.names.lookup x = some .local) (hs : ∀ v, foldedSetIterable iter cx.env v = pure v)
  (h : WEv prog w cx iter σ (fun v σ₁ => ∃ ax l, ∃ J : Nat → AS → Prop, v = .ref ax ∧ J 0 σ₁ ∧ (∀ i σ, J i σ → σ.hp ax = some (.list l)) ∧
   (∀ i a σ cx', Fx prog K cx' sc n → l[i]? = some a → J i σ → WExs prog w cx' body (σ.set x a) (Turn (J (i + 1)) QF) E) ∧ ∀ σ, J l.length σ → QF .next σ) E) : WEx prog w cx (.For (.Name x px) iter body [] pos) σ QF E :=
 ex_for g.ok g.fe g.hh hx (h.imp (fun v σ₁ ⟨ax, l, J, h1, h2, h3, h4, h5⟩ => by
  subst h1
  exact ⟨l, J, .list (.inl (h3 0 _ h2)) (fun σ' ⟨i, hj⟩ => .inl (h3 i σ' hj)), h2, fun i a σ P' ha hj ux => h4 i a σ _ (g.withP P') ha hj, h5⟩) fun ux ux e => e) hs
theorem cmp_eq_none (ok : Ok prog K cx sc n) {b : Int} (h : Q (.bool false) σ) : WOp2 prog w cx (compareOp .Eq) .none (.int b) σ Q E :=
 cmp_eq_data ok (d := .none) (e := .int b) rfl rfl rfl rfl (by show min 0 _ ≤ 100; lia) h
end
section
variable {prog : Program} {w : World} {K : Frag} {cx : CX} {sc : Scope} {n : Nat} {σ σ' : AS} {Q : AV → AS → Prop} {QB : Bool → AS → Prop} {QF : AF → AS → Prop} {E : Value → AS → Prop} {pos : Pos}
noncomputable def yardAt (k : Nat) (S H : Addr) : List (Str × AV) := [(Str.ofString "cells", .int (2 ^ k)), (Str.ofString "spare", .ref S), (Str.ofString "held", .ref H)]
structure IsYd (K : Frag) (σ : AS) (y : Addr) (k : Nat) (C dx S H : Addr) : Prop where
 cls : nsIn K mainGlobals (Str.ofString "Yard") = some (some (.ref C))
 y : σ.hp y = some (.inst C dx)
 dx : σ.hp dx = some (.attrs (yardAt k S H))
structure Yd (K : Frag) (σ : AS) (y : Addr) (k : Nat) (t : BT k) (C dx S H : Addr) (sp hd : List (Int × Int)) : Prop where
 is : IsYd K σ y k C dx S H
 sS : σ.hp S = some (.dict sp)
 sH : σ.hp H = some (.dict hd)
 ne : S ≠ H
 rep : Rep t sp hd
 cn : Mine.cn t
 k60 : k ≤ 60
 len : hd.length ≤ 2 ^ 15
noncomputable def Exc (K : Frag) (E : Value → AS → Prop) (x : String) (σ : AS) : Prop := ∀ C, nsIn K mainGlobals (Str.ofString x) = some (some (.ref C)) → E (.ref C) σ
theorem IsYd.sub {y k C dx S H} (h : IsYd K σ y k C dx S H) (s : σ.Sub σ') : IsYd K σ' y k C dx S H := ⟨h.cls, s _ _ h.y, s _ _ h.dx⟩
theorem Yd.sub {y k C dx S H sp hd} {t : BT k} (h : Yd K σ y k t C dx S H sp hd) (s : σ.Sub σ') : Yd K σ' y k t C dx S H sp hd := ⟨h.is.sub s, s _ _ h.sS, s _ _ h.sH, h.ne, h.rep, h.cn, h.k60, h.len⟩
theorem ne_of_hp {a b : Addr} {o o' : AO} (h : σ.hp a = some o) (h' : σ.hp b = some o') (n : o ≠ o') : a ≠ b := fun q => by subst q; rw [h] at h'; exact n (by injection h')
theorem Yd.splen {y k C dx S H sp hd} {t : BT k} (h : Yd K σ y k t C dx S H sp hd) : sp.length ≤ 60 * 2 ^ 15 + 1 := by
 have h1 := h.rep.len h.cn
 have h2 := h.len
 have h3 := h.k60
 have : k * hd.length ≤ 60 * 2 ^ 15 := Nat.mul_le_mul h3 h2
 lia
inductive A_tell (K : Frag) (b : Bool) (Q : AV → AS → Prop) (a : AV) (σ : AS) : Prop
 | mk (y : Addr) (k : Nat) (t : BT k) (C dx S H : Addr) (sp hd : List (Int × Int)) (ha : a = .ref y) (hY : Yd K σ y k t C dx S H sp hd) (hq : ∀ z, σ.hp z = none → Q (.ref z) (σ.put z (.list ((pcs b 0 t).map prA)))) : A_tell K b Q a σ
theorem a_tell {b : Bool} {y k C dx S H sp hd} {t : BT k} (h : Yd K σ y k t C dx S H sp hd) (hq : ∀ z, σ.hp z = none → Q (.ref z) (σ.put z (.list ((pcs b 0 t).map prA)))) : A_tell K b Q (.ref y) σ := ⟨y, k, t, C, dx, S, H, sp, hd, rfl, h, hq⟩
noncomputable def A_yard (K : Frag) (E : Value → AS → Prop) (Q : AV → AS → Prop) (l : List AV) (σ : AS) : Prop := ∃ v : Int, l = [.int v] ∧
 ((v < 1 ∨ 2 ^ 60 < v ∨ ∀ e : Nat, v ≠ 2 ^ e) → Exc K E "NoYard" σ) ∧
 ∀ k : Nat, k ≤ 60 → v = 2 ^ k → ∀ σ' y C dx S H, σ.Sub σ' → σ'.loc = σ.loc → σ.hp y = none → σ.hp dx = none → σ.hp S = none → σ.hp H = none → Yd K σ' y k (.fr : BT k) C dx S H [(0, 2 ^ k)] [] → Q (.ref y) σ'
theorem a_yard {v : Int} (h1 : (v < 1 ∨ 2 ^ 60 < v ∨ ∀ e : Nat, v ≠ 2 ^ e) → Exc K E "NoYard" σ)
  (h2 : ∀ k : Nat, k ≤ 60 → v = 2 ^ k → ∀ σ' y C dx S H, σ.Sub σ' → σ'.loc = σ.loc → σ.hp y = none → σ.hp dx = none → σ.hp S = none → σ.hp H = none → Yd K σ' y k (.fr : BT k) C dx S H [(0, 2 ^ k)] [] → Q (.ref y) σ') : A_yard K E Q [.int v] σ := ⟨v, rfl, h1, h2⟩
theorem fit_pow {v : Int} {e : Nat} (h : Fit v e) : (2 : Int) ^ e = v ↔ ∃ m : Nat, v = 2 ^ m := by
 constructor
 ·intro q; exact ⟨e, q.symm⟩
 ·rintro ⟨m, rfl⟩
  rw [fit_unique h]
theorem loc_at {x : Str} {v : Option AV} (s : σ'.loc = σ.loc) (h : σ.loc x = v) : σ'.loc x = v := by rw [s]; exact h
theorem at_attr {attr : Str} {x C dx : Addr} {fs : List (Str × AV)} {v : AV} {ca : Option Value} (h1 : σ.hp x = some (.inst C dx)) (h2 : σ.hp dx = some (.attrs fs)) (h3 : plainGet K C attr = true) (h4 : hasDictIn K C = true) (h5 : findIn K (.ref C) attr = some ca) (h6 : noGet K ca = true) (h7 : fs.lookup attr = some v) (h8 : v.plain = true) (h : Q v σ) : AtAttr K attr Q (.ref x) σ :=
 ⟨x, C, dx, fs, v, ca, rfl, h1, h2, h3, h4, h5, h6, h7, h8, h⟩
theorem v_attr' (ok : Ok prog K cx sc n) {value : Expr} {attr : Str} (he : ∀ env, eval (.Attribute value attr pos) env = (do
   let o ← eval value env
   standAt pos.atName
   let r ← holding [o] (getAttr o attr true)
   letTemporaryGo value o r
   pure r))
  (h : WEv prog w cx value σ (AtAttr K attr Q) E) : WEv prog w cx (.Attribute value attr pos) σ Q E := v_attr ok he h
theorem set_at {attr : Str} {x C dx : Addr} {fs fs' : List (Str × AV)} {v : AV} (h1 : σ.hp x = some (.inst C dx)) (h2 : σ.hp dx = some (.attrs fs)) (h3 : findIn K (.ref C) "__setattr__" = some (some (.builtin "object.__setattr__"))) (h4 : plainOver K C = true) (h5 : takerIn K C attr = some none) (h6 : hasDictIn K C = true)
  (h7 : putA fs attr v = fs') (h8 : fs'.length ≤ 1000) (h : QF .next (σ.put dx (.attrs fs'))) : SetAt K attr QF v (.ref x) σ := by subst h7; exact ⟨x, C, dx, fs, rfl, h1, h2, h3, h4, h5, h6, h8, h⟩
theorem x_setattr' (ok : Ok prog K cx sc n) {o : Expr} {attr : Str} {apos : Pos} {value : Expr} (hs : ∀ env, swapsWith value (some (.Attribute o attr apos)) pos.line env = pure false)
  (h : WEv prog w cx value σ (fun v σ₁ => WEv prog w cx o σ₁ (SetAt K attr QF v) E) E) : WEx prog w cx (.Assign [.Attribute o attr apos] value pos) σ QF E := x_setattr ok hs h
theorem v_methb' {o : Expr} {name : Str} {apos : Pos} {args : List Expr} (hbase : ∀ env, attributeBase o name env (eval o env) = eval o env)
  (hfew : ∀ env, ((backTo pos (starEach args env)).all (fun x => !x.1) && (backToKw pos (keywordEach [] env)).all (fun x => x.1.isSome) && decide (args.length + ([] : List Keyword).length + (if ([] : List Keyword).isEmpty then 0 else 1) < 30)) = true)
  (hline : (apos.endLine == pos.line) = true) (hpl : ∀ env, (backTo pos (starEach args env)).any (·.1) = false)
  (h : WEv prog w cx o σ (MethB prog w cx pos args name Q E) E) : WEv prog w cx (.Call (.Attribute o name apos) args [] pos) σ Q E := v_methb hbase hfew hline hpl h
theorem meth_get {x : Addr} {d : List (Int × Int)} {args : List Expr} (hx : σ.hp x = some (.dict d)) (h : WAr prog w cx pos args σ (fun l σ₂ => WCl prog w cx (.builtin "dict.get") (.ref x :: l) σ₂ Q E) E) : MethB prog w cx pos args (Str.ofString "get") Q E (.ref x) σ :=
 ⟨x, _, "dict", "dict.get", rfl, hx, rfl, PySem.F.plainAttrs_dict, PySem.F.slot_dict_get, rfl, h⟩
theorem meth_append {x : Addr} {d : List AV} {args : List Expr} (hx : σ.hp x = some (.list d)) (h : WAr prog w cx pos args σ (fun l σ₂ => WCl prog w cx (.builtin "list.append") (.ref x :: l) σ₂ Q E) E) : MethB prog w cx pos args (Str.ofString "append") Q E (.ref x) σ :=
 ⟨x, _, "list", "list.append", rfl, hx, rfl, PySem.F.plainAttrs_list, slot_list_append, rfl, h⟩
noncomputable def Dict1 (Q : AV → AS → Prop) (x : Addr) (a b : AV) (σ₂ : AS) : Prop := ∃ i j, a = .int i ∧ b = .int j ∧ σ₂.hp x = some (.dict []) ∧ Q (.ref x) (σ₂.put x (.dict [(i, j)]))
theorem dict1 {x : Addr} {i j : Int} (h : σ.hp x = some (.dict [])) (hq : Q (.ref x) (σ.put x (.dict [(i, j)]))) : Dict1 Q x (.int i) (.int j) σ := ⟨i, j, rfl, rfl, h, hq⟩
theorem v_dict1' (ok : Ok prog K cx sc n) {k v : Expr} (h : ∀ x, σ.hp x = none → WEv prog w cx k (σ.put x (.dict [])) (fun a σ₁ => WEv prog w cx v σ₁ (Dict1 Q x a) E) E) : WEv prog w cx (.Dict [some k] [v] pos) σ Q E := v_dict1 ok h
inductive OnYd (K : Frag) (F : Addr → AS → Prop) (a : AV) (σ₁ : AS) : Prop
 | mk (y : Addr) (k : Nat) (C dx S H : Addr) (ha : a = .ref y) (h : IsYd K σ₁ y k C dx S H) (hf : F y σ₁) : OnYd K F a σ₁
theorem on_yd {F : Addr → AS → Prop} {y k C dx S H} (h : IsYd K σ y k C dx S H) (hf : F y σ) : OnYd K F (.ref y) σ := ⟨y, k, C, dx, S, H, rfl, h, hf⟩
noncomputable abbrev MethE (o : Expr) (name : Str) (apos : Pos) (args : List Expr) (pos : Pos) : Prop := (∃ pl : Env → Sem Bool, ∀ env, eval (.Call (.Attribute o name apos) args [] pos) env = (do
   let ov ← eval o env
   standAt apos.atName
   let (f, first) ← holding [ov] (getMethod ov name (pl env))
   callWith pos f first (backTo pos (starEach args env)) (backToKw pos (keywordEach [] env)))) ∧ ∀ env, (backTo pos (starEach args env)).any (·.1) = false
theorem v_methy (ok : Ok prog K cx sc n) {o : Expr} {name : Str} {apos : Pos} {args : List Expr} {f C : Addr} (hC : nsIn K mainGlobals (Str.ofString "Yard") = some (some (.ref C))) (h1 : plainGet K C name = true) (h2 : findIn K (.ref C) name = some (some (.ref f))) (h3 : isFn K (.ref f) = true) (h4 : keepIn K (.ref f) = true)
  (hn : ∀ k S H, (yardAt k S H).lookup name = none) (he : MethE o name apos args pos)
  (h : WEv prog w cx o σ (OnYd K fun y σ₁ => WAr prog w cx pos args σ₁ (fun l σ₂ => WCl prog w cx (.ref f) (.ref y :: l) σ₂ Q E) E) E) : WEv prog w cx (.Call (.Attribute o name apos) args [] pos) σ Q E := by
 obtain ⟨⟨pl, he⟩, hpl⟩ := he
 exact v_meth ok he hpl (h.imp (fun a σ₁ ⟨y, k, C', dx, S, H, ha, hy, hq⟩ => by
  have := nsEq hC hy.cls
  subst this
  exact ⟨y, C, dx, _, f, ha, hy.y, hy.dx, h1, h2, h3, h4, hn k S H, hq⟩) fun ux ux e => e)
theorem onyd_imp {o : Expr} {args : List Expr} {A B : Addr → List AV → AS → Prop} (h : WEv prog w cx o σ (OnYd K fun y σ₁ => WAr prog w cx pos args σ₁ (A y) E) E) (hi : ∀ y l σ, A y l σ → B y l σ) : WEv prog w cx o σ (OnYd K fun y σ₁ => WAr prog w cx pos args σ₁ (B y) E) E :=
 h.imp (fun a σ₁ ⟨y, k, C, dx, S, H, h1, h2, h3⟩ => ⟨y, k, C, dx, S, H, h1, h2, h3.imp (fun l σ₂ q => hi y l σ₂ q) fun ux ux e => e⟩) fun ux ux e => e
theorem comp_x {scope : Scope} {x : Str} {a : AV} : (σ.comp scope x a).loc x = some a := by unfold AS.comp; simp
theorem comp_free {scope : Scope} {x y : Str} {a : AV} {v : Option AV} (h1 : (scope.names.lookup y == some .free) = true) (h2 : y ≠ x) (h : σ.loc y = v) : (σ.comp scope x a).loc y = v := by
 unfold AS.comp; dsimp only; rw [if_neg h2, if_pos h1]; exact h
theorem comp_hp {scope : Scope} {x : Str} {a : AV} {b : Addr} {u : Option AO} (h : σ.hp b = u) : (σ.comp scope x a).hp b = u := h
theorem enter_hp {ps : List Str} {l : List AV} {b : Addr} {u : Option AO} (h : σ.hp b = u) : (σ.enter ps l).hp b = u := h
theorem none_put {z D : Addr} {o : AO} (h : (σ.put z o).hp D = none) : σ.hp D = none ∧ D ≠ z := by
 unfold AS.put at h
 dsimp only at h
 split at h
 ·cases h
 ·rename_i q; exact ⟨h, q⟩
theorem le_refl : σ.Le σ := ⟨fun ux ux e => e, fun ux ux e => e⟩
theorem le_put_new {σ₀ : AS} {z : Addr} {o : AO} (h : σ₀.Le σ) (hz : σ.hp z = none) : σ₀.Le (σ.put z o) := ⟨h.1, fun a b e => by
 have := h.2 a b e
 exact put_ne (fun q => by subst q; rw [hz] at this; cases this) this⟩
theorem le_put_both {σ₀ : AS} {z : Addr} {o : AO} (h : σ₀.Le σ) : (σ₀.put z o).Le (σ.put z o) := ⟨h.1, fun a b e => by
 unfold AS.put at e ⊢
 dsimp only at e ⊢
 split
 ·rename_i q; rw [if_pos q] at e; exact e
 ·rename_i q; rw [if_neg q] at e; exact h.2 a b e⟩
theorem cl_list_dict' (g : Fx prog K cx sc n) {x : Addr} {d : List (Int × Int)} (hx : σ.hp x = some (.dict d)) (hz : d.length ≤ sizeLine) (h : ∀ y, σ.hp y = none → Q (.ref y) (σ.put y (.list ((d.map (·.1)).map AV.int)))) : WCl prog w cx (.type "list") [.ref x] σ Q E :=
 cl_list_dict g hx hz fun y hy => by have := h y hy; rw [List.map_map] at this; exact this
noncomputable def NewL (Q : AV → AS → Prop) (l : List AV) (σ : AS) : Prop := l.length ≤ sizeLine ∧ ∀ x, σ.hp x = none → Q (.ref x) (σ.put x (.list l))
theorem newl {l : List AV} (hz : l.length ≤ sizeLine) (h : ∀ x, σ.hp x = none → Q (.ref x) (σ.put x (.list l))) : NewL Q l σ := ⟨hz, h⟩
theorem v_list {elts : List Expr} (h : WAr prog w cx pos elts σ (NewL Q) E) : WEv prog w cx (.List elts pos) σ Q E := ev_list h
theorem put_old {a b : Addr} {o u : AO} (h : σ.hp a = none) (h' : σ.hp b = some u) : (σ.put a o).hp b = some u := put_ne (fun q => by subst q; rw [h] at h'; cases h') h'
theorem put_put_hp {D b : Addr} {o o' : AO} {u : Option AO} (h : (σ.put D o').hp b = u) : ((σ.put D o).put D o').hp b = u := by rw [put_put]; exact h
theorem put_diff {a b : Addr} {o o₁ u : AO} (ha : σ.hp a = some o₁) (hb : σ.hp b = some u) (ne : o₁ ≠ u) : (σ.put a o).hp b = some u := put_ne (ne_of_hp hb ha (Ne.symm ne)) hb
noncomputable def tellF (d : List (Int × Int)) : AV → AV
 | .int a => prA (a, (dget d a).getD 0)
 | v => v
theorem tell_at {d : List (Int × Int)} {p : Int × Int} (h : dget d p.1 = some p.2) : AV.tup [.int p.1, .int p.2] = tellF d (.int p.1) := by show _ = prA (p.1, (dget d p.1).getD 0); rw [h]; rfl
theorem tell_list {b : Bool} {k : Nat} {t : BT k} {d : List (Int × Int)} (hd : d.Perm (pcs b 0 t)) : ((((pcs b 0 t).map (·.1)).map AV.int).filter fun ux => true).map (tellF d) = (pcs b 0 t).map prA := by
 rw [List.filter_eq_self.mpr (fun ux ux => rfl), List.map_map, List.map_map]
 refine List.map_congr_left fun p hp => ?_
 exact (tell_at (dget_pcs hd hp)).symm
theorem tell_item {b : Bool} {k : Nat} {t : BT k} {i : Nat} {a : AV} (h : (((pcs b 0 t).map (·.1)).map AV.int)[i]? = some a) : ∃ p ∈ pcs b 0 t, a = .int p.1 := by
 have := List.mem_of_getElem? h
 rw [List.map_map] at this
 obtain ⟨p, hp, rfl⟩ := List.mem_map.mp this
 exact ⟨p, hp, rfl⟩
theorem tell_len {b : Bool} {k : Nat} {t : BT k} {d : List (Int × Int)} {N : Nat} (hd : d.Perm (pcs b 0 t)) (h : d.length ≤ N) : (((pcs b 0 t).map (·.1)).map AV.int).length ≤ N := by
 rw [List.length_map, List.length_map, ← hd.length_eq]; exact h
theorem yard_made {σ₁ : AS} {y dx S H C : Addr} {e : Nat} {fs1 fs2 : List (Str × AV)} {ps : List Str} {ls : List AV} (hy : σ₁.hp y = none) (hdx : σ₁.hp dx = none) (hne : y ≠ dx)
  (hS : ((((σ₁.put dx (.attrs [])).put y (.inst C dx)).enter ps ls).put dx (.attrs fs1)).hp S = none)
  (hH : (((((((σ₁.put dx (.attrs [])).put y (.inst C dx)).enter ps ls).put dx (.attrs fs1)).put S (.dict [])).put S (.dict [(0, 2 ^ e)])).put dx (.attrs fs2)).hp H = none)
  (hc : nsIn K mainGlobals (Str.ofString "Yard") = some (some (.ref C))) (he : e ≤ 60) :
  ∃ σ₀ : AS, σ₀.Le ⟨σ₁.loc, (((((((((σ₁.put dx (.attrs [])).put y (.inst C dx)).enter ps ls).put dx (.attrs fs1)).put S (.dict [])).put S (.dict [(0, 2 ^ e)])).put dx (.attrs fs2)).put H (.dict [])).put dx (.attrs (yardAt e S H))).hp⟩ ∧ σ₁.Sub σ₀ ∧ σ₀.loc = σ₁.loc ∧ σ₁.hp S = none ∧ σ₁.hp H = none ∧ Yd K σ₀ y e (.fr : BT e) C dx S H [(0, 2 ^ e)] [] := by
 have hS1 := none_put hS
 have hS2 := none_put (show ((σ₁.put dx (.attrs [])).put y (.inst C dx)).hp S = none from hS1.1)
 have hS3 := none_put hS2.1
 have hH1 := none_put hH
 have hH2 := none_put hH1.1
 have hH3 := none_put hH2.1
 have hH4 := none_put hH3.1
 have hH5 := none_put (show ((σ₁.put dx (.attrs [])).put y (.inst C dx)).hp H = none from hH4.1)
 have hH6 := none_put hH5.1
 refine ⟨⟨σ₁.loc, fun a => if a = dx then some (.attrs (yardAt e S H)) else if a = H then some (.dict []) else if a = S then some (.dict [(0, 2 ^ e)]) else if a = y then some (.inst C dx) else σ₁.hp a⟩, ⟨fun ux ux q => q, fun a o q => ?_⟩,
  (fun a o q => ?_), rfl, hS3.1, hH6.1, ⟨⟨hc, ?_, ?_⟩, ?_, ?_, Ne.symm hH2.2, rep_new e, by cases e <;> exact trivial, he, by decide⟩⟩
 ·dsimp only [AS.put, AS.enter] at q ⊢
  by_cases c1 : a = dx
  ·simp only [c1, if_true] at q ⊢; exact q
  ·simp only [c1, if_false] at q ⊢
   by_cases c2 : a = H
   ·simp only [c2, if_true] at q ⊢; exact q
   ·simp only [c2, if_false] at q ⊢
    by_cases c3 : a = S
    ·simp only [c3, if_true] at q ⊢; exact q
    ·simp only [c3, if_false] at q ⊢
     exact q
 ·dsimp only
  have n1 : a ≠ dx := fun z => by subst z; rw [hdx] at q; cases q
  have n2 : a ≠ H := fun z => by subst z; rw [hH6.1] at q; cases q
  have n3 : a ≠ S := fun z => by subst z; rw [hS3.1] at q; cases q
  have n4 : a ≠ y := fun z => by subst z; rw [hy] at q; cases q
  simp only [n1, n2, n3, n4, if_false]; exact q
 ·dsimp only
  simp only [hne, Ne.symm hH5.2, Ne.symm hS2.2, if_false, if_true]
 ·simp only [if_true]
 ·simp only [hS1.2, Ne.symm hH2.2, if_false, if_true]
 ·simp only [hH1.2, if_false, if_true]
theorem is_nn (h : Q (.bool true) σ) : WOp2 prog w cx (compareOp .Is) .none .none σ Q E := cmp_is_none h rfl
theorem cmp_eq_str (ok : Ok prog K cx sc n) {x y : Str} (c1 : (PyData.str x).canLay0 = true) (c2 : (PyData.str y).canLay0 = true) (h : Q (.bool (x == y)) σ) : WOp2 prog w cx (compareOp .Eq) (.str x) (.str y) σ Q E := by
 intro s va vb r p q
 obtain ⟨t, rfl⟩ := p
 obtain ⟨u, rfl⟩ := q
 exact SeqAt.compareEq_reads (.str x t) (.str y u) c1 c2 (by have := ok.units; show cx.A.units + min 0 0 < _; lia) (here0 r vr_bool h)
theorem mod_nn {c m : Int} (h : 0 < m) : 0 ≤ c % m := Int.emod_nonneg _ (by lia)
theorem mod_lt {c m M : Int} (h : 0 < m) (hM : m ≤ M) : c % m < M := Int.lt_of_lt_of_le (Int.emod_lt_of_pos c h) hM
theorem mod_nat {c m : Int} {k : Nat} (h : 0 < m) (hk : m ≤ k + 1) : (c % m).toNat ≤ k := by
 have h1 := mod_nn (c := c) h
 have h2 := mod_lt (c := c) h hk
 lia
noncomputable def Kb2 (prog : Program) (w : World) (cx : CX) (op : Value → Value → Sem Value) (Q : AV → AS → Prop) (E : Value → AS → Prop) (a b : AV) (σ : AS) : Prop := WOp2 prog w cx op a b σ Q E
noncomputable def Kb1 (prog : Program) (w : World) (cx : CX) (rr : Expr) (op : Value → Value → Sem Value) (Q : AV → AS → Prop) (E : Value → AS → Prop) (a : AV) (σ : AS) : Prop := WEv prog w cx rr σ (Kb2 prog w cx op Q E a) E
noncomputable def TB' (QB : Bool → AS → Prop) (v : AV) (σ : AS) : Prop := ∃ c, v = .bool c ∧ QB c σ
noncomputable def Ka2 (Q : List AV → AS → Prop) (a : AV) (l : List AV) (σ : AS) : Prop := Q (a :: l) σ
noncomputable def Ka1 (prog : Program) (w : World) (cx : CX) (pos : Pos) (rest : List Expr) (Q : List AV → AS → Prop) (E : Value → AS → Prop) (a : AV) (σ : AS) : Prop := WAr prog w cx pos rest σ (Ka2 Q a) E
noncomputable def Kcl (prog : Program) (w : World) (cx : CX) (f : Value) (Q : AV → AS → Prop) (E : Value → AS → Prop) (l : List AV) (σ : AS) : Prop := WCl prog w cx f l σ Q E
noncomputable def Kif (prog : Program) (w : World) (cx : CX) (b o : List Stmt) (QF : AF → AS → Prop) (E : Value → AS → Prop) (c : Bool) (σ : AS) : Prop := if c then WExs prog w cx b σ QF E else WExs prog w cx o σ QF E
noncomputable def Kset (x : Str) (QF : AF → AS → Prop) (a : AV) (σ : AS) : Prop := QF .next (σ.set x a)
noncomputable def Kret (QF : AF → AS → Prop) (a : AV) (σ : AS) : Prop := QF (.ret a) σ
noncomputable def Knx (prog : Program) (w : World) (cx : CX) (rest : List Stmt) (QF : AF → AS → Prop) (E : Value → AS → Prop) : AF → AS → Prop
 | .next, σ => WExs prog w cx rest σ QF E
 | f, σ => QF f σ
noncomputable def Knot (QB : Bool → AS → Prop) (c : Bool) (σ : AS) : Prop := QB (!c) σ
noncomputable def Kand (prog : Program) (w : World) (cx : CX) (pos : Pos) (es : List Expr) (QB : Bool → AS → Prop) (E : Value → AS → Prop) (c : Bool) (σ : AS) : Prop := if c then WTl prog w cx pos .And es σ QB E else QB false σ
noncomputable def Kor (prog : Program) (w : World) (cx : CX) (pos : Pos) (es : List Expr) (QB : Bool → AS → Prop) (E : Value → AS → Prop) (c : Bool) (σ : AS) : Prop := if c then QB true σ else WTl prog w cx pos .Or es σ QB E
noncomputable def Kvand (prog : Program) (w : World) (cx : CX) (pos : Pos) (es : List Expr) (Q : AV → AS → Prop) (E : Value → AS → Prop) (c : Bool) (σ : AS) : Prop := if c then WEv prog w cx (.BoolOp .And es pos) σ Q E else Q (.bool false) σ
noncomputable def Ku (prog : Program) (w : World) (cx : CX) (op : Value → Sem Value) (Q : AV → AS → Prop) (E : Value → AS → Prop) (a : AV) (σ : AS) : Prop := WOp1 prog w cx op a σ Q E
noncomputable def Kdrop (QF : AF → AS → Prop) (_ : AV) (σ : AS) : Prop := QF .next σ
theorem k_bin {l rr : Expr} {op : Operator} (h : WEv prog w cx l σ (Kb1 prog w cx rr (binaryOp op) Q E) E) : WEv prog w cx (.BinOp l op rr pos) σ Q E := ev_bin h
theorem k_cmp {l rr : Expr} {op : CmpOp} (hm : behindInMarks op rr = false) (h : WEv prog w cx l σ (Kb1 prog w cx rr (compareOp op) Q E) E) : WEv prog w cx (.Compare l [op] [rr] pos) σ Q E := v_cmp hm h
theorem k_tcmp {l rr : Expr} {op : CmpOp} (hm : behindInMarks op rr = false) (h : WEv prog w cx l σ (Kb1 prog w cx rr (compareOp op) (TB' QB) E) E) : WTr prog w cx (.Compare l [op] [rr] pos) σ QB E := t_cmp hm h
theorem k_sub {value slice : Expr} (h : WEv prog w cx value σ (Kb1 prog w cx slice (subscriptTail value slice) Q E) E) : WEv prog w cx (.Subscript value slice pos) σ Q E := ev_sub h
theorem kb1 {rr : Expr} {op : Value → Value → Sem Value} {a : AV} (h : WEv prog w cx rr σ (Kb2 prog w cx op Q E a) E) : Kb1 prog w cx rr op Q E a σ := h
theorem kb2 {op : Value → Value → Sem Value} {a b : AV} (h : WOp2 prog w cx op a b σ Q E) : Kb2 prog w cx op Q E a b σ := h
theorem ktb {b : Bool} (h : QB b σ) : TB' QB (.bool b) σ := ⟨b, rfl, h⟩
theorem k_tval {e : Expr} (he : ∀ env, isTrue e env (eval e env) = (do let v ← eval e env; standAt e.pos; holding [v] (truthy v))) (h : WEv prog w cx e σ (TB' QB) E) : WTr prog w cx e σ QB E := t_val he h
theorem k_cons {e : Expr} {rest : List Expr} {Q : List AV → AS → Prop} (he : ∀ env, starEach (e :: rest) env = (false, eval e env) :: starEach rest env) (h : WEv prog w cx e σ (Ka1 prog w cx pos rest Q E) E) : WAr prog w cx pos (e :: rest) σ Q E := a_cons he h
theorem ka1 {rest : List Expr} {Q : List AV → AS → Prop} {a : AV} (h : WAr prog w cx pos rest σ (Ka2 Q a) E) : Ka1 prog w cx pos rest Q E a σ := h
theorem ka2 {Q : List AV → AS → Prop} {a : AV} {l : List AV} (h : Q (a :: l) σ) : Ka2 Q a l σ := h
theorem kcl {f : Value} {l : List AV} (h : WCl prog w cx f l σ Q E) : Kcl prog w cx f Q E l σ := h
theorem k_callb (g : Ok prog K cx sc n) {x : Str} {px : Pos} {args : List Expr} {id : String} (hx : sc.names.lookup x = some .globalImplicit) (e : nsIn K mainGlobals x = some none) (hn : x ≠ "__name__") (hb : bootBuiltins x = some (.builtin id))
  (hd : (x == ("__debug__" : Str)) = false) (hp : Plain x px args pos) (h : WAr prog w cx pos args σ (Kcl prog w cx (.builtin id) Q E) E) : WEv prog w cx (.Call (.Name x px) args [] pos) σ Q E := v_callb g hx e hn hb hd hp.1 hp.2 h
theorem k_callt (g : Ok prog K cx sc n) {x : Str} {px : Pos} {args : List Expr} {id : String} (hx : sc.names.lookup x = some .globalImplicit) (e : nsIn K mainGlobals x = some none) (hn : x ≠ "__name__") (hb : bootBuiltins x = some (.type id))
  (hd : (x == ("__debug__" : Str)) = false) (hp : Plain x px args pos) (h : WAr prog w cx pos args σ (Kcl prog w cx (.type id) Q E) E) : WEv prog w cx (.Call (.Name x px) args [] pos) σ Q E := v_callt g hx e hn hb hd hp.1 hp.2 h
theorem k_if {test : Expr} {body orelse : List Stmt} (h : WTr prog w cx test σ (Kif prog w cx body orelse QF E) E) : WEx prog w cx (.If test body orelse pos) σ QF E := ex_if h
theorem kif {b o : List Stmt} {c : Bool} (h : if c = true then WExs prog w cx b σ QF E else WExs prog w cx o σ QF E) : Kif prog w cx b o QF E c σ := h
theorem k_assign (g : Ok prog K cx sc n) {x : Str} {value : Expr} {pos' : Pos} (hx : sc.names.lookup x = some .local) (hs : swapsWith value (some (.Name x pos')) pos.line cx.env = pure false) (h : WEv prog w cx value σ (Kset x QF) E) : WEx prog w cx (.Assign [.Name x pos'] value pos) σ QF E := x_assign g hx hs h
theorem kset {x : Str} {a : AV} (h : QF .next (σ.set x a)) : Kset x QF a σ := h
theorem k_ret {e : Expr} (h : WEv prog w cx e σ (Kret QF) E) : WEx prog w cx (.Return (some e) pos) σ QF E := ex_ret h
theorem kret {a : AV} (h : QF (.ret a) σ) : Kret QF a σ := h
theorem k_xcons {st : Stmt} {rest : List Stmt} (h : WEx prog w cx st σ (Knx prog w cx rest QF E) E) : WExs prog w cx (st :: rest) σ QF E := exs_cons (h.imp (fun f σ₁ q => by cases f <;> exact q) fun ux ux e => e)
theorem knext {rest : List Stmt} (h : WExs prog w cx rest σ QF E) : Knx prog w cx rest QF E .next σ := h
theorem knret {rest : List Stmt} {v : AV} (h : QF (.ret v) σ) : Knx prog w cx rest QF E (.ret v) σ := h
theorem k_not {e : Expr} (h : WTr prog w cx e σ (Knot QB) E) : WTr prog w cx (.UnaryOp .Not e pos) σ QB E := tr_not h
theorem knot {c : Bool} (h : QB (!c) σ) : Knot QB c σ := h
theorem k_and {e : Expr} {es : List Expr} (h : WTr prog w cx e σ (Kand prog w cx pos es QB E) E) : WTl prog w cx pos .And (e :: es) σ QB E := tl_and h
theorem kand {es : List Expr} {c : Bool} (h : if c = true then WTl prog w cx pos .And es σ QB E else QB false σ) : Kand prog w cx pos es QB E c σ := h
theorem k_or {e : Expr} {es : List Expr} (h : WTr prog w cx e σ (Kor prog w cx pos es QB E) E) : WTl prog w cx pos .Or (e :: es) σ QB E := tl_or h
theorem kor {es : List Expr} {c : Bool} (h : if c = true then QB true σ else WTl prog w cx pos .Or es σ QB E) : Kor prog w cx pos es QB E c σ := h
theorem k_vand {e₁ e₂ : Expr} {es : List Expr} (h : WEv prog w cx e₁ σ (TB' (Kvand prog w cx pos (e₂ :: es) Q E)) E) : WEv prog w cx (.BoolOp .And (e₁ :: e₂ :: es) pos) σ Q E := ev_and h
theorem kvand {es : List Expr} {c : Bool} (h : if c = true then WEv prog w cx (.BoolOp .And es pos) σ Q E else Q (.bool false) σ) : Kvand prog w cx pos es Q E c σ := h
theorem k_un {e : Expr} {op : UnaryOp} (h : WEv prog w cx e σ (Ku prog w cx (unaryOp op) Q E) E) : WEv prog w cx (.UnaryOp op e pos) σ Q E := ev_un h
theorem ku {op : Value → Sem Value} {a : AV} (h : WOp1 prog w cx op a σ Q E) : Ku prog w cx op Q E a σ := h
theorem k_expr (ok : Ok prog K cx sc n) {v : Expr} (hs : ∀ env, swapsWith v none pos.line env = pure false) (h : WEv prog w cx v σ (Kdrop QF) E) : WEx prog w cx (.Expr v pos) σ QF E := x_expra ok hs h
theorem kdrop {a : AV} (h : QF .next σ) : Kdrop QF a σ := h
end
section
variable {prog : Program} {w : World} {K : Frag} {cx : CX} {sc : Scope} {n : Nat} {σ σ' σ₀ : AS} {Q : AV → AS → Prop} {QB : Bool → AS → Prop} {QF : AF → AS → Prop} {E : Value → AS → Prop} {pos : Pos}
theorem iter_range {x : Addr} {b : Int} (h : σ.hp x = some (.range 0 b 1)) (h0 : 0 ≤ b) (h1 : b < 2 ^ 62) : Drawn σ (.ref x) ((List.range b.toNat).map fun i : Nat => AV.int i) := by
 have := Iter.range (σ := σ) (J := fun σ' => ∃ D ao, σ.hp D = none ∧ σ' = σ.put D ao) h (by decide) (small_one (by decide) (by decide) (by lia) h1)
 rw [rangeSize_one h0, Int.sub_zero] at this
 have e : (fun i : Nat => AV.int (0 + (i : Int) * 1)) = fun i : Nat => AV.int i := by funext i; rw [Int.mul_one, Int.zero_add]
 rw [e] at this
 exact this
theorem sub_prs {value slice : Expr} {x : Addr} {hs : List (Int × Int)} {i : Int} (hl : σ.lst x (hs.map prA)) (hlo : 0 ≤ i) (hhi : i < hs.length) (hz : hs.length ≤ sizeLine) (h : ∀ p, hs[i.toNat]? = some p → Q (prA p) σ)
  (hs' : ∀ o i, subscripted slice false o i = operate [o, i] (getItem o i)) : WOp2 prog w cx (subscriptTail value slice) (.ref x) (.int i) σ Q E := by
 have lt : i.toNat < hs.length := by lia
 exact sub_list' hl hlo (by have : sizeLine = 2 ^ 24 := rfl; lia) (a := prA hs[i.toNat]) (by rw [List.getElem?_map, List.getElem?_eq_getElem lt]; rfl) (h _ (List.getElem?_eq_getElem lt)) hs'
theorem pr_item {hs : List (Int × Int)} {i : Nat} {a : AV} (h : (hs.map prA)[i]? = some a) : ∃ p, hs[i]? = some p ∧ a = prA p := by
 rw [List.getElem?_map] at h
 obtain ⟨p, hp, rfl⟩ := Option.map_eq_some_iff.mp h
 exact ⟨p, hp, rfl⟩
theorem swaps_comp (ok : Ok prog K cx sc n) {y : Str} {elt : Expr} {gens : List Comprehension} {scope : Scope} {pos' : Pos} {ln : Nat} (hy : sc.names.lookup y = some .local) (h2 : (pos'.line == pos.line) = true)
  (h3 : (scope.names.any fun (n, k) => n == y && (k == .local || k == .cell)) = false) : swapsWith (.ListComp elt gens scope pos) (some (.Name y pos')) ln cx.env = pure true := by
 have hk : cx.env.kindOf y = some .local := by unfold Env.kindOf; rw [ok.scope]; exact hy
 have hb : cx.env.blockKind = .function := by unfold Env.blockKind; rw [ok.scope, ok.kind]; rfl
 show (pure (cx.env.blockKind == .function && cx.env.kindOf y == some .local && pos'.line == pos.line && !(scope.names.any fun (n, k) => n == y && (k == .local || k == .cell))) : Sem Bool) = pure true
 rw [hk, hb, h2, h3]; rfl
theorem fgt_of {l : Str → Option AV} {fl : AF} (h : Q (retOf fl) ⟨l, σ.hp⟩) : Fgt Q l fl σ := ⟨_, le_refl, h⟩
theorem range_item {n i : Nat} {a : AV} (h : ((List.range n).map fun i : Nat => AV.int i)[i]? = some a) : i < n ∧ a = .int i := by
 rw [List.getElem?_map] at h
 obtain ⟨p, hp, rfl⟩ := Option.map_eq_some_iff.mp h
 obtain ⟨h1, h2⟩ := List.getElem?_eq_some_iff.mp hp
 rw [List.getElem_range] at h2
 rw [List.length_range] at h1
 subst h2
 exact ⟨h1, rfl⟩
theorem ne_new {a b : Addr} {o : AO} (h : σ.hp a = none) (h' : σ.hp b = some o) : b ≠ a := fun q => by subst q; rw [h] at h'; cases h'
theorem int_item {ns : List Int} {a b i : Nat} {x : AV} (h : (((ns.map AV.int).drop a).take b)[i]? = some x) : ∃ c : Int, x = .int c := by
 have := List.mem_of_mem_drop (List.mem_of_mem_take (List.mem_of_getElem? h))
 obtain ⟨c, _, rfl⟩ := List.mem_map.mp this
 exact ⟨c, rfl⟩
theorem slice_len {ns : List Int} {a b : Nat} : (((ns.map AV.int).drop a).take b).length ≤ ns.length := by
 rw [List.length_take, List.length_drop, List.length_map]; lia
end
noncomputable def keyP (h : Heap) (v : Value) : Int × Int := match v with
 | .ref a => match h.get? a with
  | some o => match o.data with
   | .seq xs _ => (keyI (xs[0]?.getD .none), keyI (xs[1]?.getD .none))
   | _ => (0, 0)
  | none => (0, 0)
 | _ => (0, 0)
noncomputable def PrAt (h : Heap) (v : Value) (p : Int × Int) : Prop := ∃ a o n t u, v = .ref a ∧ h.get? a = some o ∧ o.cls = .type "tuple" ∧ o.data = .seq #[.int p.1 t, .int p.2 u] n
theorem PrAt.key {h : Heap} {v : Value} {p : Int × Int} (x : PrAt h v p) : keyP h v = p := by
 obtain ⟨a, o, n, t, u, rfl, h1, h2, h3⟩ := x
 unfold keyP
 simp only [h1, h3]
 rfl
theorem prAt_of {h : Heap} {v : Value} {p : Int × Int} (x : VR h (prA p) v) : PrAt h v p := by
 obtain ⟨a, vs, rfl, ⟨o, n, h1, h2, h3⟩, v1, r1, rfl, ⟨t, rfl⟩, v2, r2, rfl, ⟨u, rfl⟩, e⟩ := x
 rw [show r2 = [] from e] at h3
 exact ⟨a, o, n, t, u, rfl, h1, h2, h3⟩
theorem PrAt.vr {h : Heap} {v : Value} {p : Int × Int} (x : PrAt h v p) : VR h (prA p) v := by
 obtain ⟨a, o, n, t, u, rfl, h1, h2, h3⟩ := x
 exact ⟨a, _, rfl, ⟨o, n, h1, h2, h3⟩, _, _, rfl, ⟨t, rfl⟩, _, _, rfl, ⟨u, rfl⟩, rfl⟩
section
variable {prog : Program} {w : World} {A : Around} {E : Value → Shared → Prop} {s : Shared}
end
section
variable {prog : Program} {w : World} {K : Frag} {cx : CX} {sc : Scope} {n : Nat} {σ : AS} {Q : AV → AS → Prop} {QB : Bool → AS → Prop} {QF : AF → AS → Prop} {E : Value → AS → Prop} {pos : Pos}
theorem vrs_prs {h : Heap} : ∀ {ps : List (Int × Int)} {vs : List Value}, VRs h (ps.map prA) vs → vs.map (keyP h) = ps ∧ ∀ v ∈ vs, ∃ p, PrAt h v p
 | [], _, e => by rw [show _ = [] from e]; exact ⟨rfl, fun ux q => nomatch q⟩
 | p :: ps, _, ⟨v, r, e, x, q⟩ => by
  have x := prAt_of x
  subst e
  obtain ⟨h1, h2⟩ := vrs_prs q
  refine ⟨by rw [List.map_cons, h1, x.key], fun v hv => ?_⟩
  rcases List.mem_cons.mp hv with q | q
  ·exact ⟨p, q ▸ x⟩
  ·exact h2 v q
end
section
variable {prog : Program} {w : World} {K : Frag} {cx : CX} {sc : Scope} {n : Nat} {σ σ' : AS} {Q : AV → AS → Prop} {QB : Bool → AS → Prop} {QF : AF → AS → Prop} {E : Value → AS → Prop} {pos : Pos} {P : AS → Prop}
noncomputable def Kend (P : AS → Prop) (QF : AF → AS → Prop) : AF → AS → Prop
 | .next, σ => P σ
 | f, σ => QF f σ
noncomputable def Kseq (prog : Program) (w : World) (cx : CX) (P : AS → Prop) (QF : AF → AS → Prop) (E : Value → AS → Prop) : List Stmt → AF → AS → Prop
 | [], .next, σ => P σ
 | s :: r, .next, σ => WEx prog w cx s σ (Kseq prog w cx P QF E r) E
 | _, f, σ => QF f σ
theorem ksnil (h : P σ) : Kseq prog w cx P QF E [] .next σ := by unfold Kseq; exact h
theorem kscons {s : Stmt} {r : List Stmt} (h : WEx prog w cx s σ (Kseq prog w cx P QF E r) E) : Kseq prog w cx P QF E (s :: r) .next σ := by unfold Kseq; exact h
theorem ksret {r : List Stmt} {v : AV} (h : QF (.ret v) σ) : Kseq prog w cx P QF E r (.ret v) σ := by cases r <;> (unfold Kseq; exact h)
theorem kseq {rest : List Stmt} (h2 : ∀ σ', P σ' → WExs prog w cx rest σ' QF E) : ∀ {l : List Stmt} {f : AF} {σ : AS}, Kseq prog w cx P QF E l f σ → Knx prog w cx (l ++ rest) QF E f σ
 | [], .next, σ, h => h2 σ (by unfold Kseq at h; exact h)
 | s :: r, .next, σ, h => knext (k_xcons (Wp.imp (by unfold Kseq at h; exact h) (fun f σ₁ q => kseq h2 q) fun ux ux e => e))
 | l, .ret v, σ, h => by cases l <;> (unfold Kseq at h; exact h)
 | l, .brk, σ, h => by cases l <;> (unfold Kseq at h; exact h)
 | l, .cont, σ, h => by cases l <;> (unfold Kseq at h; exact h)
theorem seq1 (P : AS → Prop) {s1 : Stmt} {rest : List Stmt} (h2 : ∀ σ', P σ' → WExs prog w cx rest σ' QF E) (h : WEx prog w cx s1 σ (Kseq prog w cx P QF E []) E) : WExs prog w cx (s1 :: rest) σ QF E :=
 knext (kseq (l := [s1]) h2 (kscons h))
theorem seq2 (P : AS → Prop) {s1 s2 : Stmt} {rest : List Stmt} (h2 : ∀ σ', P σ' → WExs prog w cx rest σ' QF E) (h : WEx prog w cx s1 σ (Kseq prog w cx P QF E [s2]) E) : WExs prog w cx (s1 :: s2 :: rest) σ QF E :=
 knext (kseq (l := [s1, s2]) h2 (kscons h))
theorem seq3 (P : AS → Prop) {s1 s2 s3 : Stmt} {rest : List Stmt} (h2 : ∀ σ', P σ' → WExs prog w cx rest σ' QF E) (h : WEx prog w cx s1 σ (Kseq prog w cx P QF E [s2, s3]) E) : WExs prog w cx (s1 :: s2 :: s3 :: rest) σ QF E :=
 knext (kseq (l := [s1, s2, s3]) h2 (kscons h))
theorem seq4 (P : AS → Prop) {s1 s2 s3 s4 : Stmt} {rest : List Stmt} (h2 : ∀ σ', P σ' → WExs prog w cx rest σ' QF E) (h : WEx prog w cx s1 σ (Kseq prog w cx P QF E [s2, s3, s4]) E) : WExs prog w cx (s1 :: s2 :: s3 :: s4 :: rest) σ QF E :=
 knext (kseq (l := [s1, s2, s3, s4]) h2 (kscons h))
end
section
variable {prog : Program} {w : World} {K : Frag} {cx : CX} {sc : Scope} {n : Nat} {σ : AS} {Q : AV → AS → Prop} {QB : Bool → AS → Prop} {QF : AF → AS → Prop} {E : Value → AS → Prop} {pos : Pos} {s : Shared}
end
section
variable {prog : Program} {w : World} {K : Frag} {cx : CX} {sc : Scope} {n : Nat} {σ σ' : AS} {Q : AV → AS → Prop} {QB : Bool → AS → Prop} {QF : AF → AS → Prop} {E : Value → AS → Prop} {pos : Pos}
noncomputable def Kc4 (prog : Program) (w : World) (cx : CX) (op2 : CmpOp) (b : AV) (QB : Bool → AS → Prop) (E : Value → AS → Prop) (d : AV) (σ : AS) : Prop := WOp2 prog w cx (compareOp op2) b d σ (TB' QB) E
noncomputable def Kc3 (prog : Program) (w : World) (cx : CX) (op2 : CmpOp) (r2 : Expr) (b : AV) (QB : Bool → AS → Prop) (E : Value → AS → Prop) (c : Bool) (σ : AS) : Prop := if c then WEv prog w cx r2 σ (Kc4 prog w cx op2 b QB E) E else QB false σ
noncomputable def Kc2 (prog : Program) (w : World) (cx : CX) (op1 op2 : CmpOp) (r2 : Expr) (QB : Bool → AS → Prop) (E : Value → AS → Prop) (a b : AV) (σ : AS) : Prop := WOp2 prog w cx (compareOp op1) a b σ (TB' (Kc3 prog w cx op2 r2 b QB E)) E
noncomputable def Kc1 (prog : Program) (w : World) (cx : CX) (op1 op2 : CmpOp) (r1 r2 : Expr) (QB : Bool → AS → Prop) (E : Value → AS → Prop) (a : AV) (σ : AS) : Prop := WEv prog w cx r1 σ (Kc2 prog w cx op1 op2 r2 QB E a) E
theorem kc1 {op1 op2 : CmpOp} {r1 r2 : Expr} {a : AV} (h : WEv prog w cx r1 σ (Kc2 prog w cx op1 op2 r2 QB E a) E) : Kc1 prog w cx op1 op2 r1 r2 QB E a σ := h
theorem kc2 {op1 op2 : CmpOp} {r2 : Expr} {a b : AV} (h : WOp2 prog w cx (compareOp op1) a b σ (TB' (Kc3 prog w cx op2 r2 b QB E)) E) : Kc2 prog w cx op1 op2 r2 QB E a b σ := h
theorem kc3 {op2 : CmpOp} {r2 : Expr} {b : AV} {c : Bool} (h : if c = true then WEv prog w cx r2 σ (Kc4 prog w cx op2 b QB E) E else QB false σ) : Kc3 prog w cx op2 r2 b QB E c σ := h
theorem kc4 {op2 : CmpOp} {b d : AV} (h : WOp2 prog w cx (compareOp op2) b d σ (TB' QB) E) : Kc4 prog w cx op2 b QB E d σ := h
theorem k_tcmp2 {l r1 r2 : Expr} {op1 op2 : CmpOp} (hm : lastMarks [op1, op2] [r1, r2] = false) (h : WEv prog w cx l σ (Kc1 prog w cx op1 op2 r1 r2 QB E) E) : WTr prog w cx (.Compare l [op1, op2] [r1, r2] pos) σ QB E := fun s r => by
 refine isTrue_chain (wpAny_mono (h s r) (fun va s₁ zz => zz.use fun a σ₁ r₁ v₁ m₁ q₁ => test_link (wpAny_mono (q₁ s₁ r₁) (fun vb s₂ zz => zz.use fun b σ₂ r₂ v₂ m₂ q₂ => wpAny_mono (q₂ s₂ va vb r₂ (v₁.mono m₂) v₂) (fun vc s₃ zz => zz.use fun c σ₃ r₃ v₃ m₃ zz => ?_) fun ux ux e => e.mono (m₁.trans m₂)) fun ux ux e => e.mono m₁)) fun ux ux e => e) hm
 obtain ⟨d, hc, q₃⟩ := zz
 subst hc
 rw [show vc = .bool d from v₃]
 refine wpAny_truthy_bool ?_
 cases d with
 | false => exact ⟨false, σ₃, r₃, rfl, (m₁.trans m₂).trans m₃, q₃⟩
 | true =>
  refine test_last (wpAny_mono (q₃ s₃ r₃) (fun vd s₄ zz => zz.use fun d σ₄ r₄ v₄ m₄ q₄ => wpAny_mono (q₄ s₄ vb vd r₄ (v₂.mono (m₃.trans m₄)) v₄) (fun v s₅ zz => zz.use fun c σ₅ r₅ v₅ m₅ zz => ?_) fun ux ux e => e.mono (((m₁.trans m₂).trans m₃).trans m₄)) fun ux ux e => e.mono ((m₁.trans m₂).trans m₃))
  obtain ⟨e, he, q₅⟩ := zz
  subst he
  rw [show v = .bool e from v₅]
  exact wpAny_truthy_bool ⟨e, σ₅, r₅, rfl, (((m₁.trans m₂).trans m₃).trans m₄).trans m₅, q₅⟩
noncomputable def ownA : Option Int → AV
 | some x => .int x
 | none => .none
inductive A_owner (K : Frag) (Q : AV → AS → Prop) (y : Addr) (l : List AV) (σ : AS) : Prop
 | mk (c : Int) (hl : l = [.int c]) (k : Nat) (t : BT k) (C dx S H : Addr) (sp hd : List (Int × Int)) (hY : Yd K σ y k t C dx S H sp hd) (hq : Q (ownA (ownI hd c)) σ) : A_owner K Q y l σ
theorem Rep.once {k} {t : BT k} {sp hd : List (Int × Int)} (R : Rep t sp hd) : Once hd := (once_pcs t).perm R.hd
theorem Rep.psz {k} {t : BT k} {sp hd : List (Int × Int)} (R : Rep t sp hd) {p : Int × Int} (h : p ∈ hd) : 0 < p.2 := (pcs_in t (R.hd.mem_iff.mp h)).2.2
theorem own_next {l : List (Int × Int)} {c : Int} {i : Nat} {p : Int × Int} (hp : l[i]? = some p) (h : ∀ q ∈ l.take i, ownP c q = false) (h' : ownP c p = false) : ∀ q ∈ l.take (i + 1), ownP c q = false := fun q hq => by
 rw [List.take_add_one, hp] at hq
 rcases List.mem_append.mp hq with w | w
 ·exact h q w
 ·have : q = p := by simpa using w
  rw [this]; exact h'
theorem int_at {l : List (Int × Int)} {i : Nat} {a : AV} (h : ((l.map (·.1)).map AV.int)[i]? = some a) : ∃ p, l[i]? = some p ∧ a = .int p.1 := by
 rw [List.map_map, List.getElem?_map] at h
 obtain ⟨p, hp, rfl⟩ := Option.map_eq_some_iff.mp h
 exact ⟨p, hp, rfl⟩
theorem rangeSize_max {a b : Int} : Builtin.Range.rangeSize a b 1 = max (b - a) 0 := by
 unfold Builtin.Range.rangeSize
 rw [if_pos (by decide)]
 split
 ·rw [Int.ediv_one]; lia
 ·lia
inductive RangeG (prog : Program) (w : World) (K : Frag) (sc : Scope) (n : Nat) (x : Str) (body : List Stmt) (QF : AF → AS → Prop) (E : Value → AS → Prop) (v : AV) (σ₁ : AS) : Prop
 | mk (ax : Addr) (a b : Int) (J : Nat → AS → Prop) (h1 : v = .ref ax) (h2 : σ₁.hp ax = some (.range a b 1)) (h3 : -(2 ^ 61) ≤ a) (h3' : a < 2 ^ 61) (h4 : -(2 ^ 61) ≤ b) (h5 : b < 2 ^ 61) (h6 : J 0 σ₁)
   (h7 : ∀ (i : Nat) σ cx', Fx prog K cx' sc n → a + i < b → J i σ → WExs prog w cx' body (σ.set x (.int (a + i))) (Turn (J (i + 1)) QF) E) (h8 : ∀ σ, J (b - a).toNat σ → QF .next σ) : RangeG prog w K sc n x body QF E v σ₁
theorem rangeG_for (g : Fx prog K cx sc n) {x : Str} {iter : Expr} {body : List Stmt} (h : WEv prog w cx iter σ (RangeG prog w K sc n x body QF E) E) : WEv prog w cx iter σ (ForI prog w cx x body QF E) E :=
 h.imp (fun v σ₁ ⟨ax, a, b, J, h1, h2, h3, h3', h4, h5, h6, h7, h8⟩ => by
  subst h1
  refine ⟨_, J, .range h2 (by decide) (small_one (by lia) (by lia) (by lia) (by lia)), h6, fun i x σ P' hi hj _ => ?_, fun σ hj => h8 σ (by rw [List.length_map, List.length_range, rangeSize_max, show (max (b - a) 0).toNat = (b - a).toNat by lia] at hj; exact hj)⟩
  obtain ⟨hi', e⟩ := List.getElem?_eq_some_iff.mp hi
  rw [List.length_map, List.length_range, rangeSize_max] at hi'
  rw [List.getElem_map, List.getElem_range, Int.mul_one] at e
  subst e
  exact h7 i σ _ (g.withP P') (by lia) hj) fun ux ux e => e
theorem x_rangeg (g : Fx prog K cx sc n) {x : Str} {px : Pos} {iter : Expr} {body : List Stmt} (hx : sc.names.lookup x = some .local) (hs : ∀ v, foldedSetIterable iter cx.env v = pure v)
  (h : WEv prog w cx iter σ (RangeG prog w K sc n x body QF E) E) : WEx prog w cx (.For (.Name x px) iter body [] pos) σ QF E := ex_for g.ok g.fe g.hh hx (rangeG_for g h) hs
theorem ite_str_ne {x y : Str} {P R : Prop} (e : (x == y) = false) (h : R) : if (x == y) = true then P else R := by rw [if_neg (by rw [e]; decide)]; exact h
end
theorem ints_are {h : Heap} : ∀ {ns : List Int} {vs : List Value}, VRs h (ns.map AV.int) vs → IntsAre vs ns
 | [], _, e => by rw [show _ = [] from e]; exact .nil
 | i :: ns, _, ⟨v, r, e, ⟨t, p⟩, q⟩ => by subst e p; exact .cons i t (ints_are q)
section
variable {prog : Program} {w : World} {K : Frag} {cx : CX} {sc : Scope} {n : Nat} {σ σ' : AS} {Q : AV → AS → Prop} {QB : Bool → AS → Prop} {QF : AF → AS → Prop} {E : Value → AS → Prop} {pos : Pos}
theorem cl_sum (hh : cx.A.handled = none) {x : Addr} {ns : List Int} (hx : σ.lst x (ns.map AV.int)) (h : Q (.int ns.sum) σ) : WCl prog w cx (.builtin "sum") [.ref x] σ Q E := fun s vs r hv => by
 obtain ⟨v, rfl, p⟩ := vrs1 hv
 rw [show v = .ref x from p]
 obtain ⟨us, hl, q⟩ := r.lst hx
 have hi := ints_are q
 obtain ⟨xs, hxs⟩ := hi.allInts.items
 have hl' : s.heap.IsList x (intItems xs) := hxs ▸ hl
 refine sum_intListG hh hl' fun h' tk t' hk => ?_
 have e1 : ns = xs.toList.map (·.1) := by
  rw [← nums_intItems, ← hxs]
  exact (show numsOf us.toArray.toList = ns from hi.numsOf).symm
 have e2 : preSum (numAt xs) xs.size = ns.sum := by
  rw [preSum_eq, List.take_of_length_le (by simp), e1]
 rw [e2]
 exact ⟨.int ns.sum, σ, r.grow (tk := tk) hk, vr_int, VM.of_keeps hk, h⟩
theorem perm_sum {l m : List Int} (h : l.Perm m) : l.sum = m.sum := by
 induction h with
 | nil => rfl
 | cons x _ ih => rw [List.sum_cons, List.sum_cons, ih]
 | swap x y l => rw [List.sum_cons, List.sum_cons, List.sum_cons, List.sum_cons]; omega
 | trans _ _ a b => exact a.trans b
theorem R.track {s : Shared} {a : Addr} {ao : AO} (r : R prog w cx σ s) (f : Off cx σ a) (ho : OR prog w s.heap a ao) : R prog w cx (σ.put a ao) s :=
 r.add ho f.base f.P f.own fun en he hf => f.fr (List.mem_filterMap.mpr ⟨en, he, hf⟩)
theorem v_slice0 {value upper : Expr} {p : Pos} (h : WEv prog w cx value σ (fun a σ₁ => WEv prog w cx upper σ₁ (fun c σ₃ => ∃ x l j, a = .ref x ∧ c = .int j ∧ σ₃.lst x l ∧ l.length ≤ sizeLine ∧
  ∀ z, σ₃.hp z = none → Q (.ref z) (σ₃.put z (.list (l.take (clipAt l.length j))))) E) E) : WEv prog w cx (.Subscript value (.Slice none (some upper) none p) pos) σ Q E := fun s r => by
 refine Subscript_ (wpAny_mono (h s r) (fun va s₁ zz => zz.use fun a σ₁ r₁ v₁ m₁ q₁ => ?_) fun ux ux e => e)
 refine wpAny_Slice ?_
 rw [evalPart_none, evalPart_some]
 refine wpAny_pure ?_
 refine wpAny_mono (q₁ s₁ r₁) (fun vc s₃ zz => ?_) fun ux ux e => e.mono m₁
 obtain ⟨c, σ₃, r₃, v₃, m₃, x, l, j, ha, hc, hl, hz, q₃⟩ := zz
 subst ha hc
 rw [show va = .ref x from v₁]
 obtain ⟨t3, rfl⟩ := v₃
 exact wpAny_pure (wpAny_mono (slice_core (Q := Q) (E := E) r₃ hl hz .none (.int j t3) q₃) (fun ux ux p => p.mono (m₁.trans m₃)) fun ux ux e => e.mono (m₁.trans m₃))
theorem v_slice1 {value lower : Expr} {p : Pos} (h : WEv prog w cx value σ (fun a σ₁ => WEv prog w cx lower σ₁ (fun c σ₃ => ∃ x l j, a = .ref x ∧ c = .int j ∧ σ₃.lst x l ∧ l.length ≤ sizeLine ∧
  ∀ z, σ₃.hp z = none → Q (.ref z) (σ₃.put z (.list (l.drop (clipAt l.length j))))) E) E) : WEv prog w cx (.Subscript value (.Slice (some lower) none none p) pos) σ Q E := fun s r => by
 refine Subscript_ (wpAny_mono (h s r) (fun va s₁ zz => zz.use fun a σ₁ r₁ v₁ m₁ q₁ => ?_) fun ux ux e => e)
 refine wpAny_Slice ?_
 rw [evalPart_some, evalPart_none]
 refine wpAny_mono (q₁ s₁ r₁) (fun vc s₃ zz => ?_) fun ux ux e => e.mono m₁
 obtain ⟨c, σ₃, r₃, v₃, m₃, x, l, j, ha, hc, hl, hz, q₃⟩ := zz
 subst ha hc
 rw [show va = .ref x from v₁]
 obtain ⟨t3, rfl⟩ := v₃
 refine wpAny_pure (wpAny_pure (wpAny_mono (slice_core (Q := Q) (E := E) r₃ hl hz (.int j t3) .none fun z hz' => ?_) (fun ux ux p => p.mono (m₁.trans m₃)) fun ux ux e => e.mono (m₁.trans m₃)))
 have e : (l.drop (clipAt l.length j)).take (l.length - clipAt l.length j) = l.drop (clipAt l.length j) := List.take_of_length_le (by rw [List.length_drop]; exact Nat.le_refl _)
 have := q₃ z hz'
 rw [← e] at this
 exact this
noncomputable def sndF : AV → AV
 | .tup [_, b] => b
 | v => v
theorem filt_snd {ps : List (Int × Int)} : ((ps.map prA).filter fun ux => true).map sndF = (ps.map (·.2)).map AV.int := by
 rw [List.filter_eq_self.mpr (fun ux ux => rfl), List.map_map, List.map_map]
 rfl
end
section
open PySem PySem.W PyProof.Rows PySem.Calls PySem.Builtin PySem.Builtin.Str
set_option autoImplicit false
set_option linter.unusedVariables false
section
variable {prog : Program} {w : World} {K : Frag} {cx : CX} {sc : Scope} {n : Nat} {σ σ' : AS} {Q : AV → AS → Prop} {QB : Bool → AS → Prop} {QF : AF → AS → Prop} {E : Value → AS → Prop} {pos : Pos}
theorem cmp_eq_s {x y : Str} (h : Q (.bool (x == y)) σ) : WOp2 prog w cx (compareOp .Eq) (.str x) (.str y) σ Q E := by
 rintro s _ _ r ⟨t, rfl⟩ ⟨u, rfl⟩
 exact PyProof.Rows.eq_str (here0 r vr_bool h)
theorem cmp_notin_s {x y : Str} (h : Q (.bool (!Txt.contains x y)) σ) : WOp2 prog w cx (compareOp .NotIn) (.str y) (.str x) σ Q E := by
 rintro s _ _ r ⟨t, rfl⟩ ⟨u, rfl⟩
 exact P.notIn_str (here0 r vr_bool h)
theorem op_adds {x y : Str} (hl : x.length + y.length ≤ 16777216) (h : Q (.str (x ++ y)) σ) : WOp2 prog w cx (binaryOp .Add) (.str x) (.str y) σ Q E := by
 rintro s _ _ r ⟨t, rfl⟩ ⟨u, rfl⟩
 exact KXadd.add (Nat.le_refl _) (Nat.le_refl _) hl fun t' k ux => here r vr_str h
theorem cl_len_s {x : Str} (hf : (x.length : Int) < 2 ^ 63) (h : Q (.int x.length) σ) : WCl prog w cx (.builtin "len") [.str x] σ Q E := fun s vs r hv => by
 obtain ⟨v, rfl, t, rfl⟩ := vrs1 hv
 exact P.len_str (by lia) (here r vr_int h)
theorem cl_str {a : Int} (ha : a.natAbs.log2 < 1920) (h : Q (.str (Str.ofString (toString a))) σ) : WCl prog w cx (.type "str") [.int a] σ Q E := fun s vs r hv => by
 obtain ⟨v, rfl, t, rfl⟩ := vrs1 hv
 exact P.str_of_int ha (here r vr_str h)
theorem cl_int {x : Str} {i : Int} (hn : PySem.intText? x = some i) (hl : x.length ≤ 640) (h : Q (.int i) σ) : WCl prog w cx (.type "int") [.str x] σ Q E := fun s vs r hv => by
 obtain ⟨v, rfl, t, rfl⟩ := vrs1 hv
 exact KIN.call_text hn hl (here r vr_int h)
theorem sub_str {value slice : Expr} {x : Str} {i : Int} {k c : Nat} (hlo : -(2 ^ 63) ≤ i) (hhi : i < 2 ^ 63) (hk : seqIndex? i x.length = some k) (hc : x.cps[k]? = some c) (h : Q (.str ⟨#[c]⟩) σ)
  (hs : ∀ o i, subscripted slice false o i = operate [o, i] (getItem o i)) : WOp2 prog w cx (subscriptTail value slice) (.str x) (.int i) σ Q E := by
 rintro s _ _ r ⟨t, rfl⟩ ⟨u, rfl⟩
 exact subTail_any (typeIs_str s x t) F.slot_str_getitem.lookup (P.getItem_str (by simp; lia) (by rw [hk]; exact hc) (here r vr_str h)) (hs _ _)
theorem vrs_strs {h : Heap} : ∀ {xs : List Str} {vs : List Value}, VRs h (xs.map AV.str) vs → ∃ l : List (Str × Tok), l.map (·.1) = xs ∧ vs = strValues l
 | [], vs, e => ⟨[], rfl, e⟩
 | x :: xs, _, ⟨v, r, e, ⟨t, q0⟩, q⟩ => by
  subst q0; subst e
  obtain ⟨l, h1, h2⟩ := vrs_strs q
  exact ⟨(x, t) :: l, by rw [List.map_cons, h1], by rw [h2]; rfl⟩
theorem strs_vrs {h : Heap} : ∀ {l : List (Str × Tok)}, VRs h ((l.map (·.1)).map AV.str) (strValues l)
 | [] => rfl
 | (x, t) :: l => ⟨.str x t, strValues l, rfl, ⟨t, rfl⟩, strs_vrs (l := l)⟩
theorem any_str {h : Heap} {v : Str} : ∀ {xs : List Str} {l : List (Str × Tok)}, l.map (·.1) = xs → ((strValues l).any fun u => match u with | .str x _ => x == v | _ => false) = decide (v ∈ xs)
 | _, [], e => by subst e; rfl
 | _, (x, t) :: l, e => by
  subst e
  show (x == v || (strValues l).any fun u => match u with | .str x _ => x == v | _ => false) = _
  rw [any_str (h := h) (v := v) (l := l) rfl]
  by_cases q : x = v
  ·subst q
   rw [show (x == x) = true from beq_self_eq_true x, Bool.true_or]
   exact (decide_eq_true (List.mem_cons_self ..)).symm
  ·rw [show (x == v) = false from beq_eq_false_iff_ne.mpr q, Bool.false_or]
   exact decide_eq_decide.mpr ⟨fun m => List.mem_cons_of_mem _ m, fun m => (List.mem_cons.mp m).resolve_left fun w => q w.symm⟩
theorem cmp_notin_strs {xs : List Str} {v : Str} (h : Q (.bool (!decide (v ∈ xs))) σ) : WOp2 prog w cx (compareOp .NotIn) (.str v) (.tup (xs.map AV.str)) σ Q E := by
 rintro s _ _ r ⟨t, rfl⟩ ⟨x, vs, rfl, ⟨o, m, h1, h2, h3⟩, q⟩
 obtain ⟨l, hl, rfl⟩ := vrs_strs q
 refine SeqAt.notIn_tupleAt (fun u => match u with | .str x _ => x == v | _ => false) ⟨o, h1, h2, m, h3⟩ (fun u hu => ?_) ?_
 ·have hu' : u ∈ strValues l := by simpa using hu
  obtain ⟨p, _, rfl⟩ := List.mem_map.mp hu'
  exact SeqAt.EqAt.str_str p.1 p.2 v t
 ·rw [List.any_toArray, any_str (h := s.heap) hl]
  exact here0 r vr_bool h
inductive MethS (prog : Program) (w : World) (cx : CX) (pos : Pos) (args : List Expr) (name : Str) (Q : AV → AS → Prop) (E : Value → AS → Prop) (a : AV) (σ₁ : AS) : Prop
 | mk (x : Str) (id : String) (ha : a = .str x) (sl : Slot "str" name id) (ty : typeOf (.builtin id) = pure (.type "method_descriptor")) (q : WAr prog w cx pos args σ₁ (fun l σ₂ => WCl prog w cx (.builtin id) (.str x :: l) σ₂ Q E) E) : MethS prog w cx pos args name Q E a σ₁
theorem v_meths {o : Expr} {name : Str} {apos : Pos} {args : List Expr} (hbase : ∀ env, attributeBase o name env (eval o env) = eval o env)
  (hfew : ∀ env, ((backTo pos (starEach args env)).all (fun x => !x.1) && (backToKw pos (keywordEach [] env)).all (fun x => x.1.isSome) && decide (args.length + ([] : List Keyword).length + (if ([] : List Keyword).isEmpty then 0 else 1) < 30)) = true)
  (hline : (apos.endLine == pos.line) = true) (hpl : ∀ env, (backTo pos (starEach args env)).any (·.1) = false)
  (h : WEv prog w cx o σ (MethS prog w cx pos args name Q E) E) :
  WEv prog w cx (.Call (.Attribute o name apos) args [] pos) σ Q E := fun s r => by
 refine wpAny_Call_method_lateS (hbase _) (hfew _) hline (wpAny_mono (h s r) (fun va s₁ zz => ?_) fun ux ux e => e)
 obtain ⟨a, σ₁, r₁, v₁, m₁, x, id, ha, sl, ty, q₁⟩ := zz
 subst ha
 obtain ⟨t, rfl⟩ := v₁
 refine ⟨"str", id, F.plainAttrs_str, sl, ty, typeIs_str _ _ _, (fun ux e => nomatch e), ?_⟩
 refine PySem.Calls.callWith_builtin (hpl _) (evalArgs_all (hpl _) ?_)
 refine wpAny_mono (q₁ s₁ r₁) (fun vs s₂ zz => zz.use fun l σ₂ r₂ v₂ m₂ q₂ => ?_) fun ux ux e => e.mono m₁
 exact wpAny_mono (q₂ s₂ (.str x t :: vs) r₂ ⟨_, _, rfl, ⟨t, rfl⟩, v₂⟩) (fun ux ux p => p.mono (m₁.trans m₂)) fun ux ux e => e.mono (m₁.trans m₂)
theorem meth_split {x : Str} {args : List Expr} (h : WAr prog w cx pos args σ (fun l σ₂ => WCl prog w cx (.builtin "str.split") (.str x :: l) σ₂ Q E) E) : MethS prog w cx pos args (Str.ofString "split") Q E (.str x) σ :=
 ⟨x, "str.split", rfl, F.slot_str_split, rfl, h⟩
theorem meth_join {x : Str} {args : List Expr} (h : WAr prog w cx pos args σ (fun l σ₂ => WCl prog w cx (.builtin "str.join") (.str x :: l) σ₂ Q E) E) : MethS prog w cx pos args (Str.ofString "join") Q E (.str x) σ :=
 ⟨x, "str.join", rfl, F.slot_str_join, rfl, h⟩
theorem cl_join {x : Str} {D : Addr} {xs : List Str} (hD : σ.lst D (xs.map AV.str)) (hok : JoinOk x xs = true) (h : Q (.str (Txt.join x xs)) σ) : WCl prog w cx (.builtin "str.join") [.str x, .ref D] σ Q E := fun s vs r hv => by
 obtain ⟨va, vb, rfl, ⟨t, rfl⟩, q⟩ := vrs2 hv
 rw [show vb = .ref D from q]
 obtain ⟨us, p, q⟩ := r.lst hD
 obtain ⟨l, hl, rfl⟩ := vrs_strs q
 exact SC.join p hl hok fun t' k => here r vr_str h
theorem call_split {A : Around} {E' : Value → Shared → Prop} {s : Shared} {x y : Str} {t u : Tok} {P : Value → Shared → Prop} (hy : (y.length == 0) = false) (hz : x.length + 2 ≤ sizeLine)
  (h : ∀ l k, l.map (·.1) = Txt.split x y → P (.ref s.heap.objs.size) { s with heap := s.heap.push { cls := .type "list", data := .seq (strValues l).toArray }, toks := k }) : wpAny (model prog w) A (call (.builtin "str.split") [.str x t, .str y u]) P E' s := by
 have hz2 : (partsBetween x (occurrences x y 0 x.length (x.length + 1)) y.length).length ≤ sizeLine := by
  have := StrLaws.occ_length_le x y 0 x.length (x.length + 1)
  rw [length_partsBetween]; lia
 cases h1 : (decide (x.length < y.length) || decide (strKind x < strKind y))
 ·cases hf : (occurrences x y 0 x.length (x.length + 1)).isEmpty
  ·refine call_meets F.slot_str_split (typeIs_str _ _ _) F.entry_str_split (F.args_str_split_2 _ _) (meets_str_split_sep x y t u h1 hy hf (by lia) hz2) ?_
   show wants P E' _ { s with toks := _, heap := s.heap.push { cls := .type "list", data := .seq (strsFrom s.toks (partsBetween x (occurrences x y 0 x.length (x.length + 1)) y.length)).toArray } }
   rw [strsFrom_eq]
   exact h (numbered s.toks _) _ ((numbered_texts _ _).trans ((if_neg (ne_true_of_eq_false h1)).trans (if_neg (ne_true_of_eq_false hf))).symm)
  ·exact call_meets F.slot_str_split (typeIs_str _ _ _) F.entry_str_split (F.args_str_split_2 _ _) (meets_str_split_not_found x y t u h1 hy hf) (h [(x, t)] _ ((if_neg (ne_true_of_eq_false h1)).trans (if_pos hf)).symm)
 ·exact call_meets F.slot_str_split (typeIs_str _ _ _) F.entry_str_split (F.args_str_split_2 _ _) (meets_str_split_cannot_occur x y t u h1) (h [(x, t)] _ (if_pos h1).symm)
theorem cl_split {x y : Str} (hy : (y.length == 0) = false) (hz : x.length + 2 ≤ sizeLine) (h : ∀ D, σ.hp D = none → Q (.ref D) (σ.put D (.list ((Txt.split x y).map AV.str)))) : WCl prog w cx (.builtin "str.split") [.str x, .str y] σ Q E := fun s vs r hv => by
 obtain ⟨va, vb, rfl, ⟨t, rfl⟩, ⟨u, rfl⟩⟩ := vrs2 hv
 refine call_split hy hz fun l k e => ?_
 have kp : ∀ b o, s.heap.get? b = some o → (s.heap.push { cls := .type "list", data := .seq (strValues l).toArray }).get? b = some o := fun b o hb => (Heap.get?_push_ne _ _ _ (fun q => by rw [q, push_none] at hb; cases hb)).trans hb
 have vm := VM.of_keeps kp
 refine ⟨.ref _, _, r.new (tk := k) (ao := .list ((Txt.split x y).map AV.str)) (push_none _) kp ⟨strValues l, ⟨_, Heap.get?_push_size _ rfl⟩, ?_⟩, vr_ref, vm, h _ (fresh_hp r)⟩
 rw [← e]; exact strs_vrs
end
end
section
variable {prog : Program} {w : World} {K : Frag} {cx : CX} {sc : Scope} {n : Nat} {σ σ' : AS} {Q : AV → AS → Prop} {QB : Bool → AS → Prop} {QF : AF → AS → Prop} {E : Value → AS → Prop} {pos : Pos}
noncomputable def signsOf (x : Str) : List AV := x.cps.toList.map fun c => .str ⟨#[c]⟩
theorem src_str {I : Addr} {x : Str} {t : Tok} {ty : String} (W : Walks prog w cx.A I [I] [I] x.cps.size (SignAt x) (fun i h => h.IsStrIter I ty x t i)) : Src prog w cx I (signsOf x) (fun ux => True) (fun i h => h.IsStrIter I ty x t i) where
 data := fun i h ⟨o, a, b, c⟩ => ⟨o, a, by intro xs n; rw [c]; simp, fun h' e => ⟨o, e, b, c⟩⟩
 item := fun i s σ a Q E ha r hT it hQ => by
  unfold signsOf at ha
  rw [List.getElem?_map, Option.map_eq_some_iff] at ha
  obtain ⟨c, hc, rfl⟩ := ha
  refine W.item i s Q E (by rw [← Array.length_toList]; exact (List.getElem?_eq_some_iff.mp hc).1) it fun v h' tk hv it' hk => ?_
  obtain ⟨c', u, h1, rfl⟩ := hv
  rw [← Array.getElem?_toList, hc] at h1
  cases h1
  exact hQ _ h' tk ⟨u, rfl⟩ it' fun b o hb e => hk b o (by simpa using hb) e
 done := fun s σ Q E r hT it hQ => by
  unfold signsOf at it
  rw [List.length_map, Array.length_toList] at it
  exact W.done s Q E it fun h' tk he => hQ h' tk fun b o hb e => he b o (by simpa using hb) e
 self := fun i s Q E it hQ => W.self i s Q E it hQ
theorem mkIter_str (hh : cx.A.handled = none) {x : Str} {y : Str} {py : Pos} {J : AS → Prop} : MkIter prog w cx (.Name y py) σ J (.str x) (signsOf x) := by
 rintro s _ E' r ⟨t, rfl⟩
 have go : ∀ (ty : String), Walks prog w cx.A s.heap.objs.size [s.heap.objs.size] [s.heap.objs.size] x.cps.size (SignAt x) (fun i h => h.IsStrIter s.heap.objs.size ty x t i) → ∃ I T It, (Value.ref s.heap.objs.size) = .ref I ∧ R prog w cx σ { s with heap := s.heap.push { cls := .type ty, data := .fields #[.str x t, .int 0 0] } } ∧ VM s.heap (s.heap.push { cls := .type ty, data := .fields #[.str x t, .int 0 0] }) ∧ Src prog w cx I (signsOf x) T It ∧ (∀ σ', J σ' → T σ') ∧ It 0 (s.heap.push { cls := .type ty, data := .fields #[.str x t, .int 0 0] }) ∧ Off cx σ I ∧
   ∀ (i : Nat) (a : AV) (s : Shared) (v : Value) (Q : Unit → Shared → Prop) (E : Value → Shared → Prop), (signsOf x)[i]? = some a → VR s.heap a v → It (i + 1) s.heap → Q () s → wpAny (model prog w) cx.A (letOwnedTupleGo (.Name y py) (.ref I) v) Q E s := fun ty W => by
  have k : ∀ b o, s.heap.get? b = some o → (s.heap.push { cls := .type ty, data := .fields #[.str x t, .int 0 0] }).get? b = some o := fun b o e => Heap.get?_push_of_some _ e
  exact ⟨_, _, _, rfl, r.grow (tk := s.toks) k, VM.of_keeps k, src_str W, fun ux ux => trivial, ⟨_, Heap.get?_push_size _ rfl, rfl, rfl⟩, Off.new r (push_none _), fun i a s v Q E ux ux ux hq => wpAny_of_eq (a := ()) rfl hq⟩
 cases ha : x.cps.all (· < 128)
 ·exact wpAny_pyIter_wide ha (go _ (Walks.strWide hh _ x t))
 ·exact wpAny_pyIter_ascii ha (go _ (Walks.strAscii hh _ x t))
theorem x_signs (g : Fx prog K cx sc n) {x : Str} {px : Pos} {iter : Expr} {body : List Stmt} (hx : sc.names.lookup x = some .local) (hs : ∀ v, foldedSetIterable iter cx.env v = pure v)
  (h : WEv prog w cx iter σ (fun v σ₁ => ∃ y : Str, ∃ J : Nat → AS → Prop, v = .str y ∧ J 0 σ₁ ∧
   (∀ (i : Nat) c σ cx', Fx prog K cx' sc n → y.cps[i]? = some c → J i σ → WExs prog w cx' body (σ.set x (.str ⟨#[c]⟩)) (Turn (J (i + 1)) QF) E) ∧ ∀ σ, J y.length σ → QF .next σ) E) : WEx prog w cx (.For (.Name x px) iter body [] pos) σ QF E :=
 ex_forG g.ok g.fe (upd := fun a σ => σ.set x a) (h.imp (fun v σ₁ ⟨y, J, h1, h2, h3, h4⟩ => by
  subst h1
  refine ⟨signsOf y, J, mkIter_str g.hh, fun i P' a σ Q ha hq s v r hv => wpAny_assign_Name (st_name (cx := cx.withP P') (g.ok.withP P') hx hq s v r hv), h2, fun i a σ P' ha hj _ => ?_, fun σ hj => h4 σ (by unfold signsOf at hj; rw [List.length_map, Array.length_toList] at hj; exact hj)⟩
  unfold signsOf at ha
  rw [List.getElem?_map, Option.map_eq_some_iff] at ha
  obtain ⟨c, hc, rfl⟩ := ha
  exact h3 i c σ _ (g.withP P') (by rw [← Array.getElem?_toList]; exact hc) hj) fun ux ux e => e) hs
theorem vrs3 {h : Heap} {a b c : AV} {vs : List Value} (x : VRs h [a, b, c] vs) : ∃ v u t, vs = [v, u, t] ∧ VR h a v ∧ VR h b u ∧ VR h c t := by
 obtain ⟨v, r, e, p, q⟩ := x
 obtain ⟨u, t, rfl, q1, q2⟩ := vrs2 q
 exact ⟨v, u, t, e, p, q1, q2⟩
theorem st_tup3 (ok : Ok prog K cx sc n) (hh : cx.A.handled = none) {x y z : Str} {px py pz pt : Pos} {k : Nat} {a b c : AV} {Q : Unit → AS → Prop} (hx : sc.names.lookup x = some .local) (hy : sc.names.lookup y = some .local) (hz : sc.names.lookup z = some .local) (h : Q () (((σ.set x a).set y b).set z c)) :
  WSt prog w cx (assign (.Tuple [.Name x px, .Name y py, .Name z pz] k pt) cx.env) (.tup [a, b, c]) σ Q E := by
 rintro s _ r ⟨t, vs, rfl, ⟨o, m, h1, h2, h3⟩, q⟩
 obtain ⟨va, vb, vc, rfl, pa, pb, pc⟩ := vrs3 q
 refine wpAny_assign_Tuple hh ⟨o, h1, h2, m, h3⟩ rfl rfl fun h' hk => ?_
 have kp : ∀ b o, s.heap.get? b = some o → h'.get? b = some o := fun b o e => hk b o (fun q => by rw [q, push_none] at e; cases e) e
 have m0 := VM.of_keeps kp
 have r0 : R prog w cx σ { s with heap := h' } := r.grow (tk := s.toks) kp
 show wpAny _ _ (assignInOrder [assign (.Name x px) cx.env, assign (.Name y py) cx.env, assign (.Name z pz) cx.env] [va, vb, vc]) _ _ _
 unfold assignInOrder
 refine wpAny_bind (wpAny_holding (wpAny_assign_Name (wpAny_mono (st_name (E := E) (Q := fun ux σ' => σ' = σ.set x a) ok hx rfl _ va r0 (pa.mono m0)) (fun ux s1 zz => zz.use fun _ σ1 r1 _ m1 q1 => ?_) fun ux ux e => e.mono m0)))
 subst q1
 unfold assignInOrder
 refine wpAny_bind (wpAny_holding (wpAny_assign_Name (wpAny_mono (st_name (E := E) (Q := fun ux σ' => σ' = (σ.set x a).set y b) ok hy rfl _ vb r1 (pb.mono (m0.trans m1))) (fun ux s2 zz => zz.use fun _ σ2 r2 _ m2 q2 => ?_) fun ux ux e => e.mono (m0.trans m1))))
 subst q2
 unfold assignInOrder
 refine wpAny_bind (wpAny_holding (wpAny_assign_Name (wpAny_mono (st_name (E := E) (Q := fun ux σ' => σ' = ((σ.set x a).set y b).set z c) ok hz rfl _ vc r2 (pc.mono ((m0.trans m1).trans m2))) (fun ux s3 zz => zz.use fun _ σ3 r3 _ m3 q3 => ?_) fun ux ux e => e.mono ((m0.trans m1).trans m2))))
 subst q3
 unfold assignInOrder
 exact wpAny_pure ⟨(), _, r3, trivial, ((m0.trans m1).trans m2).trans m3, h⟩
theorem mkIter_tup (hh : cx.A.handled = none) {elts : List Expr} {k : Nat} {pt : Pos} {J : AS → Prop} {ax : Addr} {l : List AV} (hl : σ.lst ax l) (hJ : ∀ σ', J σ' → σ'.lst ax l) (ht : ∀ (i : Nat) a, l[i]? = some a → ∃ xs, a = .tup xs) : MkIter prog w cx (.Tuple elts k pt) σ J (.ref ax) l := fun s v E' r hv => by
 rw [show v = .ref ax from hv]
 obtain ⟨vs, hl', hv'⟩ := r.lst hl
 refine wpAny_pyIter_list hl' ?_
 have k : ∀ b o, s.heap.get? b = some o → (s.heap.push { cls := .type "list_iterator", data := .fields #[.ref ax, .int 0 0] }).get? b = some o := fun b o e => Heap.get?_push_of_some _ e
 refine ⟨_, _, _, rfl, r.grow (tk := s.toks) k, VM.of_keeps k, src_list hh _ ax l, hJ, ⟨_, Heap.get?_push_size _ rfl, rfl, rfl⟩, Off.new r (push_none _), fun i a s v Q E ha hv it hq => ?_⟩
 obtain ⟨xs, rfl⟩ := ht i a ha
 obtain ⟨t, _, rfl, _⟩ := hv
 exact wpAny_letOwnedTupleGo_listiter it hq
theorem x_list3 (g : Fx prog K cx sc n) {x y z : Str} {px py pz pt : Pos} {k : Nat} {iter : Expr} {body : List Stmt} (hx : sc.names.lookup x = some .local) (hy : sc.names.lookup y = some .local) (hz : sc.names.lookup z = some .local) (hs : ∀ v, foldedSetIterable iter cx.env v = pure v)
  (h : WEv prog w cx iter σ (fun v σ₁ => ∃ ax, ∃ l : List (AV × AV × AV), ∃ J : Nat → AS → Prop, v = .ref ax ∧ J 0 σ₁ ∧ (∀ i σ, J i σ → σ.hp ax = some (.list (l.map fun p => .tup [p.1, p.2.1, p.2.2]))) ∧
   (∀ (i : Nat) p σ cx', Fx prog K cx' sc n → l[i]? = some p → J i σ → WExs prog w cx' body (((σ.set x p.1).set y p.2.1).set z p.2.2) (Turn (J (i + 1)) QF) E) ∧ ∀ σ, J l.length σ → QF .next σ) E) : WEx prog w cx (.For (.Tuple [.Name x px, .Name y py, .Name z pz] k pt) iter body [] pos) σ QF E :=
 ex_forG g.ok g.fe (upd := fun a σ => match a with | .tup [a, b, c] => ((σ.set x a).set y b).set z c | _ => σ) (h.imp (fun v σ₁ ⟨ax, l, J, h1, h2, h3, h4, h5⟩ => by
  subst h1
  have item : ∀ {i : Nat} {a : AV}, (l.map fun p => AV.tup [p.1, p.2.1, p.2.2])[i]? = some a → ∃ p, l[i]? = some p ∧ a = .tup [p.1, p.2.1, p.2.2] := fun {i a} ha => by
   rw [List.getElem?_map, Option.map_eq_some_iff] at ha
   obtain ⟨p, hp, rfl⟩ := ha
   exact ⟨p, hp, rfl⟩
  refine ⟨_, J, mkIter_tup g.hh (.inl (h3 0 _ h2)) (fun σ' ⟨i, hj⟩ => .inl (h3 i σ' hj)) (fun i a ha => ?_), fun i P' a σ Q ha hq => ?_, h2, fun i a σ P' ha hj _ => ?_, fun σ hj => h5 σ (by rw [List.length_map] at hj; exact hj)⟩
  ·obtain ⟨p, hp, rfl⟩ := item ha
   exact ⟨_, rfl⟩
  ·obtain ⟨p, hp, rfl⟩ := item ha
   exact st_tup3 (cx := cx.withP P') (g.ok.withP P') g.hh hx hy hz hq
  ·obtain ⟨p, hp, rfl⟩ := item ha
   exact h4 i p σ _ (g.withP P') hp hj) fun ux ux e => e) hs
noncomputable def bind3 (x y z : Str) (a : AV) (u : Str) : Option AV := match a with
 | .tup [p, q, r] => if u = z then some r else if u = y then some q else if u = x then some p else none
 | _ => none
theorem bind3_loc {scope : Scope} {x y z : Str} (hx : scope.names.lookup x = some .local) (hy : scope.names.lookup y = some .local) (hz : scope.names.lookup z = some .local) : ∀ a u t, bind3 x y z a u = some t → scope.names.lookup u = some .local := fun a u t e => by
 unfold bind3 at e
 split at e
 ·split at e
  ·rename_i q; subst q; exact hz
  ·split at e
   ·rename_i q; subst q; exact hy
   ·split at e
    ·rename_i q; subst q; exact hx
    ·cases e
 ·cases e
theorem asg_tup3 {A : Around} (hh : A.handled = none) {scope : Scope} {x y z : Str} {px py pz pt : Pos} {k : Nat} {cl : List (Str × Addr)} {env : Env} {C : Addr} {a b c : AV} (hk : scope.kind = .function) (hx : scope.names.lookup x = some .local) (hy : scope.names.lookup y = some .local) (hz : scope.names.lookup z = some .local) (nxy : x ≠ y) (nxz : x ≠ z) (nyz : y ≠ z) :
  CompAsg prog w A (compEnvC scope cl C env) C (.Tuple [.Name x px, .Name y py, .Name z pz] k pt) (bind3 x y z) (.tup [a, b, c]) := by
 rintro s _ m Q E' ⟨t, vs, rfl, ⟨o, m0, h1, h2, h3⟩, q⟩ hns hq
 obtain ⟨va, vb, vc, rfl, pa, pb, pc⟩ := vrs3 q
 refine wpAny_assign_Tuple hh ⟨o, h1, h2, m0, h3⟩ rfl rfl fun h' hk' => ?_
 have kp : ∀ b o, s.heap.get? b = some o → h'.get? b = some o := fun b o e => hk' b o (fun q => by rw [q, push_none] at e; cases e) e
 have ns' : h'.Ns C m := hns.at' fun o e => kp C o e
 show wpAny _ _ (assignInOrder [assign (.Name x px) (compEnvC scope cl C env), assign (.Name y py) (compEnvC scope cl C env), assign (.Name z pz) (compEnvC scope cl C env)] [va, vb, vc]) _ _ _
 refine assignInOrder_cons (wpAny_assign_Name (wpAny_storeName_local (env := compEnvC scope cl C env) (lookup_relabel_local hx) ns' (fun h1' hn1 hs1 => ?_) (by simp [compEnvC, relabel, hk])))
 refine assignInOrder_cons (wpAny_assign_Name (wpAny_storeName_local (env := compEnvC scope cl C env) (lookup_relabel_local hy) hn1 (fun h2' hn2 hs2 => ?_) (by simp [compEnvC, relabel, hk])))
 refine assignInOrder_cons (wpAny_assign_Name (wpAny_storeName_local (env := compEnvC scope cl C env) (lookup_relabel_local hz) hn2 (fun h3' hn3 hs3 => ?_) (by simp [compEnvC, relabel, hk])))
 refine assignInOrder_nil ?_
 have old : ∀ b o, b ≠ C → s.heap.get? b = some o → h3'.get? b = some o := fun b o hb e => (hs3.2 b hb).trans ((hs2.2 b hb).trans ((hs1.2 b hb).trans (kp b o e)))
 obtain ⟨oC, es, ep, hoC, hdC⟩ := ns_data hns
 have vm : VM s.heap h3' := fun b o xs n e c d => by
  have nb : b ≠ C := fun q => by subst q; rw [hoC] at e; cases e; rw [hdC] at d; cases d
  exact ⟨o.slots, old b o nb e⟩
 refine hq h3' _ _ hn3 (fun u t e => ?_) old
 unfold bind3 at e
 dsimp only at e
 split at e
 ·rename_i q; subst q; cases e; exact ⟨vc, by simp, pc.mono vm⟩
 ·rename_i n1
  split at e
  ·rename_i q; subst q; cases e; exact ⟨vb, by simp [n1], pb.mono vm⟩
  ·rename_i n2
   split at e
   ·rename_i q; subst q; cases e; exact ⟨va, by simp [n1, n2], pa.mono vm⟩
   ·cases e
theorem all2_mid : ∀ {l : List (AV × AV × AV)} {us : List AV}, All2 (fun a u => match a with | .tup [_, q, _] => u = q | _ => False) (l.map fun p => .tup [p.1, p.2.1, p.2.2]) us → us = l.map (·.2.1)
 | [], _, .nil => rfl
 | p :: l, _, .cons h t => by rw [List.map_cons, show _ = p.2.1 from h, all2_mid t]
theorem v_comp3 (ok : Ok prog K cx sc n) (hh : cx.A.handled = none) {scope : Scope} {x y z : Str} (cs : CScope scope sc x) (hy : scope.names.lookup y = some .local) (hz : scope.names.lookup z = some .local) (nxy : x ≠ y) (nxz : x ≠ z) (nyz : y ≠ z) {iter : Expr} {px py pz pt pe : Pos} {k : Nat}
  (h1' : (y == ("__debug__" : Str)) = false) (h2' : (y == ("__classdict__" : Str)) = false)
  (h : WEv prog w cx iter σ (fun v σ₁ => ∃ ax, ∃ l : List (AV × AV × AV), v = .ref ax ∧ σ₁.hp ax = some (.list (l.map fun p => .tup [p.1, p.2.1, p.2.2])) ∧ l.length ≤ sizeLine ∧ ∀ D, σ₁.hp D = none → Q (.ref D) (σ₁.put D (.list (l.map (·.2.1))))) E)
  (hs : ∀ v, foldedSetIterable iter cx.env v = pure v) : WEv prog w cx (.ListComp (.Name y pe) [⟨.Tuple [.Name x px, .Name y py, .Name z pz] k pt, iter, [], 0⟩] scope pos) σ Q E := fun s r => by
 rw [eval_ListComp]
 refine wpAny_comprehension_free (use := none) rfl hs (closure_eq fun y hy hf => ok.cc _ (cs.cells y hy hf)) cs.kind cs.locs (wpAny_mono (h s r) (fun v s₁ zz => ?_) fun ux ux e => e)
 obtain ⟨a, σ₁, r₁, v₁, m₁, ax, l, rfl, q1, q2, q4⟩ := zz
 have item : ∀ {i : Nat} {a : AV}, (l.map fun p => AV.tup [p.1, p.2.1, p.2.2])[i]? = some a → ∃ p, l[i]? = some p ∧ a = .tup [p.1, p.2.1, p.2.2] := fun {i a} ha => by
  rw [List.getElem?_map, Option.map_eq_some_iff] at ha
  obtain ⟨p, hp, rfl⟩ := ha
  exact ⟨p, hp, rfl⟩
 refine wpAny_mono (mkIter_tup (J := fun σ' => σ'.lst ax (l.map fun p => .tup [p.1, p.2.1, p.2.2])) (elts := [.Name x px, .Name y py, .Name z pz]) (k := k) (pt := pt) hh (.inl q1) (fun σ' h => h) (fun i a ha => by obtain ⟨p, _, rfl⟩ := item ha; exact ⟨_, rfl⟩) s₁ v _ r₁ v₁) (fun it s₂ zz => ?_) fun ux ux e => e
 obtain ⟨I, T, It, e, r₂, m₂, S, hT, it0, fI, go⟩ := zz
 subst e
 refine comp_coreG ok hh cs (bd := bind3 x y z) (p := fun ux => true) (G := fun a u => match a with | .tup [_, q, _] => u = q | _ => False) (RR := fun acc C => compPost (model prog w) cx.A (PostE prog w cx s E) none (PostR prog w VR cx s Q) acc C) r₂ S (fun D ao hD => hT _ (lst_put (.inl q1) hD)) it0 fI (by rw [List.length_map]; exact q2)
  (bind3_loc cs.x hy hz) (fun i a C ha => by obtain ⟨p, _, rfl⟩ := item ha; exact asg_tup3 hh cs.kind cs.x hy hz nxy nxz nyz) go ?_ fun D C us s' hu r' m' hD fC ⟨m, hm⟩ => ?_
 ·intro i a D acc cx' ha hD ok' hh'
  obtain ⟨p, hp, rfl⟩ := item ha
  refine ⟨ts_nil ⟨rfl, AS.Kept.refl _⟩, fun ux => ev_name ok' (v := p.2.1) ?_ ⟨rfl, AS.Kept.refl _⟩ h1' h2'⟩
  unfold AS.compB bind3
  dsimp only
  rw [if_neg nyz, if_pos rfl]
 ·obtain ⟨oC, es, ep, hoC, hdC⟩ := ns_data hm
  have hus : us = l.map (·.2.1) := by
   rw [List.filter_eq_self.mpr (fun ux ux => rfl)] at hu
   exact all2_mid hu
  refine ⟨m, hm, fun h' hs' => ?_⟩
  obtain ⟨r'', m''⟩ := r'.off (h' := h') (tk := s'.toks) fC hoC (by intro xs n; rw [hdC]; simp) fun b o hb e => (hs'.2 b hb).trans e
  exact ⟨.ref D, _, r'', vr_ref, ((m₁.trans m₂).trans m').trans m'', by rw [hus]; exact q4 D hD⟩
end
open PySem PySem.W PyProof.Rows PySem.Calls PySem.NumText
theorem cut_inj {c : Nat} : ∀ {a b r s : List Nat}, c ∉ a → c ∉ b → a ++ c :: r = b ++ c :: s → a = b ∧ r = s
 | [], [], r, s, _, _, h => ⟨rfl, by injection h⟩
 | [], y :: b, r, s, _, hb, h => by injection h with h1 _; exact absurd (h1 ▸ List.mem_cons_self ..) hb
 | x :: a, [], r, s, ha, _, h => by injection h with h1 _; exact absurd (h1 ▸ List.mem_cons_self ..) ha
 | x :: a, y :: b, r, s, ha, hb, h => by
  injection h with h1 h2
  subst h1
  obtain ⟨h3, h4⟩ := cut_inj (fun q => ha (List.mem_cons_of_mem _ q)) (fun q => hb (List.mem_cons_of_mem _ q)) h2
  exact ⟨by rw [h3], h4⟩
theorem str_ext {x y : Str} (h : x.cps.toList = y.cps.toList) : x = y := Str.ext' (Array.toList_inj.mp h)
theorem join_cps {c : Nat} {x y : Str} {r : List Str} : (Str.join ⟨#[c]⟩ (x :: y :: r)).cps.toList = x.cps.toList ++ c :: (Str.join ⟨#[c]⟩ (y :: r)).cps.toList := by
 show (x ++ ⟨#[c]⟩ ++ Str.join ⟨#[c]⟩ (y :: r)).cps.toList = _
 rw [Str.cps_append, Str.cps_append]
 simp
theorem join_inj {c : Nat} : ∀ {as bs : List Str}, as ≠ [] → bs ≠ [] → (∀ p ∈ as, c ∉ p.cps.toList) → (∀ p ∈ bs, c ∉ p.cps.toList) → (Str.join ⟨#[c]⟩ as).cps.toList = (Str.join ⟨#[c]⟩ bs).cps.toList → as = bs
 | [], _, h, _, _, _, _ => absurd rfl h
 | _ :: _, [], _, h, _, _, _ => absurd rfl h
 | [a], [b], _, _, _, _, e => by rw [str_ext (x := a) (y := b) e]
 | [a], b :: b' :: bs, _, _, ha, _, e => by
  rw [join_cps] at e
  have e : a.cps.toList = _ := e
  exact absurd (by rw [e]; simp) (ha a (List.mem_cons_self ..))
 | a :: a' :: as, [b], _, _, _, hb, e => by
  rw [join_cps] at e
  have e : _ = b.cps.toList := e
  exact absurd (by rw [← e]; simp) (hb b (List.mem_cons_self ..))
 | a :: a' :: as, b :: b' :: bs, _, _, ha, hb, e => by
  rw [join_cps, join_cps] at e
  obtain ⟨h1, h2⟩ := cut_inj (ha a (List.mem_cons_self ..)) (hb b (List.mem_cons_self ..)) e
  rw [str_ext h1, join_inj (as := a' :: as) (bs := b' :: bs) (by simp) (by simp) (fun p hp => ha p (List.mem_cons_of_mem _ hp)) (fun p hp => hb p (List.mem_cons_of_mem _ hp)) h2]
theorem split_ne {x y : Str} : Txt.split x y ≠ [] := by
 unfold Txt.split
 split
 ·simp
 ·split
  ·simp
  ·rw [StrLaws.partsBetween_eq]
   obtain ⟨p, r, e⟩ := StrLaws.partsFrom_ne x y.length 0 (Builtin.Str.occurrences x y 0 x.length (x.length + 1))
   rw [e]; simp
theorem split_join {c : Nat} {ps : List Str} (h : ps ≠ []) (hf : ∀ p ∈ ps, c ∉ p.cps.toList) : Txt.split (Str.join ⟨#[c]⟩ ps) ⟨#[c]⟩ = ps :=
 join_inj split_ne h (StrLaws.split_free _ _) hf (by rw [StrLaws.join_split])
theorem join_len {c : Nat} : ∀ {ps : List Str}, ps ≠ [] → (Str.join ⟨#[c]⟩ ps).length + 1 = (ps.map fun p => p.length + 1).sum
 | [], h => absurd rfl h
 | [a], _ => by show a.length + 1 = _; simp
 | a :: b :: r, _ => by
  have ih := join_len (c := c) (ps := b :: r) (by simp)
  show (a ++ ⟨#[c]⟩ ++ Str.join ⟨#[c]⟩ (b :: r)).length + 1 = _
  rw [Str.length_append, Str.length_append, List.map_cons, List.sum_cons, ← ih]
  show a.length + 1 + _ + 1 = _
  omega
theorem sum_mem {ps : List Str} {p : Str} (h : p ∈ ps) : p.length + 1 ≤ (ps.map fun p => p.length + 1).sum := by
 induction ps with
 | nil => cases h
 | cons a r ih =>
  rw [List.map_cons, List.sum_cons]
  rcases List.mem_cons.mp h with q | q
  ·subst q; omega
  ·have := ih q; omega
theorem sum_count {ps : List Str} : ps.length ≤ (ps.map fun p => p.length + 1).sum := by
 induction ps with
 | nil => exact Nat.le_refl _
 | cons a r ih => rw [List.map_cons, List.sum_cons, List.length_cons]; omega
theorem split_len {x : Str} {c : Nat} : (∀ p ∈ Txt.split x ⟨#[c]⟩, p.length ≤ x.length) ∧ (Txt.split x ⟨#[c]⟩).length ≤ x.length + 1 := by
 have h := join_len (c := c) (ps := Txt.split x ⟨#[c]⟩) split_ne
 rw [StrLaws.join_split] at h
 exact ⟨fun p hp => by have := sum_mem hp; omega, by have := sum_count (ps := Txt.split x ⟨#[c]⟩); omega⟩
theorem sp_eq : Str.ofString " " = ⟨#[32]⟩ := by decide
theorem nl_eq : Str.ofString "\n" = ⟨#[10]⟩ := by decide
theorem sp_len {x : Str} : (∀ p ∈ Txt.split x (Str.ofString " "), p.length ≤ x.length) ∧ (Txt.split x (Str.ofString " ")).length ≤ x.length + 1 := by rw [sp_eq]; exact split_len
theorem nl_len {x : Str} : (∀ p ∈ Txt.split x (Str.ofString "\n"), p.length ≤ x.length) ∧ (Txt.split x (Str.ofString "\n")).length ≤ x.length + 1 := by rw [nl_eq]; exact split_len
noncomputable def numOf (x : Str) : Option Int := if x.length = 0 ∨ 19 < x.length ∨ (x.cps[0]? = some 48 ∧ 1 < x.length) ∨ ¬ ∀ c ∈ x.cps.toList, 48 ≤ c ∧ c ≤ 57 then none else PySem.intText? x
theorem numOf_some {x : Str} (h0 : x.length ≠ 0) (h1 : ¬ 19 < x.length) (h2 : ¬ (x.cps[0]? = some 48 ∧ 1 < x.length)) (h3 : ∀ c ∈ x.cps.toList, 48 ≤ c ∧ c ≤ 57) : ∃ i, 0 ≤ i ∧ PySem.intText? x = some i ∧ numOf x = some i := by
 have e := intText_digits (x := x) h3 (fun q => h0 (by show x.cps.size = 0; rw [← Array.length_toList, q]; rfl)) (by omega)
 refine ⟨_, Int.natCast_nonneg _, e, ?_⟩
 unfold numOf
 rw [if_neg (by
  rintro (q | q | q | q)
  ·exact h0 q
  ·exact h1 q
  ·exact h2 q
  ·exact q h3)]
 exact e
theorem numOf_none {x : Str} (h : x.length = 0 ∨ 19 < x.length ∨ (x.cps[0]? = some 48 ∧ 1 < x.length) ∨ ¬ ∀ c ∈ x.cps.toList, 48 ≤ c ∧ c ≤ 57) : numOf x = none := if_pos h
theorem fig_in {c : Nat} : Txt.contains (Str.ofString "0123456789") ⟨#[c]⟩ = decide (48 ≤ c ∧ c ≤ 57) := by
 show (!(Builtin.Str.occurrences (Str.ofString "0123456789") ⟨#[c]⟩ 0 (Str.ofString "0123456789").length 1).isEmpty) = _
 rw [StrLaws.found_one]
 refine decide_eq_decide.mpr ?_
 rw [show (Str.ofString "0123456789").cps.toList = [48, 49, 50, 51, 52, 53, 54, 55, 56, 57] by decide]
 simp only [List.mem_cons, List.not_mem_nil, or_false]
 omega
noncomputable def wOut : Str := Str.ofString "out"
noncomputable def wFree : Str := Str.ofString "free"
noncomputable def rowOf (x : Str) : Option Pc := match Txt.split x (Str.ofString " ") with
 | [u, v, z] => if z = wOut ∨ z = wFree then (match numOf u, numOf v with
  | some a, some s => some (a, s, decide (z = wOut))
  | _, _ => none) else none
 | _ => none
theorem row_len {x : Str} (h : (Txt.split x (Str.ofString " ")).length ≠ 3) : rowOf x = none := by
 unfold rowOf
 split
 ·rename_i e; rw [e] at h; exact absurd rfl h
 ·rfl
theorem row_word {x u v z : Str} (e : Txt.split x (Str.ofString " ") = [u, v, z]) (h : ¬ (z = wOut ∨ z = wFree)) : rowOf x = none := by
 unfold rowOf
 rw [e]
 exact if_neg h
theorem row_num1 {x u v z : Str} (e : Txt.split x (Str.ofString " ") = [u, v, z]) (h : numOf u = none) : rowOf x = none := by
 unfold rowOf
 rw [e]
 dsimp only
 rw [h]
 split <;> rfl
theorem row_num2 {x u v z : Str} (e : Txt.split x (Str.ofString " ") = [u, v, z]) (h : numOf v = none) : rowOf x = none := by
 unfold rowOf
 rw [e]
 dsimp only
 rw [h]
 split
 ·cases numOf u <;> rfl
 ·rfl
theorem row_some {x u v z : Str} {a s : Int} (e : Txt.split x (Str.ofString " ") = [u, v, z]) (h : z = wOut ∨ z = wFree) (h1 : numOf u = some a) (h2 : numOf v = some s) : rowOf x = some (a, s, decide (z = wOut)) := by
 unfold rowOf
 rw [e]
 dsimp only
 rw [h1, h2]
 exact if_pos h
theorem three_of {α : Type} : ∀ {l : List α}, l.length = 3 → ∃ a b c, l = [a, b, c]
 | [a, b, c], _ => ⟨a, b, c, rfl⟩
 | [], h => by simp at h
 | [_], h => by simp at h
 | [_, _], h => by simp at h
 | _ :: _ :: _ :: _ :: _, h => by simp at h
noncomputable def lineOf (a s : Int) (z : Str) : Str := (((Str.ofString (toString a) ++ Str.ofString " ") ++ Str.ofString (toString s)) ++ Str.ofString " ") ++ z
theorem split_line {a s : Int} {z : Str} (hz : 32 ∉ z.cps.toList) : Txt.split (lineOf a s z) (Str.ofString " ") = [Str.ofString (toString a), Str.ofString (toString s), z] := by
 have e : lineOf a s z = Str.join ⟨#[32]⟩ [Str.ofString (toString a), Str.ofString (toString s), z] := by
  show _ = Str.ofString (toString a) ++ ⟨#[32]⟩ ++ (Str.ofString (toString s) ++ ⟨#[32]⟩ ++ z)
  unfold lineOf
  rw [sp_eq]
  simp only [Str.append_assoc]
 rw [e, sp_eq]
 refine split_join (by simp) fun p hp => ?_
 rcases List.mem_cons.mp hp with rfl | hp
 ·exact int_text_free' 32 ⟨by decide, by decide⟩ a
 ·rcases List.mem_cons.mp hp with rfl | hp
  ·exact int_text_free' 32 ⟨by decide, by decide⟩ s
  ·rw [List.mem_singleton.mp hp]; exact hz
theorem int_str {n : Int} (h0 : 0 ≤ n) (h1 : n < 10 ^ 19) : PySem.intText? (Str.ofString (toString n)) = some n ∧ (Str.ofString (toString n)).length ≤ 19 := by
 have hl := toString_length_le h0 (k := 19) (by decide) h1
 refine ⟨?_, hl⟩
 obtain ⟨m, rfl⟩ := Int.eq_ofNat_of_zero_le h0
 have hd : AllDigits (Str.ofString (toString ((m : Nat) : Int))).cps.toList := by
  intro c hc
  rw [KIN.signs_num] at hc
  obtain ⟨ch, hch, e⟩ := List.mem_map.mp hc
  have r := digit_range (Nat.isDigit_of_mem_toDigits (by decide) (by decide) hch)
  rw [← e]
  exact r
 have hne : (Str.ofString (toString ((m : Nat) : Int))).cps.toList ≠ [] := by
  rw [KIN.signs_num]
  intro e
  have h := toDigits_len_ge 10 m
  rw [List.map_eq_nil_iff.mp e] at h
  exact absurd h (by decide)
 have e := intText_digits hd hne (Nat.le_trans hl (by decide))
 rw [KIN.signs_num, KIN.val_back] at e
 exact e
section
variable {prog : Program} {w : World} {K : Frag} {cx : CX} {sc : Scope} {n : Nat} {σ σ' : AS} {Q : AV → AS → Prop} {QB : Bool → AS → Prop} {QF : AF → AS → Prop} {E : Value → AS → Prop} {pos : Pos}
theorem any_prs {h : Heap} {p : Int × Int} : ∀ {us : List Value}, (us.any fun u => decide (keyP h u = p)) = decide (p ∈ us.map (keyP h))
 | [] => by simp
 | u :: us => by
  rw [List.any_cons, any_prs (us := us), List.map_cons]
  by_cases q : keyP h u = p
  ·subst q; simp
  ·have : ¬ p = keyP h u := fun w => q w.symm
   simp [q, this]
theorem cmp_in_prs (ok : Ok prog K cx sc n) {x : Addr} {ps : List (Int × Int)} {p : Int × Int} (hx : σ.lst x (ps.map prA)) (h : Q (.bool (decide (p ∈ ps))) σ) : WOp2 prog w cx (compareOp .In) (prA p) (.ref x) σ Q E := by
 rintro s va vb r hp q0
 rw [show vb = .ref x from q0]
 obtain ⟨us, hl, q⟩ := r.lst hx
 obtain ⟨hk, hi⟩ := vrs_prs q
 refine SeqAt.in_listAt (fun u => decide (keyP s.heap u = p)) hl (fun u hu => ?_) ?_
 ·obtain ⟨p', hp'⟩ := hi u (by simpa using hu)
  obtain ⟨as, ra⟩ := reads_of (dataOf_pr p') hp'.vr
  obtain ⟨bs, rb⟩ := reads_of (dataOf_pr p) hp
  have := SeqAt.eqAt_reads (prD p') (prD p) cx.A.in1 s u va as bs ra rb (can_pr _) (can_pr _) (by rw [depth_pr, depth_pr]; show cx.A.units + 1 + min 1 1 < cLine; have := ok.units; omega)
  rw [eqv_pr] at this
  rw [hp'.key]
  exact this
 ·rw [List.any_toArray, any_prs, hk]
  exact here0 r vr_bool h
theorem cl_range3 (ok : Ok prog K cx sc n) {a b c : Int} (hc : c ≠ 0) (h : ∀ x, σ.hp x = none → Q (.ref x) (σ.put x (.range a b c))) : WCl prog w cx (.type "range") [.int a, .int b, .int c] σ Q E := fun s vs r hv => by
 obtain ⟨v, u, t, rfl, ⟨t1, rfl⟩, ⟨t2, rfl⟩, ⟨t3, rfl⟩⟩ := vrs3 hv
 refine call_range_3 hc ?_ (.inr (PylongRoom.of (ok.glo.nolimit.keeps r.stay) (by have := ok.depth; unfold Builtin.pylongFrames; lia) (SeerAt.of (ok.glo.seer.keeps r.stay) ok.glo.tree ok.fr ok.fgen ok.fco ok.fbi ok.fglob)))
 exact ⟨.ref _, _, r.new (ao := .range a b c) (push_none _) (fun b o e => Heap.get?_push_of_some _ e) ⟨_, _, _, Heap.get?_push_size _ rfl⟩, vr_ref, VM.of_keeps fun b o e => Heap.get?_push_of_some _ e, h _ (fresh_hp r)⟩
theorem small_40 {b : Nat} (h : b ≤ 2 ^ 24) : Builtin.Range.small 0 (b : Int) 40 = true := by
 have hn : 0 ≤ Builtin.Range.rangeSize 0 (b : Int) 40 ∧ Builtin.Range.rangeSize 0 (b : Int) 40 ≤ 2 ^ 24 := by
  rw [show Builtin.Range.rangeSize 0 (b : Int) 40 = if (0 : Int) < b then ((b : Int) - 0 - 1) / 40 + 1 else 0 from rfl]
  split <;> omega
 unfold Builtin.Range.small
 generalize Builtin.Range.rangeSize 0 (b : Int) 40 = n at hn ⊢
 have f : ∀ i : Int, 0 ≤ i → i ≤ 2 ^ 25 → Builtin.Range.rangeFitsLong i = true := fun i h0 h1 => by
  unfold Builtin.Range.rangeFitsLong
  rw [Bool.and_eq_true, decide_eq_true_eq, decide_eq_true_eq]
  omega
 rw [f 0 (by decide) (by decide), f b (by omega) (by omega), f 40 (by decide) (by decide), f n (by omega) (by omega)]
 rw [if_pos (by decide), f ((b : Int) + (40 - 1)) (by omega) (by omega), Bool.or_true]
 rfl
theorem x_range40 (g : Fx prog K cx sc n) {x : Str} {px : Pos} {iter : Expr} {body : List Stmt} (hx : sc.names.lookup x = some .local) (hs : ∀ v, foldedSetIterable iter cx.env v = pure v)
  (h : WEv prog w cx iter σ (fun v σ₁ => ∃ (ax : Addr) (b : Nat) (J : AS → Prop), v = .ref ax ∧ σ₁.hp ax = some (.range 0 b 40) ∧ b ≤ 2 ^ 24 ∧ J σ₁ ∧
   (∀ (k : Nat) σ cx', Fx prog K cx' sc n → k < b → J σ → WExs prog w cx' body (σ.set x (.int k)) (Turn J QF) E) ∧ ∀ σ, J σ → QF .next σ) E) : WEx prog w cx (.For (.Name x px) iter body [] pos) σ QF E :=
 ex_for g.ok g.fe g.hh hx (h.imp (fun v σ₁ ⟨ax, b, J, h1, h2, h3, h4, h5, h6⟩ => by
  subst h1
  have hr : Builtin.Range.rangeSize 0 b 40 = if (0 : Int) < b then ((b : Int) - 0 - 1) / 40 + 1 else 0 := rfl
  have hsm : Builtin.Range.small 0 (b : Int) 40 = true := small_40 h3
  refine ⟨_, fun ux => J, .range h2 (by decide) hsm, h4, fun i a σ P' hi hj _ => ?_, fun σ hj => h6 σ hj⟩
  obtain ⟨hi', e⟩ := List.getElem?_eq_some_iff.mp hi
  rw [List.length_map, List.length_range, hr] at hi'
  rw [List.getElem_map, List.getElem_range] at e
  subst e
  have hlt : i * 40 < b := by
   split at hi'
   ·omega
   ·omega
  have := h5 (i * 40) σ _ (g.withP P') hlt hj
  rw [show ((i * 40 : Nat) : Int) = 0 + (i : Int) * 40 by omega] at this
  exact this) fun ux ux e => e) hs
theorem v_sortr (ok : Ok prog K cx sc n) {px kp cp : Pos} {ck : Nat} {e : Expr} (hx : sc.names.lookup (Str.ofString "sorted") = some .globalImplicit) (hn : nsIn K mainGlobals (Str.ofString "sorted") = some none) (hb : bootBuiltins (Str.ofString "sorted") = some (.builtin "sorted"))
  (he : ∀ env, starEach [e] env = (false, eval e env) :: starEach [] env)
  (h : WEv prog w cx e σ (fun a σ₁ => ∃ (x : Addr) (ns : List Int), a = .ref x ∧ σ₁.lst x (ns.map AV.int) ∧ ns.length ≤ sizeLine ∧ ∀ y (ms : List Int), σ₁.hp y = none → ms.Perm ns → Q (.ref y) (σ₁.put y (.list (ms.map AV.int)))) E) :
  WEv prog w cx (.Call (.Name (Str.ofString "sorted") px) [e] [⟨some (Str.ofString "reverse"), .Constant (.bool true) ck cp, kp⟩] pos) σ Q E := fun s r => by
 refine wpAny_Call_Name_kw (wpAny_mono (ev_bname (Q := fun a σ' => a = .raw (.builtin "sorted") ∧ σ' = σ) (E := E) ok hx hn (by decide) hb ⟨rfl, rfl⟩ (by decide) s r) (fun v s₁ zz => zz.use fun a σ₁ r₁ v₁ m₁ ⟨ha, hσ⟩ => ?_) fun ux ux e => e)
 subst ha hσ
 rw [show v = .builtin "sorted" from v₁]
 have he' : backTo pos (starEach [e] cx.env) = (false, eval e cx.env) :: backTo pos (starEach [] cx.env) := by unfold backTo; rw [he]; rfl
 refine callWith_kw ?_ he' (by rw [he']; rfl) rfl rfl
 have key : WAr prog w cx pos [e] σ₁ (fun l σ₂ => ∃ a, l = [a] ∧ ∃ (x : Addr) (ns : List Int), a = .ref x ∧ σ₂.lst x (ns.map AV.int) ∧ ns.length ≤ sizeLine ∧ ∀ y (ms : List Int), σ₂.hp y = none → ms.Perm ns → Q (.ref y) (σ₂.put y (.list (ms.map AV.int)))) E := by
  refine a_cons he fun s r => wpAny_mono (h s r) (fun v s₁ zz => zz.use fun a σ₁ r₁ v₁ m₁ q₁ => ⟨a, σ₁, r₁, v₁, m₁, ?_⟩) fun ux ux e => e
  exact ar_nil ⟨a, rfl, q₁⟩
 refine wpAny_mono (key s₁ r₁) (fun vs s₂ zz => zz.use fun l σ₂ r₂ v₂ m₂ zz => ?_) fun ux ux e => e.mono m₁
 obtain ⟨a, hl, x, ns, rfl, hxl, hz, hq⟩ := zz
 subst hl
 obtain ⟨va, rfl, pa⟩ := vrs1 v₂
 rw [show va = .ref x from pa]
 refine kws_cons (wpAny_pure (kws_nil ?_))
 obtain ⟨us, hus, q⟩ := r₂.lst hxl
 obtain ⟨hk, hi⟩ := vrs_ints q
 refine wpAny_mono (Q := PostR prog w VR cx s₂ Q) (E := PostE prog w cx s₂ E) ?_ (fun ux ux p => p.mono (m₁.trans m₂)) fun ux ux e => e.mono (m₁.trans m₂)
 refine sorted_rev_any hus hi (by rw [q.length, List.length_map]; exact hz) fun ws hp => ?_
 have kp : ∀ b o, s₂.heap.get? b = some o → (sortedAll s₂.heap us ws.toArray).get? b = some o := fun b o e => sortedAll_old e
 obtain ⟨e, he⟩ := sortedAll_at s₂.heap us ws.toArray
 have n1 : s₂.heap.get? (s₂.heap.objs.size + 1) = none := by
  cases q : s₂.heap.get? (s₂.heap.objs.size + 1) with
  | none => rfl
  | some o => exact absurd (Heap.lt_size q) (by show ¬ (s₂.heap.objs.size + 1 < s₂.heap.objs.size); omega)
 have wi : ∀ v ∈ ws, ∃ i t, v = .int i t := fun v hv => hi v (hp.mem_iff.mp hv)
 refine ⟨.ref _, _, r₂.new (tk := s₂.toks) (ao := .list ((ws.map keyI).map AV.int)) n1 kp ⟨ws, ⟨e, by simpa using he⟩, ints_vrs wi⟩, vr_ref, VM.of_keeps kp, hq _ (ws.map keyI) ?_ ?_⟩
 ·cases q : σ₂.hp (s₂.heap.objs.size + 1) with
  | none => rfl
  | some ao => exact absurd q ((Off.new r₂ n1).hp ao)
 ·rw [← hk]; exact hp.map _
noncomputable def isRev (l : Addr) (m : Int) : Program → World → Heap → Addr → Obj → Prop := fun ux ux ux ux o => o = revObj l m
theorem cl_reversed {x : Addr} {l : List AV} (hx : σ.lst x l) (h : ∀ y, σ.hp y = none → Q (.ref y) (σ.put y (.any (isRev x ((l.length : Int) - 1))))) : WCl prog w cx (.type "reversed") [.ref x] σ Q E := fun s vs r hv => by
 obtain ⟨v, rfl, p⟩ := vrs1 hv
 rw [show v = .ref x from p]
 obtain ⟨us, hl, q⟩ := r.lst hx
 refine call_reversed_list hl ?_
 have e : ((us.toArray.size : Nat) : Int) - 1 = (l.length : Int) - 1 := by rw [List.size_toArray, q.length]
 rw [e]
 have k : ∀ b o, s.heap.get? b = some o → (s.heap.push (revObj x ((l.length : Int) - 1))).get? b = some o := fun b o e => Heap.get?_push_of_some _ e
 exact ⟨.ref _, _, r.new (tk := s.toks) (ao := .any (isRev x ((l.length : Int) - 1))) (push_none _) k ⟨_, Heap.get?_push_size _ rfl, (by intro xs n q; exact absurd (show Value.type "list_reverseiterator" = Value.type "tuple" from q) (by decide)), fun ux ux => rfl⟩, vr_ref, VM.of_keeps k, h _ (fresh_hp r)⟩
theorem sub_lri_self : isSubtype (.type "list_reverseiterator") (.type "list_reverseiterator") = pure true := by rw [isSubtype_type]; kernel_rfl
theorem lookup_lri_len : typeLookup (.type "list_reverseiterator") "__len__" = pure none := by rw [typeLookup_type, builtinLookup_eq_fast]; kernel_rfl
theorem lookup_lri_hint : typeLookup (.type "list_reverseiterator") "__length_hint__" = pure (some (.builtin "list_reverseiterator.__length_hint__")) := by rw [typeLookup_type, builtinLookup_eq_fast]; kernel_rfl
theorem extend_rev {A : Around} {s : Shared} {RR : Result → Shared → Prop} (hh : A.handled = none) {I l : Addr} {items : Array Value} (S : Addr) (res : Value) (c₀ : Nat) (hS : s.heap.get? S = some { cls := .type "list", data := .seq #[] c₀ }) (hI : s.heap.get? I = some (revObj l ((items.size : Int) - 1))) (hl : s.heap.IsList l items) (hIl : l ≠ I) (hSl : S ≠ l)
  (hn : items.size ≤ sizeLine) (hR : ∀ h' tk acc' c', (∀ b o, b ≠ S → b ≠ I → s.heap.get? b = some o → h'.get? b = some o) → h'.get? S = some { cls := .type "list", dict := none, data := .seq acc' c', slots := #[] } →
   ItemsOf (fun i v => items[items.size - 1 - i]? = some v) acc' items.size → RR (.ok (.ret res)) { s with heap := h', toks := tk }) :
  wpAny (model prog w) A.in1 (Builtin.List.listExtendWith (.ref S) (.ref I) res)
   (fun fin s' => match fin with | .done f => RR (.ok f) s' | .again c' => c'.quiet = true ∧ codeAny (model prog w) A c' RR s') (fun e s' => RR (.error e) s') s := by
 have hSI : S ≠ I := fun e => by subst e; rw [hS] at hI; have := congrArg Obj.cls (Option.some.inj hI); exact absurd (show Value.type "list" = Value.type "list_reverseiterator" from this) (by decide)
 have hit : s.heap.IsRevIter I l ((items.size : Int) - 1) := ⟨_, hI, rfl, rfl⟩
 unfold Builtin.List.listExtendWith
 refine wpAny_bind (wpAny_typeOf (T := "list_reverseiterator") ⟨_, hI, rfl⟩ ?_)
 have h1 : Builtin.List.listSameRef (.ref S) (.ref I) = false := by simp [Builtin.List.listSameRef, hSI]
 have h2 : (Value.type "list_reverseiterator" == Value.type "list") = false := by decide
 have h3 : (Value.type "list_reverseiterator" == Value.type "tuple") = false := by decide
 simp only [h1, h2, h3, Bool.or_false, Bool.false_eq_true, if_false]
 refine wpAny_bind (wpAny_pyIter_revIter hit ?_)
 refine wpAny_bind (wpAny_holding ?_)
 unfold Builtin.List.listLengthHint
 refine wpAny_bind (wpAny_specialOf ⟨_, hI, rfl⟩ lookup_lri_len ?_)
 wp_delta
 refine wpAny_bind (wpAny_specialOf ⟨_, hI, rfl⟩ lookup_lri_hint ?_)
 dsimp only
 rw [show splitId "list_reverseiterator.__length_hint__" = some ("list_reverseiterator", "__length_hint__") from by decide +kernel]
 dsimp only
 refine wpAny_bind (wpAny_isInstance (T := "list_reverseiterator") (b := true) ⟨_, hI, rfl⟩ sub_lri_self ?_)
 refine wpAny_ite_split (fun hab => absurd hab (by decide)) (fun _ => ?_)
 refine wpAny_ite_split (fun _ => ?_) (fun hab => absurd (by decide +kernel) hab)
 refine wpAny_ite_split (fun hab => absurd hab (by decide)) (fun _ => ?_)
 refine wpAny_pure ?_
 refine wpAny_ite_split (fun hab => absurd hab (by decide)) (fun _ => ?_)
 have hSf : S ∉ [I, l] := fun hm => by
  rcases List.mem_cons.mp hm with e | e
  ·exact hSI e
  ·exact hSl (List.mem_singleton.mp e)
 refine wpAny_pure ⟨plainId_quiet PySem.F.plain_extend_loop _, codeAny_extend_loopS (Walks.listRev (prog := prog) (w := w) (A := A.in1) hh I l hIl items).toS hn S hSf res items.size 0 _ _ _ rfl (Nat.zero_le _) ⟨Nat.zero_le _, ⟨_, hI, rfl, by show Data.fields _ = _; congr 3; simp⟩, hl⟩ hS (ItemsOf.nil _) fun s' acc' c' hm hS' hacc => ?_⟩
 rw [Moved.eq_with hm]
 refine hR s'.heap s'.toks acc' c' (fun b ob hb hbI e => hm.heap b ob (fun hmem => ?_) e) hS' hacc
 rcases List.mem_cons.mp hmem with e' | hmem
 ·exact hb e'
 ·exact hbI (List.mem_singleton.mp hmem)
theorem call_list_rev {A : Around} {s : Shared} {E : Value → Shared → Prop} {Q : Value → Shared → Prop} (hh : A.handled = none) {I l : Addr} {items : Array Value} (hI : s.heap.get? I = some (revObj l ((items.size : Int) - 1))) (hl : s.heap.IsList l items) (hIl : l ≠ I) (hn : items.size ≤ sizeLine)
  (hQ : ∀ h' tk acc' c', (∀ b o, b ≠ I → s.heap.get? b = some o → h'.get? b = some o) →
   h'.get? s.heap.objs.size = some { cls := .type "list", dict := none, data := .seq acc' c', slots := #[] } → ItemsOf (fun i v => items[items.size - 1 - i]? = some v) acc' items.size → Q (.ref s.heap.objs.size) { s with heap := h', toks := tk }) :
  wpAny (model prog w) A (call (.type "list") [.ref I]) Q E s := by
 refine callType_codes (Q₁ := fun obj s₁ => obj = .ref s.heap.objs.size ∧ s₁ = { s with heap := s.heap.push { cls := .type "list", data := .seq #[] } }) PySem.F.called_list (PySem.F.typeCall_list_1 _) PySem.F.entry_list_init
  (code_list_new _ ⟨rfl, rfl⟩) fun obj s₁ h₁ => ?_
 obtain ⟨rfl, rfl⟩ := h₁
 have hS : (s.heap.push { cls := .type "list", data := .seq #[] }).get? s.heap.objs.size = some { cls := .type "list", data := .seq #[] } := Heap.get?_push_size _ rfl
 have lt : ∀ {a : Addr} {o : Obj}, s.heap.get? a = some o → a ≠ s.heap.objs.size := fun e => Nat.ne_of_lt (Heap.lt_size e)
 obtain ⟨ol, hol, hlc, hld⟩ := id hl
 refine ⟨⟨_, hS, rfl⟩, PySem.F.args_list_init_2 _ _, ?_⟩
 show wpAny _ _ (do let old ← Builtin.List.listItems (.ref s.heap.objs.size); Builtin.List.listUpdate (.ref s.heap.objs.size) (fun ux => #[]); letGo old.toList.reverse; Builtin.List.listExtendWith (.ref s.heap.objs.size) (.ref I) .none) _ _ _
 refine wpAny_bind ?_
 unfold Builtin.List.listItems
 refine wpAny_bind (wpAny_seqItems hS rfl (wpAny_pure ?_))
 show wpAny _ _ (updateSeq s.heap.objs.size (fun ux => #[]) >>= fun ux => letGo (#[] : Array Value).toList.reverse >>= fun ux => Builtin.List.listExtendWith (.ref s.heap.objs.size) (.ref I) .none) _ _ _
 refine wpAny_bind (wpAny_updateSeq hS rfl ?_)
 have hS₂ := Heap.get?_update_self (Obj.mapSeq (fun ux => (#[] : Array Value))) hS rfl
 have oth : ∀ b o, s.heap.get? b = some o → ((s.heap.push { cls := .type "list", data := .seq #[] }).update s.heap.objs.size (Obj.mapSeq (fun ux => (#[] : Array Value)))).get? b = some o :=
  fun b o e => (Heap.get?_update_other _ _ (Ne.symm (lt e))).trans (Heap.get?_push_of_some _ e)
 refine wpAny_bind (wpAny_letGo ?_)
 refine extend_rev (A := A.in1) hh _ _ _ hS₂ (oth _ _ hI) ⟨ol, oth _ _ hol, hlc, hld⟩ hIl (Ne.symm (lt hol)) hn fun h' tk acc' c' hk hS' hacc => ?_
 exact ⟨rfl, hQ h' tk acc' c' (fun b o hb e => hk b o (lt e) hb (oth b o e)) hS' hacc⟩
theorem vrs_rev {h : Heap} : ∀ {l : List AV} {vs : List Value}, VRs h l vs → VRs h l.reverse vs.reverse
 | [], _, e => by rw [show _ = [] from e]; rfl
 | a :: l, _, ⟨v, r, e, p, q⟩ => by subst e; rw [List.reverse_cons, List.reverse_cons]; exact (vrs_rev q).snoc p
theorem items_rev {us : List Value} {acc : Array Value} (h : ItemsOf (fun i v => us.toArray[us.toArray.size - 1 - i]? = some v) acc us.toArray.size) : acc.toList = us.reverse := by
 obtain ⟨h1, h2⟩ := h
 have h1 : acc.size = us.length := by simpa using h1
 apply List.ext_getElem?
 intro i
 by_cases hi : i < us.length
 ·have ha : acc[i]? = some acc[i] := Array.getElem?_eq_getElem (by omega)
  have := h2 i _ ha
  rw [List.size_toArray, List.getElem?_toArray] at this
  rw [Array.getElem?_toList, ha, List.getElem?_reverse hi, this]
 ·rw [List.getElem?_eq_none (by rw [Array.length_toList]; omega), List.getElem?_eq_none (by rw [List.length_reverse]; omega)]
theorem cl_list_rev (hh : cx.A.handled = none) {x y : Addr} {l : List AV} (hx : σ.lst x l) (hy : σ.hp y = some (.any (isRev x ((l.length : Int) - 1)))) (hz : l.length ≤ sizeLine) (h : ∀ z σ', σ.hp z = none → (∀ a o, a ≠ y → σ.hp a = some o → σ'.hp a = some o) → σ'.loc = σ.loc → σ'.hp z = some (.list l.reverse) → Q (.ref z) σ') : WCl prog w cx (.type "list") [.ref y] σ Q E := fun s vs r hv => by
 obtain ⟨va, rfl, p⟩ := vrs1 hv
 rw [show va = .ref y from p]
 obtain ⟨⟨o, ho, hnt, hT⟩, hb, hP, hown, hfr⟩ := r.ob y _ hy
 have eo : o = revObj x ((l.length : Int) - 1) := hT _ (VM.refl _)
 subst eo
 have r₁ : R prog w cx ⟨σ.loc, fun a => if a = y then none else σ.hp a⟩ s := r.le ⟨fun ux ux e => e, fun a o e => by
  dsimp only at e
  split at e
  ·cases e
  ·exact e⟩
 have off : Off cx ⟨σ.loc, fun a => if a = y then none else σ.hp a⟩ y := ⟨hb rfl, hP, fun o e => by simp at e, hown, fun hm => by obtain ⟨en, he, hf⟩ := mem_frame hm; exact hfr en he hf⟩
 obtain ⟨us, hl, q⟩ := r.lst hx
 have hxy : x ≠ y := fun e => by
  subst e
  rcases hx with w | w
  ·rw [hy] at w; cases w
  ·rw [hy] at w; cases w
 refine call_list_rev (items := us.toArray) hh (by rw [List.size_toArray, q.length]; exact ho) hl hxy (by rw [List.size_toArray, q.length]; exact hz) fun h' tk acc c k hS hi => ?_
 obtain ⟨r₂, m₂⟩ := r₁.off (h' := h') (tk := tk) off ho (by intro xs n q; cases q) k
 have offz : Off cx ⟨σ.loc, fun a => if a = y then none else σ.hp a⟩ s.heap.objs.size := Off.new r₁ (push_none _)
 have r₃ := r₂.track (ao := .list l.reverse) offz ⟨acc.toList, ⟨c, by simpa using hS⟩, by rw [items_rev hi]; exact (vrs_rev q).mono m₂⟩
 refine ⟨.ref _, _, r₃, vr_ref, m₂, h _ _ (fresh_hp r) (fun a o hay e => ?_) rfl put_same⟩
 refine put_ne (fun e' => ?_) ?_
 ·subst e'
  rw [fresh_hp r] at e
  cases e
 ·dsimp only
  rw [if_neg hay]; exact e
end
inductive PsOk (N : Nat) (B : Int) (ps : List (Int × Int)) : Prop
 | mk (ne : ps ≠ []) (len : ps.length ≤ N) (all : ∀ p ∈ ps, 0 ≤ p.1 ∧ 0 < p.2 ∧ p.1 + p.2 ≤ B) (sum : tot ps ≤ B) : PsOk N B ps
theorem PsOk.mono {N M : Nat} {B C : Int} {ps : List (Int × Int)} (h : PsOk N B ps) (hN : N ≤ M) (hB : B ≤ C) : PsOk M C ps :=
 let ⟨ne, len, all, sum⟩ := h
 ⟨ne, Nat.le_trans len hN, fun p hp => let ⟨a, b, c⟩ := all p hp; ⟨a, b, Int.le_trans c hB⟩, Int.le_trans sum hB⟩
theorem clip_in {n : Nat} {j : Int} (h0 : 0 ≤ j) (h1 : j ≤ n) : clipAt n j = j.toNat := by
 have h := clipAt_cast n j
 rw [if_neg (by lia)] at h
 lia
theorem split_at {α : Type} {l : List α} {i : Nat} {p : α} (h : l[i]? = some p) : l = l.take i ++ p :: l.drop (i + 1) := by
 obtain ⟨h1, h2⟩ := List.getElem?_eq_some_iff.mp h
 rw [← h2, ← List.drop_eq_getElem_cons h1, List.take_append_drop]
theorem PsOk.halve {N : Nat} {B : Int} {ps : List (Int × Int)} {i : Nat} {p : Int × Int} (h : PsOk N B ps) (hp : ps[i]? = some p) (hh : 0 < p.2 / 2) : PsOk (N + 1) B (ps.take i ++ [(p.1, p.2 / 2), (p.1 + p.2 / 2, p.2 / 2)] ++ ps.drop (i + 1)) := by
 obtain ⟨ne, len, all, sum⟩ := h
 have e := split_at hp
 have hm := all p (List.mem_of_getElem? hp)
 generalize ps.take i = u at e ⊢
 generalize ps.drop (i + 1) = v at e ⊢
 subst e
 have hp2 : p.2 / 2 + p.2 / 2 ≤ p.2 := by lia
 refine ⟨by simp, ?_, fun q hq => ?_, ?_⟩
 ·simp only [List.length_append, List.length_cons, List.length_nil] at len ⊢; lia
 ·rw [List.append_assoc] at hq
  rcases List.mem_append.mp hq with w | w
  ·exact all q (List.mem_append_left _ w)
  ·rcases List.mem_append.mp w with w | w
   ·rcases List.mem_cons.mp w with w | w
    ·subst w; simp only; lia
    ·rw [List.mem_singleton.mp w]; simp only; lia
   ·exact all q (List.mem_append_right _ (List.mem_cons_of_mem _ w))
 ·have e1 : tot (u ++ p :: v) = tot u + (p.2 + tot v) := by rw [tot_append]; unfold tot; rw [List.map_cons, List.sum_cons]
  have e2 : tot (u ++ [(p.1, p.2 / 2), (p.1 + p.2 / 2, p.2 / 2)] ++ v) = tot u + (p.2 / 2 + p.2 / 2) + tot v := by
   rw [tot_append, tot_append]; unfold tot; simp
  rw [e1] at sum
  rw [e2]
  lia
noncomputable def rowsOf (b : Int) : List Int → List (Int × Int)
 | [] => []
 | s :: l => (b, s) :: rowsOf (b + s) l
theorem rowsOf_snoc : ∀ {l : List Int} {b s : Int}, rowsOf b (l ++ [s]) = rowsOf b l ++ [(b + l.sum, s)]
 | [], b, s => by show [(b, s)] = [(b + 0, s)]; rw [Int.add_zero]
 | a :: l, b, s => by
  show (b, a) :: rowsOf (b + a) (l ++ [s]) = (b, a) :: (rowsOf (b + a) l ++ _)
  rw [rowsOf_snoc, List.sum_cons, Int.add_assoc]
theorem rowsOf_len : ∀ {l : List Int} {b : Int}, (rowsOf b l).length = l.length
 | [], _ => rfl
 | _ :: l, b => by show (rowsOf _ l).length + 1 = _; rw [rowsOf_len]; rfl
theorem rowsOf_tot : ∀ {l : List Int} {b : Int}, tot (rowsOf b l) = l.sum
 | [], _ => rfl
 | s :: l, b => by
  have := rowsOf_tot (l := l) (b := b + s)
  unfold tot at this ⊢
  unfold rowsOf
  rw [List.map_cons, List.sum_cons, List.sum_cons, this]
theorem rowsOf_mem : ∀ {l : List Int} {b : Int}, 0 ≤ b → (∀ s ∈ l, 0 < s) → ∀ p ∈ rowsOf b l, 0 ≤ p.1 ∧ 0 < p.2 ∧ p.1 + p.2 ≤ b + l.sum
 | [], _, _, _, p, hp => by cases hp
 | s :: l, b, hb, hs, p, hp => by
  have h1 := hs s (List.mem_cons_self ..)
  have hsum : 0 ≤ l.sum := by
   have : ∀ {l : List Int}, (∀ s ∈ l, 0 < s) → 0 ≤ l.sum := by
    intro l
    induction l with
    | nil => intro _; exact Int.le_refl _
    | cons a l ih => intro h; rw [List.sum_cons]; have := h a (List.mem_cons_self ..); have := ih fun s hs => h s (List.mem_cons_of_mem _ hs); lia
   exact this fun s h => hs s (List.mem_cons_of_mem _ h)
  rw [List.sum_cons]
  rcases List.mem_cons.mp hp with w | w
  ·subst w; simp only; lia
  ·have := rowsOf_mem (l := l) (b := b + s) (by lia) (fun s h => hs s (List.mem_cons_of_mem _ h)) p w
   lia
inductive SzOk (N : Nat) (B : Int) (l : List Int) : Prop
 | mk (ne : l ≠ []) (len : l.length ≤ N) (all : ∀ s ∈ l, 0 < s) (sum : l.sum ≤ B) : SzOk N B l
theorem SzOk.perm {N : Nat} {B : Int} {l m : List Int} (h : SzOk N B l) (p : m.Perm l) : SzOk N B m :=
 let ⟨ne, len, all, sum⟩ := h
 ⟨fun q => ne (by rw [q] at p; exact List.nil_perm.mp p), by rw [p.length_eq]; exact len, fun s hs => all s (p.mem_iff.mp hs), by rw [perm_sum p]; exact sum⟩
theorem SzOk.snoc {N : Nat} {B C s : Int} {l : List Int} (h : SzOk N B l) (hs : 0 < s) (hc : B + s ≤ C) : SzOk (N + 1) C (l ++ [s]) :=
 let ⟨ne, len, all, sum⟩ := h
 ⟨by simp, by rw [List.length_append]; exact Nat.succ_le_succ len, fun a ha => by
  rcases List.mem_append.mp ha with q | q
  ·exact all a q
  ·rw [List.mem_singleton.mp q]; exact hs, by rw [List.sum_append]; show l.sum + (s + 0) ≤ C; lia⟩
theorem SzOk.mono {N M : Nat} {B C : Int} {l : List Int} (h : SzOk N B l) (hN : N ≤ M) (hB : B ≤ C) : SzOk M C l :=
 let ⟨ne, len, all, sum⟩ := h
 ⟨ne, Nat.le_trans len hN, all, Int.le_trans sum hB⟩
theorem PsOk.sizes {N : Nat} {B : Int} {ps : List (Int × Int)} (h : PsOk N B ps) : SzOk N B (ps.map (·.2)) :=
 let ⟨ne, len, all, sum⟩ := h
 ⟨by simpa using ne, by rw [List.length_map]; exact len, fun s hs => by obtain ⟨p, hp, rfl⟩ := List.mem_map.mp hs; exact (all p hp).2.1, sum⟩
theorem SzOk.rows {N : Nat} {B : Int} {l : List Int} (h : SzOk N B l) : PsOk N B (rowsOf 0 l) :=
 let ⟨ne, len, all, sum⟩ := h
 ⟨fun q => ne (List.length_eq_zero_iff.mp (by rw [← rowsOf_len (b := 0), q]; rfl)), by rw [rowsOf_len]; exact len, fun p hp => by have := rowsOf_mem (Int.le_refl 0) all p hp; lia, by rw [rowsOf_tot]; exact sum⟩
theorem turn_perm {α : Type} {l : List α} {i : Nat} : (l.drop i ++ l.take i).Perm l := by
 refine List.perm_append_comm.trans ?_
 rw [List.take_append_drop]
noncomputable def onesP (n : Nat) : List (Int × Int) := (List.range n).map fun i : Nat => ((i : Int), 1)
theorem ones_tot : ∀ {l : List Nat}, tot (l.map fun i : Nat => ((i : Int), (1 : Int))) = l.length
 | [] => rfl
 | a :: l => by
  have := ones_tot (l := l)
  unfold tot at this ⊢
  rw [List.map_cons, List.map_cons, List.sum_cons, this, List.length_cons]
  lia
theorem ones_ok {n : Nat} (h0 : 0 < n) (h1 : n ≤ 512) : PsOk 512 (2 ^ 60) (onesP n) := by
 unfold onesP
 refine ⟨fun q => ?_, by rw [List.length_map, List.length_range]; exact h1, fun p hp => ?_, ?_⟩
 ·have := congrArg List.length q
  rw [List.length_map, List.length_range] at this
  exact absurd this (by simp; lia)
 ·obtain ⟨i, hi, rfl⟩ := List.mem_map.mp hp
  have := List.mem_range.mp hi
  simp only
  lia
 ·rw [ones_tot, List.length_range]; lia
inductive LineOk (x : Str) : Prop
 | mk (a s : Int) (z : Str) (h : x = lineOf a s z) (ha : 0 ≤ a) (hs : 0 < s) (hb : a + s ≤ 2 ^ 60 + 64) (hz : z = wOut ∨ z = wFree) : LineOk x
theorem word_len {z : Str} (h : z = wOut ∨ z = wFree) : z.length ≤ 4 ∧ 32 ∉ z.cps.toList := by
 rcases h with rfl | rfl
 ·exact ⟨by decide, by decide⟩
 ·exact ⟨by decide, by decide⟩
theorem line_len {x : Str} (h : LineOk x) : x.length ≤ 44 := by
 obtain ⟨a, s, z, rfl, ha, hs, hb, hz⟩ := h
 have h1 := (int_str ha (by lia)).2
 have h2 := (int_str (n := s) (by lia) (by lia)).2
 have h3 := (word_len hz).1
 unfold lineOf
 simp only [Str.length_append]
 have h4 : (Str.ofString " ").length = 1 := by decide
 lia
noncomputable def wsum (ls : List Str) : Nat := (ls.map fun p => p.length + 1).sum
theorem wsum_le {B : Nat} : ∀ {ls : List Str}, (∀ x ∈ ls, x.length ≤ B) → wsum ls ≤ ls.length * (B + 1)
 | [], _ => Nat.zero_le _
 | x :: ls, h => by
  have h1 := h x (List.mem_cons_self ..)
  have h2 := wsum_le (ls := ls) fun y hy => h y (List.mem_cons_of_mem _ hy)
  unfold wsum at h2 ⊢
  rw [List.map_cons, List.sum_cons, List.length_cons, Nat.succ_mul]
  lia
theorem wsum_append {a b : List Str} : wsum (a ++ b) = wsum a + wsum b := by unfold wsum; rw [List.map_append, List.sum_append]
theorem wsum_perm {a b : List Str} (h : a.Perm b) : wsum a = wsum b := by
 unfold wsum
 induction h with
 | nil => rfl
 | cons x _ ih => rw [List.map_cons, List.map_cons, List.sum_cons, List.sum_cons, ih]
 | swap x y l => simp only [List.map_cons, List.sum_cons]; lia
 | trans _ _ h1 h2 => exact h1.trans h2
inductive TxOk (ls : List Str) : Prop
 | mk (len : ls.length ≤ 600) (sum : wsum ls ≤ 24000) : TxOk ls
theorem lines_sum {ls : List Str} (h : ls.length ≤ 513) (hl : ∀ x ∈ ls, LineOk x) : wsum ls ≤ 23085 :=
 Nat.le_trans (wsum_le fun x hx => line_len (hl x hx)) (Nat.mul_le_mul_right 45 h)
theorem TxOk.join {ls : List Str} (h : TxOk ls) : JoinOk (Str.ofString "\n") ls = true ∧ (Txt.join (Str.ofString "\n") ls).length ≤ 24000 := by
 obtain ⟨len, sum⟩ := h
 have e : (ls.map (·.length)).sum + ls.length * (Str.ofString "\n").length = wsum ls := by
  rw [show (Str.ofString "\n").length = 1 by decide, Nat.mul_one]
  unfold wsum
  clear len sum
  induction ls with
  | nil => rfl
  | cons x ls ih => rw [List.map_cons, List.map_cons, List.sum_cons, List.sum_cons, List.length_cons, ← ih]; lia
 constructor
 ·unfold JoinOk
  rw [StrLaws.joinTotal, e, Bool.not_eq_true']
  show decide (wsum ls > sizeLine) = false
  exact decide_eq_false (by have : sizeLine = 2 ^ 24 := rfl; lia)
 ·show (Builtin.Str.glued _ _).length ≤ _
  rw [StrLaws.glued_eq_join]
  exact Nat.le_trans (StrLaws.join_length_le _ ls) (by rw [e]; exact sum)
section
variable {prog : Program} {w : World} {K : Frag} {cx : CX} {sc : Scope} {n : Nat} {σ σ' : AS} {Q : AV → AS → Prop} {QB : Bool → AS → Prop} {QF : AF → AS → Prop} {E : Value → AS → Prop} {pos : Pos}
inductive A_halved (Q : AV → AS → Prop) (l : List AV) (σ : AS) : Prop
 | mk (x : Addr) (ns : List Int) (hl : l = [.ref x]) (hx : σ.hp x = some (.ro (ns.map AV.int))) (hn : ns.length ≤ 63) (hq : ∀ σ' z ps, σ.Sub σ' → σ'.loc = σ.loc → σ'.hp z = some (.list (ps.map prA)) → PsOk 512 (2 ^ 60) ps → Q (.ref z) σ') : A_halved Q l σ
inductive A_row (Q : AV → AS → Prop) (l : List AV) (σ : AS) : Prop
 | mk (x : Addr) (c : Int) (ps : List (Int × Int)) (hl : l = [.ref x, .int c]) (hx : σ.hp x = some (.list (ps.map prA))) (ho : PsOk 512 (2 ^ 60) ps) (hq : ∀ σ' z ps', σ.Sub σ' → σ'.loc = σ.loc → σ'.hp z = some (.list (ps'.map prA)) → PsOk 513 (2 ^ 60 + 64) ps' → Q (.ref z) σ') : A_row Q l σ
inductive A_lines (Q : AV → AS → Prop) (l : List AV) (σ : AS) : Prop
 | mk (x y : Addr) (ns : List Int) (ps : List (Int × Int)) (hl : l = [.ref x, .ref y]) (hx : σ.hp x = some (.ro (ns.map AV.int))) (hn : ns.length ≤ 63) (hy : σ.hp y = some (.list (ps.map prA))) (ho : PsOk 513 (2 ^ 60 + 64) ps)
   (hq : ∀ σ' z (ls : List Str), σ.Sub σ' → σ'.loc = σ.loc → σ'.hp z = some (.list (ls.map AV.str)) → ls ≠ [] → ls.length ≤ 513 → (∀ x ∈ ls, LineOk x) → Q (.ref z) σ') : A_lines Q l σ
inductive A_others (Q : AV → AS → Prop) (l : List AV) (σ : AS) : Prop
 | mk (x : Str) (hl : l = [.str x]) (ho : LineOk x) (hq : ∀ σ' z (ls : List Str), σ.Sub σ' → σ'.loc = σ.loc → σ'.hp z = some (.list (ls.map AV.str)) → ls ≠ [] → ls.length ≤ 200 → (∀ x ∈ ls, x.length ≤ 300) → Q (.ref z) σ') : A_others Q l σ
inductive A_spoilt (Q : AV → AS → Prop) (l : List AV) (σ : AS) : Prop
 | mk (x : Addr) (c : Int) (ls : List Str) (hl : l = [.ref x, .int c]) (hx : σ.hp x = some (.list (ls.map AV.str))) (ne : ls ≠ []) (hlen : ls.length ≤ 513) (ho : ∀ x ∈ ls, LineOk x) (hq : ∀ σ' z (ls' : List Str), σ.Sub σ' → σ'.loc = σ.loc → σ'.hp z = some (.list (ls'.map AV.str)) → TxOk ls' → Q (.ref z) σ') : A_spoilt Q l σ
inductive A_lnumber (Q : AV → AS → Prop) (l : List AV) (σ : AS) : Prop
 | mk (x : Str) (hl : l = [.str x]) (hz : x.length ≤ 2 ^ 20) (hq : Q (.int ((numOf x).getD (-1))) σ) : A_lnumber Q l σ
inductive A_lissize (Q : AV → AS → Prop) (l : List AV) (σ : AS) : Prop
 | mk (v : Int) (hl : l = [.int v]) (hq : Q (.bool (isP v)) σ) : A_lissize Q l σ
inductive A_ldue (Q : AV → AS → Prop) (l : List AV) (σ : AS) : Prop
 | mk (x : Addr) (ls : List Str) (hl : l = [.ref x]) (hx : σ.hp x = some (.list (ls.map AV.str))) (hz : ls.length ≤ 2 ^ 20) (hs : ∀ y ∈ ls, y.length ≤ 2 ^ 20) (h1 : dueR 0 [] (ls.map rowOf) = none → ∀ σ', σ.Sub σ' → σ'.loc = σ.loc → Q .none σ')
   (h2 : ∀ e P, dueR 0 [] (ls.map rowOf) = some (e, P) → ∀ σ' o f, σ.Sub σ' → σ'.loc = σ.loc → σ'.hp o = some (.list ((outsP P).map prA)) → σ'.hp f = some (.list ((freesP P).map prA)) → Q (.tup [.int e, .ref o, .ref f]) σ') : A_ldue Q l σ
inductive A_num (K : Frag) (E : Value → AS → Prop) (Q : AV → AS → Prop) (l : List AV) (σ : AS) : Prop
 | mk (x : Str) (hl : l = [.str x]) (hz : x.length ≤ 2 ^ 20) (h1 : numOf x = none → Exc K E "NoNote" σ) (h2 : ∀ i, numOf x = some i → Q (.int i) σ) : A_num K E Q l σ
noncomputable def pcA (p : Pc) : AV := .tup [.int p.1, .int p.2.1, .str (if p.2.2 then wOut else wFree)]
noncomputable def rowsIn (x : Str) : List (Option Pc) := (Txt.split x (Str.ofString "\n")).map rowOf
inductive A_pieces (K : Frag) (E : Value → AS → Prop) (Q : AV → AS → Prop) (l : List AV) (σ : AS) : Prop
 | mk (x : Str) (hl : l = [.str x]) (hz : x.length ≤ 2 ^ 20) (h1 : parseR 0 (rowsIn x) = none → Exc K E "NoNote" σ) (h2 : ∀ P, parseR 0 (rowsIn x) = some P → ∀ σ' z, σ.Sub σ' → σ'.loc = σ.loc → σ'.hp z = some (.list (P.map pcA)) → Q (.ref z) σ') : A_pieces K E Q l σ
inductive A_read (K : Frag) (E : Value → AS → Prop) (Q : AV → AS → Prop) (l : List AV) (σ : AS) : Prop
 | mk (x : Str) (hl : l = [.str x]) (hz : x.length ≤ 24000) (h1 : dueR 0 [] (rowsIn x) = none → Exc K E "NoNote" σ)
   (h2 : ∀ k P, dueR 0 [] (rowsIn x) = some (2 ^ k, P) → ∀ (t : BT k) σ' y C dx S H, pcs true 0 t = outsP P → pcs false 0 t = freesP P → σ.Sub σ' → σ'.loc = σ.loc → Yd K σ' y k t C dx S H (freesP P) (outsP P) → σ.hp y = none → σ.hp dx = none → σ.hp S = none → σ.hp H = none → Q (.ref y) σ') : A_read K E Q l σ
inductive A_lref (Q : AV → AS → Prop) (l : List AV) (σ : AS) : Prop
 | mk (x : Str) (hl : l = [.str x]) (hz : x.length ≤ 24000) (h1 : dueR 0 [] (rowsIn x) = none) (hq : Q (.bool true) σ) : A_lref Q l σ
theorem ex_str {x : Str} {P : Str → Prop} (h : P x) : ∃ y, AV.str x = AV.str y ∧ P y := ⟨x, rfl, h⟩
theorem ite_beqs {a b : Str} {X Y : Prop} (h1 : a = b → X) (h0 : a ≠ b → Y) : if (a == b) = true then X else Y := by
 by_cases q : a = b
 ·rw [if_pos (by rw [q]; exact beq_self_eq_true b)]; exact h1 q
 ·rw [if_neg (by rw [beq_eq_false_iff_ne.mpr q]; decide)]; exact h0 q
theorem v_split {o : Expr} {apos : Pos} {args : List Expr} (hbase : ∀ env, attributeBase o (Str.ofString "split") env (eval o env) = eval o env)
  (hfew : ∀ env, ((backTo pos (starEach args env)).all (fun x => !x.1) && (backToKw pos (keywordEach [] env)).all (fun x => x.1.isSome) && decide (args.length + ([] : List Keyword).length + (if ([] : List Keyword).isEmpty then 0 else 1) < 30)) = true)
  (hline : (apos.endLine == pos.line) = true) (hpl : ∀ env, (backTo pos (starEach args env)).any (·.1) = false)
  (h : WEv prog w cx o σ (fun a σ₁ => ∃ x, a = .str x ∧ WAr prog w cx pos args σ₁ (fun l σ₂ => WCl prog w cx (.builtin "str.split") (.str x :: l) σ₂ Q E) E) E) : WEv prog w cx (.Call (.Attribute o (Str.ofString "split") apos) args [] pos) σ Q E :=
 v_meths hbase hfew hline hpl (h.imp (fun a σ₁ ⟨x, ha, q⟩ => by subst ha; exact meth_split q) fun ux ux e => e)
theorem v_join {o : Expr} {apos : Pos} {args : List Expr} (hbase : ∀ env, attributeBase o (Str.ofString "join") env (eval o env) = eval o env)
  (hfew : ∀ env, ((backTo pos (starEach args env)).all (fun x => !x.1) && (backToKw pos (keywordEach [] env)).all (fun x => x.1.isSome) && decide (args.length + ([] : List Keyword).length + (if ([] : List Keyword).isEmpty then 0 else 1) < 30)) = true)
  (hline : (apos.endLine == pos.line) = true) (hpl : ∀ env, (backTo pos (starEach args env)).any (·.1) = false)
  (h : WEv prog w cx o σ (fun a σ₁ => ∃ x, a = .str x ∧ WAr prog w cx pos args σ₁ (fun l σ₂ => WCl prog w cx (.builtin "str.join") (.str x :: l) σ₂ Q E) E) E) : WEv prog w cx (.Call (.Attribute o (Str.ofString "join") apos) args [] pos) σ Q E :=
 v_meths hbase hfew hline hpl (h.imp (fun a σ₁ ⟨x, ha, q⟩ => by subst ha; exact meth_join q) fun ux ux e => e)
theorem sub_strs {value slice : Expr} {x : Addr} {ls : List Str} {i : Int} (hl : σ.lst x (ls.map AV.str)) (hlo : 0 ≤ i) (hhi : i < ls.length) (hz : ls.length ≤ sizeLine) (h : ∀ y, ls[i.toNat]? = some y → Q (.str y) σ)
  (hs : ∀ o i, subscripted slice false o i = operate [o, i] (getItem o i)) : WOp2 prog w cx (subscriptTail value slice) (.ref x) (.int i) σ Q E := by
 have lt : i.toNat < ls.length := by lia
 exact sub_list' hl hlo (by have : sizeLine = 2 ^ 24 := rfl; lia) (a := .str ls[i.toNat]) (by rw [List.getElem?_map, List.getElem?_eq_getElem lt]; rfl) (h _ (List.getElem?_eq_getElem lt)) hs
theorem sub_str0 {value slice : Expr} {x : Str} (hx : x.length ≠ 0) (h : ∀ c, x.cps[0]? = some c → Q (.str ⟨#[c]⟩) σ) (hs : ∀ o i, subscripted slice false o i = operate [o, i] (getItem o i)) : WOp2 prog w cx (subscriptTail value slice) (.str x) (.int 0) σ Q E := by
 have lt : 0 < x.cps.size := Nat.pos_of_ne_zero hx
 exact sub_str (k := 0) (c := x.cps[0]) (by decide) (by decide) (StrLaws.seqIndex_nonneg (by decide) (by exact_mod_cast lt)) (Array.getElem?_eq_getElem lt) (h _ (Array.getElem?_eq_getElem lt)) hs
theorem log_lt {a : Int} (h0 : 0 ≤ a) (h1 : a < 10 ^ 19) : a.natAbs.log2 < 1920 := by
 by_cases q : a.natAbs = 0
 ·rw [q]; decide
 ·exact Nat.lt_of_lt_of_le ((Nat.log2_lt q).mpr (show a.natAbs < 2 ^ 64 by lia)) (by decide)
theorem op_addsF {x y : Str} (hl : x.length + y.length ≤ 300) (h : ∀ z : Str, z.length = x.length + y.length → Q (.str z) σ) : WOp2 prog w cx (binaryOp .Add) (.str x) (.str y) σ Q E := op_adds (by lia) (h _ (Str.length_append x y))
theorem cl_strF {a : Int} (h0 : 0 ≤ a) (h1 : a < 10 ^ 19) (h : ∀ z : Str, z.length ≤ 19 → Q (.str z) σ) : WCl prog w cx (.type "str") [.int a] σ Q E :=
 cl_str (log_lt h0 h1) (h _ (int_str h0 h1).2)
end
theorem endP_snoc {P : List Pc} {p : Pc} : endP 0 (P ++ [p]) = endP 0 P + p.2.1 := by rw [endP_append]; rfl
noncomputable def ParseAt (rows : List (Option Pc)) (P : List Pc) (i : Nat) : Prop := parseR 0 rows = (parseR (endP 0 P) (rows.drop i)).map (P ++ ·)
theorem drop_at {α : Type} {l : List α} {i : Nat} {r : α} (h : l[i]? = some r) : l.drop i = r :: l.drop (i + 1) := by
 obtain ⟨h1, h2⟩ := List.getElem?_eq_some_iff.mp h
 rw [← h2, List.drop_eq_getElem_cons h1]
theorem ParseAt.zero {rows : List (Option Pc)} : ParseAt rows [] 0 := by
 show parseR 0 rows = (parseR 0 rows).map (fun l => l)
 cases parseR 0 rows <;> rfl
theorem ParseAt.bad {rows : List (Option Pc)} {P : List Pc} {i : Nat} {r : Option Pc} (h : ParseAt rows P i) (hr : rows[i]? = some r) (hb : ∀ p, r = some p → okR (endP 0 P) p ≠ true) : parseR 0 rows = none := by
 unfold ParseAt at h
 rw [h, drop_at hr]
 cases r with
 | none => rfl
 | some p => unfold parseR; rw [if_neg (hb p rfl)]; rfl
theorem ParseAt.next {rows : List (Option Pc)} {P : List Pc} {i : Nat} {p : Pc} (h : ParseAt rows P i) (hr : rows[i]? = some (some p)) (ok : okR (endP 0 P) p = true) : ParseAt rows (P ++ [p]) (i + 1) := by
 unfold ParseAt at h ⊢
 rw [h, drop_at hr]
 rw [parseR, if_pos ok, endP_snoc]
 cases parseR (endP 0 P + p.2.1) (rows.drop (i + 1)) with
 | none => rfl
 | some Q => simp
theorem ParseAt.last {rows : List (Option Pc)} {P : List Pc} {i : Nat} (h : ParseAt rows P i) (hi : rows.length ≤ i) : parseR 0 rows = some P := by
 unfold ParseAt at h
 rw [h, List.drop_of_length_le hi]
 show some (P ++ []) = some P
 rw [List.append_nil]
noncomputable def DueAt (rows : List (Option Pc)) (P : List Pc) (i : Nat) : Prop := dueR 0 [] rows = dueR (endP 0 P) P (rows.drop i)
theorem DueAt.bad {rows : List (Option Pc)} {P : List Pc} {i : Nat} {r : Option Pc} (h : DueAt rows P i) (hr : rows[i]? = some r) (hb : ∀ p, r = some p → okR (endP 0 P) p ≠ true) : dueR 0 [] rows = none := by
 unfold DueAt at h
 rw [h, drop_at hr]
 cases r with
 | none => rfl
 | some p => unfold dueR; rw [if_neg (hb p rfl)]
theorem DueAt.twin {rows : List (Option Pc)} {P : List Pc} {i : Nat} {p : Pc} (h : DueAt rows P i) (hr : rows[i]? = some (some p)) (ok : okR (endP 0 P) p = true) (ht : twn (freesP P) p = true) : dueR 0 [] rows = none := by
 unfold DueAt at h
 rw [h, drop_at hr, dueR, if_pos ok, if_pos ht]
theorem DueAt.next {rows : List (Option Pc)} {P : List Pc} {i : Nat} {p : Pc} (h : DueAt rows P i) (hr : rows[i]? = some (some p)) (ok : okR (endP 0 P) p = true) (ht : twn (freesP P) p ≠ true) : DueAt rows (P ++ [p]) (i + 1) := by
 unfold DueAt at h ⊢
 rw [h, drop_at hr, dueR, if_pos ok, if_neg ht, endP_snoc]
theorem DueAt.last {rows : List (Option Pc)} {P : List Pc} {i : Nat} (h : DueAt rows P i) (hi : rows.length ≤ i) : dueR 0 [] rows = if isP (endP 0 P) = true then some (endP 0 P, P) else none := by
 unfold DueAt at h
 rw [h, List.drop_of_length_le hi, dueR]
theorem fit_isP {v : Int} {e : Nat} (h : Fit v e) : isP v = true ↔ (2 : Int) ^ e = v := by
 rw [isP_iff, fit_pow h]
 constructor
 ·rintro ⟨m, _, q⟩; exact ⟨m, q⟩
 ·rintro ⟨m, q⟩
  refine ⟨m, ?_, q⟩
  have := fit_unique (q ▸ h)
  have h1 := h.1
  lia
theorem out_isP {v : Int} (h : v < 1 ∨ 2 ^ 60 < v) : isP v ≠ true := fun q => by
 obtain ⟨e, he, rfl⟩ := isP_iff.mp q
 have h1 := pow_pos e
 have h2 := pow_le he
 lia
section
variable {prog : Program} {w : World} {K : Frag} {cx : CX} {sc : Scope} {n : Nat} {σ σ' : AS} {Q : AV → AS → Prop} {QB : Bool → AS → Prop} {QF : AF → AS → Prop} {E : Value → AS → Prop} {pos : Pos}
inductive PcI (σ₀ : AS) (x : Str) (F D : Addr) (i : Nat) (σ : AS) : Prop
 | mk (P : List Pc) (hF : σ.hp F = some (.list (P.map pcA))) (hD : σ.hp D = some (.list ((Txt.split x (Str.ofString "\n")).map AV.str))) (lf : σ.loc (Str.ofString "found") = some (.ref F)) (lh : σ.loc (Str.ofString "here") = some (.int (endP 0 P))) (hP : P.length = i) (hp : ParseAt (rowsIn x) P i) (sub : σ₀.Sub σ) : PcI σ₀ x F D i σ
theorem PcI.at {σ₀ : AS} {x : Str} {F D : Addr} {i : Nat} (h : PcI σ₀ x F D i σ) : σ.hp D = some (.list ((Txt.split x (Str.ofString "\n")).map AV.str)) := let ⟨_, _, hD, _, _, _, _, _⟩ := h; hD
theorem str_item {ls : List Str} {i : Nat} {a : AV} (h : (ls.map AV.str)[i]? = some a) : ∃ x, ls[i]? = some x ∧ a = .str x := by
 rw [List.getElem?_map] at h
 obtain ⟨p, hp, rfl⟩ := Option.map_eq_some_iff.mp h
 exact ⟨p, hp, rfl⟩
theorem rows_at {x y : Str} {i : Nat} (h : (Txt.split x (Str.ofString "\n"))[i]? = some y) : (rowsIn x)[i]? = some (rowOf y) := by unfold rowsIn; rw [List.getElem?_map, h]; rfl
noncomputable def trA (p : Pc) : AV × AV × AV := (.int p.1, .int p.2.1, .str (if p.2.2 then wOut else wFree))
theorem pcA_eq {P : List Pc} : P.map pcA = (P.map trA).map fun p => .tup [p.1, p.2.1, p.2.2] := by rw [List.map_map]; rfl
inductive RdI (σ₀ : AS) (P : List Pc) (z S H : Addr) (i : Nat) (σ : AS) : Prop
 | mk (hz : σ.hp z = some (.list (P.map pcA))) (hS : σ.hp S = some (.dict (freesP (P.take i)))) (hH : σ.hp H = some (.dict (outsP (P.take i)))) (nSH : S ≠ H) (nS : σ₀.hp S = none) (nH : σ₀.hp H = none) (ls : σ.loc (Str.ofString "spare") = some (.ref S)) (lh : σ.loc (Str.ofString "held") = some (.ref H)) (lc : σ.loc (Str.ofString "cells") = some (.int (endP 0 P))) (sub : σ₀.Sub σ) : RdI σ₀ P z S H i σ
theorem frees_len {P : List Pc} : (freesP P).length ≤ P.length := by unfold freesP; rw [List.length_map]; exact List.length_filter_le _ _
theorem outs_len {P : List Pc} : (outsP P).length ≤ P.length := by unfold outsP; rw [List.length_map]; exact List.length_filter_le _ _
theorem chn_take {P : List Pc} {h : Int} (c : Chn h P) (i : Nat) : Chn h (P.take i) := by
 have := Chn.append.mp (show Chn h (P.take i ++ P.drop i) by rw [List.take_append_drop]; exact c)
 exact this.1
theorem take_next {α : Type} {l : List α} {i : Nat} {a : α} (h : l[i]? = some a) : l.take (i + 1) = l.take i ++ [a] := by rw [List.take_add_one, h]; rfl
inductive DuI (σ₀ : AS) (ls : List Str) (z o f : Addr) (i : Nat) (σ : AS) : Prop
 | mk (P : List Pc) (hz : σ.hp z = some (.list (ls.map AV.str))) (ho : σ.hp o = some (.list ((outsP P).map prA))) (hf : σ.hp f = some (.list ((freesP P).map prA))) (nof : o ≠ f) (no : σ₀.hp o = none) (nf : σ₀.hp f = none) (lo : σ.loc (Str.ofString "_law_out") = some (.ref o)) (lf : σ.loc (Str.ofString "_law_free") = some (.ref f)) (lb : σ.loc (Str.ofString "_law_behind") = some (.int (endP 0 P))) (hP : P.length = i) (c : Chn 0 P) (hp : DueAt (ls.map rowOf) P i) (sub : σ₀.Sub σ) : DuI σ₀ ls z o f i σ
theorem DuI.at {σ₀ : AS} {ls : List Str} {z o f : Addr} {i : Nat} (h : DuI σ₀ ls z o f i σ) : σ.hp z = some (.list (ls.map AV.str)) := let ⟨_, hz, _, _, _, _, _, _, _, _, _, _, _, _⟩ := h; hz
theorem RdI.at {σ₀ : AS} {P : List Pc} {z S H : Addr} {i : Nat} (h : RdI σ₀ P z S H i σ) : σ.hp z = some (.list (P.map pcA)) := let ⟨hz, _, _, _, _, _, _, _, _, _⟩ := h; hz
end
theorem tr_item {P : List Pc} {i : Nat} {p : AV × AV × AV} (h : (P.map trA)[i]? = some p) : ∃ q, P[i]? = some q ∧ p = trA q := by
 rw [List.getElem?_map] at h
 obtain ⟨q, hq, rfl⟩ := Option.map_eq_some_iff.mp h
 exact ⟨q, hq, rfl⟩
theorem putA_yard {k : Nat} {S H S' H' : Addr} : putA (putA (yardAt k S' H') (Str.ofString "spare") (.ref S)) (Str.ofString "held") (.ref H) = yardAt k S H := by
 with_unfolding_all rfl
theorem put_sub {σ₀ σ : AS} {p : Addr} {o : AO} (s : σ₀.Sub σ) (h : σ₀.hp p = none) : σ₀.Sub (σ.put p o) := fun a b e => put_ne (fun q => by subst q; rw [h] at e; cases e) (s a b e)
theorem none_of_sub {σ σ' : AS} {a : Addr} (s : σ.Sub σ') (h : σ'.hp a = none) : σ.hp a = none := by
 cases q : σ.hp a with
 | none => rfl
 | some o => rw [s _ _ q] at h; cases h
theorem twin_next {f : List (Int × Int)} {c : Int} {i : Nat} {p : Int × Int} (h : ∀ q ∈ f.take i, ¬ Twin f c q) (hp : f[i]? = some p) (hn : ¬ Twin f c p) : ∀ q ∈ f.take (i + 1), ¬ Twin f c q := fun q hq => by
 rw [take_next hp] at hq
 rcases List.mem_append.mp hq with w | w
 ·exact h q w
 ·rw [List.mem_singleton.mp w]; exact hn
theorem pcA_z {a s : Int} {z : Str} (h : z = wOut ∨ z = wFree) : pcA (a, s, decide (z = wOut)) = .tup [.int a, .int s, .str z] := by
 unfold pcA
 rcases h with rfl | rfl
 ·rfl
 ·rfl
theorem okR_of {h a s : Int} {b : Bool} {e : Nat} (h1 : a = h) (he : Fit s e) (h2 : (2 : Int) ^ e = s) (h3 : a % s = 0) : okR h (a, s, b) = true :=
 okR_iff.mpr ⟨h1, e, he.1, h2.symm, by rw [h2]; exact h3⟩
theorem okR_at {h : Int} {p : Pc} (q : p.1 ≠ h) : okR h p ≠ true := fun w => q (okR_iff.mp w).1
theorem okR_out {h : Int} {p : Pc} (q : isP p.2.1 ≠ true) : okR h p ≠ true := fun w => q (by obtain ⟨_, e, he, e2, _⟩ := okR_iff.mp w; exact isP_iff.mpr ⟨e, he, e2⟩)
theorem okR_mod {h : Int} {p : Pc} (q : p.1 % p.2.1 ≠ 0) : okR h p ≠ true := fun w => q (by obtain ⟨_, e, he, e2, e3⟩ := okR_iff.mp w; rw [e2]; exact e3)
theorem str_len0 {x : Str} (h : x ≠ Str.ofString "") : x.length ≠ 0 := fun q => h (str_ext (by
 have e : x.cps.toList.length = 0 := by rw [Array.length_toList]; exact q
 rw [List.length_eq_zero_iff.mp e]
 rfl))
theorem sign0 {c : Nat} : (⟨#[c]⟩ : Str) = Str.ofString "0" ↔ c = 48 := by
 rw [show Str.ofString "0" = ⟨#[48]⟩ by decide]
 constructor
 ·intro h; injection h with h; simpa using h
 ·rintro rfl; rfl
section
variable {prog : Program} {w : World} {K : Frag} {cx : CX} {sc : Scope} {n : Nat} {σ σ' : AS} {Q : AV → AS → Prop} {QB : Bool → AS → Prop} {QF : AF → AS → Prop} {E : Value → AS → Prop} {pos : Pos}
theorem fge {C : Value} (s : σ.Sub σ') (h : E C σ) : FgtE E σ.loc C σ' := ⟨σ, ⟨fun ux ux e => e, s⟩, h⟩
inductive HvI (σ₀ : AS) (x : Addr) (i : Nat) (σ : AS) : Prop
 | mk (z : Addr) (ps : List (Int × Int)) (hz : σ.hp z = some (.list (ps.map prA))) (ho : PsOk (1 + i) (2 ^ 60) ps) (lz : σ.loc (Str.ofString "_law_pieces") = some (.ref z)) (ls : σ.loc (Str.ofString "_law_script") = some (.ref x)) (sub : σ₀.Sub σ) : HvI σ₀ x i σ
inductive RwI (σ₀ : AS) (N : Nat) (B : Int) (c : Int) (σ : AS) : Prop
 | mk (z : Addr) (ms : List Int) (hz : σ.hp z = some (.list (ms.map AV.int))) (ho : SzOk N B ms) (lz : σ.loc (Str.ofString "_law_sizes") = some (.ref z)) (lc : σ.loc (Str.ofString "_law_cell") = some (.int c)) (sub : σ₀.Sub σ) : RwI σ₀ N B c σ
inductive RfI (σ₀ : AS) (z F : Addr) (ms : List Int) (i : Nat) (σ : AS) : Prop
 | mk (hz : σ.hp z = some (.list (ms.map AV.int))) (hF : σ.hp F = some (.list ((rowsOf 0 (ms.take i)).map prA))) (lf : σ.loc (Str.ofString "_law_found") = some (.ref F)) (lb : σ.loc (Str.ofString "_law_behind") = some (.int (ms.take i).sum)) (sub : σ₀.Sub σ) : RfI σ₀ z F ms i σ
inductive LnI (σ₀ : AS) (x y L : Addr) (i : Nat) (σ : AS) : Prop
 | mk (ls : List Str) (hL : σ.hp L = some (.list (ls.map AV.str))) (hl : ls.length = i) (ok : ∀ a ∈ ls, LineOk a) (ll : σ.loc (Str.ofString "_law_lines_here") = some (.ref L)) (lx : σ.loc (Str.ofString "_law_script") = some (.ref x)) (ly : σ.loc (Str.ofString "_law_pieces") = some (.ref y)) (sub : σ₀.Sub σ) : LnI σ₀ x y L i σ
inductive LwI (σ₀ : AS) (x y L : Addr) (i : Nat) (z : Str) (σ : AS) : Prop
 | mk (h : LnI σ₀ x y L i σ) (hz : z = wOut ∨ z = wFree) (lw : σ.loc (Str.ofString "_law_word") = some (.str z)) (lk : σ.loc (Str.ofString "_law_k") = some (.int i)) : LwI σ₀ x y L i z σ
inductive OtI (σ₀ : AS) (x : Str) (a s : Int) (z : Str) (m : Nat) (σ : AS) : Prop
 | mk (W Z : Addr) (ls : List Str) (hW : σ.hp W = some (.list [.str (Str.ofString (toString a)), .str (Str.ofString (toString s)), .str z])) (hZ : σ.hp Z = some (.list (ls.map AV.str))) (lens : ∀ y ∈ ls, y.length ≤ 300) (ne : ls ≠ []) (cnt : ls.length ≤ m)
   (lw : σ.loc (Str.ofString "_law_words") = some (.ref W)) (lz : σ.loc (Str.ofString "_law_others_here") = some (.ref Z)) (lx : σ.loc (Str.ofString "_law_line") = some (.str x)) (la : σ.loc (Str.ofString "_law_at") = some (.int a)) (lsz : σ.loc (Str.ofString "_law_size") = some (.int s)) (sub : σ₀.Sub σ) : OtI σ₀ x a s z m σ
theorem ps_one {m : Nat} (h : m ≤ 60) : PsOk (1 + 0) (2 ^ 60) [(0, 2 ^ m)] := by
 have h0 := pow_pos m
 have h1 := pow_le h
 refine ⟨by simp, by simp, fun p hp => ?_, ?_⟩
 ·rw [List.mem_singleton.mp hp]; simp only; lia
 ·show 2 ^ m + 0 ≤ _; lia
theorem halve_list {ps : List (Int × Int)} {j : Int} {p : Int × Int} (h0 : 0 ≤ j) (h1 : j < ps.length) : ((ps.map prA).take (clipAt (ps.map prA).length j) ++ [AV.tup [.int p.1, .int (p.2 / 2)], .tup [.int (p.1 + p.2 / 2), .int (p.2 / 2)]]) ++ (ps.map prA).drop (clipAt (ps.map prA).length (j + 1)) = (ps.take j.toNat ++ [(p.1, p.2 / 2), (p.1 + p.2 / 2, p.2 / 2)] ++ ps.drop (j.toNat + 1)).map prA := by
 rw [List.length_map, clip_in h0 (by lia), clip_in (by lia) (by lia), show (j + 1).toNat = j.toNat + 1 by lia, ← List.map_take, ← List.map_drop, List.map_append, List.map_append]
 rfl
theorem turn_list {α : Type} {ms : List α} {f : α → AV} {j : Int} (h0 : 0 ≤ j) (h1 : j ≤ ms.length) : (ms.map f).drop (clipAt (ms.map f).length j) ++ (ms.map f).take (clipAt (ms.map f).length j) = (ms.drop j.toNat ++ ms.take j.toNat).map f := by
 rw [List.length_map, clip_in h0 (by lia), ← List.map_take, ← List.map_drop, List.map_append]
theorem lens_snoc {ls us : List Str} {B : Nat} (h : ∀ y ∈ ls, y.length ≤ B) (h' : ∀ y ∈ us, y.length ≤ B) : ∀ y ∈ ls ++ us, y.length ≤ B := fun y hy => (List.mem_append.mp hy).elim (h y) (h' y)
theorem lens_cons {a : Str} {us : List Str} {B : Nat} (h : a.length ≤ B) (h' : ∀ y ∈ us, y.length ≤ B) : ∀ y ∈ a :: us, y.length ≤ B := fun y hy => (List.mem_cons.mp hy).elim (fun q => q ▸ h) (h' y)
theorem sub_w0 {value slice : Expr} {x : Addr} {a b c : AV} (hx : σ.lst x [a, b, c]) (h : Q a σ) (hs : ∀ o i, subscripted slice false o i = operate [o, i] (getItem o i)) : WOp2 prog w cx (subscriptTail value slice) (.ref x) (.int 0) σ Q E := sub_list' hx (by decide) (by decide) rfl h hs
theorem sub_w1 {value slice : Expr} {x : Addr} {a b c : AV} (hx : σ.lst x [a, b, c]) (h : Q b σ) (hs : ∀ o i, subscripted slice false o i = operate [o, i] (getItem o i)) : WOp2 prog w cx (subscriptTail value slice) (.ref x) (.int 1) σ Q E := sub_list' hx (by decide) (by decide) rfl h hs
theorem sub_w2 {value slice : Expr} {x : Addr} {a b c : AV} (hx : σ.lst x [a, b, c]) (h : Q c σ) (hs : ∀ o i, subscripted slice false o i = operate [o, i] (getItem o i)) : WOp2 prog w cx (subscriptTail value slice) (.ref x) (.int 2) σ Q E := sub_list' hx (by decide) (by decide) rfl h hs
theorem op_addsC {x y : Str} (hx : x.length ≤ 30) (hl : y.length ≤ 250) (h : ∀ z : Str, z.length ≤ 30 + y.length → Q (.str z) σ) : WOp2 prog w cx (binaryOp .Add) (.str x) (.str y) σ Q E := op_adds (by lia) (h _ (by rw [Str.length_append]; lia))
theorem op_addsD {x y : Str} (hy : y.length ≤ 30) (hl : x.length ≤ 250) (h : ∀ z : Str, z.length ≤ x.length + 30 → Q (.str z) σ) : WOp2 prog w cx (binaryOp .Add) (.str x) (.str y) σ Q E := op_adds (by lia) (h _ (by rw [Str.length_append]; lia))
inductive StrsB (B : Nat) : List AV → Prop
 | nil : StrsB B []
 | cons {x : Str} {l : List AV} (h : x.length ≤ B) (t : StrsB B l) : StrsB B (.str x :: l)
theorem StrsB.ex {B : Nat} {us : List AV} (h : StrsB B us) : ∃ ls : List Str, us = ls.map AV.str ∧ ls.length = us.length ∧ ∀ y ∈ ls, y.length ≤ B := by
 induction h with
 | nil => exact ⟨[], rfl, rfl, fun ux q => (nomatch q)⟩
 | cons h _ ih =>
  obtain ⟨ls, rfl, h2, h3⟩ := ih
  exact ⟨_ :: ls, rfl, by rw [List.length_cons, List.length_cons, h2], lens_cons h h3⟩
theorem op_addlS {x y : Addr} {ls : List Str} {us : List AV} {B : Nat} (hx : σ.lst x (ls.map AV.str)) (hy : σ.lst y us) (hu : StrsB B us) (hz : ls.length + us.length ≤ sizeLine) (h : ∀ z (ls' : List Str), ls'.length = us.length → (∀ y ∈ ls', y.length ≤ B) → σ.hp z = none → Q (.ref z) (σ.put z (.list ((ls ++ ls').map AV.str)))) : WOp2 prog w cx (binaryOp .Add) (.ref x) (.ref y) σ Q E := by
 obtain ⟨ls', e, h2, h3⟩ := hu.ex
 refine op_addl hx hy (by rw [List.length_map]; exact hz) fun z hz' => ?_
 rw [e, ← List.map_append]
 exact h z ls' h2 h3 hz'
theorem OtI.of {σ₀ : AS} {x : Str} {a s : Int} {z : Str} {m : Nat} {W Z : Addr} {us : List AV} (hW : σ.hp W = some (.list [.str (Str.ofString (toString a)), .str (Str.ofString (toString s)), .str z])) (hZ : σ.hp Z = some (.list us)) (hu : StrsB 300 us) (ne : us ≠ []) (cnt : us.length ≤ m)
  (lw : σ.loc (Str.ofString "_law_words") = some (.ref W)) (lz : σ.loc (Str.ofString "_law_others_here") = some (.ref Z)) (lx : σ.loc (Str.ofString "_law_line") = some (.str x)) (la : σ.loc (Str.ofString "_law_at") = some (.int a)) (lsz : σ.loc (Str.ofString "_law_size") = some (.int s)) (sub : σ₀.Sub σ) : OtI σ₀ x a s z m σ := by
 obtain ⟨ls, rfl, h2, h3⟩ := hu.ex
 exact ⟨W, Z, ls, hW, hZ, h3, fun q => ne (by rw [q]; rfl), by rw [h2]; exact cnt, lw, lz, lx, la, lsz, sub⟩
theorem v_cut1 {value : Expr} {k : Nat} {p p1 p2 : Pos} (h : WEv prog w cx value σ (fun a σ₁ => ∃ x, a = .str x ∧ 0 < x.length ∧ x.length ≤ 2 ^ 20 ∧ ∀ z : Str, z.length ≤ x.length → Q (.str z) σ₁) E) :
  WEv prog w cx (.Subscript value (.Slice none (some (.UnaryOp .USub (.Constant (.int 1) k p1) p2)) none p) pos) σ Q E := fun s r => by
 refine Subscript_ (wpAny_mono (h s r) (fun va s₁ zz => ?_) fun ux ux e => e)
 obtain ⟨a, σ₁, r₁, v₁, m₁, x, rfl, hx0, hx, q⟩ := zz
 obtain ⟨t, rfl⟩ := v₁
 refine wpAny_Slice ?_
 rw [evalPart_none, evalPart_some]
 refine wpAny_pure ?_
 have neg : WEv prog w cx (.UnaryOp .USub (.Constant (.int 1) k p1) p2) σ₁ (fun v σ' => v = .int (-1) ∧ σ' = σ₁) E := k_un (ev_int (ku (op_neg ⟨rfl, rfl⟩)))
 refine wpAny_mono (neg s₁ r₁) (fun vc s₃ zz => zz.use fun c σ₃ r₃ v₃ m₃ ⟨hc, hσ⟩ => ?_) fun ux ux e => e.mono m₁
 subst hc hσ
 obtain ⟨t3, rfl⟩ := v₃
 refine wpAny_pure ?_
 have k1 : ∀ b o, s₃.heap.get? b = some o → (s₃.heap.push { cls := .type "slice", data := .fields #[.none, .int (-1) t3, .none] }).get? b = some o := fun b o e => Heap.get?_push_of_some _ e
 have r₄ := r₃.grow (tk := s₃.toks) k1
 have vm := (m₁.trans m₃).trans (VM.of_keeps k1)
 refine subTail_any (typeIs_str _ x t) PySem.F.slot_str_getitem.lookup (wpAny_getItem_str_slice (l := none) (u := some (-1, t3)) (st := none) ⟨_, Heap.get?_push_size _ rfl, rfl, rfl⟩ rfl ?_) (ops := [.ref s₃.heap.objs.size, .str x t]) rfl
 unfold sliceMade
 split
 ·exact ⟨.str x, σ₃, r₄, vr_str, vm, q x (Nat.le_refl _)⟩
 ·rename_i hn
  have e : (⟨((slicePicked x none (some (-1, t3)) none).filterMap (x.cps[·]?)).toArray⟩ : Str) = StrLaws.sliceText x none (some (-1)) := by
   unfold StrLaws.sliceText
   exact (if_neg hn).symm
  have hl : (⟨((slicePicked x none (some (-1, t3)) none).filterMap (x.cps[·]?)).toArray⟩ : Str).length ≤ x.length := by
   rw [e, StrLaws.sliceText_to_neg (by decide) (by lia)]
   show (List.toArray _).size ≤ _
   rw [List.size_toArray, List.length_take, List.length_drop]
   exact Nat.le_trans (Nat.min_le_right _ _) (by rw [Array.length_toList]; exact Nat.le_refl _)
  exact ⟨by have : sizeLine = 2 ^ 24 := rfl; lia, ⟨.str _, σ₃, r₄.tok, vr_str, vm, q _ hl⟩⟩
end
theorem isP_half {u : Int} (h : u % 2 = 0) (h1 : 1 ≤ u) (h2 : u ≤ 2 ^ 60) : isP u = isP (u / 2) := by
 apply Bool.eq_iff_iff.mpr
 rw [isP_iff, isP_iff]
 constructor
 ·rintro ⟨e, he, rfl⟩
  cases e with
  | zero => simp at h
  | succ e => exact ⟨e, by lia, half_pow e⟩
 ·rintro ⟨e, he, q⟩
  have hu : u = 2 ^ (e + 1) := by rw [pow_succ']; lia
  refine ⟨e + 1, ?_, hu⟩
  exact pow_le_iff.mp (by rw [← hu]; exact h2)
theorem isP_odd {u : Int} (h : u % 2 ≠ 0) (h1 : 1 ≤ u) : isP u = (u == 1) := by
 apply Bool.eq_iff_iff.mpr
 rw [isP_iff, beq_iff_eq]
 constructor
 ·rintro ⟨e, he, rfl⟩
  cases e with
  | zero => rfl
  | succ e => exact absurd (by rw [pow_succ']; lia) h
 ·rintro rfl; exact ⟨0, by decide, rfl⟩
theorem isP_out {v : Int} (h : v < 1 ∨ 2 ^ 60 < v) : isP v = false := Bool.eq_false_iff.mpr (out_isP h)
theorem isP_pos {v : Int} (h : isP v = true) : 0 < v := by
 obtain ⟨e, _, rfl⟩ := isP_iff.mp h
 exact pow_pos e
theorem okR_is {h a s : Int} {b : Bool} (h1 : a = h) (h2 : isP s = true) (h3 : a % s = 0) : okR h (a, s, b) = true := by
 obtain ⟨e, he, q⟩ := isP_iff.mp h2
 exact okR_iff.mpr ⟨h1, e, he, q, by rw [← q]; exact h3⟩
theorem due_bad1 {ls : List Str} {P : List Pc} {i : Nat} {y u v z : Str} (h : DueAt (ls.map rowOf) P i) (c : Chn 0 P) (hy : ls[i]? = some y) (e : Txt.split y (Str.ofString " ") = [u, v, z]) (hz : z = wOut ∨ z = wFree)
  (hb : (numOf u).getD (-1) ≠ endP 0 P ∨ isP ((numOf v).getD (-1)) ≠ true ∨ (numOf u).getD (-1) % (numOf v).getD (-1) ≠ 0) : dueR 0 [] (ls.map rowOf) = none := by
 refine h.bad (by rw [List.getElem?_map, hy]; rfl) fun p hp => ?_
 cases h1 : numOf u with
 | none => rw [row_num1 e h1] at hp; cases hp
 | some a =>
  cases h2 : numOf v with
  | none => rw [row_num2 e h2] at hp; cases hp
  | some s =>
   rw [row_some e hz h1 h2] at hp
   cases hp
   rw [h1, h2] at hb
   rcases hb with w | w | w
   ·exact okR_at w
   ·exact okR_out w
   ·exact okR_mod w
theorem due_row {P : List Pc} {y u v z : Str} (c : Chn 0 P) (e : Txt.split y (Str.ofString " ") = [u, v, z]) (hz : z = wOut ∨ z = wFree)
  (h1 : (numOf u).getD (-1) = endP 0 P) (h2 : isP ((numOf v).getD (-1)) = true) (h3 : (numOf u).getD (-1) % (numOf v).getD (-1) = 0) : rowOf y = some ((numOf u).getD (-1), (numOf v).getD (-1), decide (z = wOut)) ∧ okR (endP 0 P) ((numOf u).getD (-1), (numOf v).getD (-1), decide (z = wOut)) = true := by
 refine ⟨?_, okR_is h1 h2 h3⟩
 cases q1 : numOf u with
 | none =>
  rw [q1] at h1
  have := c.le
  have h1 : (-1 : Int) = endP 0 P := h1
  lia
 | some a =>
  cases q2 : numOf v with
  | none =>
   rw [q2] at h2
   exact absurd h2 (out_isP (.inl (by decide)))
  | some s => exact row_some e hz q1 q2
theorem outs_snoc {P : List Pc} {a s : Int} : outsP (P ++ [(a, s, true)]) = outsP P ++ [(a, s)] ∧ freesP (P ++ [(a, s, true)]) = freesP P := by
 rw [outs_append, frees_append]
 exact ⟨rfl, List.append_nil _⟩
theorem frees_snoc {P : List Pc} {a s : Int} : freesP (P ++ [(a, s, false)]) = freesP P ++ [(a, s)] ∧ outsP (P ++ [(a, s, false)]) = outsP P := by
 rw [outs_append, frees_append]
 exact ⟨rfl, List.append_nil _⟩
theorem chn_snoc {P : List Pc} {p : Pc} (c : Chn 0 P) (h : okR (endP 0 P) p = true) : Chn 0 (P ++ [p]) := Chn.append.mpr ⟨c, h, trivial⟩
theorem twn_iff {f : List (Int × Int)} {a s : Int} : twn f (a, s, false) = true ↔ a % (2 * s) ≠ 0 ∧ (a - s, s) ∈ f := by
 unfold twn
 simp
section
variable {σ₀ σ : AS} {Q : AV → AS → Prop}
theorem fgq {v : AV} (s : σ₀.Sub σ) (h : ∀ σ', σ₀.Sub σ' → σ'.loc = σ₀.loc → σ'.hp = σ.hp → Q v σ') : Fgt Q σ₀.loc (.ret v) σ := fgt_of (h _ s rfl rfl)
end
theorem wsum_cut {ls : List Str} (i : Nat) : wsum (ls.take i) + wsum (ls.drop i) = wsum ls := by rw [← wsum_append, List.take_append_drop]
theorem wsum_drop {ls : List Str} (i : Nat) : wsum (ls.drop (i + 1)) ≤ wsum (ls.drop i) := by
 have := wsum_cut (ls := ls.drop i) 1
 rw [List.drop_drop] at this
 lia
theorem wsum_one {x : Str} : wsum [x] = x.length + 1 := rfl
theorem TxOk.of {ls ls' : List Str} (h : ls.length ≤ 513) (hl : ∀ x ∈ ls, LineOk x) (h1 : ls'.length ≤ ls.length + 1) (h2 : wsum ls' ≤ wsum ls + 301) : TxOk ls' := ⟨by lia, by have := lines_sum h hl; lia⟩
section
variable {ls : List Str} (h : ls.length ≤ 513) (hl : ∀ x ∈ ls, LineOk x) (i : Nat)
include h hl
theorem tx0 : TxOk ls := .of h hl (by lia) (by lia)
theorem tx1 : TxOk (ls.take i ++ ls.drop (i + 1)) := .of h hl (by simp only [List.length_append, List.length_take, List.length_drop]; lia) (by rw [wsum_append]; have := wsum_cut (ls := ls) i; have := wsum_drop (ls := ls) i; lia)
theorem tx2 {o : Str} (ho : o.length ≤ 300) (hi : i < ls.length) : TxOk (ls.take i ++ [o] ++ ls.drop (i + 1)) := .of h hl (by simp only [List.length_append, List.length_take, List.length_drop, List.length_singleton]; lia) (by rw [wsum_append, wsum_append, wsum_one]; have := wsum_cut (ls := ls) i; have := wsum_drop (ls := ls) i; lia)
theorem tx3 {o : Str} (ho : o.length ≤ 300) : TxOk (ls.take i ++ [o] ++ ls.drop i) := .of h hl (by simp only [List.length_append, List.length_take, List.length_drop, List.length_singleton]; lia) (by rw [wsum_append, wsum_append, wsum_one]; have := wsum_cut (ls := ls) i; lia)
theorem tx4 : TxOk (ls.drop i ++ ls.take i) := .of h hl (by simp only [List.length_append, List.length_take, List.length_drop]; lia) (by rw [wsum_append]; have := wsum_cut (ls := ls) i; lia)
theorem tx5 : TxOk (ls.take i ++ (ls.drop i).reverse) := .of h hl (by simp only [List.length_append, List.length_take, List.length_drop, List.length_reverse]; lia) (by rw [wsum_append, wsum_perm (List.reverse_perm _)]; have := wsum_cut (ls := ls) i; lia)
theorem tx6 : TxOk ([Str.ofString ""] ++ ls) := .of h hl (by simp only [List.length_append, List.length_singleton]; lia) (by rw [wsum_append, wsum_one, show (Str.ofString "").length = 0 by decide]; lia)
theorem tx7 : TxOk (ls ++ [Str.ofString ""]) := .of h hl (by simp only [List.length_append, List.length_singleton]; lia) (by rw [wsum_append, wsum_one, show (Str.ofString "").length = 0 by decide]; lia)
end
theorem cl_eq {ls : List Str} {j : Int} (h0 : 0 ≤ j) (h1 : j < ls.length) : clipAt (ls.map AV.str).length j = j.toNat ∧ clipAt (ls.map AV.str).length (j + 1) = j.toNat + 1 := by
 rw [List.length_map]
 exact ⟨clip_in h0 (by lia), by rw [clip_in (by lia) (by lia)]; lia⟩
theorem mod_len {c : Int} {ls : List Str} (h : 0 < ls.length) : 0 ≤ c % ((ls.map AV.str).length : Int) ∧ c % ((ls.map AV.str).length : Int) < ls.length := by
 rw [List.length_map]
 exact ⟨Int.emod_nonneg _ (by lia), Int.emod_lt_of_pos _ (by lia)⟩
theorem sp1 {ls : List Str} {i : Nat} : (ls.map AV.str).take i ++ (ls.map AV.str).drop (i + 1) = (ls.take i ++ ls.drop (i + 1)).map AV.str := by rw [List.map_append, List.map_take, List.map_drop]
theorem sp2 {ls : List Str} {i k : Nat} {o : Str} : ((ls.map AV.str).take i ++ [.str o]) ++ (ls.map AV.str).drop k = (ls.take i ++ [o] ++ ls.drop k).map AV.str := by rw [List.map_append, List.map_append, List.map_take, List.map_drop]; rfl
theorem sp4 {ls : List Str} {i : Nat} : (ls.map AV.str).drop i ++ (ls.map AV.str).take i = (ls.drop i ++ ls.take i).map AV.str := by rw [List.map_append, List.map_take, List.map_drop]
theorem sp5 {ls : List Str} {i : Nat} : (ls.map AV.str).take i ++ ((ls.map AV.str).drop i).reverse = (ls.take i ++ (ls.drop i).reverse).map AV.str := by rw [List.map_append, List.map_take, List.map_reverse, List.map_drop]
section
variable {prog : Program} {w : World} {K : Frag} {cx : CX} {sc : Scope} {n : Nat} {σ σ' : AS} {Q : AV → AS → Prop} {QB : Bool → AS → Prop} {QF : AF → AS → Prop} {E : Value → AS → Prop} {pos : Pos}
inductive L14 (N : Nat) (B : Int) (ns : List Int) (sx : Addr) (σ : AS) : Prop
 | mk (z : Addr) (ps : List (Int × Int)) (hz : σ.hp z = some (.list (ps.map prA))) (ho : PsOk N B ps) (lz : σ.loc (Str.ofString "_law_pieces") = some (.ref z)) (ls : σ.loc (Str.ofString "_law_script") = some (.ref sx)) (fs : σ.hp sx = some (.ro (ns.map AV.int))) : L14 N B ns sx σ
inductive LnOk (ls : List Str) : Prop
 | mk (ne : ls ≠ []) (len : ls.length ≤ 513) (ok : ∀ x ∈ ls, LineOk x) : LnOk ls
inductive M14 (T : List Str → Prop) (ns : List Int) (sx : Addr) (σ : AS) : Prop
 | mk (z : Addr) (ls : List Str) (hz : σ.hp z = some (.list (ls.map AV.str))) (ht : T ls) (lz : σ.loc (Str.ofString "_law_lines_here") = some (.ref z)) (lsx : σ.loc (Str.ofString "_law_script") = some (.ref sx)) (fs : σ.hp sx = some (.ro (ns.map AV.int))) : M14 T ns sx σ
theorem is_tn {l : List AV} (h : Q (.bool false) σ) : WOp2 prog w cx (compareOp .Is) (.tup l) .none σ Q E := by
 rintro s _ vb r ⟨a, vs, rfl, _⟩ h2
 rw [show vb = .none from h2]
 exact is_none_ne (by intro x; cases x) (here0 r vr_bool h)
theorem sub_t0 {value slice : Expr} {a b c : AV} (h : Q a σ) (hs : ∀ o i, subscripted slice false o i = operate [o, i] (getItem o i)) : WOp2 prog w cx (subscriptTail value slice) (.tup [a, b, c]) (.int 0) σ Q E :=
 sub_tup' (by decide) (by decide) (k := 0) rfl rfl h hs
theorem sub_t1 {value slice : Expr} {a b c : AV} (h : Q b σ) (hs : ∀ o i, subscripted slice false o i = operate [o, i] (getItem o i)) : WOp2 prog w cx (subscriptTail value slice) (.tup [a, b, c]) (.int 1) σ Q E :=
 sub_tup' (by decide) (by decide) (k := 1) rfl rfl h hs
theorem sub_t2 {value slice : Expr} {a b c : AV} (h : Q c σ) (hs : ∀ o i, subscripted slice false o i = operate [o, i] (getItem o i)) : WOp2 prog w cx (subscriptTail value slice) (.tup [a, b, c]) (.int 2) σ Q E :=
 sub_tup' (by decide) (by decide) (k := 2) rfl rfl h hs
noncomputable def onF : AV → AV
 | .int i => prA (i, 1)
 | v => v
theorem filt_on {n : Nat} : (((List.range n).map fun i : Nat => AV.int i).filter fun ux => true).map onF = (onesP n).map prA := by
 rw [List.filter_eq_self.mpr (fun ux ux => rfl)]
 unfold onesP
 rw [List.map_map, List.map_map]
 rfl
inductive Y14 (K : Frag) (k : Nat) (t : BT k) (P : List Pc) (y C dx S H o f : Addr) (σ : AS) : Prop
 | mk (hY : Yd K σ y k t C dx S H (freesP P) (outsP P)) (ho : σ.hp o = some (.list ((outsP P).map prA))) (hf : σ.hp f = some (.list ((freesP P).map prA))) (ly : σ.loc (Str.ofString "_law_yard") = some (.ref y)) (ld : σ.loc (Str.ofString "_law_due_here") = some (.tup [.int (2 ^ k), .ref o, .ref f])) : Y14 K k t P y C dx S H o f σ
end
open PySem PySem.W PyProof.Rows
set_option Elab.async false
set_option maxRecDepth 100000
set_option maxHeartbeats 8000000
noncomputable def clsB : Option Stmt → List Stmt
 | some (.ClassDef _ _ _ b ..) => b
 | _ => []
noncomputable def fnG {name bd : Str} {ps : Arguments} {b : List Stmt} {ds : List Expr} {r : Option Expr} {tp : List TypeParam} {sc : Scope} {ts : Option Scope} {pos : Pos} {o : Option Stmt} (_ : o = some (.FunctionDef name ps b ds r tp sc ts bd pos))
  (cls : Value) (qual : Str) (g : Addr) (dV kV doc pm : Value) (an : Option Addr) (cdv ct : Value) (bi : Addr) : Obj :=
 { cls, data := .func { name, qualname := qual, params := ps, body := .stmts b, scope := sc, globals := g, closure := [], defaults := dV, kwdefaults := kV, doc, pyModule := pm, annotations := an, code := cdv, closureTuple := ct, builtins := bi } }
noncomputable def kE (P : Params) (x : String) (t : Nat) (v : Value) : DictEntry := { hash := PyData.keyHash P (Str.ofString x), key := .str (Str.ofString x) t, val := v }
noncomputable def fnB : Option Stmt → List Stmt
 | some (.FunctionDef _ _ b ..) => b
 | _ => []
noncomputable def fnS : Option Stmt → Scope
 | some (.FunctionDef _ _ _ _ _ _ sc ..) => sc
 | _ => default
noncomputable def whB : Option Stmt → List Stmt
 | some (.While _ b ..) => b
 | _ => []
noncomputable def forB : Option Stmt → List Stmt
 | some (.For _ _ b ..) => b
 | _ => []
noncomputable def ifB : Option Stmt → List Stmt
 | some (.If _ b ..) => b
 | _ => []
noncomputable def ifO : Option Stmt → List Stmt
 | some (.If _ _ b _) => b
 | _ => []
noncomputable abbrev hpw : Program := PySem.Challenge.pw_uf060009_14
noncomputable def hq : Program := view hpw [0, 2, 3, 4, 5, 6, 7, 9, 10, 11, 13, 15, 16, 17, 18, 19, 21, 22, 23, 24, 25, 26, 27, 28, 29, 30, 31, 32, 33, 34]
noncomputable def hE : Env := { scope := hpw.main.scope, locals := mainNs, globals := mainNs, cells := [], code := (Value.ref 13), frame := some 14 }
noncomputable def hO0 (P : Params) : Obj := { cls := .type "tuple", data := Data.seq #[] }
noncomputable def hO1 (P : Params) : Obj := { cls := .none, data := Data.fields #[] }
noncomputable def hO2 (P : Params) : Obj := { cls := .type "code", data := Data.fields #[.str (Str.ofString "<module>") 182, .str (Str.ofString "<module>") 183, .str (Str.ofString "/claim/cut.py") 184, .int 1 0, .int 0 0, .int 0 0, .int 0 0, .int 0 0, .ref 11, .bool false, .int 181 0, .ref 12, .none, .none, .none, .none, .int 185 0, .int 1 0, .str (Str.ofString "/claim/cut.py") 186] }
noncomputable def hO3 (P : Params) : Obj := { cls := .type "frame", slots := #[some (.ref 13), some (.ref 3), some (.ref 3), none, some (.str (Str.ofString "__main__") 164), none, some (.ref 0)] }
noncomputable def hO4 (P : Params) : Obj := { cls := .type "dict", data := Data.dict #[kE P "__name__" 165 (.str (Str.ofString "buddyyard.errors") 194), kE P "__doc__" 166 (.none), kE P "__package__" 167 (.none), kE P "__loader__" 168 (.builtin "__main__.__loader__#opaque"), kE P "__spec__" 169 (.none), kE P "__annotations__" 170 (.ref 6), kE P "__builtins__" 171 (.ref 4), kE P "__file__" 173 (.str (Str.ofString "/claim/cut.py") 172), kE P "__cached__" 174 (.none), kE P "_wall" 193 (.ref 21), kE P "YardError" 213 (.ref 31), kE P "NoYard" 229 (.ref 44)] 12 }
noncomputable def hO5 (P : Params) : Obj := { cls := .none, data := Data.fields #[.int 1 0, .int 0 0, .ref 20, .int 5 0, .int 0 0, .ref 27, .int 7 0, .int 0 0, .ref 40] }
noncomputable def hO6 (P : Params) : Obj := { cls := .type "tuple", data := Data.seq #[.str (Str.ofString "k") 190] }
noncomputable def hO7 (P : Params) : Obj := fnG (o := hpw.main.body[0]?) rfl (Value.none) (Str.ofString "_wall") 0 (Value.none) (Value.none) (Value.none) (Value.none) (none) (Value.none) (Value.none) 0
noncomputable def hO8 (P : Params) : Obj := { cls := .type "code", data := Data.fields #[.str (Str.ofString "_wall") 187, .str (Str.ofString "_wall") 188, .str (Str.ofString "/claim/cut.py") 189, .int 1 0, .int 1 0, .int 0 0, .int 0 0, .int 3 0, .ref 15, .bool true, .int 181 0, .ref 16, .none, .ref 17, .ref 18, .ref 19, .int 191 0, .int 1 0, .str (Str.ofString "/claim/cut.py") 192] }
noncomputable def hO9 (P : Params) : Obj := fnG (o := hpw.main.body[0]?) rfl (Value.type "function") (Str.ofString "_wall") 3 (Value.none) (Value.none) (Value.none) (Value.str (Str.ofString "__main__") 164) (none) (Value.ref 20) (Value.none) 0
noncomputable def hO10 (P : Params) : Obj := { cls := .type "tuple", data := Data.seq #[.type "ValueError"] }
noncomputable def hO11 (P : Params) : Obj := { cls := .type "builtin_function_or_method", data := Data.fields #[.builtin "type.__prepare__", .type "type"] }
noncomputable def hO12 (P : Params) : Obj := { cls := .type "dict", data := Data.dict #[kE P "__module__" 203 (.str (Str.ofString "buddyyard.errors") 194), kE P "__qualname__" 205 (.str (Str.ofString "YardError") 204), kE P "__firstlineno__" 207 (.int 5 206), kE P "__static_attributes__" 208 (.ref 29)] 4 }
noncomputable def hO13 (P : Params) : Obj := { cls := .type "code", data := Data.fields #[.str (Str.ofString "YardError") 198, .str (Str.ofString "YardError") 199, .str (Str.ofString "/claim/cut.py") 200, .int 5 0, .int 0 0, .int 0 0, .int 0 0, .int 0 0, .ref 25, .bool false, .int 181 0, .ref 26, .none, .none, .none, .none, .int 201 0, .int 5 0, .str (Str.ofString "/claim/cut.py") 202] }
noncomputable def hO14 (P : Params) : Obj := { cls := .type "frame", slots := #[some (.ref 27), some (.ref 3), some (.ref 24), none, some (.str (Str.ofString "buddyyard.errors") 194), none, some (.ref 0)] }
noncomputable def hO15 (P : Params) : Obj := { cls := .type "dict", data := Data.dict #[kE P "__module__" 203 (.str (Str.ofString "buddyyard.errors") 194), kE P "__firstlineno__" 207 (.int 5 206), kE P "__static_attributes__" 208 (.ref 29), kE P "__weakref__" 210 (.ref 32), kE P "__doc__" 211 (.none)] 3 }
noncomputable def hO16 (P : Params) : Obj := { cls := .type "type", data := Data.cls { name := Str.ofString "YardError", bases := [.type "ValueError"], mro := [.ref 31, .type "ValueError", .type "Exception", .type "BaseException", .type "object"], ns := 30, qualname := Str.ofString "YardError", subclasses := [.ref 44] }, slots := #[some (.ref 22), none, some (.str (Str.ofString "YardError") 196), some (.str (Str.ofString "YardError") 204), some (.builtin "ValueError.__new__"), some (.bool true)] }
noncomputable def hO17 (P : Params) : Obj := { cls := .type "getset_descriptor", data := Data.fields #[.str (Str.ofString "__weakref__") 209, .ref 31, .builtin "ExceptionGroup.__weakref__", .none] }
noncomputable def hO18 (P : Params) : Obj := { cls := .type "super", data := Data.fields #[.ref 31, .ref 31, .ref 31] }
noncomputable def hO19 (P : Params) : Obj := { cls := .type "builtin_function_or_method", data := Data.fields #[.builtin "object.__init_subclass__", .ref 31] }
noncomputable def hO20 (P : Params) : Obj := { cls := .type "tuple", data := Data.seq #[.ref 31] }
noncomputable def hO21 (P : Params) : Obj := { cls := .type "dict", data := Data.dict #[kE P "__module__" 221 (.str (Str.ofString "buddyyard.errors") 194), kE P "__qualname__" 223 (.str (Str.ofString "NoYard") 222), kE P "__firstlineno__" 225 (.int 7 224), kE P "__static_attributes__" 226 (.ref 42)] 4 }
noncomputable def hO22 (P : Params) : Obj := { cls := .type "code", data := Data.fields #[.str (Str.ofString "NoYard") 216, .str (Str.ofString "NoYard") 217, .str (Str.ofString "/claim/cut.py") 218, .int 7 0, .int 0 0, .int 0 0, .int 0 0, .int 0 0, .ref 38, .bool false, .int 181 0, .ref 39, .none, .none, .none, .none, .int 219 0, .int 7 0, .str (Str.ofString "/claim/cut.py") 220] }
noncomputable def hO23 (P : Params) : Obj := { cls := .type "frame", slots := #[some (.ref 40), some (.ref 3), some (.ref 37), none, some (.str (Str.ofString "buddyyard.errors") 194), none, some (.ref 0)] }
noncomputable def hO24 (P : Params) : Obj := { cls := .type "dict", data := Data.dict #[kE P "__module__" 221 (.str (Str.ofString "buddyyard.errors") 194), kE P "__firstlineno__" 225 (.int 7 224), kE P "__static_attributes__" 226 (.ref 42), kE P "__doc__" 227 (.none)] 2 }
noncomputable def hO25 (P : Params) : Obj := { cls := .type "type", data := Data.cls { name := Str.ofString "NoYard", bases := [.ref 31], mro := [.ref 44, .ref 31, .type "ValueError", .type "Exception", .type "BaseException", .type "object"], ns := 43, qualname := Str.ofString "NoYard" }, slots := #[some (.ref 35), none, some (.str (Str.ofString "NoYard") 214), some (.str (Str.ofString "NoYard") 222), some (.builtin "ValueError.__new__"), some (.bool true)] }
noncomputable def hO26 (P : Params) : Obj := { cls := .type "super", data := Data.fields #[.ref 44, .ref 44, .ref 44] }
noncomputable def hO27 (P : Params) : Obj := { cls := .type "builtin_function_or_method", data := Data.fields #[.builtin "object.__init_subclass__", .ref 44] }
noncomputable def hO28 (P : Params) : Obj := { cls := .type "dict", data := Data.dict #[kE P "__name__" 165 (.str (Str.ofString "buddyyard.errors") 194), kE P "__doc__" 166 (.none), kE P "__package__" 167 (.none), kE P "__loader__" 168 (.builtin "__main__.__loader__#opaque"), kE P "__spec__" 169 (.none), kE P "__annotations__" 170 (.ref 6), kE P "__builtins__" 171 (.ref 4), kE P "__file__" 173 (.str (Str.ofString "/claim/cut.py") 172), kE P "__cached__" 174 (.none), kE P "_wall" 193 (.ref 21), kE P "YardError" 213 (.ref 31), kE P "NoYard" 229 (.ref 44), kE P "NoWish" 245 (.ref 56), kE P "NoRoom" 261 (.ref 68)] 14 }
noncomputable def hO29 (P : Params) : Obj := { cls := .none, data := Data.fields #[.int 1 0, .int 0 0, .ref 20, .int 5 0, .int 0 0, .ref 27, .int 7 0, .int 0 0, .ref 40, .int 9 0, .int 0 0, .ref 52, .int 11 0, .int 0 0, .ref 64] }
noncomputable def hO30 (P : Params) : Obj := { cls := .type "type", data := Data.cls { name := Str.ofString "YardError", bases := [.type "ValueError"], mro := [.ref 31, .type "ValueError", .type "Exception", .type "BaseException", .type "object"], ns := 30, qualname := Str.ofString "YardError", subclasses := [.ref 44, .ref 56, .ref 68] }, slots := #[some (.ref 22), none, some (.str (Str.ofString "YardError") 196), some (.str (Str.ofString "YardError") 204), some (.builtin "ValueError.__new__"), some (.bool true)] }
noncomputable def hO31 (P : Params) : Obj := { cls := .type "dict", data := Data.dict #[kE P "__module__" 237 (.str (Str.ofString "buddyyard.errors") 194), kE P "__qualname__" 239 (.str (Str.ofString "NoWish") 238), kE P "__firstlineno__" 241 (.int 9 240), kE P "__static_attributes__" 242 (.ref 54)] 4 }
noncomputable def hO32 (P : Params) : Obj := { cls := .type "code", data := Data.fields #[.str (Str.ofString "NoWish") 232, .str (Str.ofString "NoWish") 233, .str (Str.ofString "/claim/cut.py") 234, .int 9 0, .int 0 0, .int 0 0, .int 0 0, .int 0 0, .ref 50, .bool false, .int 181 0, .ref 51, .none, .none, .none, .none, .int 235 0, .int 9 0, .str (Str.ofString "/claim/cut.py") 236] }
noncomputable def hO33 (P : Params) : Obj := { cls := .type "frame", slots := #[some (.ref 52), some (.ref 3), some (.ref 49), none, some (.str (Str.ofString "buddyyard.errors") 194), none, some (.ref 0)] }
noncomputable def hO34 (P : Params) : Obj := { cls := .type "dict", data := Data.dict #[kE P "__module__" 237 (.str (Str.ofString "buddyyard.errors") 194), kE P "__firstlineno__" 241 (.int 9 240), kE P "__static_attributes__" 242 (.ref 54), kE P "__doc__" 243 (.none)] 2 }
noncomputable def hO35 (P : Params) : Obj := { cls := .type "type", data := Data.cls { name := Str.ofString "NoWish", bases := [.ref 31], mro := [.ref 56, .ref 31, .type "ValueError", .type "Exception", .type "BaseException", .type "object"], ns := 55, qualname := Str.ofString "NoWish" }, slots := #[some (.ref 47), none, some (.str (Str.ofString "NoWish") 230), some (.str (Str.ofString "NoWish") 238), some (.builtin "ValueError.__new__"), some (.bool true)] }
noncomputable def hO36 (P : Params) : Obj := { cls := .type "super", data := Data.fields #[.ref 56, .ref 56, .ref 56] }
noncomputable def hO37 (P : Params) : Obj := { cls := .type "builtin_function_or_method", data := Data.fields #[.builtin "object.__init_subclass__", .ref 56] }
noncomputable def hO38 (P : Params) : Obj := { cls := .type "dict", data := Data.dict #[kE P "__module__" 253 (.str (Str.ofString "buddyyard.errors") 194), kE P "__qualname__" 255 (.str (Str.ofString "NoRoom") 254), kE P "__firstlineno__" 257 (.int 11 256), kE P "__static_attributes__" 258 (.ref 66)] 4 }
noncomputable def hO39 (P : Params) : Obj := { cls := .type "code", data := Data.fields #[.str (Str.ofString "NoRoom") 248, .str (Str.ofString "NoRoom") 249, .str (Str.ofString "/claim/cut.py") 250, .int 11 0, .int 0 0, .int 0 0, .int 0 0, .int 0 0, .ref 62, .bool false, .int 181 0, .ref 63, .none, .none, .none, .none, .int 251 0, .int 11 0, .str (Str.ofString "/claim/cut.py") 252] }
noncomputable def hO40 (P : Params) : Obj := { cls := .type "frame", slots := #[some (.ref 64), some (.ref 3), some (.ref 61), none, some (.str (Str.ofString "buddyyard.errors") 194), none, some (.ref 0)] }
noncomputable def hO41 (P : Params) : Obj := { cls := .type "dict", data := Data.dict #[kE P "__module__" 253 (.str (Str.ofString "buddyyard.errors") 194), kE P "__firstlineno__" 257 (.int 11 256), kE P "__static_attributes__" 258 (.ref 66), kE P "__doc__" 259 (.none)] 2 }
noncomputable def hO42 (P : Params) : Obj := { cls := .type "type", data := Data.cls { name := Str.ofString "NoRoom", bases := [.ref 31], mro := [.ref 68, .ref 31, .type "ValueError", .type "Exception", .type "BaseException", .type "object"], ns := 67, qualname := Str.ofString "NoRoom" }, slots := #[some (.ref 59), none, some (.str (Str.ofString "NoRoom") 246), some (.str (Str.ofString "NoRoom") 254), some (.builtin "ValueError.__new__"), some (.bool true)] }
noncomputable def hO43 (P : Params) : Obj := { cls := .type "super", data := Data.fields #[.ref 68, .ref 68, .ref 68] }
noncomputable def hO44 (P : Params) : Obj := { cls := .type "builtin_function_or_method", data := Data.fields #[.builtin "object.__init_subclass__", .ref 68] }
noncomputable def hO45 (P : Params) : Obj := { cls := .type "dict", data := Data.dict #[kE P "__name__" 165 (.str (Str.ofString "buddyyard.sizes") 294), kE P "__doc__" 166 (.none), kE P "__package__" 167 (.none), kE P "__loader__" 168 (.builtin "__main__.__loader__#opaque"), kE P "__spec__" 169 (.none), kE P "__annotations__" 170 (.ref 6), kE P "__builtins__" 171 (.ref 4), kE P "__file__" 173 (.str (Str.ofString "/claim/cut.py") 172), kE P "__cached__" 174 (.none), kE P "_wall" 193 (.ref 21), kE P "YardError" 213 (.ref 31), kE P "NoYard" 229 (.ref 44), kE P "NoWish" 245 (.ref 56), kE P "NoRoom" 261 (.ref 68), kE P "NotOut" 277 (.ref 80), kE P "NoNote" 293 (.ref 92), kE P "MOST" 297 (.int 1152921504606846976 296)] 17 }
noncomputable def hO46 (P : Params) : Obj := { cls := .none, data := Data.fields #[.int 1 0, .int 0 0, .ref 20, .int 5 0, .int 0 0, .ref 27, .int 7 0, .int 0 0, .ref 40, .int 9 0, .int 0 0, .ref 52, .int 11 0, .int 0 0, .ref 64, .int 13 0, .int 0 0, .ref 76, .int 15 0, .int 0 0, .ref 88] }
noncomputable def hO47 (P : Params) : Obj := { cls := .type "type", data := Data.cls { name := Str.ofString "YardError", bases := [.type "ValueError"], mro := [.ref 31, .type "ValueError", .type "Exception", .type "BaseException", .type "object"], ns := 30, qualname := Str.ofString "YardError", subclasses := [.ref 44, .ref 56, .ref 68, .ref 80, .ref 92] }, slots := #[some (.ref 22), none, some (.str (Str.ofString "YardError") 196), some (.str (Str.ofString "YardError") 204), some (.builtin "ValueError.__new__"), some (.bool true)] }
noncomputable def hO48 (P : Params) : Obj := { cls := .type "dict", data := Data.dict #[kE P "__module__" 269 (.str (Str.ofString "buddyyard.errors") 194), kE P "__qualname__" 271 (.str (Str.ofString "NotOut") 270), kE P "__firstlineno__" 273 (.int 13 272), kE P "__static_attributes__" 274 (.ref 78)] 4 }
noncomputable def hO49 (P : Params) : Obj := { cls := .type "code", data := Data.fields #[.str (Str.ofString "NotOut") 264, .str (Str.ofString "NotOut") 265, .str (Str.ofString "/claim/cut.py") 266, .int 13 0, .int 0 0, .int 0 0, .int 0 0, .int 0 0, .ref 74, .bool false, .int 181 0, .ref 75, .none, .none, .none, .none, .int 267 0, .int 13 0, .str (Str.ofString "/claim/cut.py") 268] }
noncomputable def hO50 (P : Params) : Obj := { cls := .type "frame", slots := #[some (.ref 76), some (.ref 3), some (.ref 73), none, some (.str (Str.ofString "buddyyard.errors") 194), none, some (.ref 0)] }
noncomputable def hO51 (P : Params) : Obj := { cls := .type "dict", data := Data.dict #[kE P "__module__" 269 (.str (Str.ofString "buddyyard.errors") 194), kE P "__firstlineno__" 273 (.int 13 272), kE P "__static_attributes__" 274 (.ref 78), kE P "__doc__" 275 (.none)] 2 }
noncomputable def hO52 (P : Params) : Obj := { cls := .type "type", data := Data.cls { name := Str.ofString "NotOut", bases := [.ref 31], mro := [.ref 80, .ref 31, .type "ValueError", .type "Exception", .type "BaseException", .type "object"], ns := 79, qualname := Str.ofString "NotOut" }, slots := #[some (.ref 71), none, some (.str (Str.ofString "NotOut") 262), some (.str (Str.ofString "NotOut") 270), some (.builtin "ValueError.__new__"), some (.bool true)] }
noncomputable def hO53 (P : Params) : Obj := { cls := .type "super", data := Data.fields #[.ref 80, .ref 80, .ref 80] }
noncomputable def hO54 (P : Params) : Obj := { cls := .type "builtin_function_or_method", data := Data.fields #[.builtin "object.__init_subclass__", .ref 80] }
noncomputable def hO55 (P : Params) : Obj := { cls := .type "dict", data := Data.dict #[kE P "__module__" 285 (.str (Str.ofString "buddyyard.errors") 194), kE P "__qualname__" 287 (.str (Str.ofString "NoNote") 286), kE P "__firstlineno__" 289 (.int 15 288), kE P "__static_attributes__" 290 (.ref 90)] 4 }
noncomputable def hO56 (P : Params) : Obj := { cls := .type "code", data := Data.fields #[.str (Str.ofString "NoNote") 280, .str (Str.ofString "NoNote") 281, .str (Str.ofString "/claim/cut.py") 282, .int 15 0, .int 0 0, .int 0 0, .int 0 0, .int 0 0, .ref 86, .bool false, .int 181 0, .ref 87, .none, .none, .none, .none, .int 283 0, .int 15 0, .str (Str.ofString "/claim/cut.py") 284] }
noncomputable def hO57 (P : Params) : Obj := { cls := .type "frame", slots := #[some (.ref 88), some (.ref 3), some (.ref 85), none, some (.str (Str.ofString "buddyyard.errors") 194), none, some (.ref 0)] }
noncomputable def hO58 (P : Params) : Obj := { cls := .type "dict", data := Data.dict #[kE P "__module__" 285 (.str (Str.ofString "buddyyard.errors") 194), kE P "__firstlineno__" 289 (.int 15 288), kE P "__static_attributes__" 290 (.ref 90), kE P "__doc__" 291 (.none)] 2 }
noncomputable def hO59 (P : Params) : Obj := { cls := .type "type", data := Data.cls { name := Str.ofString "NoNote", bases := [.ref 31], mro := [.ref 92, .ref 31, .type "ValueError", .type "Exception", .type "BaseException", .type "object"], ns := 91, qualname := Str.ofString "NoNote" }, slots := #[some (.ref 83), none, some (.str (Str.ofString "NoNote") 278), some (.str (Str.ofString "NoNote") 286), some (.builtin "ValueError.__new__"), some (.bool true)] }
noncomputable def hO60 (P : Params) : Obj := { cls := .type "super", data := Data.fields #[.ref 92, .ref 92, .ref 92] }
noncomputable def hO61 (P : Params) : Obj := { cls := .type "builtin_function_or_method", data := Data.fields #[.builtin "object.__init_subclass__", .ref 92] }
noncomputable def hO62 (P : Params) : Obj := { cls := .type "dict", data := Data.dict #[kE P "__name__" 165 (.str (Str.ofString "buddyyard.yard") 314), kE P "__doc__" 166 (.none), kE P "__package__" 167 (.none), kE P "__loader__" 168 (.builtin "__main__.__loader__#opaque"), kE P "__spec__" 169 (.none), kE P "__annotations__" 170 (.ref 6), kE P "__builtins__" 171 (.ref 4), kE P "__file__" 173 (.str (Str.ofString "/claim/cut.py") 172), kE P "__cached__" 174 (.none), kE P "_wall" 193 (.ref 21), kE P "YardError" 213 (.ref 31), kE P "NoYard" 229 (.ref 44), kE P "NoWish" 245 (.ref 56), kE P "NoRoom" 261 (.ref 68), kE P "NotOut" 277 (.ref 80), kE P "NoNote" 293 (.ref 92), kE P "MOST" 297 (.int 1152921504606846976 296), kE P "is_size" 305 (.ref 101), kE P "twin_of" 313 (.ref 108)] 19 }
noncomputable def hO63 (P : Params) : Obj := { cls := .none, data := Data.fields #[.int 1 0, .int 0 0, .ref 20, .int 5 0, .int 0 0, .ref 27, .int 7 0, .int 0 0, .ref 40, .int 9 0, .int 0 0, .ref 52, .int 11 0, .int 0 0, .ref 64, .int 13 0, .int 0 0, .ref 76, .int 15 0, .int 0 0, .ref 88, .int 19 0, .int 0 0, .ref 100, .int 26 0, .int 0 0, .ref 107] }
noncomputable def hO64 (P : Params) : Obj := { cls := .type "tuple", data := Data.seq #[.str (Str.ofString "number") 301, .str (Str.ofString "size") 302] }
noncomputable def hO65 (P : Params) : Obj := fnG (o := hpw.main.body[10]?) rfl (Value.none) (Str.ofString "is_size") 0 (Value.none) (Value.none) (Value.none) (Value.none) (none) (Value.none) (Value.none) 0
noncomputable def hO66 (P : Params) : Obj := { cls := .type "code", data := Data.fields #[.str (Str.ofString "is_size") 298, .str (Str.ofString "is_size") 299, .str (Str.ofString "/claim/cut.py") 300, .int 19 0, .int 1 0, .int 0 0, .int 0 0, .int 3 0, .ref 95, .bool true, .int 181 0, .ref 96, .none, .ref 97, .ref 98, .ref 99, .int 303 0, .int 19 0, .str (Str.ofString "/claim/cut.py") 304] }
noncomputable def hO67 (P : Params) : Obj := fnG (o := hpw.main.body[10]?) rfl (Value.type "function") (Str.ofString "is_size") 3 (Value.none) (Value.none) (Value.none) (Value.str (Str.ofString "buddyyard.sizes") 294) (none) (Value.ref 100) (Value.none) 0
noncomputable def hO68 (P : Params) : Obj := { cls := .type "tuple", data := Data.seq #[.str (Str.ofString "at") 309, .str (Str.ofString "size") 310] }
noncomputable def hO69 (P : Params) : Obj := fnG (o := hpw.main.body[11]?) rfl (Value.none) (Str.ofString "twin_of") 0 (Value.none) (Value.none) (Value.none) (Value.none) (none) (Value.none) (Value.none) 0
noncomputable def hO70 (P : Params) : Obj := { cls := .type "code", data := Data.fields #[.str (Str.ofString "twin_of") 306, .str (Str.ofString "twin_of") 307, .str (Str.ofString "/claim/cut.py") 308, .int 26 0, .int 2 0, .int 0 0, .int 0 0, .int 3 0, .ref 102, .bool true, .int 181 0, .ref 103, .none, .ref 104, .ref 105, .ref 106, .int 311 0, .int 26 0, .str (Str.ofString "/claim/cut.py") 312] }
noncomputable def hO71 (P : Params) : Obj := fnG (o := hpw.main.body[11]?) rfl (Value.type "function") (Str.ofString "twin_of") 3 (Value.none) (Value.none) (Value.none) (Value.str (Str.ofString "buddyyard.sizes") 294) (none) (Value.ref 107) (Value.none) 0
noncomputable def hO72 (P : Params) : Obj := { cls := .type "dict", data := Data.dict #[kE P "__name__" 165 (.str (Str.ofString "buddyyard.yard") 314), kE P "__doc__" 166 (.none), kE P "__package__" 167 (.none), kE P "__loader__" 168 (.builtin "__main__.__loader__#opaque"), kE P "__spec__" 169 (.none), kE P "__annotations__" 170 (.ref 6), kE P "__builtins__" 171 (.ref 4), kE P "__file__" 173 (.str (Str.ofString "/claim/cut.py") 172), kE P "__cached__" 174 (.none), kE P "_wall" 193 (.ref 21), kE P "YardError" 213 (.ref 31), kE P "NoYard" 229 (.ref 44), kE P "NoWish" 245 (.ref 56), kE P "NoRoom" 261 (.ref 68), kE P "NotOut" 277 (.ref 80), kE P "NoNote" 293 (.ref 92), kE P "MOST" 297 (.int 1152921504606846976 296), kE P "is_size" 305 (.ref 101), kE P "twin_of" 313 (.ref 108), kE P "Yard" 420 (.ref 184)] 20 }
noncomputable def hO73 (P : Params) : Obj := { cls := .none, data := Data.fields #[.int 1 0, .int 0 0, .ref 20, .int 5 0, .int 0 0, .ref 27, .int 7 0, .int 0 0, .ref 40, .int 9 0, .int 0 0, .ref 52, .int 11 0, .int 0 0, .ref 64, .int 13 0, .int 0 0, .ref 76, .int 15 0, .int 0 0, .ref 88, .int 19 0, .int 0 0, .ref 100, .int 26 0, .int 0 0, .ref 107, .int 31 0, .int 0 0, .ref 114] }
noncomputable def hO74 (P : Params) : Obj := { cls := .type "dict", data := Data.dict #[kE P "__module__" 323 (.str (Str.ofString "buddyyard.yard") 314), kE P "__qualname__" 325 (.str (Str.ofString "Yard") 324), kE P "__firstlineno__" 327 (.int 31 326), kE P "__init__" 335 (.ref 122), kE P "fitting" 343 (.ref 129), kE P "halve" 353 (.ref 136), kE P "give" 361 (.ref 143), kE P "take_back" 369 (.ref 150), kE P "resize" 378 (.ref 157), kE P "grow" 388 (.ref 164), kE P "free" 394 (.ref 169), kE P "out" 400 (.ref 174), kE P "owner" 409 (.ref 181), kE P "__static_attributes__" 413 (.ref 182)] 14 }
noncomputable def hO75 (P : Params) : Obj := { cls := .none, data := Data.fields #[.int 33 0, .int 4 0, .ref 121, .int 40 0, .int 4 0, .ref 128, .int 43 0, .int 4 0, .ref 135, .int 46 0, .int 4 0, .ref 142, .int 49 0, .int 4 0, .ref 149, .int 52 0, .int 4 0, .ref 156, .int 55 0, .int 4 0, .ref 163, .int 58 0, .int 4 0, .ref 168, .int 61 0, .int 4 0, .ref 173, .int 64 0, .int 4 0, .ref 180] }
noncomputable def hO76 (P : Params) : Obj := { cls := .type "code", data := Data.fields #[.str (Str.ofString "Yard") 318, .str (Str.ofString "Yard") 319, .str (Str.ofString "/claim/cut.py") 320, .int 31 0, .int 0 0, .int 0 0, .int 0 0, .int 0 0, .ref 112, .bool false, .int 181 0, .ref 113, .none, .none, .none, .none, .int 321 0, .int 31 0, .str (Str.ofString "/claim/cut.py") 322] }
noncomputable def hO77 (P : Params) : Obj := { cls := .type "frame", slots := #[some (.ref 114), some (.ref 3), some (.ref 111), none, some (.str (Str.ofString "buddyyard.yard") 314), none, some (.ref 0)] }
noncomputable def hO78 (P : Params) : Obj := { cls := .type "tuple", data := Data.seq #[.str (Str.ofString "self") 331, .str (Str.ofString "cells") 332] }
noncomputable def hO79 (P : Params) : Obj := fnG (o := (clsB hpw.main.body[13]?)[0]?) rfl (Value.none) (Str.ofString "Yard.__init__") 0 (Value.none) (Value.none) (Value.none) (Value.none) (none) (Value.none) (Value.none) 0
noncomputable def hO80 (P : Params) : Obj := { cls := .type "code", data := Data.fields #[.str (Str.ofString "__init__") 328, .str (Str.ofString "Yard.__init__") 329, .str (Str.ofString "/claim/cut.py") 330, .int 33 0, .int 2 0, .int 0 0, .int 0 0, .int 3 0, .ref 116, .bool true, .int 181 0, .ref 117, .none, .ref 118, .ref 119, .ref 120, .int 333 0, .int 33 0, .str (Str.ofString "/claim/cut.py") 334] }
noncomputable def hO81 (P : Params) : Obj := fnG (o := (clsB hpw.main.body[13]?)[0]?) rfl (Value.type "function") (Str.ofString "Yard.__init__") 3 (Value.none) (Value.none) (Value.none) (Value.str (Str.ofString "buddyyard.yard") 314) (none) (Value.ref 121) (Value.none) 0
noncomputable def hO82 (P : Params) : Obj := { cls := .type "tuple", data := Data.seq #[.str (Str.ofString "self") 339, .str (Str.ofString "want") 340] }
noncomputable def hO83 (P : Params) : Obj := fnG (o := (clsB hpw.main.body[13]?)[1]?) rfl (Value.none) (Str.ofString "Yard.fitting") 0 (Value.none) (Value.none) (Value.none) (Value.none) (none) (Value.none) (Value.none) 0
noncomputable def hO84 (P : Params) : Obj := { cls := .type "code", data := Data.fields #[.str (Str.ofString "fitting") 336, .str (Str.ofString "Yard.fitting") 337, .str (Str.ofString "/claim/cut.py") 338, .int 40 0, .int 2 0, .int 0 0, .int 0 0, .int 3 0, .ref 123, .bool true, .int 181 0, .ref 124, .none, .ref 125, .ref 126, .ref 127, .int 341 0, .int 40 0, .str (Str.ofString "/claim/cut.py") 342] }
noncomputable def hO85 (P : Params) : Obj := fnG (o := (clsB hpw.main.body[13]?)[1]?) rfl (Value.type "function") (Str.ofString "Yard.fitting") 3 (Value.none) (Value.none) (Value.none) (Value.str (Str.ofString "buddyyard.yard") 314) (none) (Value.ref 128) (Value.none) 0
noncomputable def hO86 (P : Params) : Obj := { cls := .type "tuple", data := Data.seq #[.str (Str.ofString "self") 347, .str (Str.ofString "at") 348, .str (Str.ofString "size") 349, .str (Str.ofString "wanted") 350] }
noncomputable def hO87 (P : Params) : Obj := fnG (o := (clsB hpw.main.body[13]?)[2]?) rfl (Value.none) (Str.ofString "Yard.halve") 0 (Value.none) (Value.none) (Value.none) (Value.none) (none) (Value.none) (Value.none) 0
noncomputable def hO88 (P : Params) : Obj := { cls := .type "code", data := Data.fields #[.str (Str.ofString "halve") 344, .str (Str.ofString "Yard.halve") 345, .str (Str.ofString "/claim/cut.py") 346, .int 43 0, .int 4 0, .int 0 0, .int 0 0, .int 3 0, .ref 130, .bool true, .int 181 0, .ref 131, .none, .ref 132, .ref 133, .ref 134, .int 351 0, .int 43 0, .str (Str.ofString "/claim/cut.py") 352] }
noncomputable def hO89 (P : Params) : Obj := fnG (o := (clsB hpw.main.body[13]?)[2]?) rfl (Value.type "function") (Str.ofString "Yard.halve") 3 (Value.none) (Value.none) (Value.none) (Value.str (Str.ofString "buddyyard.yard") 314) (none) (Value.ref 135) (Value.none) 0
noncomputable def hO90 (P : Params) : Obj := { cls := .type "tuple", data := Data.seq #[.str (Str.ofString "self") 357, .str (Str.ofString "want") 358] }
noncomputable def hO91 (P : Params) : Obj := fnG (o := (clsB hpw.main.body[13]?)[3]?) rfl (Value.none) (Str.ofString "Yard.give") 0 (Value.none) (Value.none) (Value.none) (Value.none) (none) (Value.none) (Value.none) 0
noncomputable def hO92 (P : Params) : Obj := { cls := .type "code", data := Data.fields #[.str (Str.ofString "give") 354, .str (Str.ofString "Yard.give") 355, .str (Str.ofString "/claim/cut.py") 356, .int 46 0, .int 2 0, .int 0 0, .int 0 0, .int 3 0, .ref 137, .bool true, .int 181 0, .ref 138, .none, .ref 139, .ref 140, .ref 141, .int 359 0, .int 46 0, .str (Str.ofString "/claim/cut.py") 360] }
noncomputable def hO93 (P : Params) : Obj := fnG (o := (clsB hpw.main.body[13]?)[3]?) rfl (Value.type "function") (Str.ofString "Yard.give") 3 (Value.none) (Value.none) (Value.none) (Value.str (Str.ofString "buddyyard.yard") 314) (none) (Value.ref 142) (Value.none) 0
noncomputable def hO94 (P : Params) : Obj := { cls := .type "tuple", data := Data.seq #[.str (Str.ofString "self") 365, .str (Str.ofString "at") 366] }
noncomputable def hO95 (P : Params) : Obj := fnG (o := (clsB hpw.main.body[13]?)[4]?) rfl (Value.none) (Str.ofString "Yard.take_back") 0 (Value.none) (Value.none) (Value.none) (Value.none) (none) (Value.none) (Value.none) 0
noncomputable def hO96 (P : Params) : Obj := { cls := .type "code", data := Data.fields #[.str (Str.ofString "take_back") 362, .str (Str.ofString "Yard.take_back") 363, .str (Str.ofString "/claim/cut.py") 364, .int 49 0, .int 2 0, .int 0 0, .int 0 0, .int 3 0, .ref 144, .bool true, .int 181 0, .ref 145, .none, .ref 146, .ref 147, .ref 148, .int 367 0, .int 49 0, .str (Str.ofString "/claim/cut.py") 368] }
noncomputable def hO97 (P : Params) : Obj := fnG (o := (clsB hpw.main.body[13]?)[4]?) rfl (Value.type "function") (Str.ofString "Yard.take_back") 3 (Value.none) (Value.none) (Value.none) (Value.str (Str.ofString "buddyyard.yard") 314) (none) (Value.ref 149) (Value.none) 0
noncomputable def hO98 (P : Params) : Obj := { cls := .type "tuple", data := Data.seq #[.str (Str.ofString "self") 373, .str (Str.ofString "at") 374, .str (Str.ofString "want") 375] }
noncomputable def hO99 (P : Params) : Obj := fnG (o := (clsB hpw.main.body[13]?)[5]?) rfl (Value.none) (Str.ofString "Yard.resize") 0 (Value.none) (Value.none) (Value.none) (Value.none) (none) (Value.none) (Value.none) 0
noncomputable def hO100 (P : Params) : Obj := { cls := .type "code", data := Data.fields #[.str (Str.ofString "resize") 370, .str (Str.ofString "Yard.resize") 371, .str (Str.ofString "/claim/cut.py") 372, .int 52 0, .int 3 0, .int 0 0, .int 0 0, .int 3 0, .ref 151, .bool true, .int 181 0, .ref 152, .none, .ref 153, .ref 154, .ref 155, .int 376 0, .int 52 0, .str (Str.ofString "/claim/cut.py") 377] }
noncomputable def hO101 (P : Params) : Obj := fnG (o := (clsB hpw.main.body[13]?)[5]?) rfl (Value.type "function") (Str.ofString "Yard.resize") 3 (Value.none) (Value.none) (Value.none) (Value.str (Str.ofString "buddyyard.yard") 314) (none) (Value.ref 156) (Value.none) 0
noncomputable def hO102 (P : Params) : Obj := { cls := .type "tuple", data := Data.seq #[.str (Str.ofString "self") 382, .str (Str.ofString "at") 383, .str (Str.ofString "size") 384, .str (Str.ofString "wanted") 385] }
noncomputable def hO103 (P : Params) : Obj := fnG (o := (clsB hpw.main.body[13]?)[6]?) rfl (Value.none) (Str.ofString "Yard.grow") 0 (Value.none) (Value.none) (Value.none) (Value.none) (none) (Value.none) (Value.none) 0
noncomputable def hO104 (P : Params) : Obj := { cls := .type "code", data := Data.fields #[.str (Str.ofString "grow") 379, .str (Str.ofString "Yard.grow") 380, .str (Str.ofString "/claim/cut.py") 381, .int 55 0, .int 4 0, .int 0 0, .int 0 0, .int 3 0, .ref 158, .bool true, .int 181 0, .ref 159, .none, .ref 160, .ref 161, .ref 162, .int 386 0, .int 55 0, .str (Str.ofString "/claim/cut.py") 387] }
noncomputable def hO105 (P : Params) : Obj := fnG (o := (clsB hpw.main.body[13]?)[6]?) rfl (Value.type "function") (Str.ofString "Yard.grow") 3 (Value.none) (Value.none) (Value.none) (Value.str (Str.ofString "buddyyard.yard") 314) (none) (Value.ref 163) (Value.none) 0
noncomputable def hO106 (P : Params) : Obj := fnG (o := (clsB hpw.main.body[13]?)[7]?) rfl (Value.none) (Str.ofString "Yard.free") 0 (Value.none) (Value.none) (Value.none) (Value.none) (none) (Value.none) (Value.none) 0
noncomputable def hO107 (P : Params) : Obj := { cls := .type "code", data := Data.fields #[.str (Str.ofString "free") 389, .str (Str.ofString "Yard.free") 390, .str (Str.ofString "/claim/cut.py") 391, .int 58 0, .int 1 0, .int 0 0, .int 0 0, .int 3 0, .ref 165, .bool true, .int 181 0, .ref 166, .none, .none, .none, .ref 167, .int 392 0, .int 58 0, .str (Str.ofString "/claim/cut.py") 393] }
noncomputable def hO108 (P : Params) : Obj := fnG (o := (clsB hpw.main.body[13]?)[7]?) rfl (Value.type "function") (Str.ofString "Yard.free") 3 (Value.none) (Value.none) (Value.none) (Value.str (Str.ofString "buddyyard.yard") 314) (none) (Value.ref 168) (Value.none) 0
noncomputable def hO109 (P : Params) : Obj := fnG (o := (clsB hpw.main.body[13]?)[8]?) rfl (Value.none) (Str.ofString "Yard.out") 0 (Value.none) (Value.none) (Value.none) (Value.none) (none) (Value.none) (Value.none) 0
noncomputable def hO110 (P : Params) : Obj := { cls := .type "code", data := Data.fields #[.str (Str.ofString "out") 395, .str (Str.ofString "Yard.out") 396, .str (Str.ofString "/claim/cut.py") 397, .int 61 0, .int 1 0, .int 0 0, .int 0 0, .int 3 0, .ref 170, .bool true, .int 181 0, .ref 171, .none, .none, .none, .ref 172, .int 398 0, .int 61 0, .str (Str.ofString "/claim/cut.py") 399] }
noncomputable def hO111 (P : Params) : Obj := fnG (o := (clsB hpw.main.body[13]?)[8]?) rfl (Value.type "function") (Str.ofString "Yard.out") 3 (Value.none) (Value.none) (Value.none) (Value.str (Str.ofString "buddyyard.yard") 314) (none) (Value.ref 173) (Value.none) 0
noncomputable def hO112 (P : Params) : Obj := { cls := .type "tuple", data := Data.seq #[.str (Str.ofString "self") 404, .str (Str.ofString "cell") 405, .str (Str.ofString "at") 406] }
noncomputable def hO113 (P : Params) : Obj := fnG (o := (clsB hpw.main.body[13]?)[9]?) rfl (Value.none) (Str.ofString "Yard.owner") 0 (Value.none) (Value.none) (Value.none) (Value.none) (none) (Value.none) (Value.none) 0
noncomputable def hO114 (P : Params) : Obj := { cls := .type "code", data := Data.fields #[.str (Str.ofString "owner") 401, .str (Str.ofString "Yard.owner") 402, .str (Str.ofString "/claim/cut.py") 403, .int 64 0, .int 2 0, .int 0 0, .int 0 0, .int 3 0, .ref 175, .bool true, .int 181 0, .ref 176, .none, .ref 177, .ref 178, .ref 179, .int 407 0, .int 64 0, .str (Str.ofString "/claim/cut.py") 408] }
noncomputable def hO115 (P : Params) : Obj := fnG (o := (clsB hpw.main.body[13]?)[9]?) rfl (Value.type "function") (Str.ofString "Yard.owner") 3 (Value.none) (Value.none) (Value.none) (Value.str (Str.ofString "buddyyard.yard") 314) (none) (Value.ref 180) (Value.none) 0
noncomputable def hO116 (P : Params) : Obj := { cls := .type "tuple", data := Data.seq #[.str (Str.ofString "cells") 410, .str (Str.ofString "held") 411, .str (Str.ofString "spare") 412] }
noncomputable def hO117 (P : Params) : Obj := { cls := .type "dict", data := Data.dict #[kE P "__module__" 323 (.str (Str.ofString "buddyyard.yard") 314), kE P "__firstlineno__" 327 (.int 31 326), kE P "__init__" 335 (.ref 122), kE P "fitting" 343 (.ref 129), kE P "halve" 353 (.ref 136), kE P "give" 361 (.ref 143), kE P "take_back" 369 (.ref 150), kE P "resize" 378 (.ref 157), kE P "grow" 388 (.ref 164), kE P "free" 394 (.ref 169), kE P "out" 400 (.ref 174), kE P "owner" 409 (.ref 181), kE P "__static_attributes__" 413 (.ref 182), kE P "__dict__" 415 (.ref 185), kE P "__weakref__" 417 (.ref 186), kE P "__doc__" 418 (.none)] 4 }
noncomputable def hO118 (P : Params) : Obj := { cls := .type "type", data := Data.cls { name := Str.ofString "Yard", bases := [.type "object"], mro := [.ref 184, .type "object"], ns := 183, qualname := Str.ofString "Yard" }, slots := #[none, none, some (.str (Str.ofString "Yard") 316), some (.str (Str.ofString "Yard") 324), some (.builtin "object.__new__"), some (.bool true)] }
noncomputable def hO119 (P : Params) : Obj := { cls := .type "getset_descriptor", data := Data.fields #[.str (Str.ofString "__dict__") 414, .ref 184, .builtin "function.__dict__", .builtin "function.__dict__#set"] }
noncomputable def hO120 (P : Params) : Obj := { cls := .type "getset_descriptor", data := Data.fields #[.str (Str.ofString "__weakref__") 416, .ref 184, .builtin "ExceptionGroup.__weakref__", .none] }
noncomputable def hO121 (P : Params) : Obj := { cls := .type "super", data := Data.fields #[.ref 184, .ref 184, .ref 184] }
noncomputable def hO122 (P : Params) : Obj := { cls := .type "builtin_function_or_method", data := Data.fields #[.builtin "object.__init_subclass__", .ref 184] }
noncomputable def hO123 (P : Params) : Obj := { cls := .type "dict", data := Data.dict #[kE P "__name__" 165 (.str (Str.ofString "law_uf060009_14") 454), kE P "__doc__" 166 (.none), kE P "__package__" 167 (.none), kE P "__loader__" 168 (.builtin "__main__.__loader__#opaque"), kE P "__spec__" 169 (.none), kE P "__annotations__" 170 (.ref 6), kE P "__builtins__" 171 (.ref 4), kE P "__file__" 173 (.str (Str.ofString "/claim/cut.py") 172), kE P "__cached__" 174 (.none), kE P "_wall" 193 (.ref 21), kE P "YardError" 213 (.ref 31), kE P "NoYard" 229 (.ref 44), kE P "NoWish" 245 (.ref 56), kE P "NoRoom" 261 (.ref 68), kE P "NotOut" 277 (.ref 80), kE P "NoNote" 293 (.ref 92), kE P "MOST" 297 (.int 1152921504606846976 296), kE P "is_size" 305 (.ref 101), kE P "twin_of" 313 (.ref 108), kE P "Yard" 420 (.ref 184), kE P "FIGURES" 424 (.str (Str.ofString "0123456789") 423), kE P "MOST_FIGURES" 426 (.int 19 425), kE P "number_of" 434 (.ref 195), kE P "pieces_of" 447 (.ref 202), kE P "read" 453 (.ref 207), kE P "_law_whole" 462 (.ref 214), kE P "_law_cell_at" 470 (.ref 221), kE P "_law_doubled" 479 (.ref 228), kE P "_law_halved" 492 (.ref 235), kE P "_law_in_a_row" 498 (.ref 240), kE P "_law_lines" 509 (.ref 247), kE P "_law_others" 520 (.ref 254), kE P "_law_spoilt" 533 (.ref 261), kE P "_law_number" 541 (.ref 268), kE P "_law_is_size" 548 (.ref 275)] 35 }
noncomputable def hO124 (P : Params) : Obj := { cls := .none, data := Data.fields #[.int 1 0, .int 0 0, .ref 20, .int 5 0, .int 0 0, .ref 27, .int 7 0, .int 0 0, .ref 40, .int 9 0, .int 0 0, .ref 52, .int 11 0, .int 0 0, .ref 64, .int 13 0, .int 0 0, .ref 76, .int 15 0, .int 0 0, .ref 88, .int 19 0, .int 0 0, .ref 100, .int 26 0, .int 0 0, .ref 107, .int 31 0, .int 0 0, .ref 114, .int 72 0, .int 0 0, .ref 194, .int 79 0, .int 0 0, .ref 201, .int 93 0, .int 0 0, .ref 206, .int 113 0, .int 0 0, .ref 213, .int 115 0, .int 0 0, .ref 220, .int 119 0, .int 0 0, .ref 227, .int 124 0, .int 0 0, .ref 234, .int 136 0, .int 0 0, .ref 239, .int 150 0, .int 0 0, .ref 246, .int 158 0, .int 0 0, .ref 253, .int 174 0, .int 0 0, .ref 260, .int 191 0, .int 0 0, .ref 267, .int 198 0, .int 0 0, .ref 274] }
noncomputable def hO125 (P : Params) : Obj := { cls := .type "tuple", data := Data.seq #[.str (Str.ofString "word") 430, .str (Str.ofString "sign") 431] }
noncomputable def hO126 (P : Params) : Obj := fnG (o := hpw.main.body[17]?) rfl (Value.none) (Str.ofString "number_of") 0 (Value.none) (Value.none) (Value.none) (Value.none) (none) (Value.none) (Value.none) 0
noncomputable def hO127 (P : Params) : Obj := { cls := .type "code", data := Data.fields #[.str (Str.ofString "number_of") 427, .str (Str.ofString "number_of") 428, .str (Str.ofString "/claim/cut.py") 429, .int 72 0, .int 1 0, .int 0 0, .int 0 0, .int 3 0, .ref 189, .bool true, .int 181 0, .ref 190, .none, .ref 191, .ref 192, .ref 193, .int 432 0, .int 72 0, .str (Str.ofString "/claim/cut.py") 433] }
noncomputable def hO128 (P : Params) : Obj := fnG (o := hpw.main.body[17]?) rfl (Value.type "function") (Str.ofString "number_of") 3 (Value.none) (Value.none) (Value.none) (Value.str (Str.ofString "buddyyard.notes") 421) (none) (Value.ref 194) (Value.none) 0
noncomputable def hO129 (P : Params) : Obj := { cls := .type "tuple", data := Data.seq #[.str (Str.ofString "text") 438, .str (Str.ofString "found") 439, .str (Str.ofString "here") 440, .str (Str.ofString "row") 441, .str (Str.ofString "words") 442, .str (Str.ofString "at") 443, .str (Str.ofString "size") 444] }
noncomputable def hO130 (P : Params) : Obj := fnG (o := hpw.main.body[18]?) rfl (Value.none) (Str.ofString "pieces_of") 0 (Value.none) (Value.none) (Value.none) (Value.none) (none) (Value.none) (Value.none) 0
noncomputable def hO131 (P : Params) : Obj := { cls := .type "code", data := Data.fields #[.str (Str.ofString "pieces_of") 435, .str (Str.ofString "pieces_of") 436, .str (Str.ofString "/claim/cut.py") 437, .int 79 0, .int 1 0, .int 0 0, .int 0 0, .int 3 0, .ref 196, .bool true, .int 181 0, .ref 197, .none, .ref 198, .ref 199, .ref 200, .int 445 0, .int 79 0, .str (Str.ofString "/claim/cut.py") 446] }
noncomputable def hO132 (P : Params) : Obj := fnG (o := hpw.main.body[18]?) rfl (Value.type "function") (Str.ofString "pieces_of") 3 (Value.none) (Value.none) (Value.none) (Value.str (Str.ofString "buddyyard.notes") 421) (none) (Value.ref 201) (Value.none) 0
noncomputable def hO133 (P : Params) : Obj := fnG (o := hpw.main.body[19]?) rfl (Value.none) (Str.ofString "read") 0 (Value.none) (Value.none) (Value.none) (Value.none) (none) (Value.none) (Value.none) 0
noncomputable def hO134 (P : Params) : Obj := { cls := .type "code", data := Data.fields #[.str (Str.ofString "read") 448, .str (Str.ofString "read") 449, .str (Str.ofString "/claim/cut.py") 450, .int 93 0, .int 1 0, .int 0 0, .int 0 0, .int 3 0, .ref 203, .bool true, .int 181 0, .ref 204, .none, .none, .none, .ref 205, .int 451 0, .int 93 0, .str (Str.ofString "/claim/cut.py") 452] }
noncomputable def hO135 (P : Params) : Obj := fnG (o := hpw.main.body[19]?) rfl (Value.type "function") (Str.ofString "read") 3 (Value.none) (Value.none) (Value.none) (Value.str (Str.ofString "buddyyard.notes") 421) (none) (Value.ref 206) (Value.none) 0
noncomputable def hO136 (P : Params) : Obj := { cls := .type "tuple", data := Data.seq #[.str (Str.ofString "_law_found") 459] }
noncomputable def hO137 (P : Params) : Obj := fnG (o := hpw.main.body[21]?) rfl (Value.none) (Str.ofString "_law_whole") 0 (Value.none) (Value.none) (Value.none) (Value.none) (none) (Value.none) (Value.none) 0
noncomputable def hO138 (P : Params) : Obj := { cls := .type "code", data := Data.fields #[.str (Str.ofString "_law_whole") 456, .str (Str.ofString "_law_whole") 457, .str (Str.ofString "/claim/cut.py") 458, .int 113 0, .int 1 0, .int 0 0, .int 0 0, .int 3 0, .ref 208, .bool true, .int 181 0, .ref 209, .none, .ref 210, .ref 211, .ref 212, .int 460 0, .int 113 0, .str (Str.ofString "/claim/cut.py") 461] }
noncomputable def hO139 (P : Params) : Obj := fnG (o := hpw.main.body[21]?) rfl (Value.type "function") (Str.ofString "_law_whole") 3 (Value.none) (Value.none) (Value.none) (Value.str (Str.ofString "law_uf060009_14") 454) (none) (Value.ref 213) (Value.none) 0
noncomputable def hO140 (P : Params) : Obj := { cls := .type "tuple", data := Data.seq #[.str (Str.ofString "_law_script") 466, .str (Str.ofString "_law_k") 467] }
noncomputable def hO141 (P : Params) : Obj := fnG (o := hpw.main.body[22]?) rfl (Value.none) (Str.ofString "_law_cell_at") 0 (Value.none) (Value.none) (Value.none) (Value.none) (none) (Value.none) (Value.none) 0
noncomputable def hO142 (P : Params) : Obj := { cls := .type "code", data := Data.fields #[.str (Str.ofString "_law_cell_at") 463, .str (Str.ofString "_law_cell_at") 464, .str (Str.ofString "/claim/cut.py") 465, .int 115 0, .int 2 0, .int 0 0, .int 0 0, .int 3 0, .ref 215, .bool true, .int 181 0, .ref 216, .none, .ref 217, .ref 218, .ref 219, .int 468 0, .int 115 0, .str (Str.ofString "/claim/cut.py") 469] }
noncomputable def hO143 (P : Params) : Obj := fnG (o := hpw.main.body[22]?) rfl (Value.type "function") (Str.ofString "_law_cell_at") 3 (Value.none) (Value.none) (Value.none) (Value.str (Str.ofString "law_uf060009_14") 454) (none) (Value.ref 220) (Value.none) 0
noncomputable def hO144 (P : Params) : Obj := { cls := .type "tuple", data := Data.seq #[.str (Str.ofString "_law_times") 474, .str (Str.ofString "_law_size") 475, .str (Str.ofString "_law_k") 476] }
noncomputable def hO145 (P : Params) : Obj := fnG (o := hpw.main.body[23]?) rfl (Value.none) (Str.ofString "_law_doubled") 0 (Value.none) (Value.none) (Value.none) (Value.none) (none) (Value.none) (Value.none) 0
noncomputable def hO146 (P : Params) : Obj := { cls := .type "code", data := Data.fields #[.str (Str.ofString "_law_doubled") 471, .str (Str.ofString "_law_doubled") 472, .str (Str.ofString "/claim/cut.py") 473, .int 119 0, .int 1 0, .int 0 0, .int 0 0, .int 3 0, .ref 222, .bool true, .int 181 0, .ref 223, .none, .ref 224, .ref 225, .ref 226, .int 477 0, .int 119 0, .str (Str.ofString "/claim/cut.py") 478] }
noncomputable def hO147 (P : Params) : Obj := fnG (o := hpw.main.body[23]?) rfl (Value.type "function") (Str.ofString "_law_doubled") 3 (Value.none) (Value.none) (Value.none) (Value.str (Str.ofString "law_uf060009_14") 454) (none) (Value.ref 227) (Value.none) 0
noncomputable def hO148 (P : Params) : Obj := { cls := .type "tuple", data := Data.seq #[.str (Str.ofString "_law_script") 483, .str (Str.ofString "_law_rest") 484, .str (Str.ofString "_law_pieces") 485, .str (Str.ofString "_law_cell") 486, .str (Str.ofString "_law_place") 487, .str (Str.ofString "_law_half") 488, .str (Str.ofString "_law_at") 489] }
noncomputable def hO149 (P : Params) : Obj := fnG (o := hpw.main.body[24]?) rfl (Value.none) (Str.ofString "_law_halved") 0 (Value.none) (Value.none) (Value.none) (Value.none) (none) (Value.none) (Value.none) 0
noncomputable def hO150 (P : Params) : Obj := { cls := .type "code", data := Data.fields #[.str (Str.ofString "_law_halved") 480, .str (Str.ofString "_law_halved") 481, .str (Str.ofString "/claim/cut.py") 482, .int 124 0, .int 1 0, .int 0 0, .int 0 0, .int 3 0, .ref 229, .bool true, .int 181 0, .ref 230, .none, .ref 231, .ref 232, .ref 233, .int 490 0, .int 124 0, .str (Str.ofString "/claim/cut.py") 491] }
noncomputable def hO151 (P : Params) : Obj := fnG (o := hpw.main.body[24]?) rfl (Value.type "function") (Str.ofString "_law_halved") 3 (Value.none) (Value.none) (Value.none) (Value.str (Str.ofString "law_uf060009_14") 454) (none) (Value.ref 234) (Value.none) 0
noncomputable def hO152 (P : Params) : Obj := fnG (o := hpw.main.body[25]?) rfl (Value.none) (Str.ofString "_law_in_a_row") 0 (Value.none) (Value.none) (Value.none) (Value.none) (none) (Value.none) (Value.none) 0
noncomputable def hO153 (P : Params) : Obj := { cls := .type "code", data := Data.fields #[.str (Str.ofString "_law_in_a_row") 493, .str (Str.ofString "_law_in_a_row") 494, .str (Str.ofString "/claim/cut.py") 495, .int 136 0, .int 2 0, .int 0 0, .int 0 0, .int 3 0, .ref 236, .bool true, .int 181 0, .ref 237, .none, .none, .none, .ref 238, .int 496 0, .int 136 0, .str (Str.ofString "/claim/cut.py") 497] }
noncomputable def hO154 (P : Params) : Obj := fnG (o := hpw.main.body[25]?) rfl (Value.type "function") (Str.ofString "_law_in_a_row") 3 (Value.none) (Value.none) (Value.none) (Value.str (Str.ofString "law_uf060009_14") 454) (none) (Value.ref 239) (Value.none) 0
noncomputable def hO155 (P : Params) : Obj := { cls := .type "tuple", data := Data.seq #[.str (Str.ofString "_law_script") 502, .str (Str.ofString "_law_pieces") 503, .str (Str.ofString "_law_lines_here") 504, .str (Str.ofString "_law_k") 505, .str (Str.ofString "_law_word") 506] }
noncomputable def hO156 (P : Params) : Obj := fnG (o := hpw.main.body[26]?) rfl (Value.none) (Str.ofString "_law_lines") 0 (Value.none) (Value.none) (Value.none) (Value.none) (none) (Value.none) (Value.none) 0
noncomputable def hO157 (P : Params) : Obj := { cls := .type "code", data := Data.fields #[.str (Str.ofString "_law_lines") 499, .str (Str.ofString "_law_lines") 500, .str (Str.ofString "/claim/cut.py") 501, .int 150 0, .int 2 0, .int 0 0, .int 0 0, .int 3 0, .ref 241, .bool true, .int 181 0, .ref 242, .none, .ref 243, .ref 244, .ref 245, .int 507 0, .int 150 0, .str (Str.ofString "/claim/cut.py") 508] }
noncomputable def hO158 (P : Params) : Obj := fnG (o := hpw.main.body[26]?) rfl (Value.type "function") (Str.ofString "_law_lines") 3 (Value.none) (Value.none) (Value.none) (Value.str (Str.ofString "law_uf060009_14") 454) (none) (Value.ref 246) (Value.none) 0
noncomputable def hO159 (P : Params) : Obj := { cls := .type "tuple", data := Data.seq #[.str (Str.ofString "_law_line") 513, .str (Str.ofString "_law_words") 514, .str (Str.ofString "_law_at") 515, .str (Str.ofString "_law_size") 516, .str (Str.ofString "_law_others_here") 517] }
noncomputable def hO160 (P : Params) : Obj := fnG (o := hpw.main.body[27]?) rfl (Value.none) (Str.ofString "_law_others") 0 (Value.none) (Value.none) (Value.none) (Value.none) (none) (Value.none) (Value.none) 0
noncomputable def hO161 (P : Params) : Obj := { cls := .type "code", data := Data.fields #[.str (Str.ofString "_law_others") 510, .str (Str.ofString "_law_others") 511, .str (Str.ofString "/claim/cut.py") 512, .int 158 0, .int 1 0, .int 0 0, .int 0 0, .int 3 0, .ref 248, .bool true, .int 181 0, .ref 249, .none, .ref 250, .ref 251, .ref 252, .int 518 0, .int 158 0, .str (Str.ofString "/claim/cut.py") 519] }
noncomputable def hO162 (P : Params) : Obj := fnG (o := hpw.main.body[27]?) rfl (Value.type "function") (Str.ofString "_law_others") 3 (Value.none) (Value.none) (Value.none) (Value.str (Str.ofString "law_uf060009_14") 454) (none) (Value.ref 253) (Value.none) 0
noncomputable def hO163 (P : Params) : Obj := { cls := .type "tuple", data := Data.seq #[.str (Str.ofString "_law_lines_here") 524, .str (Str.ofString "_law_cell") 525, .str (Str.ofString "_law_place") 526, .str (Str.ofString "_law_rest") 527, .str (Str.ofString "_law_way") 528, .str (Str.ofString "_law_others_here") 529, .str (Str.ofString "_law_other") 530] }
noncomputable def hO164 (P : Params) : Obj := fnG (o := hpw.main.body[28]?) rfl (Value.none) (Str.ofString "_law_spoilt") 0 (Value.none) (Value.none) (Value.none) (Value.none) (none) (Value.none) (Value.none) 0
noncomputable def hO165 (P : Params) : Obj := { cls := .type "code", data := Data.fields #[.str (Str.ofString "_law_spoilt") 521, .str (Str.ofString "_law_spoilt") 522, .str (Str.ofString "/claim/cut.py") 523, .int 174 0, .int 2 0, .int 0 0, .int 0 0, .int 3 0, .ref 255, .bool true, .int 181 0, .ref 256, .none, .ref 257, .ref 258, .ref 259, .int 531 0, .int 174 0, .str (Str.ofString "/claim/cut.py") 532] }
noncomputable def hO166 (P : Params) : Obj := fnG (o := hpw.main.body[28]?) rfl (Value.type "function") (Str.ofString "_law_spoilt") 3 (Value.none) (Value.none) (Value.none) (Value.str (Str.ofString "law_uf060009_14") 454) (none) (Value.ref 260) (Value.none) 0
noncomputable def hO167 (P : Params) : Obj := { cls := .type "tuple", data := Data.seq #[.str (Str.ofString "_law_word") 537, .str (Str.ofString "_law_sign") 538] }
noncomputable def hO168 (P : Params) : Obj := fnG (o := hpw.main.body[29]?) rfl (Value.none) (Str.ofString "_law_number") 0 (Value.none) (Value.none) (Value.none) (Value.none) (none) (Value.none) (Value.none) 0
noncomputable def hO169 (P : Params) : Obj := { cls := .type "code", data := Data.fields #[.str (Str.ofString "_law_number") 534, .str (Str.ofString "_law_number") 535, .str (Str.ofString "/claim/cut.py") 536, .int 191 0, .int 1 0, .int 0 0, .int 0 0, .int 3 0, .ref 262, .bool true, .int 181 0, .ref 263, .none, .ref 264, .ref 265, .ref 266, .int 539 0, .int 191 0, .str (Str.ofString "/claim/cut.py") 540] }
noncomputable def hO170 (P : Params) : Obj := fnG (o := hpw.main.body[29]?) rfl (Value.type "function") (Str.ofString "_law_number") 3 (Value.none) (Value.none) (Value.none) (Value.str (Str.ofString "law_uf060009_14") 454) (none) (Value.ref 267) (Value.none) 0
noncomputable def hO171 (P : Params) : Obj := { cls := .type "tuple", data := Data.seq #[.str (Str.ofString "_law_size") 545] }
noncomputable def hO172 (P : Params) : Obj := fnG (o := hpw.main.body[30]?) rfl (Value.none) (Str.ofString "_law_is_size") 0 (Value.none) (Value.none) (Value.none) (Value.none) (none) (Value.none) (Value.none) 0
noncomputable def hO173 (P : Params) : Obj := { cls := .type "code", data := Data.fields #[.str (Str.ofString "_law_is_size") 542, .str (Str.ofString "_law_is_size") 543, .str (Str.ofString "/claim/cut.py") 544, .int 198 0, .int 1 0, .int 0 0, .int 0 0, .int 3 0, .ref 269, .bool true, .int 181 0, .ref 270, .none, .ref 271, .ref 272, .ref 273, .int 546 0, .int 198 0, .str (Str.ofString "/claim/cut.py") 547] }
noncomputable def hO174 (P : Params) : Obj := fnG (o := hpw.main.body[30]?) rfl (Value.type "function") (Str.ofString "_law_is_size") 3 (Value.none) (Value.none) (Value.none) (Value.str (Str.ofString "law_uf060009_14") 454) (none) (Value.ref 274) (Value.none) 0
noncomputable def hO175 (P : Params) : Obj := { cls := .type "dict", data := Data.dict #[kE P "__name__" 165 (.str (Str.ofString "law_uf060009_14") 454), kE P "__doc__" 166 (.none), kE P "__package__" 167 (.none), kE P "__loader__" 168 (.builtin "__main__.__loader__#opaque"), kE P "__spec__" 169 (.none), kE P "__annotations__" 170 (.ref 6), kE P "__builtins__" 171 (.ref 4), kE P "__file__" 173 (.str (Str.ofString "/claim/cut.py") 172), kE P "__cached__" 174 (.none), kE P "_wall" 193 (.ref 21), kE P "YardError" 213 (.ref 31), kE P "NoYard" 229 (.ref 44), kE P "NoWish" 245 (.ref 56), kE P "NoRoom" 261 (.ref 68), kE P "NotOut" 277 (.ref 80), kE P "NoNote" 293 (.ref 92), kE P "MOST" 297 (.int 1152921504606846976 296), kE P "is_size" 305 (.ref 101), kE P "twin_of" 313 (.ref 108), kE P "Yard" 420 (.ref 184), kE P "FIGURES" 424 (.str (Str.ofString "0123456789") 423), kE P "MOST_FIGURES" 426 (.int 19 425), kE P "number_of" 434 (.ref 195), kE P "pieces_of" 447 (.ref 202), kE P "read" 453 (.ref 207), kE P "_law_whole" 462 (.ref 214), kE P "_law_cell_at" 470 (.ref 221), kE P "_law_doubled" 479 (.ref 228), kE P "_law_halved" 492 (.ref 235), kE P "_law_in_a_row" 498 (.ref 240), kE P "_law_lines" 509 (.ref 247), kE P "_law_others" 520 (.ref 254), kE P "_law_spoilt" 533 (.ref 261), kE P "_law_number" 541 (.ref 268), kE P "_law_is_size" 548 (.ref 275), kE P "_law_due" 562 (.ref 282), kE P "_law_refused" 569 (.ref 289), kE P "_law_refused_by_any" 577 (.ref 296), kE P "law" 583 (.ref 301)] 39 }
noncomputable def hO176 (P : Params) : Obj := { cls := .none, data := Data.fields #[.int 1 0, .int 0 0, .ref 20, .int 5 0, .int 0 0, .ref 27, .int 7 0, .int 0 0, .ref 40, .int 9 0, .int 0 0, .ref 52, .int 11 0, .int 0 0, .ref 64, .int 13 0, .int 0 0, .ref 76, .int 15 0, .int 0 0, .ref 88, .int 19 0, .int 0 0, .ref 100, .int 26 0, .int 0 0, .ref 107, .int 31 0, .int 0 0, .ref 114, .int 72 0, .int 0 0, .ref 194, .int 79 0, .int 0 0, .ref 201, .int 93 0, .int 0 0, .ref 206, .int 113 0, .int 0 0, .ref 213, .int 115 0, .int 0 0, .ref 220, .int 119 0, .int 0 0, .ref 227, .int 124 0, .int 0 0, .ref 234, .int 136 0, .int 0 0, .ref 239, .int 150 0, .int 0 0, .ref 246, .int 158 0, .int 0 0, .ref 253, .int 174 0, .int 0 0, .ref 260, .int 191 0, .int 0 0, .ref 267, .int 198 0, .int 0 0, .ref 274, .int 204 0, .int 0 0, .ref 281, .int 226 0, .int 0 0, .ref 288, .int 232 0, .int 0 0, .ref 295, .int 238 0, .int 0 0, .ref 300] }
noncomputable def hO177 (P : Params) : Obj := { cls := .type "tuple", data := Data.seq #[.str (Str.ofString "_law_lines_here") 552, .str (Str.ofString "_law_out") 553, .str (Str.ofString "_law_free") 554, .str (Str.ofString "_law_behind") 555, .str (Str.ofString "_law_line") 556, .str (Str.ofString "_law_words") 557, .str (Str.ofString "_law_at") 558, .str (Str.ofString "_law_size") 559] }
noncomputable def hO178 (P : Params) : Obj := fnG (o := hpw.main.body[31]?) rfl (Value.none) (Str.ofString "_law_due") 0 (Value.none) (Value.none) (Value.none) (Value.none) (none) (Value.none) (Value.none) 0
noncomputable def hO179 (P : Params) : Obj := { cls := .type "code", data := Data.fields #[.str (Str.ofString "_law_due") 549, .str (Str.ofString "_law_due") 550, .str (Str.ofString "/claim/cut.py") 551, .int 204 0, .int 1 0, .int 0 0, .int 0 0, .int 3 0, .ref 276, .bool true, .int 181 0, .ref 277, .none, .ref 278, .ref 279, .ref 280, .int 560 0, .int 204 0, .str (Str.ofString "/claim/cut.py") 561] }
noncomputable def hO180 (P : Params) : Obj := fnG (o := hpw.main.body[31]?) rfl (Value.type "function") (Str.ofString "_law_due") 3 (Value.none) (Value.none) (Value.none) (Value.str (Str.ofString "law_uf060009_14") 454) (none) (Value.ref 281) (Value.none) 0
noncomputable def hO181 (P : Params) : Obj := { cls := .type "tuple", data := Data.seq #[.str (Str.ofString "_law_text") 566] }
noncomputable def hO182 (P : Params) : Obj := fnG (o := hpw.main.body[32]?) rfl (Value.none) (Str.ofString "_law_refused") 0 (Value.none) (Value.none) (Value.none) (Value.none) (none) (Value.none) (Value.none) 0
noncomputable def hO183 (P : Params) : Obj := { cls := .type "code", data := Data.fields #[.str (Str.ofString "_law_refused") 563, .str (Str.ofString "_law_refused") 564, .str (Str.ofString "/claim/cut.py") 565, .int 226 0, .int 1 0, .int 0 0, .int 0 0, .int 3 0, .ref 283, .bool true, .int 181 0, .ref 284, .none, .ref 285, .ref 286, .ref 287, .int 567 0, .int 226 0, .str (Str.ofString "/claim/cut.py") 568] }
noncomputable def hO184 (P : Params) : Obj := fnG (o := hpw.main.body[32]?) rfl (Value.type "function") (Str.ofString "_law_refused") 3 (Value.none) (Value.none) (Value.none) (Value.str (Str.ofString "law_uf060009_14") 454) (none) (Value.ref 288) (Value.none) 0
noncomputable def hO185 (P : Params) : Obj := { cls := .type "tuple", data := Data.seq #[.str (Str.ofString "_law_text") 573, .str (Str.ofString "e") 574] }
noncomputable def hO186 (P : Params) : Obj := fnG (o := hpw.main.body[33]?) rfl (Value.none) (Str.ofString "_law_refused_by_any") 0 (Value.none) (Value.none) (Value.none) (Value.none) (none) (Value.none) (Value.none) 0
noncomputable def hO187 (P : Params) : Obj := { cls := .type "code", data := Data.fields #[.str (Str.ofString "_law_refused_by_any") 570, .str (Str.ofString "_law_refused_by_any") 571, .str (Str.ofString "/claim/cut.py") 572, .int 232 0, .int 1 0, .int 0 0, .int 0 0, .int 3 0, .ref 290, .bool true, .int 181 0, .ref 291, .none, .ref 292, .ref 293, .ref 294, .int 575 0, .int 232 0, .str (Str.ofString "/claim/cut.py") 576] }
noncomputable def hO188 (P : Params) : Obj := fnG (o := hpw.main.body[33]?) rfl (Value.type "function") (Str.ofString "_law_refused_by_any") 3 (Value.none) (Value.none) (Value.none) (Value.str (Str.ofString "law_uf060009_14") 454) (none) (Value.ref 295) (Value.none) 0
noncomputable def hO189 (P : Params) : Obj := fnG (o := hpw.main.body[34]?) rfl (Value.none) (Str.ofString "law") 0 (Value.none) (Value.none) (Value.none) (Value.none) (none) (Value.none) (Value.none) 0
noncomputable def hO190 (P : Params) : Obj := { cls := .type "code", data := Data.fields #[.str (Str.ofString "law") 578, .str (Str.ofString "law") 579, .str (Str.ofString "/claim/cut.py") 580, .int 238 0, .int 1 0, .int 0 0, .int 0 0, .int 3 0, .ref 297, .bool true, .int 181 0, .ref 298, .none, .none, .none, .ref 299, .int 581 0, .int 238 0, .str (Str.ofString "/claim/cut.py") 582] }
noncomputable def hO191 (P : Params) : Obj := fnG (o := hpw.main.body[34]?) rfl (Value.type "function") (Str.ofString "law") 3 (Value.none) (Value.none) (Value.none) (Value.str (Str.ofString "law_uf060009_14") 454) (none) (Value.ref 300) (Value.none) 0
noncomputable def hs7 : List Stmt := []
noncomputable def hg6 : List Stmt := ((behindTheImports hpw).drop 31).take 4
noncomputable def hs6 : List Stmt := hg6 ++ hs7
noncomputable def hg5 : List Stmt := ((behindTheImports hpw).drop 14).take 17
noncomputable def hs5 : List Stmt := hg5 ++ hs6
noncomputable def hg4 : List Stmt := ((behindTheImports hpw).drop 13).take 1
noncomputable def hs4 : List Stmt := hg4 ++ hs5
noncomputable def hg3 : List Stmt := ((behindTheImports hpw).drop 10).take 3
noncomputable def hs3 : List Stmt := hg3 ++ hs4
noncomputable def hg2 : List Stmt := ((behindTheImports hpw).drop 6).take 4
noncomputable def hs2 : List Stmt := hg2 ++ hs3
noncomputable def hg1 : List Stmt := ((behindTheImports hpw).drop 4).take 2
noncomputable def hs1 : List Stmt := hg1 ++ hs2
noncomputable def hg0 : List Stmt := ((behindTheImports hpw).drop 0).take 4
noncomputable def hs0 : List Stmt := hg0 ++ hs1
noncomputable def hC : Code := .body hs0 hE
noncomputable abbrev hB : List Frame := [topFrame ({ line := 0, col := 0, endLine := 0, endCol := 0 } : Pos)]
noncomputable def hHa (P : Params) : Heap := ⟨⟨boot_o_0 P :: boot_o_1 P :: boot_o_2 P :: boot_o_3 P :: boot_o_4 P :: boot_o_5 P :: boot_o_6 P :: boot_o_7 P :: boot_o_8 P :: boot_o_9 P :: boot_o_10 P :: hO0 P :: hO1 P :: hO2 P :: hO3 P :: []⟩, ({ })⟩
noncomputable def hT0 (P : Params) : PySem.W.BT := (.node (boot_o_0 P) (.node (boot_o_1 P) (.node (boot_o_3 P) (.node (boot_o_7 P) .nil .nil) (.node (hO0 P) .nil .nil)) (.node (boot_o_5 P) (.node (boot_o_9 P) .nil .nil) (.node (hO2 P) .nil .nil))) (.node (boot_o_2 P) (.node (boot_o_4 P) (.node (boot_o_8 P) .nil .nil) (.node (hO1 P) .nil .nil)) (.node (boot_o_6 P) (.node (boot_o_10 P) .nil .nil) (.node (hO3 P) .nil .nil))))
noncomputable abbrev hS0 (w : World) (os : OsState) : SharedT := ⟨hT0 w.params, 15, ({ }), ⟨[]⟩, ({ }), 187, os⟩
noncomputable def hT1 (P : Params) : PySem.W.BT := (.node (boot_o_0 P) (.node (boot_o_1 P) (.node (hO4 P) (.node (boot_o_7 P) (.node (hO0 P) (.node (hO16 P) .nil .nil) .nil) (.node (hO11 P) (.node (hO1 P) .nil .nil) .nil)) (.node (hO0 P) (.node (hO7 P) (.node (hO20 P) .nil .nil) .nil) (.node (hO13 P) (.node (hO24 P) .nil .nil) .nil))) (.node (boot_o_5 P) (.node (boot_o_9 P) (.node (hO6 P) (.node (hO18 P) .nil .nil) .nil) (.node (hO0 P) (.node (hO23 P) .nil .nil) .nil)) (.node (hO2 P) (.node (hO9 P) (.node (hO21 P) .nil .nil) .nil) (.node (hO0 P) (.node (hO26 P) .nil .nil) .nil)))) (.node (boot_o_2 P) (.node (boot_o_4 P) (.node (boot_o_8 P) (.node (hO1 P) (.node (hO17 P) .nil .nil) .nil) (.node (hO12 P) (.node (hO22 P) .nil .nil) .nil)) (.node (hO5 P) (.node (hO8 P) (.node (hO11 P) .nil .nil) .nil) (.node (hO14 P) (.node (hO25 P) .nil .nil) .nil))) (.node (boot_o_6 P) (.node (boot_o_10 P) (.node (hO0 P) (.node (hO19 P) .nil .nil) .nil) (.node (hO1 P) (.node (hO0 P) .nil .nil) .nil)) (.node (hO3 P) (.node (hO10 P) (.node (hO0 P) .nil .nil) .nil) (.node (hO15 P) (.node (hO27 P) .nil .nil) .nil)))))
noncomputable abbrev hS1 (w : World) (os : OsState) : SharedT := ⟨hT1 w.params, 47, ({ }), ⟨[]⟩, ({ }), 230, os⟩
noncomputable def hT2 (P : Params) : PySem.W.BT := (.node (boot_o_0 P) (.node (boot_o_1 P) (.node (hO28 P) (.node (boot_o_7 P) (.node (hO0 P) (.node (hO30 P) (.node (hO1 P) .nil .nil) .nil) (.node (hO20 P) .nil .nil)) (.node (hO11 P) (.node (hO1 P) .nil .nil) (.node (hO34 P) .nil .nil))) (.node (hO0 P) (.node (hO7 P) (.node (hO20 P) (.node (hO41 P) .nil .nil) .nil) (.node (hO1 P) .nil .nil)) (.node (hO13 P) (.node (hO24 P) .nil .nil) (.node (hO20 P) .nil .nil)))) (.node (boot_o_5 P) (.node (boot_o_9 P) (.node (hO6 P) (.node (hO18 P) (.node (hO40 P) .nil .nil) .nil) (.node (hO31 P) .nil .nil)) (.node (hO0 P) (.node (hO23 P) .nil .nil) (.node (hO36 P) .nil .nil))) (.node (hO2 P) (.node (hO9 P) (.node (hO21 P) (.node (hO43 P) .nil .nil) .nil) (.node (hO33 P) .nil .nil)) (.node (hO0 P) (.node (hO26 P) .nil .nil) (.node (hO38 P) .nil .nil))))) (.node (boot_o_2 P) (.node (boot_o_4 P) (.node (boot_o_8 P) (.node (hO1 P) (.node (hO17 P) (.node (hO39 P) .nil .nil) .nil) (.node (hO11 P) .nil .nil)) (.node (hO12 P) (.node (hO22 P) .nil .nil) (.node (hO35 P) .nil .nil))) (.node (hO29 P) (.node (hO8 P) (.node (hO11 P) (.node (hO42 P) .nil .nil) .nil) (.node (hO32 P) .nil .nil)) (.node (hO14 P) (.node (hO25 P) .nil .nil) (.node (hO11 P) .nil .nil)))) (.node (boot_o_6 P) (.node (boot_o_10 P) (.node (hO0 P) (.node (hO19 P) (.node (hO0 P) .nil .nil) .nil) (.node (hO0 P) .nil .nil)) (.node (hO1 P) (.node (hO0 P) .nil .nil) (.node (hO37 P) .nil .nil))) (.node (hO3 P) (.node (hO10 P) (.node (hO0 P) (.node (hO44 P) .nil .nil) .nil) (.node (hO0 P) .nil .nil)) (.node (hO15 P) (.node (hO27 P) .nil .nil) (.node (hO0 P) .nil .nil))))))
noncomputable abbrev hS2 (w : World) (os : OsState) : SharedT := ⟨hT2 w.params, 71, ({ }), ⟨[]⟩, ({ }), 262, os⟩
noncomputable def hT3 (P : Params) : PySem.W.BT := (.node (boot_o_0 P) (.node (boot_o_1 P) (.node (hO45 P) (.node (boot_o_7 P) (.node (hO0 P) (.node (hO47 P) (.node (hO1 P) .nil .nil) .nil) (.node (hO20 P) (.node (hO51 P) .nil .nil) .nil)) (.node (hO11 P) (.node (hO1 P) (.node (hO20 P) .nil .nil) .nil) (.node (hO34 P) (.node (hO1 P) .nil .nil) .nil))) (.node (hO0 P) (.node (hO7 P) (.node (hO20 P) (.node (hO41 P) .nil .nil) .nil) (.node (hO1 P) (.node (hO20 P) .nil .nil) .nil)) (.node (hO13 P) (.node (hO24 P) (.node (hO1 P) .nil .nil) .nil) (.node (hO20 P) (.node (hO58 P) .nil .nil) .nil)))) (.node (boot_o_5 P) (.node (boot_o_9 P) (.node (hO6 P) (.node (hO18 P) (.node (hO40 P) .nil .nil) .nil) (.node (hO31 P) (.node (hO53 P) .nil .nil) .nil)) (.node (hO0 P) (.node (hO23 P) (.node (hO48 P) .nil .nil) .nil) (.node (hO36 P) (.node (hO57 P) .nil .nil) .nil))) (.node (hO2 P) (.node (hO9 P) (.node (hO21 P) (.node (hO43 P) .nil .nil) .nil) (.node (hO33 P) (.node (hO55 P) .nil .nil) .nil)) (.node (hO0 P) (.node (hO26 P) (.node (hO50 P) .nil .nil) .nil) (.node (hO38 P) (.node (hO60 P) .nil .nil) .nil))))) (.node (boot_o_2 P) (.node (boot_o_4 P) (.node (boot_o_8 P) (.node (hO1 P) (.node (hO17 P) (.node (hO39 P) .nil .nil) .nil) (.node (hO11 P) (.node (hO52 P) .nil .nil) .nil)) (.node (hO12 P) (.node (hO22 P) (.node (hO11 P) .nil .nil) .nil) (.node (hO35 P) (.node (hO56 P) .nil .nil) .nil))) (.node (hO46 P) (.node (hO8 P) (.node (hO11 P) (.node (hO42 P) .nil .nil) .nil) (.node (hO32 P) (.node (hO11 P) .nil .nil) .nil)) (.node (hO14 P) (.node (hO25 P) (.node (hO49 P) .nil .nil) .nil) (.node (hO11 P) (.node (hO59 P) .nil .nil) .nil)))) (.node (boot_o_6 P) (.node (boot_o_10 P) (.node (hO0 P) (.node (hO19 P) (.node (hO0 P) .nil .nil) .nil) (.node (hO0 P) (.node (hO54 P) .nil .nil) .nil)) (.node (hO1 P) (.node (hO0 P) (.node (hO0 P) .nil .nil) .nil) (.node (hO37 P) (.node (hO0 P) .nil .nil) .nil))) (.node (hO3 P) (.node (hO10 P) (.node (hO0 P) (.node (hO44 P) .nil .nil) .nil) (.node (hO0 P) (.node (hO0 P) .nil .nil) .nil)) (.node (hO15 P) (.node (hO27 P) (.node (hO0 P) .nil .nil) .nil) (.node (hO0 P) (.node (hO61 P) .nil .nil) .nil))))))
noncomputable abbrev hS3 (w : World) (os : OsState) : SharedT := ⟨hT3 w.params, 95, ({ }), ⟨[]⟩, ({ }), 298, os⟩
noncomputable def hT4 (P : Params) : PySem.W.BT := (.node (boot_o_0 P) (.node (boot_o_1 P) (.node (hO62 P) (.node (boot_o_7 P) (.node (hO0 P) (.node (hO47 P) (.node (hO1 P) .nil .nil) (.node (hO0 P) .nil .nil)) (.node (hO20 P) (.node (hO51 P) .nil .nil) .nil)) (.node (hO11 P) (.node (hO1 P) (.node (hO20 P) .nil .nil) (.node (hO1 P) .nil .nil)) (.node (hO34 P) (.node (hO1 P) .nil .nil) .nil))) (.node (hO0 P) (.node (hO7 P) (.node (hO20 P) (.node (hO41 P) .nil .nil) (.node (hO65 P) .nil .nil)) (.node (hO1 P) (.node (hO20 P) .nil .nil) .nil)) (.node (hO13 P) (.node (hO24 P) (.node (hO1 P) .nil .nil) (.node (hO70 P) .nil .nil)) (.node (hO20 P) (.node (hO58 P) .nil .nil) .nil)))) (.node (boot_o_5 P) (.node (boot_o_9 P) (.node (hO6 P) (.node (hO18 P) (.node (hO40 P) .nil .nil) (.node (hO64 P) .nil .nil)) (.node (hO31 P) (.node (hO53 P) .nil .nil) .nil)) (.node (hO0 P) (.node (hO23 P) (.node (hO48 P) .nil .nil) (.node (hO0 P) .nil .nil)) (.node (hO36 P) (.node (hO57 P) .nil .nil) .nil))) (.node (hO2 P) (.node (hO9 P) (.node (hO21 P) (.node (hO43 P) .nil .nil) (.node (hO67 P) .nil .nil)) (.node (hO33 P) (.node (hO55 P) .nil .nil) .nil)) (.node (hO0 P) (.node (hO26 P) (.node (hO50 P) .nil .nil) .nil) (.node (hO38 P) (.node (hO60 P) .nil .nil) .nil))))) (.node (boot_o_2 P) (.node (boot_o_4 P) (.node (boot_o_8 P) (.node (hO1 P) (.node (hO17 P) (.node (hO39 P) .nil .nil) (.node (hO1 P) .nil .nil)) (.node (hO11 P) (.node (hO52 P) .nil .nil) .nil)) (.node (hO12 P) (.node (hO22 P) (.node (hO11 P) .nil .nil) (.node (hO68 P) .nil .nil)) (.node (hO35 P) (.node (hO56 P) .nil .nil) .nil))) (.node (hO63 P) (.node (hO8 P) (.node (hO11 P) (.node (hO42 P) .nil .nil) (.node (hO66 P) .nil .nil)) (.node (hO32 P) (.node (hO11 P) .nil .nil) .nil)) (.node (hO14 P) (.node (hO25 P) (.node (hO49 P) .nil .nil) (.node (hO71 P) .nil .nil)) (.node (hO11 P) (.node (hO59 P) .nil .nil) .nil)))) (.node (boot_o_6 P) (.node (boot_o_10 P) (.node (hO0 P) (.node (hO19 P) (.node (hO0 P) .nil .nil) (.node (hO0 P) .nil .nil)) (.node (hO0 P) (.node (hO54 P) .nil .nil) .nil)) (.node (hO1 P) (.node (hO0 P) (.node (hO0 P) .nil .nil) (.node (hO69 P) .nil .nil)) (.node (hO37 P) (.node (hO0 P) .nil .nil) .nil))) (.node (hO3 P) (.node (hO10 P) (.node (hO0 P) (.node (hO44 P) .nil .nil) (.node (hO0 P) .nil .nil)) (.node (hO0 P) (.node (hO0 P) .nil .nil) .nil)) (.node (hO15 P) (.node (hO27 P) (.node (hO0 P) .nil .nil) .nil) (.node (hO0 P) (.node (hO61 P) .nil .nil) .nil))))))
noncomputable abbrev hS4 (w : World) (os : OsState) : SharedT := ⟨hT4 w.params, 109, ({ }), ⟨[]⟩, ({ }), 316, os⟩
noncomputable def hT5 (P : Params) : PySem.W.BT := (.node (boot_o_0 P) (.node (boot_o_1 P) (.node (hO72 P) (.node (boot_o_7 P) (.node (hO0 P) (.node (hO47 P) (.node (hO1 P) (.node (hO83 P) .nil .nil) .nil) (.node (hO0 P) (.node (hO1 P) .nil .nil) .nil)) (.node (hO20 P) (.node (hO51 P) (.node (hO93 P) .nil .nil) .nil) (.node (hO74 P) (.node (hO0 P) .nil .nil) .nil))) (.node (hO11 P) (.node (hO1 P) (.node (hO20 P) (.node (hO88 P) .nil .nil) .nil) (.node (hO1 P) (.node (hO106 P) .nil .nil) .nil)) (.node (hO34 P) (.node (hO1 P) (.node (hO0 P) .nil .nil) .nil) (.node (hO0 P) (.node (hO117 P) .nil .nil) .nil)))) (.node (hO0 P) (.node (hO7 P) (.node (hO20 P) (.node (hO41 P) (.node (hO1 P) .nil .nil) .nil) (.node (hO65 P) (.node (hO104 P) .nil .nil) .nil)) (.node (hO1 P) (.node (hO20 P) (.node (hO0 P) .nil .nil) .nil) (.node (hO77 P) (.node (hO113 P) .nil .nil) .nil))) (.node (hO13 P) (.node (hO24 P) (.node (hO1 P) (.node (hO90 P) .nil .nil) .nil) (.node (hO70 P) (.node (hO1 P) .nil .nil) .nil)) (.node (hO20 P) (.node (hO58 P) (.node (hO99 P) .nil .nil) .nil) (.node (hO0 P) (.node (hO121 P) .nil .nil) .nil))))) (.node (boot_o_5 P) (.node (boot_o_9 P) (.node (hO6 P) (.node (hO18 P) (.node (hO40 P) (.node (hO85 P) .nil .nil) .nil) (.node (hO64 P) (.node (hO0 P) .nil .nil) .nil)) (.node (hO31 P) (.node (hO53 P) (.node (hO1 P) .nil .nil) .nil) (.node (hO75 P) (.node (hO112 P) .nil .nil) .nil))) (.node (hO0 P) (.node (hO23 P) (.node (hO48 P) (.node (hO0 P) .nil .nil) .nil) (.node (hO0 P) (.node (hO108 P) .nil .nil) .nil)) (.node (hO36 P) (.node (hO57 P) (.node (hO98 P) .nil .nil) .nil) (.node (hO80 P) (.node (hO119 P) .nil .nil) .nil)))) (.node (hO2 P) (.node (hO9 P) (.node (hO21 P) (.node (hO43 P) (.node (hO0 P) .nil .nil) .nil) (.node (hO67 P) (.node (hO0 P) .nil .nil) .nil)) (.node (hO33 P) (.node (hO55 P) (.node (hO96 P) .nil .nil) .nil) (.node (hO1 P) (.node (hO115 P) .nil .nil) .nil))) (.node (hO0 P) (.node (hO26 P) (.node (hO50 P) (.node (hO91 P) .nil .nil) .nil) (.node (hO0 P) (.node (hO110 P) .nil .nil) .nil)) (.node (hO38 P) (.node (hO60 P) (.node (hO101 P) .nil .nil) .nil) (.node (hO82 P) .nil .nil)))))) (.node (boot_o_2 P) (.node (boot_o_4 P) (.node (boot_o_8 P) (.node (hO1 P) (.node (hO17 P) (.node (hO39 P) (.node (hO84 P) .nil .nil) .nil) (.node (hO1 P) (.node (hO102 P) .nil .nil) .nil)) (.node (hO11 P) (.node (hO52 P) (.node (hO0 P) .nil .nil) .nil) (.node (hO0 P) (.node (hO1 P) .nil .nil) .nil))) (.node (hO12 P) (.node (hO22 P) (.node (hO11 P) (.node (hO89 P) .nil .nil) .nil) (.node (hO68 P) (.node (hO107 P) .nil .nil) .nil)) (.node (hO35 P) (.node (hO56 P) (.node (hO1 P) .nil .nil) .nil) (.node (hO79 P) (.node (hO118 P) .nil .nil) .nil)))) (.node (hO73 P) (.node (hO8 P) (.node (hO11 P) (.node (hO42 P) (.node (hO86 P) .nil .nil) .nil) (.node (hO66 P) (.node (hO105 P) .nil .nil) .nil)) (.node (hO32 P) (.node (hO11 P) (.node (hO95 P) .nil .nil) .nil) (.node (hO0 P) (.node (hO114 P) .nil .nil) .nil))) (.node (hO14 P) (.node (hO25 P) (.node (hO49 P) (.node (hO0 P) .nil .nil) .nil) (.node (hO71 P) (.node (hO109 P) .nil .nil) .nil)) (.node (hO11 P) (.node (hO59 P) (.node (hO100 P) .nil .nil) .nil) (.node (hO1 P) (.node (hO122 P) .nil .nil) .nil))))) (.node (boot_o_6 P) (.node (boot_o_10 P) (.node (hO0 P) (.node (hO19 P) (.node (hO0 P) (.node (hO0 P) .nil .nil) .nil) (.node (hO0 P) (.node (hO103 P) .nil .nil) .nil)) (.node (hO0 P) (.node (hO54 P) (.node (hO94 P) .nil .nil) .nil) (.node (hO76 P) (.node (hO0 P) .nil .nil) .nil))) (.node (hO1 P) (.node (hO0 P) (.node (hO0 P) (.node (hO1 P) .nil .nil) .nil) (.node (hO69 P) (.node (hO0 P) .nil .nil) .nil)) (.node (hO37 P) (.node (hO0 P) (.node (hO0 P) .nil .nil) .nil) (.node (hO81 P) (.node (hO120 P) .nil .nil) .nil)))) (.node (hO3 P) (.node (hO10 P) (.node (hO0 P) (.node (hO44 P) (.node (hO87 P) .nil .nil) .nil) (.node (hO0 P) (.node (hO1 P) .nil .nil) .nil)) (.node (hO0 P) (.node (hO0 P) (.node (hO97 P) .nil .nil) .nil) (.node (hO78 P) (.node (hO116 P) .nil .nil) .nil))) (.node (hO15 P) (.node (hO27 P) (.node (hO0 P) (.node (hO92 P) .nil .nil) .nil) (.node (hO11 P) (.node (hO111 P) .nil .nil) .nil)) (.node (hO0 P) (.node (hO61 P) (.node (hO0 P) .nil .nil) .nil) (.node (hO0 P) .nil .nil)))))))
noncomputable abbrev hS5 (w : World) (os : OsState) : SharedT := ⟨hT5 w.params, 189, ({ }), ⟨[]⟩, ({ }), 421, os⟩
noncomputable def hT6 (P : Params) : PySem.W.BT := (.node (boot_o_0 P) (.node (boot_o_1 P) (.node (hO123 P) (.node (boot_o_7 P) (.node (hO0 P) (.node (hO47 P) (.node (hO1 P) (.node (hO83 P) (.node (hO0 P) .nil .nil) .nil) (.node (hO125 P) .nil .nil)) (.node (hO0 P) (.node (hO1 P) .nil .nil) (.node (hO1 P) .nil .nil))) (.node (hO20 P) (.node (hO51 P) (.node (hO93 P) (.node (hO171 P) .nil .nil) .nil) (.node (hO135 P) .nil .nil)) (.node (hO74 P) (.node (hO0 P) .nil .nil) (.node (hO153 P) .nil .nil)))) (.node (hO11 P) (.node (hO1 P) (.node (hO20 P) (.node (hO88 P) (.node (hO1 P) .nil .nil) .nil) (.node (hO0 P) .nil .nil)) (.node (hO1 P) (.node (hO106 P) .nil .nil) (.node (hO148 P) .nil .nil))) (.node (hO34 P) (.node (hO1 P) (.node (hO0 P) .nil .nil) (.node (hO0 P) .nil .nil)) (.node (hO0 P) (.node (hO117 P) .nil .nil) (.node (hO158 P) .nil .nil))))) (.node (hO0 P) (.node (hO7 P) (.node (hO20 P) (.node (hO41 P) (.node (hO1 P) (.node (hO164 P) .nil .nil) .nil) (.node (hO128 P) .nil .nil)) (.node (hO65 P) (.node (hO104 P) .nil .nil) (.node (hO146 P) .nil .nil))) (.node (hO1 P) (.node (hO20 P) (.node (hO0 P) (.node (hO174 P) .nil .nil) .nil) (.node (hO0 P) .nil .nil)) (.node (hO77 P) (.node (hO113 P) .nil .nil) (.node (hO155 P) .nil .nil)))) (.node (hO13 P) (.node (hO24 P) (.node (hO1 P) (.node (hO90 P) (.node (hO169 P) .nil .nil) .nil) (.node (hO0 P) .nil .nil)) (.node (hO70 P) (.node (hO1 P) .nil .nil) (.node (hO151 P) .nil .nil))) (.node (hO20 P) (.node (hO58 P) (.node (hO99 P) .nil .nil) (.node (hO141 P) .nil .nil)) (.node (hO0 P) (.node (hO121 P) .nil .nil) (.node (hO0 P) .nil .nil)))))) (.node (boot_o_5 P) (.node (boot_o_9 P) (.node (hO6 P) (.node (hO18 P) (.node (hO40 P) (.node (hO85 P) (.node (hO163 P) .nil .nil) .nil) (.node (hO126 P) .nil .nil)) (.node (hO64 P) (.node (hO0 P) .nil .nil) (.node (hO0 P) .nil .nil))) (.node (hO31 P) (.node (hO53 P) (.node (hO1 P) (.node (hO172 P) .nil .nil) .nil) (.node (hO1 P) .nil .nil)) (.node (hO75 P) (.node (hO112 P) .nil .nil) (.node (hO0 P) .nil .nil)))) (.node (hO0 P) (.node (hO23 P) (.node (hO48 P) (.node (hO0 P) (.node (hO0 P) .nil .nil) .nil) (.node (hO131 P) .nil .nil)) (.node (hO0 P) (.node (hO108 P) .nil .nil) (.node (hO149 P) .nil .nil))) (.node (hO36 P) (.node (hO57 P) (.node (hO98 P) .nil .nil) (.node (hO140 P) .nil .nil)) (.node (hO80 P) (.node (hO119 P) .nil .nil) (.node (hO1 P) .nil .nil))))) (.node (hO2 P) (.node (hO9 P) (.node (hO21 P) (.node (hO43 P) (.node (hO0 P) (.node (hO166 P) .nil .nil) .nil) (.node (hO1 P) .nil .nil)) (.node (hO67 P) (.node (hO0 P) .nil .nil) (.node (hO0 P) .nil .nil))) (.node (hO33 P) (.node (hO55 P) (.node (hO96 P) .nil .nil) (.node (hO138 P) .nil .nil)) (.node (hO1 P) (.node (hO115 P) .nil .nil) (.node (hO156 P) .nil .nil)))) (.node (hO0 P) (.node (hO26 P) (.node (hO50 P) (.node (hO91 P) (.node (hO0 P) .nil .nil) .nil) (.node (hO133 P) .nil .nil)) (.node (hO0 P) (.node (hO110 P) .nil .nil) (.node (hO1 P) .nil .nil))) (.node (hO38 P) (.node (hO60 P) (.node (hO101 P) .nil .nil) (.node (hO143 P) .nil .nil)) (.node (hO82 P) (.node (hO0 P) .nil .nil) (.node (hO161 P) .nil .nil))))))) (.node (boot_o_2 P) (.node (boot_o_4 P) (.node (boot_o_8 P) (.node (hO1 P) (.node (hO17 P) (.node (hO39 P) (.node (hO84 P) (.node (hO1 P) .nil .nil) .nil) (.node (hO0 P) .nil .nil)) (.node (hO1 P) (.node (hO102 P) .nil .nil) (.node (hO144 P) .nil .nil))) (.node (hO11 P) (.node (hO52 P) (.node (hO0 P) (.node (hO0 P) .nil .nil) .nil) (.node (hO0 P) .nil .nil)) (.node (hO0 P) (.node (hO1 P) .nil .nil) (.node (hO154 P) .nil .nil)))) (.node (hO12 P) (.node (hO22 P) (.node (hO11 P) (.node (hO89 P) (.node (hO167 P) .nil .nil) .nil) (.node (hO130 P) .nil .nil)) (.node (hO68 P) (.node (hO107 P) .nil .nil) (.node (hO0 P) .nil .nil))) (.node (hO35 P) (.node (hO56 P) (.node (hO1 P) .nil .nil) (.node (hO1 P) .nil .nil)) (.node (hO79 P) (.node (hO118 P) .nil .nil) (.node (hO0 P) .nil .nil))))) (.node (hO124 P) (.node (hO8 P) (.node (hO11 P) (.node (hO42 P) (.node (hO86 P) (.node (hO165 P) .nil .nil) .nil) (.node (hO0 P) .nil .nil)) (.node (hO66 P) (.node (hO105 P) .nil .nil) (.node (hO147 P) .nil .nil))) (.node (hO32 P) (.node (hO11 P) (.node (hO95 P) .nil .nil) (.node (hO137 P) .nil .nil)) (.node (hO0 P) (.node (hO114 P) .nil .nil) (.node (hO0 P) .nil .nil)))) (.node (hO14 P) (.node (hO25 P) (.node (hO49 P) (.node (hO0 P) (.node (hO170 P) .nil .nil) .nil) (.node (hO1 P) .nil .nil)) (.node (hO71 P) (.node (hO109 P) .nil .nil) (.node (hO0 P) .nil .nil))) (.node (hO11 P) (.node (hO59 P) (.node (hO100 P) .nil .nil) (.node (hO142 P) .nil .nil)) (.node (hO1 P) (.node (hO122 P) .nil .nil) (.node (hO160 P) .nil .nil)))))) (.node (boot_o_6 P) (.node (boot_o_10 P) (.node (hO0 P) (.node (hO19 P) (.node (hO0 P) (.node (hO0 P) (.node (hO0 P) .nil .nil) .nil) (.node (hO127 P) .nil .nil)) (.node (hO0 P) (.node (hO103 P) .nil .nil) (.node (hO145 P) .nil .nil))) (.node (hO0 P) (.node (hO54 P) (.node (hO94 P) (.node (hO173 P) .nil .nil) .nil) (.node (hO136 P) .nil .nil)) (.node (hO76 P) (.node (hO0 P) .nil .nil) (.node (hO1 P) .nil .nil)))) (.node (hO1 P) (.node (hO0 P) (.node (hO0 P) (.node (hO1 P) (.node (hO168 P) .nil .nil) .nil) (.node (hO132 P) .nil .nil)) (.node (hO69 P) (.node (hO0 P) .nil .nil) (.node (hO150 P) .nil .nil))) (.node (hO37 P) (.node (hO0 P) (.node (hO0 P) .nil .nil) (.node (hO0 P) .nil .nil)) (.node (hO81 P) (.node (hO120 P) .nil .nil) (.node (hO159 P) .nil .nil))))) (.node (hO3 P) (.node (hO10 P) (.node (hO0 P) (.node (hO44 P) (.node (hO87 P) (.node (hO0 P) .nil .nil) .nil) (.node (hO129 P) .nil .nil)) (.node (hO0 P) (.node (hO1 P) .nil .nil) (.node (hO1 P) .nil .nil))) (.node (hO0 P) (.node (hO0 P) (.node (hO97 P) .nil .nil) (.node (hO139 P) .nil .nil)) (.node (hO78 P) (.node (hO116 P) .nil .nil) (.node (hO157 P) .nil .nil)))) (.node (hO15 P) (.node (hO27 P) (.node (hO0 P) (.node (hO92 P) (.node (hO1 P) .nil .nil) .nil) (.node (hO134 P) .nil .nil)) (.node (hO11 P) (.node (hO111 P) .nil .nil) (.node (hO152 P) .nil .nil))) (.node (hO0 P) (.node (hO61 P) (.node (hO0 P) .nil .nil) (.node (hO0 P) .nil .nil)) (.node (hO0 P) (.node (hO1 P) .nil .nil) (.node (hO162 P) .nil .nil))))))))
noncomputable abbrev hS6 (w : World) (os : OsState) : SharedT := ⟨hT6 w.params, 276, ({ }), ⟨[]⟩, ({ }), 549, os⟩
noncomputable def hT7 (P : Params) : PySem.W.BT := (.node (boot_o_0 P) (.node (boot_o_1 P) (.node (hO175 P) (.node (boot_o_7 P) (.node (hO0 P) (.node (hO47 P) (.node (hO1 P) (.node (hO83 P) (.node (hO0 P) .nil .nil) .nil) (.node (hO125 P) .nil .nil)) (.node (hO0 P) (.node (hO1 P) (.node (hO182 P) .nil .nil) .nil) (.node (hO1 P) .nil .nil))) (.node (hO20 P) (.node (hO51 P) (.node (hO93 P) (.node (hO171 P) .nil .nil) .nil) (.node (hO135 P) .nil .nil)) (.node (hO74 P) (.node (hO0 P) .nil .nil) (.node (hO153 P) .nil .nil)))) (.node (hO11 P) (.node (hO1 P) (.node (hO20 P) (.node (hO88 P) (.node (hO1 P) .nil .nil) .nil) (.node (hO0 P) .nil .nil)) (.node (hO1 P) (.node (hO106 P) (.node (hO187 P) .nil .nil) .nil) (.node (hO148 P) .nil .nil))) (.node (hO34 P) (.node (hO1 P) (.node (hO0 P) (.node (hO0 P) .nil .nil) .nil) (.node (hO0 P) .nil .nil)) (.node (hO0 P) (.node (hO117 P) .nil .nil) (.node (hO158 P) .nil .nil))))) (.node (hO0 P) (.node (hO7 P) (.node (hO20 P) (.node (hO41 P) (.node (hO1 P) (.node (hO164 P) .nil .nil) .nil) (.node (hO128 P) .nil .nil)) (.node (hO65 P) (.node (hO104 P) (.node (hO1 P) .nil .nil) .nil) (.node (hO146 P) .nil .nil))) (.node (hO1 P) (.node (hO20 P) (.node (hO0 P) (.node (hO174 P) .nil .nil) .nil) (.node (hO0 P) .nil .nil)) (.node (hO77 P) (.node (hO113 P) .nil .nil) (.node (hO155 P) .nil .nil)))) (.node (hO13 P) (.node (hO24 P) (.node (hO1 P) (.node (hO90 P) (.node (hO169 P) .nil .nil) .nil) (.node (hO0 P) .nil .nil)) (.node (hO70 P) (.node (hO1 P) (.node (hO189 P) .nil .nil) .nil) (.node (hO151 P) .nil .nil))) (.node (hO20 P) (.node (hO58 P) (.node (hO99 P) (.node (hO0 P) .nil .nil) .nil) (.node (hO141 P) .nil .nil)) (.node (hO0 P) (.node (hO121 P) .nil .nil) (.node (hO0 P) .nil .nil)))))) (.node (boot_o_5 P) (.node (boot_o_9 P) (.node (hO6 P) (.node (hO18 P) (.node (hO40 P) (.node (hO85 P) (.node (hO163 P) .nil .nil) .nil) (.node (hO126 P) .nil .nil)) (.node (hO64 P) (.node (hO0 P) (.node (hO184 P) .nil .nil) .nil) (.node (hO0 P) .nil .nil))) (.node (hO31 P) (.node (hO53 P) (.node (hO1 P) (.node (hO172 P) .nil .nil) .nil) (.node (hO1 P) .nil .nil)) (.node (hO75 P) (.node (hO112 P) .nil .nil) (.node (hO0 P) .nil .nil)))) (.node (hO0 P) (.node (hO23 P) (.node (hO48 P) (.node (hO0 P) (.node (hO0 P) .nil .nil) .nil) (.node (hO131 P) .nil .nil)) (.node (hO0 P) (.node (hO108 P) (.node (hO0 P) .nil .nil) .nil) (.node (hO149 P) .nil .nil))) (.node (hO36 P) (.node (hO57 P) (.node (hO98 P) (.node (hO179 P) .nil .nil) .nil) (.node (hO140 P) .nil .nil)) (.node (hO80 P) (.node (hO119 P) .nil .nil) (.node (hO1 P) .nil .nil))))) (.node (hO2 P) (.node (hO9 P) (.node (hO21 P) (.node (hO43 P) (.node (hO0 P) (.node (hO166 P) .nil .nil) .nil) (.node (hO1 P) .nil .nil)) (.node (hO67 P) (.node (hO0 P) (.node (hO0 P) .nil .nil) .nil) (.node (hO0 P) .nil .nil))) (.node (hO33 P) (.node (hO55 P) (.node (hO96 P) (.node (hO1 P) .nil .nil) .nil) (.node (hO138 P) .nil .nil)) (.node (hO1 P) (.node (hO115 P) .nil .nil) (.node (hO156 P) .nil .nil)))) (.node (hO0 P) (.node (hO26 P) (.node (hO50 P) (.node (hO91 P) (.node (hO0 P) .nil .nil) .nil) (.node (hO133 P) .nil .nil)) (.node (hO0 P) (.node (hO110 P) (.node (hO191 P) .nil .nil) .nil) (.node (hO1 P) .nil .nil))) (.node (hO38 P) (.node (hO60 P) (.node (hO101 P) (.node (hO181 P) .nil .nil) .nil) (.node (hO143 P) .nil .nil)) (.node (hO82 P) (.node (hO0 P) .nil .nil) (.node (hO161 P) .nil .nil))))))) (.node (boot_o_2 P) (.node (boot_o_4 P) (.node (boot_o_8 P) (.node (hO1 P) (.node (hO17 P) (.node (hO39 P) (.node (hO84 P) (.node (hO1 P) .nil .nil) .nil) (.node (hO0 P) .nil .nil)) (.node (hO1 P) (.node (hO102 P) (.node (hO183 P) .nil .nil) .nil) (.node (hO144 P) .nil .nil))) (.node (hO11 P) (.node (hO52 P) (.node (hO0 P) (.node (hO0 P) .nil .nil) .nil) (.node (hO0 P) .nil .nil)) (.node (hO0 P) (.node (hO1 P) .nil .nil) (.node (hO154 P) .nil .nil)))) (.node (hO12 P) (.node (hO22 P) (.node (hO11 P) (.node (hO89 P) (.node (hO167 P) .nil .nil) .nil) (.node (hO130 P) .nil .nil)) (.node (hO68 P) (.node (hO107 P) (.node (hO188 P) .nil .nil) .nil) (.node (hO0 P) .nil .nil))) (.node (hO35 P) (.node (hO56 P) (.node (hO1 P) (.node (hO178 P) .nil .nil) .nil) (.node (hO1 P) .nil .nil)) (.node (hO79 P) (.node (hO118 P) .nil .nil) (.node (hO0 P) .nil .nil))))) (.node (hO176 P) (.node (hO8 P) (.node (hO11 P) (.node (hO42 P) (.node (hO86 P) (.node (hO165 P) .nil .nil) .nil) (.node (hO0 P) .nil .nil)) (.node (hO66 P) (.node (hO105 P) (.node (hO185 P) .nil .nil) .nil) (.node (hO147 P) .nil .nil))) (.node (hO32 P) (.node (hO11 P) (.node (hO95 P) (.node (hO0 P) .nil .nil) .nil) (.node (hO137 P) .nil .nil)) (.node (hO0 P) (.node (hO114 P) .nil .nil) (.node (hO0 P) .nil .nil)))) (.node (hO14 P) (.node (hO25 P) (.node (hO49 P) (.node (hO0 P) (.node (hO170 P) .nil .nil) .nil) (.node (hO1 P) .nil .nil)) (.node (hO71 P) (.node (hO109 P) (.node (hO190 P) .nil .nil) .nil) (.node (hO0 P) .nil .nil))) (.node (hO11 P) (.node (hO59 P) (.node (hO100 P) (.node (hO1 P) .nil .nil) .nil) (.node (hO142 P) .nil .nil)) (.node (hO1 P) (.node (hO122 P) .nil .nil) (.node (hO160 P) .nil .nil)))))) (.node (boot_o_6 P) (.node (boot_o_10 P) (.node (hO0 P) (.node (hO19 P) (.node (hO0 P) (.node (hO0 P) (.node (hO0 P) .nil .nil) .nil) (.node (hO127 P) .nil .nil)) (.node (hO0 P) (.node (hO103 P) (.node (hO0 P) .nil .nil) .nil) (.node (hO145 P) .nil .nil))) (.node (hO0 P) (.node (hO54 P) (.node (hO94 P) (.node (hO173 P) .nil .nil) .nil) (.node (hO136 P) .nil .nil)) (.node (hO76 P) (.node (hO0 P) .nil .nil) (.node (hO1 P) .nil .nil)))) (.node (hO1 P) (.node (hO0 P) (.node (hO0 P) (.node (hO1 P) (.node (hO168 P) .nil .nil) .nil) (.node (hO132 P) .nil .nil)) (.node (hO69 P) (.node (hO0 P) (.node (hO1 P) .nil .nil) .nil) (.node (hO150 P) .nil .nil))) (.node (hO37 P) (.node (hO0 P) (.node (hO0 P) (.node (hO180 P) .nil .nil) .nil) (.node (hO0 P) .nil .nil)) (.node (hO81 P) (.node (hO120 P) .nil .nil) (.node (hO159 P) .nil .nil))))) (.node (hO3 P) (.node (hO10 P) (.node (hO0 P) (.node (hO44 P) (.node (hO87 P) (.node (hO0 P) .nil .nil) .nil) (.node (hO129 P) .nil .nil)) (.node (hO0 P) (.node (hO1 P) (.node (hO186 P) .nil .nil) .nil) (.node (hO1 P) .nil .nil))) (.node (hO0 P) (.node (hO0 P) (.node (hO97 P) (.node (hO177 P) .nil .nil) .nil) (.node (hO139 P) .nil .nil)) (.node (hO78 P) (.node (hO116 P) .nil .nil) (.node (hO157 P) .nil .nil)))) (.node (hO15 P) (.node (hO27 P) (.node (hO0 P) (.node (hO92 P) (.node (hO1 P) .nil .nil) .nil) (.node (hO134 P) .nil .nil)) (.node (hO11 P) (.node (hO111 P) .nil .nil) (.node (hO152 P) .nil .nil))) (.node (hO0 P) (.node (hO61 P) (.node (hO0 P) (.node (hO0 P) .nil .nil) .nil) (.node (hO0 P) .nil .nil)) (.node (hO0 P) (.node (hO1 P) .nil .nil) (.node (hO162 P) .nil .nil))))))))
noncomputable abbrev hS7 (w : World) (os : OsState) : SharedT := ⟨hT7 w.params, 302, ({ }), ⟨[]⟩, ({ }), 584, os⟩
noncomputable def hH1 (P : Params) : Heap := ⟨⟨boot_o_0 P :: boot_o_1 P :: boot_o_2 P :: hO175 P :: boot_o_4 P :: boot_o_5 P :: boot_o_6 P :: boot_o_7 P :: boot_o_8 P :: boot_o_9 P :: boot_o_10 P :: hO0 P :: hO176 P :: hO2 P :: hO3 P :: hO0 P :: hO1 P :: hO6 P :: hO0 P :: hO7 P :: hO8 P :: hO9 P :: hO10 P :: hO11 P :: hO12 P :: hO0 P :: hO1 P :: hO13 P :: hO14 P :: hO0 P :: hO15 P :: hO47 P :: hO17 P :: hO18 P :: hO19 P :: hO20 P :: hO11 P :: hO21 P :: hO0 P :: hO1 P :: hO22 P :: hO23 P :: hO0 P :: hO24 P :: hO25 P :: hO26 P :: hO27 P :: hO20 P :: hO11 P :: hO31 P :: hO0 P :: hO1 P :: hO32 P :: hO33 P :: hO0 P :: hO34 P :: hO35 P :: hO36 P :: hO37 P :: hO20 P :: hO11 P :: hO38 P :: hO0 P :: hO1 P :: hO39 P :: hO40 P :: hO0 P :: hO41 P :: hO42 P :: hO43 P :: hO44 P :: hO20 P :: hO11 P :: hO48 P :: hO0 P :: hO1 P :: hO49 P :: hO50 P :: hO0 P :: hO51 P :: hO52 P :: hO53 P :: hO54 P :: hO20 P :: hO11 P :: hO55 P :: hO0 P :: hO1 P :: hO56 P :: hO57 P :: hO0 P :: hO58 P :: hO59 P :: hO60 P :: hO61 P :: hO0 P :: hO1 P :: hO64 P :: hO0 P :: hO65 P :: hO66 P :: hO67 P :: hO0 P :: hO1 P :: hO68 P :: hO0 P :: hO69 P :: hO70 P :: hO71 P :: hO0 P :: hO11 P :: hO74 P :: hO0 P :: hO75 P :: hO76 P :: hO77 P :: hO0 P :: hO1 P :: hO78 P :: hO0 P :: hO79 P :: hO80 P :: hO81 P :: hO0 P :: hO1 P :: hO82 P :: hO0 P :: hO83 P :: hO84 P :: hO85 P :: hO0 P :: hO1 P :: hO86 P :: hO0 P :: hO87 P :: hO88 P :: hO89 P :: hO0 P :: hO1 P :: hO90 P :: hO0 P :: hO91 P :: hO92 P :: hO93 P :: hO0 P :: hO1 P :: hO94 P :: hO0 P :: hO95 P :: hO96 P :: hO97 P :: hO0 P :: hO1 P :: hO98 P :: hO0 P :: hO99 P :: hO100 P :: hO101 P :: hO0 P :: hO1 P :: hO102 P :: hO0 P :: hO103 P :: hO104 P :: hO105 P :: hO0 P :: hO1 P :: hO106 P :: hO107 P :: hO108 P :: hO0 P :: hO1 P :: hO109 P :: hO110 P :: hO111 P :: hO0 P :: hO1 P :: hO112 P :: hO0 P :: hO113 P :: hO114 P :: hO115 P :: hO116 P :: hO117 P :: hO118 P :: hO119 P :: hO120 P :: hO121 P :: hO122 P :: hO0 P :: hO1 P :: hO125 P :: hO0 P :: hO126 P :: hO127 P :: hO128 P :: hO0 P :: hO1 P :: hO129 P :: hO0 P :: hO130 P :: hO131 P :: hO132 P :: hO0 P :: hO1 P :: hO133 P :: hO134 P :: hO135 P :: hO0 P :: hO1 P :: hO136 P :: hO0 P :: hO137 P :: hO138 P :: hO139 P :: hO0 P :: hO1 P :: hO140 P :: hO0 P :: hO141 P :: hO142 P :: hO143 P :: hO0 P :: hO1 P :: hO144 P :: hO0 P :: hO145 P :: hO146 P :: hO147 P :: hO0 P :: hO1 P :: hO148 P :: hO0 P :: hO149 P :: hO150 P :: hO151 P :: hO0 P :: hO1 P :: hO152 P :: hO153 P :: hO154 P :: hO0 P :: hO1 P :: hO155 P :: hO0 P :: hO156 P :: hO157 P :: hO158 P :: hO0 P :: hO1 P :: hO159 P :: hO0 P :: hO160 P :: hO161 P :: hO162 P :: hO0 P :: hO1 P :: hO163 P :: hO0 P :: hO164 P :: hO165 P :: hO166 P :: hO0 P :: hO1 P :: hO167 P :: hO0 P :: hO168 P :: hO169 P :: hO170 P :: hO0 P :: hO1 P :: hO171 P :: hO0 P :: hO172 P :: hO173 P :: hO174 P :: hO0 P :: hO1 P :: hO177 P :: hO0 P :: hO178 P :: hO179 P :: hO180 P :: hO0 P :: hO1 P :: hO181 P :: hO0 P :: hO182 P :: hO183 P :: hO184 P :: hO0 P :: hO1 P :: hO185 P :: hO0 P :: hO186 P :: hO187 P :: hO188 P :: hO0 P :: hO1 P :: hO189 P :: hO190 P :: hO191 P :: []⟩, ({ })⟩
noncomputable abbrev hann : Option Value := some (Value.ref 6)
theorem hpre (w : World) (os : OsState) : topGo treeTable hpw w 11 hann 12 ⟨boot_heap w.params, ⟨[]⟩, boot_drawn, boot_toks, os⟩ (topStub hpw) = some (⟨hHa w.params, ⟨[]⟩, ({ }), 187, os⟩, ⟨denote treeTable hC, hC, ({ line := 0, col := 0, endLine := 0, endCol := 0 } : Pos), hB⟩) := by rw [PySem.W.Fast.te15667345088766844465, PySem.W.Fast.te14364793385576792824, PySem.W.Fast.te11892475500146522536]; kernel_rfl
theorem hblk (w : World) (os : OsState) : segRun treeTable hpw w 11 hann 1 1 ⟨hHa w.params, ⟨[]⟩, ({ }), 187, os⟩ (blockOf hs0 hE hC ({ line := 0, col := 0, endLine := 0, endCol := 0 } : Pos) hB) = some (Flow.next, (hS0 w os).abs, hC, ({ line := 0, col := 0, endLine := 0, endCol := 0 } : Pos)) := by rw [PySem.W.Fast.te14374325043358763698, PySem.W.Fast.te14364793385576792824]; kernel_rfl
theorem hp0 (w : World) (os : OsState) : segRunT treeTable hpw w 11 hann 1 438 (hS0 w os) (piecesOf hg0 hE hC ({ line := 0, col := 0, endLine := 0, endCol := 0 } : Pos) hB) = some (Flow.next, hS1 w os, hC, ({ line := 7, col := 0, endLine := 8, endCol := 8 } : Pos)) := by rw [PySem.W.Fast.te10110043849684766642, PySem.W.Fast.te14364793385576792824]; kernel_rfl
theorem hp1 (w : World) (os : OsState) : segRunT treeTable hpw w 11 hann 1 427 (hS1 w os) (piecesOf hg1 hE hC ({ line := 7, col := 0, endLine := 8, endCol := 8 } : Pos) hB) = some (Flow.next, hS2 w os, hC, ({ line := 11, col := 0, endLine := 12, endCol := 8 } : Pos)) := by rw [PySem.W.Fast.te10110043849684766642, PySem.W.Fast.te14364793385576792824]; kernel_rfl
theorem hp2 (w : World) (os : OsState) : segRunT treeTable hpw w 11 hann 1 445 (hS2 w os) (piecesOf hg2 hE hC ({ line := 11, col := 0, endLine := 12, endCol := 8 } : Pos) hB) = some (Flow.next, hS3 w os, hC, ({ line := 18, col := 0, endLine := 18, endCol := 4 } : Pos)) := by rw [PySem.W.Fast.te10110043849684766642, PySem.W.Fast.te14364793385576792824]; kernel_rfl
theorem hp3 (w : World) (os : OsState) : segRunT treeTable hpw w 11 hann 1 70 (hS3 w os) (piecesOf hg3 hE hC ({ line := 18, col := 0, endLine := 18, endCol := 4 } : Pos) hB) = some (Flow.next, hS4 w os, hC, ({ line := 30, col := 0, endLine := 30, endCol := 8 } : Pos)) := by rw [PySem.W.Fast.te10110043849684766642, PySem.W.Fast.te14364793385576792824]; kernel_rfl
theorem hp4 (w : World) (os : OsState) : segRunT treeTable hpw w 11 hann 1 511 (hS4 w os) (piecesOf hg4 hE hC ({ line := 30, col := 0, endLine := 30, endCol := 8 } : Pos) hB) = some (Flow.next, hS5 w os, hC, ({ line := 31, col := 0, endLine := 68, endCol := 19 } : Pos)) := by rw [PySem.W.Fast.te10110043849684766642, PySem.W.Fast.te14364793385576792824]; kernel_rfl
theorem hp5 (w : World) (os : OsState) : segRunT treeTable hpw w 11 hann 1 439 (hS5 w os) (piecesOf hg5 hE hC ({ line := 31, col := 0, endLine := 68, endCol := 19 } : Pos) hB) = some (Flow.next, hS6 w os, hC, ({ line := 198, col := 0, endLine := 203, endCol := 25 } : Pos)) := by rw [PySem.W.Fast.te10110043849684766642, PySem.W.Fast.te14364793385576792824]; kernel_rfl
theorem hp6 (w : World) (os : OsState) : segRunT treeTable hpw w 11 hann 1 122 (hS6 w os) (piecesOf hg6 hE hC ({ line := 198, col := 0, endLine := 203, endCol := 25 } : Pos) hB) = some (Flow.next, hS7 w os, hC, ({ line := 238, col := 0, endLine := 258, endCol := 87 } : Pos)) := by rw [PySem.W.Fast.te10110043849684766642, PySem.W.Fast.te14364793385576792824]; kernel_rfl
theorem hfin (w : World) (os : OsState) : topRun treeTable hpw w 11 hann 2 (hS7 w os).abs (restOf hs7 hE hC ({ line := 238, col := 0, endLine := 258, endCol := 87 } : Pos) hB) = some ⟨hH1 w.params, ⟨[]⟩, ({ }), 584, os⟩ := by rw [PySem.W.Fast.te14082659384304107361, PySem.W.Fast.te14364793385576792824]; kernel_rfl
theorem hrun (w : World) (os : OsState) : topRun treeTable hpw w 11 hann (12 + (1 + (438 + (427 + (445 + (70 + (511 + (439 + (122 + 2))))))))) ⟨boot_heap w.params, ⟨[]⟩, boot_drawn, boot_toks, os⟩ (topStub hpw) = some ⟨hH1 w.params, ⟨[]⟩, ({ }), 584, os⟩ := go_top (hpre w os) (piece_block (hblk w os) (piece_app (segRun_of (hp0 w os)) (piece_app (segRun_of (hp1 w os)) (piece_app (segRun_of (hp2 w os)) (piece_app (segRun_of (hp3 w os)) (piece_app (segRun_of (hp4 w os)) (piece_app (segRun_of (hp5 w os)) (piece_app (segRun_of (hp6 w os)) (hfin w os)))))))))
noncomputable abbrev has : List Addr := [nat_lit 2, nat_lit 3, nat_lit 15, nat_lit 17, nat_lit 18, nat_lit 20, nat_lit 21, nat_lit 22, nat_lit 29, nat_lit 30, nat_lit 31, nat_lit 32, nat_lit 35, nat_lit 42, nat_lit 43, nat_lit 44, nat_lit 47, nat_lit 54, nat_lit 55, nat_lit 56, nat_lit 59, nat_lit 66, nat_lit 67, nat_lit 68, nat_lit 71, nat_lit 78, nat_lit 79, nat_lit 80, nat_lit 83, nat_lit 90, nat_lit 91, nat_lit 92, nat_lit 95, nat_lit 97, nat_lit 98, nat_lit 100, nat_lit 101, nat_lit 102, nat_lit 104, nat_lit 105, nat_lit 107, nat_lit 108, nat_lit 116, nat_lit 118, nat_lit 119, nat_lit 121, nat_lit 122, nat_lit 123, nat_lit 125, nat_lit 126, nat_lit 128, nat_lit 129, nat_lit 130, nat_lit 132, nat_lit 133, nat_lit 135, nat_lit 136, nat_lit 137, nat_lit 139, nat_lit 140, nat_lit 142, nat_lit 143, nat_lit 144, nat_lit 146, nat_lit 147, nat_lit 149, nat_lit 150, nat_lit 151, nat_lit 153, nat_lit 154, nat_lit 156, nat_lit 157, nat_lit 158, nat_lit 160, nat_lit 161, nat_lit 163, nat_lit 164, nat_lit 165, nat_lit 168, nat_lit 169, nat_lit 170, nat_lit 173, nat_lit 174, nat_lit 175, nat_lit 177, nat_lit 178, nat_lit 180, nat_lit 181, nat_lit 182, nat_lit 183, nat_lit 184, nat_lit 185, nat_lit 186, nat_lit 189, nat_lit 191, nat_lit 192, nat_lit 194, nat_lit 195, nat_lit 196, nat_lit 198, nat_lit 199, nat_lit 201, nat_lit 202, nat_lit 203, nat_lit 206, nat_lit 207, nat_lit 208, nat_lit 210, nat_lit 211, nat_lit 213, nat_lit 214, nat_lit 215, nat_lit 217, nat_lit 218, nat_lit 220, nat_lit 221, nat_lit 222, nat_lit 224, nat_lit 225, nat_lit 227, nat_lit 228, nat_lit 229, nat_lit 231, nat_lit 232, nat_lit 234, nat_lit 235, nat_lit 236, nat_lit 239, nat_lit 240, nat_lit 241, nat_lit 243, nat_lit 244, nat_lit 246, nat_lit 247, nat_lit 248, nat_lit 250, nat_lit 251, nat_lit 253, nat_lit 254, nat_lit 255, nat_lit 257, nat_lit 258, nat_lit 260, nat_lit 261, nat_lit 262, nat_lit 264, nat_lit 265, nat_lit 267, nat_lit 268, nat_lit 269, nat_lit 271, nat_lit 272, nat_lit 274, nat_lit 275, nat_lit 276, nat_lit 278, nat_lit 279, nat_lit 281, nat_lit 282, nat_lit 283, nat_lit 285, nat_lit 286, nat_lit 288, nat_lit 289, nat_lit 290, nat_lit 292, nat_lit 293, nat_lit 295, nat_lit 296, nat_lit 297, nat_lit 300, nat_lit 301]
noncomputable def hK (P : Params) : Frag := (nat_lit 2, boot_o_2 P) :: (nat_lit 3, hO175 P) :: (nat_lit 15, hO0 P) :: (nat_lit 17, hO6 P) :: (nat_lit 18, hO0 P) :: (nat_lit 20, hO8 P) :: (nat_lit 21, hO9 P) :: (nat_lit 22, hO10 P) :: (nat_lit 29, hO0 P) :: (nat_lit 30, hO15 P) :: (nat_lit 31, hO47 P) :: (nat_lit 32, hO17 P) :: (nat_lit 35, hO20 P) :: (nat_lit 42, hO0 P) :: (nat_lit 43, hO24 P) :: (nat_lit 44, hO25 P) :: (nat_lit 47, hO20 P) :: (nat_lit 54, hO0 P) :: (nat_lit 55, hO34 P) :: (nat_lit 56, hO35 P) :: (nat_lit 59, hO20 P) :: (nat_lit 66, hO0 P) :: (nat_lit 67, hO41 P) :: (nat_lit 68, hO42 P) :: (nat_lit 71, hO20 P) :: (nat_lit 78, hO0 P) :: (nat_lit 79, hO51 P) :: (nat_lit 80, hO52 P) :: (nat_lit 83, hO20 P) :: (nat_lit 90, hO0 P) :: (nat_lit 91, hO58 P) :: (nat_lit 92, hO59 P) :: (nat_lit 95, hO0 P) :: (nat_lit 97, hO64 P) :: (nat_lit 98, hO0 P) :: (nat_lit 100, hO66 P) :: (nat_lit 101, hO67 P) :: (nat_lit 102, hO0 P) :: (nat_lit 104, hO68 P) :: (nat_lit 105, hO0 P) :: (nat_lit 107, hO70 P) :: (nat_lit 108, hO71 P) :: (nat_lit 116, hO0 P) :: (nat_lit 118, hO78 P) :: (nat_lit 119, hO0 P) :: (nat_lit 121, hO80 P) :: (nat_lit 122, hO81 P) :: (nat_lit 123, hO0 P) :: (nat_lit 125, hO82 P) :: (nat_lit 126, hO0 P) :: (nat_lit 128, hO84 P) :: (nat_lit 129, hO85 P) :: (nat_lit 130, hO0 P) :: (nat_lit 132, hO86 P) :: (nat_lit 133, hO0 P) :: (nat_lit 135, hO88 P) :: (nat_lit 136, hO89 P) :: (nat_lit 137, hO0 P) :: (nat_lit 139, hO90 P) :: (nat_lit 140, hO0 P) :: (nat_lit 142, hO92 P) :: (nat_lit 143, hO93 P) :: (nat_lit 144, hO0 P) :: (nat_lit 146, hO94 P) :: (nat_lit 147, hO0 P) :: (nat_lit 149, hO96 P) :: (nat_lit 150, hO97 P) :: (nat_lit 151, hO0 P) :: (nat_lit 153, hO98 P) :: (nat_lit 154, hO0 P) :: (nat_lit 156, hO100 P) :: (nat_lit 157, hO101 P) :: (nat_lit 158, hO0 P) :: (nat_lit 160, hO102 P) :: (nat_lit 161, hO0 P) :: (nat_lit 163, hO104 P) :: (nat_lit 164, hO105 P) :: (nat_lit 165, hO0 P) :: (nat_lit 168, hO107 P) :: (nat_lit 169, hO108 P) :: (nat_lit 170, hO0 P) :: (nat_lit 173, hO110 P) :: (nat_lit 174, hO111 P) :: (nat_lit 175, hO0 P) :: (nat_lit 177, hO112 P) :: (nat_lit 178, hO0 P) :: (nat_lit 180, hO114 P) :: (nat_lit 181, hO115 P) :: (nat_lit 182, hO116 P) :: (nat_lit 183, hO117 P) :: (nat_lit 184, hO118 P) :: (nat_lit 185, hO119 P) :: (nat_lit 186, hO120 P) :: (nat_lit 189, hO0 P) :: (nat_lit 191, hO125 P) :: (nat_lit 192, hO0 P) :: (nat_lit 194, hO127 P) :: (nat_lit 195, hO128 P) :: (nat_lit 196, hO0 P) :: (nat_lit 198, hO129 P) :: (nat_lit 199, hO0 P) :: (nat_lit 201, hO131 P) :: (nat_lit 202, hO132 P) :: (nat_lit 203, hO0 P) :: (nat_lit 206, hO134 P) :: (nat_lit 207, hO135 P) :: (nat_lit 208, hO0 P) :: (nat_lit 210, hO136 P) :: (nat_lit 211, hO0 P) :: (nat_lit 213, hO138 P) :: (nat_lit 214, hO139 P) :: (nat_lit 215, hO0 P) :: (nat_lit 217, hO140 P) :: (nat_lit 218, hO0 P) :: (nat_lit 220, hO142 P) :: (nat_lit 221, hO143 P) :: (nat_lit 222, hO0 P) :: (nat_lit 224, hO144 P) :: (nat_lit 225, hO0 P) :: (nat_lit 227, hO146 P) :: (nat_lit 228, hO147 P) :: (nat_lit 229, hO0 P) :: (nat_lit 231, hO148 P) :: (nat_lit 232, hO0 P) :: (nat_lit 234, hO150 P) :: (nat_lit 235, hO151 P) :: (nat_lit 236, hO0 P) :: (nat_lit 239, hO153 P) :: (nat_lit 240, hO154 P) :: (nat_lit 241, hO0 P) :: (nat_lit 243, hO155 P) :: (nat_lit 244, hO0 P) :: (nat_lit 246, hO157 P) :: (nat_lit 247, hO158 P) :: (nat_lit 248, hO0 P) :: (nat_lit 250, hO159 P) :: (nat_lit 251, hO0 P) :: (nat_lit 253, hO161 P) :: (nat_lit 254, hO162 P) :: (nat_lit 255, hO0 P) :: (nat_lit 257, hO163 P) :: (nat_lit 258, hO0 P) :: (nat_lit 260, hO165 P) :: (nat_lit 261, hO166 P) :: (nat_lit 262, hO0 P) :: (nat_lit 264, hO167 P) :: (nat_lit 265, hO0 P) :: (nat_lit 267, hO169 P) :: (nat_lit 268, hO170 P) :: (nat_lit 269, hO0 P) :: (nat_lit 271, hO171 P) :: (nat_lit 272, hO0 P) :: (nat_lit 274, hO173 P) :: (nat_lit 275, hO174 P) :: (nat_lit 276, hO0 P) :: (nat_lit 278, hO177 P) :: (nat_lit 279, hO0 P) :: (nat_lit 281, hO179 P) :: (nat_lit 282, hO180 P) :: (nat_lit 283, hO0 P) :: (nat_lit 285, hO181 P) :: (nat_lit 286, hO0 P) :: (nat_lit 288, hO183 P) :: (nat_lit 289, hO184 P) :: (nat_lit 290, hO0 P) :: (nat_lit 292, hO185 P) :: (nat_lit 293, hO0 P) :: (nat_lit 295, hO187 P) :: (nat_lit 296, hO188 P) :: (nat_lit 297, hO0 P) :: (nat_lit 300, hO190 P) :: (nat_lit 301, hO191 P) :: []
theorem has_eq (P : Params) : has = (hK P).map (·.1) := by kernel_rfl
noncomputable abbrev hH : Hook := kHook hK has has_eq
noncomputable abbrev hX (s : Shared) : Bool := xlAt hq [] s && recOk (RowW.records PySem.Challenge.rw_uf060009_14.row.toRowW) s
theorem hsize (w : World) : ((boot_heap w.params).isNs mainGlobals && (⟨[]⟩ : Array GenState).size == 0, (boot_heap w.params).objs.size, (boot_heap w.params).nsMap mainGlobals "__annotations__") = (true, 11, hann) := by kernel_rfl
theorem hlooks (w : World) : (fun os => ((staticsOk (importedModules hpw.main.body) (boot_heap w.params) (hH1 w.params) && namesBound hpw (hH1 w.params) && gensDone ⟨hH1 w.params, ⟨[]⟩, ({ }), 584, os⟩ && laidKept (boot_heap w.params) (hH1 w.params)), openSeen hq [] (importedModules hpw.main.body) hX true ⟨hH1 w.params, ⟨[]⟩, ({ }), 584, os⟩, hH.obs ⟨hH1 w.params, ⟨[]⟩, ({ }), 584, os⟩)) = fun ux => (true, openGood hq [], hH.val w) := by rw [PySem.W.Fast.te5923862056798008813, PySem.W.Fast.te4187177175401517315]; kernel_rfl
theorem hleft : LeftO hpw hq [] hX hH.obs hH.val 5016 := LeftO.of_pieces (boot_open (by kernel_rfl) (by decide) (fun s => by kernel_rfl)) hsize hrun (by decide) hlooks
theorem hfill : PySem.Challenge.rw_uf060009_14 = PySem.Challenge.rw_uf060009_14 ∧ hK = hK := by k_fill; exact ⟨rfl, rfl⟩
local macro_rules | `(tactic| walk_at "n") => `(tactic| ((with_reducible refine' v_name (by walk_at "ok") ?qa ?qb ?qc ?_); (case qa => decide); (case qb => decide); (case qc => walk_at "lk")))
local macro_rules | `(tactic| walk_at "k") => `(tactic| ((with_reducible refine k_cons ?qa ?_); (case qa => (intro env; rfl))))
local macro_rules | `(tactic| walk_at "sub") => `(tactic| first | with_reducible assumption | ((with_reducible refine AS.Sub.put ?_ (by with_reducible assumption)); walk_at "sub") | ((with_reducible refine AS.Sub.set ?_); walk_at "sub") | exact fun _ _ e => e)
local macro_rules | `(tactic| walk_at "ok") => `(tactic| first | assumption | exact Fx.ok (by assumption))
local macro_rules | `(tactic| walk_at "lk") => `(tactic| first | with_reducible assumption | with_reducible exact set_same | ((with_reducible refine put_loc ?_); walk_at "lk") | ((with_reducible refine set_ne ?qa ?_); (case qa => decide); walk_at "lk") | ((with_reducible refine books_lk ?_); walk_at "lk") | with_reducible exact comp_x | ((with_reducible refine comp_free ?qa ?qb ?_); (case qa => decide); (case qb => decide); walk_at "lk") | ((with_reducible refine loc_at (by assumption) ?_); walk_at "lk") | exact rfl)
local macro_rules | `(tactic| walk_at "hp1") => `(tactic| first
 | with_reducible assumption
 | with_reducible exact put_same
 | with_reducible refine set_hp ?_
 | with_reducible refine put_put_hp ?_
 | ((with_reducible refine put_old ?qa ?_); (case qa => with_reducible assumption))
 | ((with_reducible refine put_ne ?qa ?_); (case qa => first | with_reducible assumption | (exact Ne.symm (by with_reducible assumption))))
 | with_reducible refine comp_hp ?_
 | with_reducible refine enter_hp ?_
 | ((with_reducible refine' put_diff ?qx ?_ ?qy); (case qx => walk_at "hp"); (walk_at "hp"); (case qy => (intro q; cases q; done)))
 | exact rfl)
local macro_rules | `(tactic| walk_at "hp") => `(tactic| (focus ((repeat (walk_at "hp1")); done)))
local macro_rules | `(tactic| walk_at "lst") => `(tactic| first | exact Or.inl (by walk_at "hp") | exact Or.inr (by walk_at "hp"))
local macro_rules | `(tactic| walk_at "num") => `(tactic| first | lia | with_reducible assumption | (simp only [List.length_map]; lia))
local macro_rules | `(tactic| walk_at "mul") => `(tactic| first | exact IntMulOk.of_right (by decide) | exact IntMulOk.of_left (by decide) | exact IntMulOk.of_right (intBits_le_64 (by lia) (by lia)) | exact IntMulOk.of_left (intBits_le_64 (by lia) (by lia)) | mul_fits)
local macro_rules | `(tactic| walk_at "pos") => `(tactic| first | with_reducible assumption | decide | lia | exact Int.pow_pos (by decide) | decide | exact Int.mul_pos (by decide) (Int.pow_pos (by decide)))
section
variable {w : World} {cx : CX} {sc : Scope} {n : Nat} {σ : AS} {Q : AV → AS → Prop} {QB : Bool → AS → Prop} {QF : AF → AS → Prop} {E : Value → AS → Prop} {pos : Pos} {prog : Program}
theorem c_wholeO (ok : Ok prog (hK w.params) cx sc (n + 1)) (hh : cx.A.handled = none) {args : List Expr} {px : Pos} (hx : sc.names.lookup (Str.ofString "_law_whole") = some .globalImplicit) (hp : Plain (Str.ofString "_law_whole") px args pos)
  (h : WAr prog w cx pos args σ (A_whole Q) E) : WEv prog w cx (.Call (.Name (Str.ofString "_law_whole") px) args [] pos) σ Q E := by
 refine v_callf ok hx (by k_is) (by k_is) (by decide) hp (h.imp (fun l σ₁ ⟨a, hl, hq⟩ => ?_) fun ux ux e => e)
 subst hl
 refine call_fnO (ps := [Str.ofString "_law_found"]) ok hh (fn_of (by k_is) (by k_is) (by k_is) (len1 rfl fun ux => rfl) (by decide) rfl rfl rfl (by decide)) rfl fun cx g => ?_
 (repeat' (first | (with_reducible first | refine knret ?_ | refine ktb ?_ | refine ka1 ?_ | refine ka2 ?_ | refine kcl ?_ | refine kret ?_ | refine kvand ?_ | refine ku ?_ | refine k_xcons ?_ | refine k_ret ?_ | refine ar_nil ?_ | refine ev_one ?_ | refine k_vand ?_ | refine k_un ?_ | refine op_not ?_ | refine ite_true' ?_ | fail) | walk_at "n" | ((with_reducible refine' v_bname (by walk_at "ok") ?qa ?qb ?qc ?qd ?qe ?_); (case qa => exact rfl); (case qb => decide); (case qc => k_is); (case qd => decide); (case qe => boot_by_name)) | ((with_reducible refine' k_callb (by walk_at "ok") ?qa ?qc ?qd ?qe ?qb ?qf ?_); (case qa => exact rfl); (case qb => decide); (case qc => k_is); (case qd => decide); (case qe => boot_by_name); (case qf => exact ⟨fun ux => rfl, fun ux => rfl⟩)) | walk_at "k" | ((with_reducible refine' cl_isi_int (by walk_at "ok") ?qa ?qb ?_); (case qa => exact fun ux ux q => q); (case qb => kit_is)) | fail))
 exact hq
theorem c_whole (g : Fx prog (hK w.params) cx sc (n + 1)) {args : List Expr} {px : Pos} (hx : sc.names.lookup (Str.ofString "_law_whole") = some .globalImplicit) (hp : Plain (Str.ofString "_law_whole") px args pos)
  (h : WAr prog w cx pos args σ (A_whole Q) E) : WEv prog w cx (.Call (.Name (Str.ofString "_law_whole") px) args [] pos) σ Q E := c_wholeO g.ok g.hh hx hp h
theorem c_cellO (ok : Ok prog (hK w.params) cx sc (n + 1)) (hh : cx.A.handled = none) {args : List Expr} {px : Pos} (hx : sc.names.lookup (Str.ofString "_law_cell_at") = some .globalImplicit) (hp : Plain (Str.ofString "_law_cell_at") px args pos)
  (h : WAr prog w cx pos args σ (A_cell Q) E) : WEv prog w cx (.Call (.Name (Str.ofString "_law_cell_at") px) args [] pos) σ Q E := by
 refine v_callf ok hx (by k_is) (by k_is) (by decide) hp (h.imp (fun l σ₁ ⟨x, k, ns, hl, hx, hn, h0, h1, hq⟩ => ?_) fun ux ux e => e)
 subst hl
 refine call_fnO (ps := [Str.ofString "_law_script", Str.ofString "_law_k"]) ok hh (fn_of (by k_is) (by k_is) (by k_is) (len2 rfl fun ux ux => rfl) (by decide) rfl rfl rfl (by decide)) rfl fun cx g => ?_
 have hx' : (σ₁.enter [Str.ofString "_law_script", Str.ofString "_law_k"] [.ref x, .int k]).hp x = some (.ro (ns.map AV.int)) := hx
 (repeat' (first | (with_reducible first | refine knext ?_ | refine knret ?_ | refine kb1 ?_ | refine kb2 ?_ | refine ktb ?_ | refine ka1 ?_ | refine ka2 ?_ | refine kcl ?_ | refine kif ?_ | refine kret ?_ | refine exs_nil ?_ | refine k_xcons ?_ | refine k_if ?_ | refine k_ret ?_ | refine ev_int ?_ | refine ar_nil ?_ | refine k_sub ?_ | refine cmp_lt ?_ | fail) | walk_at "n" | ((with_reducible refine' k_callb (by walk_at "ok") ?qa ?qc ?qd ?qe ?qb ?qf ?_); (case qa => exact rfl); (case qb => decide); (case qc => k_is); (case qd => decide); (case qe => boot_by_name); (case qf => exact ⟨fun ux => rfl, fun ux => rfl⟩)) | walk_at "k" | ((with_reducible refine k_tcmp ?qa ?_); (case qa => with_unfolding_all rfl)) | with_reducible refine ite_dec (fun _ => ?_) (fun _ => ?_) | ((with_reducible refine' cl_len ?qa ?qb ?_); (case qa => walk_at "lst"); (case qb => walk_at "num")) | fail))
 ·rename_i hlt
  rw [List.length_map] at hlt
  refine sub_list (.inr hx') h0 (by lia) (a := .int (cellAt ns k.toNat)) ?_ hq
  rw [List.getElem?_map]
  unfold cellAt
  rw [List.getElem?_eq_getElem (by lia)]
  rfl
 ·rename_i hlt
  rw [List.length_map] at hlt
  unfold cellAt at hq
  rw [List.getElem?_eq_none (by lia)] at hq
  exact hq
theorem c_cell (g : Fx prog (hK w.params) cx sc (n + 1)) {args : List Expr} {px : Pos} (hx : sc.names.lookup (Str.ofString "_law_cell_at") = some .globalImplicit) (hp : Plain (Str.ofString "_law_cell_at") px args pos)
  (h : WAr prog w cx pos args σ (A_cell Q) E) : WEv prog w cx (.Call (.Name (Str.ofString "_law_cell_at") px) args [] pos) σ Q E := c_cellO g.ok g.hh hx hp h
theorem c_doubled (g : Fx prog (hK w.params) cx sc (n + 1)) {args : List Expr} {px : Pos} (hx : sc.names.lookup (Str.ofString "_law_doubled") = some .globalImplicit) (hp : Plain (Str.ofString "_law_doubled") px args pos)
  (h : WAr prog w cx pos args σ (A_doubled Q) E) : WEv prog w cx (.Call (.Name (Str.ofString "_law_doubled") px) args [] pos) σ Q E := by
 refine v_callf g.ok hx (by k_is) (by k_is) (by decide) hp (h.imp (fun l σ₁ ⟨k, hl, h0, h1, hq⟩ => ?_) fun ux ux e => e)
 subst hl
 refine call_pure (ps := [Str.ofString "_law_times"]) g (fn_of (by k_is) (by k_is) (by k_is) (len1 rfl fun ux => rfl) (by decide) rfl rfl rfl (by decide)) rfl fun cx g => ?_
 (repeat' (first | (with_reducible first | refine knext ?_ | refine kset ?_ | refine k_xcons ?_ | refine ev_int ?_ | fail) | ((with_reducible refine k_assign (by walk_at "ok") ?qa ?qb ?_); (case qa => exact rfl); (case qb => exact rfl)) | fail))
 refine x_range g rfl (fun ux => rfl) ?_
 (repeat' (first | (with_reducible first | refine ka1 ?_ | refine ka2 ?_ | refine kcl ?_ | refine ar_nil ?_ | fail) | walk_at "n" | ((with_reducible refine' k_callt (by walk_at "ok") ?qa ?qc ?qd ?qe ?qb ?qf ?_); (case qa => exact rfl); (case qb => decide); (case qc => k_is); (case qd => decide); (case qe => boot_by_name); (case qf => exact ⟨fun ux => rfl, fun ux => rfl⟩)) | walk_at "k" | ((with_reducible refine cl_range1 (fun _ _ => ?_))) | fail))
 rename_i ax hax
 refine ⟨ax, 0, k, fun i σ => σ.loc (Str.ofString "_law_size") = some (.int (2 ^ i)) ∧ σ₁.Sub σ, rfl, put_same, by lia, h0, by lia, ⟨by walk_at "lk", AS.Sub.put (fun ux ux e => e) hax⟩, ?_, ?_⟩
 ·intro i σ cx g hi ⟨j1, j2⟩
  (repeat' (first | (with_reducible first | refine knext ?_ | refine kb1 ?_ | refine kb2 ?_ | refine kset ?_ | refine exs_nil ?_ | refine k_xcons ?_ | refine k_bin ?_ | refine ev_int ?_ | fail) | ((with_reducible refine k_assign (by walk_at "ok") ?qa ?qb ?_); (case qa => exact rfl); (case qb => exact rfl)) | walk_at "n" | ((with_reducible refine v_mul ?qa ?_); (case qa => walk_at "mul")) | fail))
  refine ⟨?_, j2⟩
  rw [set_same, Int.pow_succ]
 ·intro σ ⟨j1, j2⟩
  (repeat' (first | (with_reducible first | refine knext ?_ | refine knret ?_ | refine kret ?_ | refine k_xcons ?_ | refine k_ret ?_ | fail) | walk_at "n" | fail))
  refine ⟨j2, ?_⟩
  rw [Int.sub_zero]
  exact hq
theorem c_issize (g : Fx prog (hK w.params) cx sc (n + 1)) {args : List Expr} {px : Pos} (hx : sc.names.lookup (Str.ofString "is_size") = some .globalImplicit) (hp : Plain (Str.ofString "is_size") px args pos)
  (h : WAr prog w cx pos args σ (A_issize Q) E) : WEv prog w cx (.Call (.Name (Str.ofString "is_size") px) args [] pos) σ Q E := by
 refine v_callf g.ok hx (by k_is) (by k_is) (by decide) hp (h.imp (fun l σ₁ ⟨v, hl, h1, h2⟩ => ?_) fun ux ux e => e)
 subst hl
 refine call_pure (ps := [Str.ofString "number"]) g (fn_of (by k_is) (by k_is) (by k_is) (len1 rfl fun ux => rfl) (by decide) rfl rfl rfl (by decide)) rfl fun cx g => ?_
 (repeat' (first | (with_reducible first | refine knext ?_ | refine knret ?_ | refine kb1 ?_ | refine kb2 ?_ | refine ktb ?_ | refine kif ?_ | refine kset ?_ | refine kret ?_ | refine kor ?_ | refine exs_nil ?_ | refine k_xcons ?_ | refine k_if ?_ | refine k_ret ?_ | refine ev_int ?_ | refine ev_bool ?_ | refine tr_bool ?_ | refine tl_or_nil ?_ | refine k_or ?_ | refine cmp_lt ?_ | refine cmp_gt ?_ | refine ite_true' ?_ | refine ite_false' ?_ | fail) | ((with_reducible refine k_assign (by walk_at "ok") ?qa ?qb ?_); (case qa => exact rfl); (case qb => exact rfl)) | walk_at "n" | ((with_reducible refine' v_gname (by walk_at "ok") ?qa ?qb ?qc ?qd ?_); (case qa => exact rfl); (case qb => decide); (case qc => k_is); (case qd => intro h; first | exact vr_int | exact vr_ref | exact vr_str)) | ((with_reducible refine k_tcmp ?qa ?_); (case qa => with_unfolding_all rfl)) | with_reducible refine ite_dec (fun _ => ?_) (fun _ => ?_) | fail))
 ·exact ⟨fun ux ux e => e, h1 (.inl (by lia))⟩
 ·exact ⟨fun ux ux e => e, h1 (.inr (by lia))⟩
 ·refine x_while g (Dbl (Str.ofString "size") (Str.ofString "number") v σ₁) 61 ⟨0, rfl, by decide, by walk_at "lk", by walk_at "lk", by lia, fun ux ux e => e⟩ ?_
  rintro k σ ⟨i, hk, hi, j1, j2, j3, j4⟩
  (repeat' (first | (with_reducible first | refine knext ?_ | refine knret ?_ | refine kb1 ?_ | refine kb2 ?_ | refine ktb ?_ | refine kset ?_ | refine kret ?_ | refine exs_nil ?_ | refine k_xcons ?_ | refine k_ret ?_ | refine k_bin ?_ | refine ev_int ?_ | refine cmp_lt ?_ | refine cmp_eq ?_ | fail) | ((with_reducible refine k_assign (by walk_at "ok") ?qa ?qb ?_); (case qa => exact rfl); (case qb => exact rfl)) | walk_at "n" | ((with_reducible refine k_tcmp ?qa ?_); (case qa => with_unfolding_all rfl)) | ((with_reducible refine k_cmp ?qa ?_); (case qa => with_unfolding_all rfl)) | with_reducible refine ite_dec (fun _ => ?_) (fun _ => ?_) | ((with_reducible refine v_mul ?qa ?_); (case qa => walk_at "mul")) | fail))
  ·have : i ≠ 60 := fun q => by subst q; lia
   refine ⟨k - 1, by lia, i + 1, by lia, by lia, ?_, by walk_at "lk", fun j hj => ?_, j4⟩
   ·rw [set_same, Int.pow_succ]
   ·rcases Nat.lt_succ_iff_lt_or_eq.mp hj with q | q
    ·exact j3 j q
    ·subst q; assumption
  ·exact ⟨j4, h2 (by lia) (by lia) i ⟨hi, by lia, j3⟩⟩
theorem c_twin (g : Fx prog (hK w.params) cx sc (n + 1)) {args : List Expr} {px : Pos} (hx : sc.names.lookup (Str.ofString "twin_of") = some .globalImplicit) (hp : Plain (Str.ofString "twin_of") px args pos)
  (h : WAr prog w cx pos args σ (A_twin Q) E) : WEv prog w cx (.Call (.Name (Str.ofString "twin_of") px) args [] pos) σ Q E := by
 refine v_callf g.ok hx (by k_is) (by k_is) (by decide) hp (h.imp (fun l σ₁ ⟨a, b, hl, hb, hq⟩ => ?_) fun ux ux e => e)
 subst hl
 refine call_fn (ps := [Str.ofString "at", Str.ofString "size"]) g (fn_of (by k_is) (by k_is) (by k_is) (len2 rfl fun ux ux => rfl) (by decide) rfl rfl rfl (by decide)) rfl fun cx g => ?_
 (repeat' (first | (with_reducible first | refine knext ?_ | refine knret ?_ | refine kb1 ?_ | refine kb2 ?_ | refine ktb ?_ | refine kif ?_ | refine kret ?_ | refine exs_nil ?_ | refine k_xcons ?_ | refine k_if ?_ | refine k_ret ?_ | refine k_bin ?_ | refine ev_int ?_ | refine op_add ?_ | refine op_sub ?_ | refine cmp_eq ?_ | fail) | walk_at "n" | ((with_reducible refine k_tcmp ?qa ?_); (case qa => with_unfolding_all rfl)) | ((with_reducible refine op_mod ?qa ?_); (case qa => walk_at "pos")) | ((with_reducible refine v_div (by walk_at "ok") ?qa ?_); (case qa => walk_at "pos")) | with_reducible refine ite_beq (fun _ => ?_) (fun _ => ?_) | fail))
 ·rw [if_pos (by assumption)] at hq; exact hq
 ·rw [if_neg (by assumption)] at hq; exact hq
theorem c_yard (g : Fx prog (hK w.params) cx sc (n + 3)) {args : List Expr} {px : Pos} (hx : sc.names.lookup (Str.ofString "Yard") = some .globalImplicit) (hp : Plain (Str.ofString "Yard") px args pos)
  (h : WAr prog w cx pos args σ (A_yard (hK w.params) E Q) E) : WEv prog w cx (.Call (.Name (Str.ofString "Yard") px) args [] pos) σ Q E := by
 refine v_callf g.ok hx (by k_is) (by k_is) (by decide) hp (h.imp (fun l σ₁ ⟨v, hl, h1, h2⟩ => ?_) fun ux ux e => e)
 subst hl
 refine WCl.forget (cl_cls g (by k_is) (by k_is) (by k_is) fun cx' y dx g' hy hdx hne => ?_)
 refine cd_fn (ps := [Str.ofString "self", Str.ofString "cells"]) g'.ok (fn_of (by k_is) (by k_is) (by k_is) (len2 rfl fun ux ux => rfl) (by decide) rfl rfl rfl (by decide)) rfl fun cx ok hfe hhd => ?_
 have g : Fx prog (hK w.params) cx _ (n + 1) := ⟨ok, hfe, hhd.trans g'.hh⟩
 (repeat' (first | (with_reducible first | refine ka1 ?_ | refine ka2 ?_ | refine k_xcons ?_ | refine k_if ?_ | refine ar_nil ?_ | refine k_not ?_ | fail) | walk_at "n" | walk_at "k" | ((with_reducible refine k_tval ?qa ?_); (case qa => (intro env; rfl))) | ((with_reducible refine c_issize (by assumption) ?qa ?qb ?_); (case qa => exact rfl); (case qb => exact ⟨fun ux => rfl, fun ux => rfl⟩)) | fail))
 refine a_issize (fun q => ?_) (fun q1 q2 e he => ?_)
 ·(repeat' (first | (with_reducible first | refine ktb ?_ | refine ka1 ?_ | refine ka2 ?_ | refine kif ?_ | refine knot ?_ | refine k_xcons ?_ | refine ev_str ?_ | refine ar_nil ?_ | refine ite_neg ?_ | refine ite_false' ?_ | fail) | walk_at "k" | ((with_reducible refine And.intro ?qa ?_); (case qa => (show List.length _ ≤ sizeLine; exact Nat.le_of_ble_eq_true rfl))) | ((with_reducible refine' x_raise (by assumption) ?qa ?qb ?qc ?qd ?qe ?_); (case qa => exact rfl); (case qb => k_is); (case qc => k_exc); (case qd => decide); (case qe => (intro env; rfl))) | fail))
  refine ⟨σ₁, ⟨fun ux ux e => e, fun a o e => ?_⟩, h1 (by lia) _ (by k_is)⟩
  exact put_ne (fun q => by subst q; rw [hy] at e; cases e) (put_ne (fun q => by subst q; rw [hdx] at e; cases e) e)
 ·(repeat' (first | (with_reducible first | refine knext ?_ | refine ktb ?_ | refine ka1 ?_ | refine ka2 ?_ | refine kif ?_ | refine knot ?_ | refine exs_nil ?_ | refine k_xcons ?_ | refine ev_int ?_ | refine ev_str ?_ | refine ar_nil ?_ | refine ite_neg ?_ | fail) | walk_at "n" | walk_at "k" | with_reducible refine ite_beq (fun _ => ?_) (fun _ => ?_) | ((with_reducible refine And.intro ?qa ?_); (case qa => (show List.length _ ≤ sizeLine; exact Nat.le_of_ble_eq_true rfl))) | ((with_reducible refine' x_raise (by assumption) ?qa ?qb ?qc ?qd ?qe ?_); (case qa => exact rfl); (case qb => k_is); (case qc => k_exc); (case qd => decide); (case qe => (intro env; rfl))) | ((with_reducible refine x_setattr' (by walk_at "ok") ?qa ?_); (case qa => (intro env; rfl))) | ((with_reducible refine' set_at ?qa ?qb ?qc ?qd ?qe ?qf ?qg ?qh ?_); (case qa => walk_at "hp"); (case qb => walk_at "hp"); (case qc => k_is); (case qd => k_is); (case qe => k_is); (case qf => k_is); (case qg => exact rfl); (case qh => exact Nat.le_of_ble_eq_true rfl)) | ((with_reducible refine v_dict0 (by walk_at "ok") (fun _ _ => ?_))) | ((with_reducible refine v_dict1' (by walk_at "ok") (fun _ _ => ?_))) | ((with_reducible refine dict1 ?qa ?_); (case qa => walk_at "hp")) | fail))
  ·rename_i hv S hS H hH
   subst hv
   obtain ⟨σ₀, a1, a2, a3, a4, a5, a6⟩ := yard_made (K := (hK w.params)) hy hdx hne hS hH (by k_is) he.1
   exact ⟨rfl, σ₀, a1, h2 e he.1 rfl σ₀ y _ dx S H a2 a3 hy hdx a4 a5 a6⟩
  ·rename_i hv
   refine ⟨σ₁, ⟨fun ux ux e => e, fun a o e => ?_⟩, h1 (.inr (.inr fun m hm => hv ((fit_pow he).mpr ⟨m, hm⟩))) _ (by k_is)⟩
   exact put_ne (fun q => by subst q; rw [hy] at e; cases e) (put_ne (fun q => by subst q; rw [hdx] at e; cases e) e)
theorem c_free (g : Fx prog (hK w.params) cx sc (n + 1)) {o : Expr} {apos : Pos} (he : MethE o (Str.ofString "free") apos [] pos) (h : WEv prog w cx o σ (A_tell (hK w.params) false Q) E) : WEv prog w cx (.Call (.Attribute o (Str.ofString "free") apos) [] [] pos) σ Q E := by
 refine v_methy g.ok (by k_is) (by k_is) (by k_is) (by k_is) (by k_is) (fun ux ux ux => rfl) he (h.imp (fun a σ₁ ⟨y, k, t, C, dx, S, H, sp, hd, ha, hY, hq⟩ => ⟨y, k, C, dx, S, H, ha, hY.is, ar_nil ?_⟩) fun ux ux e => e)
 obtain rfl := nsEq hY.is.cls (by k_is)
 refine (call_fgt (ps := [Str.ofString "self"]) g (fn_of (by k_is) (by k_is) (by k_is) (len1 rfl fun ux => rfl) (by decide) rfl rfl rfl (by decide)) rfl fun cx g => ?_)
 have e1 := hY.is.y
 have e2 := hY.is.dx
 have e3 := hY.sS
 have e5 : sp.length ≤ 60 * 2 ^ 15 + 1 := by have := hY.splen; have := hY.len; lia
 have e6 : sizeLine = 2 ^ 24 := rfl
 (repeat' (first | (with_reducible first | refine k_xcons ?_ | refine k_ret ?_ | fail) | fail))
 refine v_comp g.ok g.hh ⟨rfl, by decide, by decide, by decide, by decide, rfl⟩ ?_ (fun ux => rfl)
 (repeat' (first | (with_reducible first | refine ka1 ?_ | refine ka2 ?_ | refine kcl ?_ | refine ar_nil ?_ | fail) | walk_at "n" | ((with_reducible refine' k_callb (by walk_at "ok") ?qa ?qc ?qd ?qe ?qb ?qf ?_); (case qa => exact rfl); (case qb => decide); (case qc => k_is); (case qd => decide); (case qe => boot_by_name); (case qf => exact ⟨fun ux => rfl, fun ux => rfl⟩)) | ((with_reducible refine' k_callt (by walk_at "ok") ?qa ?qc ?qd ?qe ?qb ?qf ?_); (case qa => exact rfl); (case qb => decide); (case qc => k_is); (case qd => decide); (case qe => boot_by_name); (case qf => exact ⟨fun ux => rfl, fun ux => rfl⟩)) | walk_at "k" | ((with_reducible refine' v_attr' (by walk_at "ok") ?qa ?_); (case qa => (intro env; rfl))) | ((with_reducible refine' at_attr ?qa ?qb ?qc ?qd ?qe ?qf ?qg ?qh ?_); (case qa => walk_at "hp"); (case qb => walk_at "hp"); (case qc => k_is); (case qd => k_is); (case qe => k_is); (case qf => k_is); (case qg => exact rfl); (case qh => exact rfl)) | ((with_reducible refine' cl_list_dict' (by assumption) ?qa ?qb (fun _ _ => ?_)); (case qa => walk_at "hp"); (case qb => walk_at "num")) | ((with_reducible refine' cl_sorted ?qa ?qb (fun _ _ _ _ _ => ?_)); (case qa => walk_at "lst"); (case qb => walk_at "num")) | fail))
 rename_i z1 hz1 z2 ms hz2 hp hs
 obtain rfl := keys_are (b := false) hY.rep.sp hp hs
 refine ⟨_, fun ux => true, tellF sp, iter_list (.inl put_same), tell_len hY.rep.sp (by lia), ?_, fun D hD => ?_⟩
 ·intro i a D acc cx' ha hD ok hh
  obtain ⟨p, hp, rfl⟩ := tell_item ha
  refine ⟨ts_nil ⟨rfl, AS.Kept.refl _⟩, fun _ => ?_⟩
  (repeat' (first | (with_reducible first | refine kb1 ?_ | refine kb2 ?_ | refine ka1 ?_ | refine ev_tuple ?_ | refine k_sub ?_ | fail) | walk_at "n" | walk_at "k" | ((with_reducible refine' v_attr' (by walk_at "ok") ?qa ?_); (case qa => (intro env; rfl))) | ((with_reducible refine' at_attr ?qa ?qb ?qc ?qd ?qe ?qf ?qg ?qh ?_); (case qa => walk_at "hp"); (case qb => walk_at "hp"); (case qc => k_is); (case qd => k_is); (case qe => k_is); (case qf => k_is); (case qg => exact rfl); (case qh => exact rfl)) | fail))
  refine sub_dict (by walk_at "hp") (dget_pcs hY.rep.sp hp) ?_ (by intro _ _; with_unfolding_all rfl)
  (repeat' (first | (with_reducible first | refine ka1 ?_ | refine ka2 ?_ | refine ar_nil ?_ | fail) | ((with_reducible refine And.intro ?qa ?_); (case qa => (show List.length _ ≤ sizeLine; exact Nat.le_of_ble_eq_true rfl))) | fail))
  exact ⟨tell_at (dget_pcs hY.rep.sp hp), AS.Kept.refl _⟩
 ·rw [tell_list hY.rep.sp]
  (repeat' (first | (with_reducible first | refine knret ?_ | refine kret ?_ | fail) | fail))
  exact ⟨σ₁.put D _, le_put_both (σ := (σ₁.put z1 _).put z2 _) (le_put_new (le_put_new le_refl hz1) hz2), hq D (none_put (none_put hD).1).1⟩
theorem c_out (g : Fx prog (hK w.params) cx sc (n + 1)) {o : Expr} {apos : Pos} (he : MethE o (Str.ofString "out") apos [] pos) (h : WEv prog w cx o σ (A_tell (hK w.params) true Q) E) : WEv prog w cx (.Call (.Attribute o (Str.ofString "out") apos) [] [] pos) σ Q E := by
 refine v_methy g.ok (by k_is) (by k_is) (by k_is) (by k_is) (by k_is) (fun ux ux ux => rfl) he (h.imp (fun a σ₁ ⟨y, k, t, C, dx, S, H, sp, hd, ha, hY, hq⟩ => ⟨y, k, C, dx, S, H, ha, hY.is, ar_nil ?_⟩) fun ux ux e => e)
 obtain rfl := nsEq hY.is.cls (by k_is)
 refine (call_fgt (ps := [Str.ofString "self"]) g (fn_of (by k_is) (by k_is) (by k_is) (len1 rfl fun ux => rfl) (by decide) rfl rfl rfl (by decide)) rfl fun cx g => ?_)
 have e1 := hY.is.y
 have e2 := hY.is.dx
 have e3 := hY.sH
 have e5 : hd.length ≤ 60 * 2 ^ 15 + 1 := by have := hY.splen; have := hY.len; lia
 have e6 : sizeLine = 2 ^ 24 := rfl
 (repeat' (first | (with_reducible first | refine k_xcons ?_ | refine k_ret ?_ | fail) | fail))
 refine v_comp g.ok g.hh ⟨rfl, by decide, by decide, by decide, by decide, rfl⟩ ?_ (fun ux => rfl)
 (repeat' (first | (with_reducible first | refine ka1 ?_ | refine ka2 ?_ | refine kcl ?_ | refine ar_nil ?_ | fail) | walk_at "n" | ((with_reducible refine' k_callb (by walk_at "ok") ?qa ?qc ?qd ?qe ?qb ?qf ?_); (case qa => exact rfl); (case qb => decide); (case qc => k_is); (case qd => decide); (case qe => boot_by_name); (case qf => exact ⟨fun ux => rfl, fun ux => rfl⟩)) | ((with_reducible refine' k_callt (by walk_at "ok") ?qa ?qc ?qd ?qe ?qb ?qf ?_); (case qa => exact rfl); (case qb => decide); (case qc => k_is); (case qd => decide); (case qe => boot_by_name); (case qf => exact ⟨fun ux => rfl, fun ux => rfl⟩)) | walk_at "k" | ((with_reducible refine' v_attr' (by walk_at "ok") ?qa ?_); (case qa => (intro env; rfl))) | ((with_reducible refine' at_attr ?qa ?qb ?qc ?qd ?qe ?qf ?qg ?qh ?_); (case qa => walk_at "hp"); (case qb => walk_at "hp"); (case qc => k_is); (case qd => k_is); (case qe => k_is); (case qf => k_is); (case qg => exact rfl); (case qh => exact rfl)) | ((with_reducible refine' cl_list_dict' (by assumption) ?qa ?qb (fun _ _ => ?_)); (case qa => walk_at "hp"); (case qb => walk_at "num")) | ((with_reducible refine' cl_sorted ?qa ?qb (fun _ _ _ _ _ => ?_)); (case qa => walk_at "lst"); (case qb => walk_at "num")) | fail))
 rename_i z1 hz1 z2 ms hz2 hp hs
 obtain rfl := keys_are (b := true) hY.rep.hd hp hs
 refine ⟨_, fun ux => true, tellF hd, iter_list (.inl put_same), tell_len hY.rep.hd (by lia), ?_, fun D hD => ?_⟩
 ·intro i a D acc cx' ha hD ok hh
  obtain ⟨p, hp, rfl⟩ := tell_item ha
  refine ⟨ts_nil ⟨rfl, AS.Kept.refl _⟩, fun _ => ?_⟩
  (repeat' (first | (with_reducible first | refine kb1 ?_ | refine kb2 ?_ | refine ka1 ?_ | refine ev_tuple ?_ | refine k_sub ?_ | fail) | walk_at "n" | walk_at "k" | ((with_reducible refine' v_attr' (by walk_at "ok") ?qa ?_); (case qa => (intro env; rfl))) | ((with_reducible refine' at_attr ?qa ?qb ?qc ?qd ?qe ?qf ?qg ?qh ?_); (case qa => walk_at "hp"); (case qb => walk_at "hp"); (case qc => k_is); (case qd => k_is); (case qe => k_is); (case qf => k_is); (case qg => exact rfl); (case qh => exact rfl)) | fail))
  refine sub_dict (by walk_at "hp") (dget_pcs hY.rep.hd hp) ?_ (by intro _ _; with_unfolding_all rfl)
  (repeat' (first | (with_reducible first | refine ka1 ?_ | refine ka2 ?_ | refine ar_nil ?_ | fail) | ((with_reducible refine And.intro ?qa ?_); (case qa => (show List.length _ ≤ sizeLine; exact Nat.le_of_ble_eq_true rfl))) | fail))
  exact ⟨tell_at (dget_pcs hY.rep.hd hp), AS.Kept.refl _⟩
 ·rw [tell_list hY.rep.hd]
  (repeat' (first | (with_reducible first | refine knret ?_ | refine kret ?_ | fail) | fail))
  exact ⟨σ₁.put D _, le_put_both (σ := (σ₁.put z1 _).put z2 _) (le_put_new (le_put_new le_refl hz1) hz2), hq D (none_put (none_put hD).1).1⟩
theorem c_owner (g : Fx prog (hK w.params) cx sc (n + 1)) {o : Expr} {apos : Pos} {args : List Expr} (he : MethE o (Str.ofString "owner") apos args pos) (h : WEv prog w cx o σ (OnYd (hK w.params) fun y σ₁ => WAr prog w cx pos args σ₁ (A_owner (hK w.params) Q y) E) E) : WEv prog w cx (.Call (.Attribute o (Str.ofString "owner") apos) args [] pos) σ Q E := by
 refine v_methy g.ok (by k_is) (by k_is) (by k_is) (by k_is) (by k_is) (fun ux ux ux => rfl) he (onyd_imp h fun y l σ₁ ⟨c, hl, k, t, C, dx, S, H, sp, hd, hY, hq⟩ => ?_)
 subst hl
 obtain rfl := nsEq hY.is.cls (by k_is)
 refine call_pure (ps := [Str.ofString "self", Str.ofString "cell"]) g (fn_of (by k_is) (by k_is) (by k_is) (len2 rfl fun ux ux => rfl) (by decide) rfl rfl rfl (by decide)) rfl fun cx g => ?_
 have e1 := hY.is.y
 have e2 := hY.is.dx
 have e4 := hY.sH
 have e5 : hd.length ≤ 2 ^ 15 := hY.len
 have e6 : sizeLine = 2 ^ 24 := rfl
 show WExs _ _ _ (_ :: _) _ _ _
 refine k_xcons (x_list g rfl (fun ux => rfl) ?_)
 (repeat' (first | (with_reducible first | refine ka1 ?_ | refine ka2 ?_ | refine kcl ?_ | refine ar_nil ?_ | fail) | walk_at "n" | ((with_reducible refine' k_callt (by walk_at "ok") ?qa ?qc ?qd ?qe ?qb ?qf ?_); (case qa => exact rfl); (case qb => decide); (case qc => k_is); (case qd => decide); (case qe => boot_by_name); (case qf => exact ⟨fun ux => rfl, fun ux => rfl⟩)) | walk_at "k" | ((with_reducible refine' v_attr' (by walk_at "ok") ?qa ?_); (case qa => (intro env; rfl))) | ((with_reducible refine' at_attr ?qa ?qb ?qc ?qd ?qe ?qf ?qg ?qh ?_); (case qa => walk_at "hp"); (case qb => walk_at "hp"); (case qc => k_is); (case qd => k_is); (case qe => k_is); (case qf => k_is); (case qg => exact rfl); (case qh => exact rfl)) | ((with_reducible refine' cl_list_dict' (by assumption) ?qa ?qb (fun _ _ => ?_)); (case qa => walk_at "hp"); (case qb => walk_at "num")) | fail))
 rename_i z hz
 refine ⟨z, _, fun i σ => σ.loc (Str.ofString "self") = some (.ref y) ∧ σ.loc (Str.ofString "cell") = some (.int c) ∧ σ.hp z = some (.list ((hd.map (·.1)).map AV.int)) ∧ σ₁.Sub σ ∧ ∀ q ∈ hd.take i, ownP c q = false, rfl, ⟨by walk_at "lk", by walk_at "lk", by walk_at "hp", fun a o e => by walk_at "hp", fun q hq => by rw [List.take_zero] at hq; cases hq⟩, fun i σ h => h.2.2.1, ?_, ?_⟩
 ·rintro i a σ cx g ha ⟨j1, j2, j3, j4, j5⟩
  obtain ⟨p, hp, rfl⟩ := int_at ha
  have hpm := List.mem_of_getElem? hp
  have f1 := j4 _ _ e1
  have f2 := j4 _ _ e2
  have f4 := j4 _ _ e4
  have hgt := (dget_mem hY.rep.khd).mpr hpm
  (repeat' (first | (with_reducible first | refine knext ?_ | refine kb1 ?_ | refine kb2 ?_ | refine ktb ?_ | refine kif ?_ | refine exs_nil ?_ | refine k_xcons ?_ | refine k_if ?_ | refine k_bin ?_ | refine k_sub ?_ | refine cmp_le ?_ | refine ite_false' ?_ | refine kc1 ?_ | refine kc2 ?_ | refine kc3 ?_ | fail) | walk_at "n" | ((with_reducible refine k_tcmp2 ?qa ?_); (case qa => with_unfolding_all rfl)) | with_reducible refine ite_dec (fun _ => ?_) (fun _ => ?_) | ((with_reducible refine' v_attr' (by walk_at "ok") ?qa ?_); (case qa => (intro env; rfl))) | ((with_reducible refine' at_attr ?qa ?qb ?qc ?qd ?qe ?qf ?qg ?qh ?_); (case qa => walk_at "hp"); (case qb => walk_at "hp"); (case qc => k_is); (case qd => k_is); (case qe => k_is); (case qf => k_is); (case qg => exact rfl); (case qh => exact rfl)) | fail))
  ·refine sub_dict (by walk_at "hp") hgt ?_ (by intro _ _; with_unfolding_all rfl)
   (repeat' (first | (with_reducible first | refine knext ?_ | refine knret ?_ | refine kb2 ?_ | refine ktb ?_ | refine kif ?_ | refine kret ?_ | refine exs_nil ?_ | refine k_xcons ?_ | refine k_ret ?_ | refine op_add ?_ | refine cmp_lt ?_ | refine kc4 ?_ | fail) | walk_at "n" | with_reducible refine ite_dec (fun _ => ?_) (fun _ => ?_) | fail))
   ·refine ⟨j4, ?_⟩
    rw [ownI_mem hY.rep.once hpm (by unfold ownP; simp only [decide_eq_true_eq]; exact ⟨by assumption, by assumption⟩)] at hq
    exact hq
   ·exact ⟨by walk_at "lk", by walk_at "lk", j3, j4, own_next hp j5 (by unfold ownP; simp only [decide_eq_false_iff_not]; lia)⟩
  ·exact ⟨by walk_at "lk", by walk_at "lk", j3, j4, own_next hp j5 (by unfold ownP; simp only [decide_eq_false_iff_not]; lia)⟩
 ·rintro σ ⟨j1, j2, j3, j4, j5⟩
  (repeat' (first | (with_reducible first | refine knext ?_ | refine knret ?_ | refine kret ?_ | refine k_xcons ?_ | refine k_ret ?_ | refine ev_none ?_ | fail) | fail))
  refine ⟨j4, ?_⟩
  rw [List.length_map, List.length_map, List.take_length] at j5
  rw [ownI_none j5] at hq
  exact hq
theorem c_num (g : Fx prog (hK w.params) cx sc (n + 1)) {args : List Expr} {px : Pos} (hx : sc.names.lookup (Str.ofString "number_of") = some .globalImplicit) (hp : Plain (Str.ofString "number_of") px args pos)
  (h : WAr prog w cx pos args σ (A_num (hK w.params) E Q) E) : WEv prog w cx (.Call (.Name (Str.ofString "number_of") px) args [] pos) σ Q E := by
 refine v_callf g.ok hx (by k_is) (by k_is) (by decide) hp (h.imp (fun l σ₁ ⟨x, hl, hz, h1, h2⟩ => ?_) fun ux ux e => e)
 subst hl
 refine call_pure (ps := [Str.ofString "word"]) g (fn_of (by k_is) (by k_is) (by k_is) (len1 rfl fun ux => rfl) (by decide) rfl rfl rfl (by decide)) rfl fun cx g => ?_
 show WExs _ _ _ (_ :: _) _ _ _
 refine seq1 (fun σ' => σ'.loc (Str.ofString "word") = some (.str x) ∧ σ₁.Sub σ' ∧ x.length ≠ 0 ∧ ¬ 19 < x.length ∧ ¬ (x.cps[0]? = some 48 ∧ 1 < x.length)) ?_ ?_
 ·rintro σ ⟨l1, s1, q0, q1, q2⟩
  show WExs _ _ _ (_ :: _) _ _ _
  refine k_xcons (x_signs g rfl (fun ux => rfl) ?_)
  (repeat' (first | walk_at "n" | fail))
  refine ⟨x, fun i σ => σ.loc (Str.ofString "word") = some (.str x) ∧ σ₁.Sub σ ∧ ∀ c ∈ x.cps.toList.take i, 48 ≤ c ∧ c ≤ 57, rfl, ⟨l1, s1, by simp⟩, ?_, ?_⟩
  ·rintro i c σ cx g hc ⟨l1, s1, hi⟩
   (repeat' (first | (with_reducible first | refine kb1 ?_ | refine kb2 ?_ | refine k_xcons ?_ | refine k_if ?_ | fail) | walk_at "n" | ((with_reducible refine' v_gname (by walk_at "ok") ?qa ?qb ?qc ?qd ?_); (case qa => exact rfl); (case qb => decide); (case qc => k_is); (case qd => intro h; first | exact vr_int | exact vr_ref | exact vr_str)) | ((with_reducible refine k_tcmp ?qa ?_); (case qa => with_unfolding_all rfl)) | fail))
   refine cmp_notin_s ?_
   rw [fig_in]
   (repeat' (first | (with_reducible first | refine knext ?_ | refine ktb ?_ | refine ka1 ?_ | refine ka2 ?_ | refine kif ?_ | refine exs_nil ?_ | refine k_xcons ?_ | refine ev_str ?_ | refine ar_nil ?_ | refine ite_neg ?_ | fail) | walk_at "k" | with_reducible refine ite_dec (fun _ => ?_) (fun _ => ?_) | ((with_reducible refine And.intro ?qa ?_); (case qa => (show List.length _ ≤ sizeLine; exact Nat.le_of_ble_eq_true rfl))) | ((with_reducible refine' x_raise (by assumption) ?qa ?qb ?qc ?qd ?qe ?_); (case qa => exact rfl); (case qb => k_is); (case qc => k_exc); (case qd => decide); (case qe => (intro env; rfl))) | fail))
   ·rename_i hn
    refine ⟨by walk_at "lk", s1, fun d hd => ?_⟩
    rw [List.take_add_one, Array.getElem?_toList, hc] at hd
    rcases List.mem_append.mp hd with q | q
    ·exact hi d q
    ·rw [show d = c by simpa using q]; exact hn
   ·rename_i hn
    refine ⟨s1, h1 (numOf_none (.inr (.inr (.inr fun q => hn (q c ?_))))) _ (by k_is)⟩
    exact List.mem_of_getElem? (by rw [Array.getElem?_toList]; exact hc)
  ·rintro σ ⟨l1, s1, hi⟩
   rw [List.take_of_length_le (by rw [Array.length_toList]; exact Nat.le_refl _)] at hi
   obtain ⟨i, _, e1, e2⟩ := numOf_some q0 q1 q2 hi
   (repeat' (first | (with_reducible first | refine knext ?_ | refine ka1 ?_ | refine ka2 ?_ | refine kcl ?_ | refine k_xcons ?_ | refine k_ret ?_ | refine ar_nil ?_ | fail) | walk_at "n" | ((with_reducible refine' k_callt (by walk_at "ok") ?qa ?qc ?qd ?qe ?qb ?qf ?_); (case qa => exact rfl); (case qb => decide); (case qc => k_is); (case qd => decide); (case qe => boot_by_name); (case qf => exact ⟨fun ux => rfl, fun ux => rfl⟩)) | walk_at "k" | fail))
   refine cl_int e1 (by lia) ?_
   (repeat' (first | (with_reducible first | refine knret ?_ | refine kret ?_ | fail) | fail))
   exact ⟨s1, h2 i e2⟩
 ·(repeat' (first | (with_reducible first | refine kb1 ?_ | refine kb2 ?_ | refine ktb ?_ | refine ka1 ?_ | refine ka2 ?_ | refine kcl ?_ | refine kif ?_ | refine kor ?_ | refine k_xcons ?_ | refine k_if ?_ | refine ev_int ?_ | refine ev_str ?_ | refine ar_nil ?_ | refine tr_bool ?_ | refine k_and ?_ | refine k_or ?_ | refine k_sub ?_ | refine cmp_gt ?_ | refine ite_true' ?_ | fail) | walk_at "n" | ((with_reducible refine' v_gname (by walk_at "ok") ?qa ?qb ?qc ?qd ?_); (case qa => exact rfl); (case qb => decide); (case qc => k_is); (case qd => intro h; first | exact vr_int | exact vr_ref | exact vr_str)) | ((with_reducible refine' k_callb (by walk_at "ok") ?qa ?qc ?qd ?qe ?qb ?qf ?_); (case qa => exact rfl); (case qb => decide); (case qc => k_is); (case qd => decide); (case qe => boot_by_name); (case qf => exact ⟨fun ux => rfl, fun ux => rfl⟩)) | walk_at "k" | ((with_reducible refine k_tcmp ?qa ?_); (case qa => with_unfolding_all rfl)) | with_reducible refine ite_dec (fun _ => ?_) (fun _ => ?_) | ((with_reducible refine And.intro ?qa ?_); (case qa => (show List.length _ ≤ sizeLine; exact Nat.le_of_ble_eq_true rfl))) | ((with_reducible refine' x_raise (by assumption) ?qa ?qb ?qc ?qd ?qe ?_); (case qa => exact rfl); (case qb => k_is); (case qc => k_exc); (case qd => decide); (case qe => (intro env; rfl))) | ((with_reducible refine cl_len_s ?qa ?_); (case qa => lia)) | (with_reducible refine cmp_eq_s ?_) | (with_reducible refine ite_beqs (fun _ => ?_) (fun _ => ?_)) | fail))
  ·rename_i q
   subst q
   exact ⟨fun ux ux e => e, h1 (numOf_none (.inl (by decide))) _ (by k_is)⟩
  ·rename_i q0 q1
   exact ⟨fun ux ux e => e, h1 (numOf_none (.inr (.inl (by lia)))) _ (by k_is)⟩
  ·rename_i q0 q1
   have q2 := str_len0 q0
   refine sub_str0 q2 (fun c hc => ?_) (by intro _ _; with_unfolding_all rfl)
   (repeat' (first | (with_reducible first | refine kb1 ?_ | refine kb2 ?_ | refine ktb ?_ | refine ka1 ?_ | refine ka2 ?_ | refine kcl ?_ | refine kif ?_ | refine kand ?_ | refine kor ?_ | refine exs_nil ?_ | refine k_xcons ?_ | refine ev_int ?_ | refine ev_str ?_ | refine ar_nil ?_ | refine tl_and_nil ?_ | refine tl_or_nil ?_ | refine k_and ?_ | refine cmp_gt ?_ | refine ite_true' ?_ | refine ite_false' ?_ | fail) | walk_at "n" | ((with_reducible refine' k_callb (by walk_at "ok") ?qa ?qc ?qd ?qe ?qb ?qf ?_); (case qa => exact rfl); (case qb => decide); (case qc => k_is); (case qd => decide); (case qe => boot_by_name); (case qf => exact ⟨fun ux => rfl, fun ux => rfl⟩)) | walk_at "k" | ((with_reducible refine k_tcmp ?qa ?_); (case qa => with_unfolding_all rfl)) | with_reducible refine ite_dec (fun _ => ?_) (fun _ => ?_) | ((with_reducible refine And.intro ?qa ?_); (case qa => (show List.length _ ≤ sizeLine; exact Nat.le_of_ble_eq_true rfl))) | ((with_reducible refine' x_raise (by assumption) ?qa ?qb ?qc ?qd ?qe ?_); (case qa => exact rfl); (case qb => k_is); (case qc => k_exc); (case qd => decide); (case qe => (intro env; rfl))) | ((with_reducible refine cl_len_s ?qa ?_); (case qa => lia)) | (with_reducible refine cmp_eq_s ?_) | (with_reducible refine ite_beqs (fun _ => ?_) (fun _ => ?_)) | fail))
   ·rename_i q3 q4
    exact ⟨fun ux ux e => e, h1 (numOf_none (.inr (.inr (.inl ⟨by rw [hc, sign0.mp q3], by lia⟩)))) _ (by k_is)⟩
   ·rename_i q3 q4
    exact ksnil ⟨by walk_at "lk", fun ux ux e => e, q2, by lia, fun w => by lia⟩
   ·rename_i q3
    exact ksnil ⟨by walk_at "lk", fun ux ux e => e, q2, by lia, fun w => q3 (sign0.mpr (by rw [hc] at w; exact Option.some.inj w.1))⟩
theorem c_pieces (g : Fx prog (hK w.params) cx sc (n + 2)) {args : List Expr} {px : Pos} (hx : sc.names.lookup (Str.ofString "pieces_of") = some .globalImplicit) (hp : Plain (Str.ofString "pieces_of") px args pos)
  (h : WAr prog w cx pos args σ (A_pieces (hK w.params) E Q) E) : WEv prog w cx (.Call (.Name (Str.ofString "pieces_of") px) args [] pos) σ Q E := by
 refine v_callf g.ok hx (by k_is) (by k_is) (by decide) hp (h.imp (fun l σ₁ ⟨x, hl, hz, h1, h2⟩ => ?_) fun ux ux e => e)
 subst hl
 refine call_fgt (ps := [Str.ofString "text"]) g (fn_of (by k_is) (by k_is) (by k_is) (len1 rfl fun ux => rfl) (by decide) rfl rfl rfl (by decide)) rfl fun cx g => ?_
 have e6 : sizeLine = 2 ^ 24 := rfl
 have hsp := nl_len (x := x)
 (repeat' (first | (with_reducible first | refine knext ?_ | refine kset ?_ | refine k_xcons ?_ | refine ev_int ?_ | refine ar_nil ?_ | refine v_list ?_ | fail) | ((with_reducible refine k_assign (by walk_at "ok") ?qa ?qb ?_); (case qa => exact rfl); (case qb => exact rfl)) | ((with_reducible refine newl ?qa (fun _ _ => ?_)); (case qa => exact Nat.le_of_ble_eq_true rfl)) | fail))
 rename_i F hF
 refine x_list g rfl (fun ux => rfl) ?_
 (repeat' (first | (with_reducible first | refine ka1 ?_ | refine ka2 ?_ | refine ev_str ?_ | refine ar_nil ?_ | fail) | walk_at "n" | walk_at "k" | ((with_reducible refine v_split ?qa ?qb ?qc ?qd ?_); (case qa => (intro env; rfl)); (case qb => (intro env; rfl)); (case qc => exact rfl); (case qd => (intro env; rfl))) | (with_reducible refine ex_str ?_) | ((with_reducible refine cl_split ?qa ?qb (fun _ _ => ?_)); (case qa => decide); (case qb => lia)) | fail))
 rename_i D hD
 have nDF : F ≠ D := ne_new (o := .list []) hD (by walk_at "hp")
 refine ⟨D, _, PcI σ₁ x F D, rfl, ⟨[], by show _ = some (AO.list []); walk_at "hp", by walk_at "hp", by walk_at "lk", by walk_at "lk", rfl, .zero, by walk_at "sub"⟩, fun i σ h => h.at, ?_, ?_⟩
 ·rintro i a σ cx g ha ⟨P, hF', hD', lf, lh, hP, hp, sub⟩
  obtain ⟨y, hy, rfl⟩ := str_item ha
  have hr := rows_at hy
  have hyl := hsp.1 y (List.mem_of_getElem? hy)
  have hsy := (sp_len (x := y)).2
  have hil := (List.getElem?_eq_some_iff.mp hy).1
  (repeat' (first | (with_reducible first | refine knext ?_ | refine kb1 ?_ | refine kb2 ?_ | refine ktb ?_ | refine ka1 ?_ | refine ka2 ?_ | refine kcl ?_ | refine kif ?_ | refine kset ?_ | refine kor ?_ | refine k_xcons ?_ | refine k_if ?_ | refine ev_int ?_ | refine ev_str ?_ | refine ar_nil ?_ | refine tr_bool ?_ | refine k_or ?_ | refine k_sub ?_ | refine cmp_ne ?_ | refine ite_true' ?_ | fail) | ((with_reducible refine k_assign (by walk_at "ok") ?qa ?qb ?_); (case qa => exact rfl); (case qb => exact rfl)) | walk_at "n" | ((with_reducible refine' k_callb (by walk_at "ok") ?qa ?qc ?qd ?qe ?qb ?qf ?_); (case qa => exact rfl); (case qb => decide); (case qc => k_is); (case qd => decide); (case qe => boot_by_name); (case qf => exact ⟨fun ux => rfl, fun ux => rfl⟩)) | walk_at "k" | ((with_reducible refine k_tcmp ?qa ?_); (case qa => with_unfolding_all rfl)) | with_reducible refine ite_bne (fun _ => ?_) (fun _ => ?_) | ((with_reducible refine' cl_len ?qa ?qb ?_); (case qa => walk_at "lst"); (case qb => walk_at "num")) | ((with_reducible refine And.intro ?qa ?_); (case qa => (show List.length _ ≤ sizeLine; exact Nat.le_of_ble_eq_true rfl))) | ((with_reducible refine' x_raise (by assumption) ?qa ?qb ?qc ?qd ?qe ?_); (case qa => exact rfl); (case qb => k_is); (case qc => k_exc); (case qd => decide); (case qe => (intro env; rfl))) | ((with_reducible refine v_split ?qa ?qb ?qc ?qd ?_); (case qa => (intro env; rfl)); (case qb => (intro env; rfl)); (case qc => exact rfl); (case qd => (intro env; rfl))) | (with_reducible refine ex_str ?_) | ((with_reducible refine cl_split ?qa ?qb (fun _ _ => ?_)); (case qa => decide); (case qb => lia)) | fail))
  ·rename_i q3
   rw [List.length_map] at q3
   exact fge (by walk_at "sub") (h1 (hp.bad hr fun p e => by rw [row_len (by lia)] at e; cases e) _ (by k_is))
  rename_i W hW q3
  rw [List.length_map] at q3
  obtain ⟨u, v, z, e⟩ := three_of (l := Txt.split y (Str.ofString " ")) (by lia)
  have hwl := (sp_len (x := y)).1
  rw [e] at hwl ⊢
  have hul := hwl u (by simp)
  have hvl := hwl v (by simp)
  refine sub_list' (by walk_at "lst") (by decide) (by decide) (a := .str z) rfl ?_ (by intro _ _; with_unfolding_all rfl)
  (repeat' (first | (with_reducible first | refine kb1 ?_ | refine kb2 ?_ | refine ka1 ?_ | refine ka2 ?_ | refine ev_str ?_ | refine ar_nil ?_ | refine ev_tuple ?_ | fail) | walk_at "k" | ((with_reducible refine And.intro ?qa ?_); (case qa => (show List.length _ ≤ sizeLine; exact Nat.le_of_ble_eq_true rfl))) | fail))
  refine cmp_notin_strs (xs := [wOut, wFree]) ?_
  (repeat' (first | (with_reducible first | refine knext ?_ | refine kb1 ?_ | refine kb2 ?_ | refine ktb ?_ | refine ka1 ?_ | refine ka2 ?_ | refine kif ?_ | refine kor ?_ | refine exs_nil ?_ | refine k_xcons ?_ | refine ev_int ?_ | refine ev_str ?_ | refine ar_nil ?_ | refine tl_or_nil ?_ | refine k_sub ?_ | refine ite_neg ?_ | refine ite_true' ?_ | refine ite_false' ?_ | fail) | ((with_reducible refine k_assign (by walk_at "ok") ?qa ?qb ?_); (case qa => exact rfl); (case qb => exact rfl)) | walk_at "n" | walk_at "k" | with_reducible refine ite_dec (fun _ => ?_) (fun _ => ?_) | ((with_reducible refine And.intro ?qa ?_); (case qa => (show List.length _ ≤ sizeLine; exact Nat.le_of_ble_eq_true rfl))) | ((with_reducible refine' x_raise (by assumption) ?qa ?qb ?qc ?qd ?qe ?_); (case qa => exact rfl); (case qb => k_is); (case qc => k_exc); (case qd => decide); (case qe => (intro env; rfl))) | ((with_reducible refine c_num (by assumption) ?qa ?qb ?_); (case qa => exact rfl); (case qb => exact ⟨fun ux => rfl, fun ux => rfl⟩)) | fail))
  rotate_left
  ·rename_i q
   exact fge (by walk_at "sub") (h1 (hp.bad hr fun p e' => by rw [row_word e (by simpa using q)] at e'; cases e') _ (by k_is))
  rename_i hzm
  have hz : z = wOut ∨ z = wFree := by simpa using hzm
  refine sub_list' (by walk_at "lst") (by decide) (by decide) (a := .str u) rfl ?_ (by intro _ _; with_unfolding_all rfl)
  (repeat' (first | (with_reducible first | refine ka1 ?_ | refine ka2 ?_ | refine ar_nil ?_ | fail) | fail))
  refine ⟨u, rfl, by lia, fun q C hC => fge (by walk_at "sub") (h1 (hp.bad hr fun p e' => by rw [row_num1 e q] at e'; cases e') C hC), fun a ha => ?_⟩
  (repeat' (first | (with_reducible first | refine knext ?_ | refine kb1 ?_ | refine kb2 ?_ | refine kset ?_ | refine k_xcons ?_ | refine ev_int ?_ | refine k_sub ?_ | fail) | ((with_reducible refine k_assign (by walk_at "ok") ?qa ?qb ?_); (case qa => exact rfl); (case qb => exact rfl)) | walk_at "n" | walk_at "k" | ((with_reducible refine c_num (by assumption) ?qa ?qb ?_); (case qa => exact rfl); (case qb => exact ⟨fun ux => rfl, fun ux => rfl⟩)) | fail))
  refine sub_list' (by walk_at "lst") (by decide) (by decide) (a := .str v) rfl ?_ (by intro _ _; with_unfolding_all rfl)
  (repeat' (first | (with_reducible first | refine ka1 ?_ | refine ka2 ?_ | refine ar_nil ?_ | fail) | fail))
  refine ⟨v, rfl, by lia, fun q C hC => fge (by walk_at "sub") (h1 (hp.bad hr fun p e' => by rw [row_num2 e q] at e'; cases e') C hC), fun s hs => ?_⟩
  have hrow := row_some e hz ha hs
  have bad : okR (endP 0 P) (a, s, decide (z = wOut)) ≠ true → parseR 0 (rowsIn x) = none := fun q => hp.bad hr fun p e' => by rw [hrow] at e'; cases e'; exact q
  (repeat' (first | (with_reducible first | refine knext ?_ | refine kb1 ?_ | refine kb2 ?_ | refine ktb ?_ | refine ka1 ?_ | refine ka2 ?_ | refine kif ?_ | refine kset ?_ | refine kor ?_ | refine k_xcons ?_ | refine k_if ?_ | refine ev_str ?_ | refine ar_nil ?_ | refine k_not ?_ | refine tr_bool ?_ | refine k_or ?_ | refine cmp_ne ?_ | refine ite_true' ?_ | fail) | walk_at "n" | walk_at "k" | ((with_reducible refine k_tcmp ?qa ?_); (case qa => with_unfolding_all rfl)) | with_reducible refine ite_bne (fun _ => ?_) (fun _ => ?_) | ((with_reducible refine And.intro ?qa ?_); (case qa => (show List.length _ ≤ sizeLine; exact Nat.le_of_ble_eq_true rfl))) | ((with_reducible refine' x_raise (by assumption) ?qa ?qb ?qc ?qd ?qe ?_); (case qa => exact rfl); (case qb => k_is); (case qc => k_exc); (case qd => decide); (case qe => (intro env; rfl))) | ((with_reducible refine c_issize (by assumption) ?qa ?qb ?_); (case qa => exact rfl); (case qb => exact ⟨fun ux => rfl, fun ux => rfl⟩)) | ((with_reducible refine k_tval ?qa ?_); (case qa => (intro env; rfl))) | fail))
  ·rename_i q
   exact fge (by walk_at "sub") (h1 (bad (okR_at q)) _ (by k_is))
  rename_i qa
  refine a_issize (fun q => ?_) (fun q1 q2 m hm => ?_)
  ·(repeat' (first | (with_reducible first | refine ktb ?_ | refine ka1 ?_ | refine ka2 ?_ | refine kif ?_ | refine knot ?_ | refine kor ?_ | refine k_xcons ?_ | refine ev_str ?_ | refine ar_nil ?_ | refine ite_neg ?_ | refine ite_true' ?_ | refine ite_false' ?_ | fail) | walk_at "k" | ((with_reducible refine And.intro ?qa ?_); (case qa => (show List.length _ ≤ sizeLine; exact Nat.le_of_ble_eq_true rfl))) | ((with_reducible refine' x_raise (by assumption) ?qa ?qb ?qc ?qd ?qe ?_); (case qa => exact rfl); (case qb => k_is); (case qc => k_exc); (case qd => decide); (case qe => (intro env; rfl))) | fail))
   exact fge (by walk_at "sub") (h1 (bad (okR_out (out_isP q))) _ (by k_is))
  (repeat' (first | (with_reducible first | refine knext ?_ | refine kb1 ?_ | refine kb2 ?_ | refine ktb ?_ | refine ka1 ?_ | refine ka2 ?_ | refine kif ?_ | refine knot ?_ | refine kor ?_ | refine exs_nil ?_ | refine k_xcons ?_ | refine k_bin ?_ | refine ev_int ?_ | refine ev_str ?_ | refine ar_nil ?_ | refine tl_or_nil ?_ | refine k_or ?_ | refine ev_tuple ?_ | refine k_sub ?_ | refine cmp_ne ?_ | refine ite_neg ?_ | refine ite_true' ?_ | refine ite_false' ?_ | fail) | walk_at "n" | walk_at "k" | ((with_reducible refine k_tcmp ?qa ?_); (case qa => with_unfolding_all rfl)) | ((with_reducible refine op_mod ?qa ?_); (case qa => walk_at "pos")) | with_reducible refine ite_beq (fun _ => ?_) (fun _ => ?_) | with_reducible refine ite_bne (fun _ => ?_) (fun _ => ?_) | ((with_reducible refine And.intro ?qa ?_); (case qa => (show List.length _ ≤ sizeLine; exact Nat.le_of_ble_eq_true rfl))) | ((with_reducible refine' x_raise (by assumption) ?qa ?qb ?qc ?qd ?qe ?_); (case qa => exact rfl); (case qb => k_is); (case qc => k_exc); (case qd => decide); (case qe => (intro env; rfl))) | ((with_reducible refine' meth_append ?qa ?_); (case qa => walk_at "hp")) | ((with_reducible refine k_expr (by walk_at "ok") ?qa ?_); (case qa => (intro env; rfl))) | ((with_reducible refine v_methb' ?qa ?qb ?qc ?qd ?_); (case qa => (intro env; rfl)); (case qb => (intro env; rfl)); (case qc => exact rfl); (case qd => (intro env; rfl))) | fail))
  ·rename_i w1 w2
   exact fge (by walk_at "sub") (h1 (bad (okR_mod w2)) _ (by k_is))
  ·rename_i w1 w2
   refine sub_list' (by walk_at "lst") (by decide) (by decide) (a := .str z) rfl ?_ (by intro _ _; with_unfolding_all rfl)
   (repeat' (first | (with_reducible first | refine knext ?_ | refine kb1 ?_ | refine kb2 ?_ | refine ka1 ?_ | refine ka2 ?_ | refine kset ?_ | refine kdrop ?_ | refine exs_nil ?_ | refine k_xcons ?_ | refine k_bin ?_ | refine ar_nil ?_ | refine op_add ?_ | fail) | ((with_reducible refine k_assign (by walk_at "ok") ?qa ?qb ?_); (case qa => exact rfl); (case qb => exact rfl)) | walk_at "n" | ((with_reducible refine And.intro ?qa ?_); (case qa => (show List.length _ ≤ sizeLine; exact Nat.le_of_ble_eq_true rfl))) | ((with_reducible refine' cl_append ?qa ?qb ?_); (case qa => walk_at "hp"); (case qb => walk_at "num")) | fail))
   refine ⟨P ++ [(a, s, decide (z = wOut))], ?_, by walk_at "hp", by walk_at "lk", ?_, by rw [List.length_append, hP]; rfl, hp.next (by rw [hr, hrow]) (okR_of qa hm w1 w2), put_sub (by walk_at "sub") hF⟩
   ·rw [List.map_append, List.map_singleton, pcA_z hz]
    walk_at "hp"
   ·rw [endP_snoc, ← qa]
    walk_at "lk"
  ·rename_i w1
   exact fge (by walk_at "sub") (h1 (bad (okR_out fun q => w1 ((fit_isP hm).mp q))) _ (by k_is))
 ·rintro σ ⟨P, hF', hD', lf, lh, hP, hp, sub⟩
  (repeat' (first | (with_reducible first | refine knext ?_ | refine knret ?_ | refine kret ?_ | refine k_xcons ?_ | refine k_ret ?_ | fail) | walk_at "n" | fail))
  exact fgt_of (h2 P (hp.last (by unfold rowsIn; rw [List.length_map, List.length_map]; exact Nat.le_refl _)) _ F sub rfl hF')
theorem c_read (g : Fx prog (hK w.params) cx sc (n + 4)) {args : List Expr} {px : Pos} (hx : sc.names.lookup (Str.ofString "read") = some .globalImplicit) (hp : Plain (Str.ofString "read") px args pos)
  (h : WAr prog w cx pos args σ (A_read (hK w.params) E Q) E) : WEv prog w cx (.Call (.Name (Str.ofString "read") px) args [] pos) σ Q E := by
 refine v_callf g.ok hx (by k_is) (by k_is) (by decide) hp (h.imp (fun l σ₁ ⟨x, hl, hz, h1, h2⟩ => ?_) fun ux ux e => e)
 subst hl
 refine call_fgt (ps := [Str.ofString "text"]) g (fn_of (by k_is) (by k_is) (by k_is) (len1 rfl fun ux => rfl) (by decide) rfl rfl rfl (by decide)) rfl fun cx g => ?_
 have e6 : sizeLine = 2 ^ 24 := rfl
 have hsp := (nl_len (x := x)).2
 (repeat' (first | (with_reducible first | refine ka1 ?_ | refine ka2 ?_ | refine k_xcons ?_ | refine ar_nil ?_ | fail) | ((with_reducible refine k_assign (by walk_at "ok") ?qa ?qb ?_); (case qa => exact rfl); (case qb => exact rfl)) | walk_at "n" | walk_at "k" | ((with_reducible refine c_pieces (by assumption) ?qa ?qb ?_); (case qa => exact rfl); (case qb => exact ⟨fun ux => rfl, fun ux => rfl⟩)) | fail))
 refine ⟨x, rfl, by lia, fun q C hC => ⟨σ₁, le_refl, h1 (due_none q) C hC⟩, fun P hP σ2 z s2 l2 hz2 => ?_⟩
 obtain ⟨ch, hrows⟩ := parse_chn hP
 have hPl : P.length ≤ 24001 := by
  have := congrArg List.length hrows
  unfold rowsIn at this
  rw [List.length_map, List.length_map] at this
  lia
 have s2' : σ₁.Sub σ2 := s2
 (repeat' (first | (with_reducible first | refine knext ?_ | refine kset ?_ | refine k_xcons ?_ | fail) | ((with_reducible refine k_assign (by walk_at "ok") ?qa ?qb ?_); (case qa => exact rfl); (case qb => exact rfl)) | ((with_reducible refine' k_callb (by walk_at "ok") ?qa ?qc ?qd ?qe ?qb ?qf ?_); (case qa => exact rfl); (case qb => decide); (case qc => k_is); (case qd => decide); (case qe => boot_by_name); (case qf => exact ⟨fun ux => rfl, fun ux => rfl⟩)) | walk_at "k" | fail))
 refine v_comp3 g.ok g.hh ⟨rfl, by decide, by decide, by decide, by decide, rfl⟩ rfl rfl (by decide) (by decide) (by decide) (by decide) (by decide) ?_ (fun ux => rfl)
 (repeat' (first | walk_at "n" | fail))
 refine ⟨z, P.map trA, rfl, by rw [← pcA_eq]; walk_at "hp", by rw [List.length_map]; lia, fun D hD => ?_⟩
 (repeat' (first | (with_reducible first | refine ka1 ?_ | refine ka2 ?_ | refine kcl ?_ | refine ar_nil ?_ | fail) | fail))
 rw [show (P.map trA).map (·.2.1) = (P.map (·.2.1)).map AV.int by rw [List.map_map, List.map_map]; rfl]
 refine cl_sum g.hh (.inl put_same) ?_
 rw [show (P.map (·.2.1)).sum = endP 0 P by rw [endP_sum, Int.zero_add]]
 (repeat' (first | (with_reducible first | refine knext ?_ | refine ka1 ?_ | refine ka2 ?_ | refine kset ?_ | refine k_xcons ?_ | refine k_if ?_ | refine ar_nil ?_ | refine k_not ?_ | fail) | walk_at "n" | walk_at "k" | ((with_reducible refine c_issize (by assumption) ?qa ?qb ?_); (case qa => exact rfl); (case qb => exact ⟨fun ux => rfl, fun ux => rfl⟩)) | ((with_reducible refine k_tval ?qa ?_); (case qa => (intro env; rfl))) | fail))
 refine a_issize (fun q => ?_) (fun q1 q2 m hm => ?_)
 ·(repeat' (first | (with_reducible first | refine ktb ?_ | refine ka1 ?_ | refine ka2 ?_ | refine kif ?_ | refine knot ?_ | refine k_xcons ?_ | refine ev_str ?_ | refine ar_nil ?_ | refine ite_neg ?_ | refine ite_false' ?_ | fail) | walk_at "k" | ((with_reducible refine And.intro ?qa ?_); (case qa => (show List.length _ ≤ sizeLine; exact Nat.le_of_ble_eq_true rfl))) | ((with_reducible refine' x_raise (by assumption) ?qa ?qb ?qc ?qd ?qe ?_); (case qa => exact rfl); (case qb => k_is); (case qc => k_exc); (case qd => decide); (case qe => (intro env; rfl))) | fail))
  exact fge (by walk_at "sub") (h1 (due_size hP (Bool.eq_false_iff.mpr (out_isP q))) _ (by k_is))
 (repeat' (first | (with_reducible first | refine knext ?_ | refine ktb ?_ | refine ka1 ?_ | refine ka2 ?_ | refine kif ?_ | refine kset ?_ | refine knot ?_ | refine exs_nil ?_ | refine k_xcons ?_ | refine ev_str ?_ | refine ar_nil ?_ | refine ite_neg ?_ | fail) | ((with_reducible refine k_assign (by walk_at "ok") ?qa ?qb ?_); (case qa => exact rfl); (case qb => exact rfl)) | walk_at "k" | with_reducible refine ite_beq (fun _ => ?_) (fun _ => ?_) | ((with_reducible refine And.intro ?qa ?_); (case qa => (show List.length _ ≤ sizeLine; exact Nat.le_of_ble_eq_true rfl))) | ((with_reducible refine' x_raise (by assumption) ?qa ?qb ?qc ?qd ?qe ?_); (case qa => exact rfl); (case qb => k_is); (case qc => k_exc); (case qd => decide); (case qe => (intro env; rfl))) | ((with_reducible refine v_dict0 (by walk_at "ok") (fun _ _ => ?_))) | fail))
 rotate_left
 ·rename_i w1
  exact fge (by walk_at "sub") (h1 (due_size hP (Bool.eq_false_iff.mpr fun q => w1 ((fit_isP hm).mp q))) _ (by k_is))
 rename_i w1 S hS H hH
 have hisP := (fit_isP hm).mpr w1
 have nSH : S ≠ H := ne_new (o := .dict []) hH (by walk_at "hp")
 refine x_list3 g rfl rfl rfl (fun ux => rfl) ?_
 (repeat' (first | walk_at "n" | fail))
 refine ⟨z, P.map trA, RdI σ₁ P z S H, rfl, ⟨by walk_at "hp", by show _ = some (AO.dict []); walk_at "hp", by show _ = some (AO.dict []); walk_at "hp", nSH, none_of_sub (by walk_at "sub") hS, none_of_sub (by walk_at "sub") hH, by walk_at "lk", by walk_at "lk", by walk_at "lk", by walk_at "sub"⟩, fun i σ h => by rw [← pcA_eq]; exact h.at, ?_, ?_⟩
 ·rintro i p σ cx g hp ⟨hz, hS, hH, nSH, nS, nH, ls, lh, lc, sub⟩
  obtain ⟨⟨a, s, b⟩, hq, rfl⟩ := tr_item hp
  have hil := (List.getElem?_eq_some_iff.mp hq).1
  have hfl := frees_len (P := P.take i)
  have hol := outs_len (P := P.take i)
  rw [List.length_take] at hfl hol
  have htk := take_next hq
  have hc := chn_take ch (i + 1)
  rw [htk] at hc
  cases b with
  | true =>
   show WExs _ _ _ (_ :: _) (((σ.set _ (.int a)).set _ (.int s)).set _ (.str wOut)) _ _
   (repeat' (first | (with_reducible first | refine kb1 ?_ | refine kb2 ?_ | refine ktb ?_ | refine kif ?_ | refine k_xcons ?_ | refine k_if ?_ | refine ev_str ?_ | fail) | walk_at "n" | ((with_reducible refine k_tcmp ?qa ?_); (case qa => with_unfolding_all rfl)) | ((with_reducible refine x_setitem ?qa ?_); (case qa => (intro env; rfl))) | ((with_reducible refine' cmp_eq_str (by walk_at "ok") ?qa ?qb ?_); (case qa => first | exact rfl | decide | decide +kernel); (case qb => first | exact rfl | decide | decide +kernel)) | (with_reducible refine ite_beqs (fun _ => ?_) (fun _ => ?_)) | fail))
   ·refine set_dict' (by walk_at "hp") (by lia) ?_
    (repeat' (first | (with_reducible first | refine knext ?_ | refine exs_nil ?_ | fail) | fail))
    refine ⟨by walk_at "hp", ?_, ?_, nSH, nS, nH, by walk_at "lk", by walk_at "lk", by walk_at "lk", put_sub (by walk_at "sub") nH⟩
    ·rw [htk, (put_outs hc).2]
     walk_at "hp"
    ·rw [htk, ← (put_outs hc).1]
     walk_at "hp"
   ·rename_i q
    exact absurd rfl q
  | false =>
   show WExs _ _ _ (_ :: _) (((σ.set _ (.int a)).set _ (.int s)).set _ (.str wFree)) _ _
   (repeat' (first | (with_reducible first | refine kb1 ?_ | refine kb2 ?_ | refine ktb ?_ | refine kif ?_ | refine k_xcons ?_ | refine k_if ?_ | refine ev_str ?_ | fail) | walk_at "n" | ((with_reducible refine k_tcmp ?qa ?_); (case qa => with_unfolding_all rfl)) | ((with_reducible refine x_setitem ?qa ?_); (case qa => (intro env; rfl))) | ((with_reducible refine' cmp_eq_str (by walk_at "ok") ?qa ?qb ?_); (case qa => first | exact rfl | decide | decide +kernel); (case qb => first | exact rfl | decide | decide +kernel)) | ((with_reducible refine ite_str_ne ?qa ?_); (case qa => decide)) | fail))
   ·refine set_dict' (by walk_at "hp") (by lia) ?_
    (repeat' (first | (with_reducible first | refine knext ?_ | refine exs_nil ?_ | fail) | fail))
    refine ⟨by walk_at "hp", ?_, ?_, nSH, nS, nH, by walk_at "lk", by walk_at "lk", by walk_at "lk", put_sub (by walk_at "sub") nS⟩
    ·rw [htk, ← (put_frees hc).1]
     walk_at "hp"
    ·rw [htk, (put_frees hc).2]
     walk_at "hp"
 ·rintro σ ⟨hz, hS, hH, nSH, nS, nH, ls, lh, lc, sub⟩
  rw [List.length_map, List.take_length] at hS hH
  have hfl := frees_len (P := P)
  have hol := outs_len (P := P)
  have kf := keys_frees ch
  obtain ⟨k, hk, he, t, t1, t2, hdue⟩ := due_tree hP hisP
  (repeat' (first | (with_reducible first | refine knext ?_ | refine k_xcons ?_ | fail) | fail))
  refine x_list g rfl (fun ux => rfl) ?_
  (repeat' (first | (with_reducible first | refine ka1 ?_ | refine ka2 ?_ | refine kcl ?_ | refine ar_nil ?_ | fail) | walk_at "n" | ((with_reducible refine' k_callt (by walk_at "ok") ?qa ?qc ?qd ?qe ?qb ?qf ?_); (case qa => exact rfl); (case qb => decide); (case qc => k_is); (case qd => decide); (case qe => boot_by_name); (case qf => exact ⟨fun ux => rfl, fun ux => rfl⟩)) | walk_at "k" | ((with_reducible refine' cl_list_dict' (by assumption) ?qa ?qb (fun _ _ => ?_)); (case qa => walk_at "hp"); (case qb => walk_at "num")) | fail))
  rename_i z3 hz3
  refine ⟨z3, _, fun i σ => RdI σ₁ P z S H P.length σ ∧ σ.hp z3 = some (.list (((freesP P).map (·.1)).map AV.int)) ∧ ∀ q ∈ (freesP P).take i, ¬ Twin (freesP P) (2 ^ k) q, rfl, ⟨⟨by walk_at "hp", by rw [List.take_length]; walk_at "hp", by rw [List.take_length]; walk_at "hp", nSH, nS, nH, by walk_at "lk", by walk_at "lk", by walk_at "lk", by walk_at "sub"⟩, put_same, fun q hq => by rw [List.take_zero] at hq; cases hq⟩, fun i σ h => h.2.1, ?_, ?_⟩
  ·rintro i a σ cx g ha ⟨⟨hz, hS, hH, nSH, nS, nH, ls, lh, lc, sub⟩, hz3, hno⟩
   rw [List.take_length] at hS hH
   obtain ⟨p, hp, rfl⟩ := int_at ha
   have hpm := List.mem_of_getElem? hp
   have hgt := (dget_mem kf).mpr hpm
   obtain ⟨m', hm', e2, e3⟩ := ch.size _ (mem_frees.mp (show (p.1, p.2) ∈ freesP P from hpm))
   have hpos : 0 < p.2 := by rw [show p.2 = _ from e2]; exact pow_pos' m'
   rw [he] at lc
   (repeat' (first | (with_reducible first | refine kb1 ?_ | refine kb2 ?_ | refine k_xcons ?_ | refine k_if ?_ | refine tr_bool ?_ | refine k_and ?_ | refine k_sub ?_ | fail) | walk_at "n" | ((with_reducible refine k_tcmp ?qa ?_); (case qa => with_unfolding_all rfl)) | fail))
   refine sub_dict (by walk_at "hp") hgt ?_ (by intro _ _; with_unfolding_all rfl)
   (repeat' (first | (with_reducible first | refine knext ?_ | refine kb1 ?_ | refine kb2 ?_ | refine ktb ?_ | refine ka1 ?_ | refine kif ?_ | refine kand ?_ | refine exs_nil ?_ | refine k_and ?_ | refine k_sub ?_ | refine cmp_lt ?_ | refine ite_false' ?_ | fail) | walk_at "n" | walk_at "k" | ((with_reducible refine k_tcmp ?qa ?_); (case qa => with_unfolding_all rfl)) | with_reducible refine ite_dec (fun _ => ?_) (fun _ => ?_) | ((with_reducible refine' meth_get ?qa ?_); (case qa => walk_at "hp")) | ((with_reducible refine c_twin (by assumption) ?qa ?qb ?_); (case qa => exact rfl); (case qb => exact ⟨fun ux => rfl, fun ux => rfl⟩)) | ((with_reducible refine v_methb' ?qa ?qb ?qc ?qd ?_); (case qa => (intro env; rfl)); (case qb => (intro env; rfl)); (case qc => exact rfl); (case qd => (intro env; rfl))) | fail))
   ·refine sub_dict (by walk_at "hp") hgt ?_ (by intro _ _; with_unfolding_all rfl)
    (repeat' (first | (with_reducible first | refine kb1 ?_ | refine kb2 ?_ | refine ka1 ?_ | refine ka2 ?_ | refine ar_nil ?_ | refine k_sub ?_ | fail) | walk_at "n" | ((with_reducible refine' cl_get ?qa ?_); (case qa => walk_at "hp")) | ((with_reducible refine a_twin ?qa ?_); (case qa => walk_at "pos")) | fail))
    refine sub_dict (by walk_at "hp") hgt ?_ (by intro _ _; with_unfolding_all rfl)
    rename_i hlt
    cases hg : dget (freesP P) (twinI p.1 p.2) with
    | none =>
     rw [show dget (freesP P) (if p.1 / p.2 % 2 = 0 then p.1 + p.2 else p.1 - p.2) = none from hg]
     (repeat' (first | (with_reducible first | refine knext ?_ | refine kb2 ?_ | refine ktb ?_ | refine kif ?_ | refine kand ?_ | refine exs_nil ?_ | refine ite_false' ?_ | fail) | ((with_reducible refine' cmp_eq_none (by walk_at "ok") ?_)) | fail))
     exact ⟨⟨by walk_at "hp", by rw [List.take_length]; walk_at "hp", by rw [List.take_length]; walk_at "hp", nSH, nS, nH, by walk_at "lk", by walk_at "lk", by rw [he]; walk_at "lk", by walk_at "sub"⟩, by walk_at "hp", twin_next hno hp fun q => by have := q.2; rw [hg] at this; cases this⟩
    | some v =>
     rw [show dget (freesP P) (if p.1 / p.2 % 2 = 0 then p.1 + p.2 else p.1 - p.2) = some v from hg]
     (repeat' (first | (with_reducible first | refine knext ?_ | refine kb2 ?_ | refine ktb ?_ | refine ka1 ?_ | refine ka2 ?_ | refine kif ?_ | refine kand ?_ | refine exs_nil ?_ | refine k_xcons ?_ | refine ev_str ?_ | refine ar_nil ?_ | refine tl_and_nil ?_ | refine cmp_eq ?_ | refine ite_true' ?_ | refine ite_false' ?_ | fail) | walk_at "k" | with_reducible refine ite_beq (fun _ => ?_) (fun _ => ?_) | ((with_reducible refine And.intro ?qa ?_); (case qa => (show List.length _ ≤ sizeLine; exact Nat.le_of_ble_eq_true rfl))) | ((with_reducible refine' x_raise (by assumption) ?qa ?qb ?qc ?qd ?qe ?_); (case qa => exact rfl); (case qb => k_is); (case qc => k_exc); (case qd => decide); (case qe => (intro env; rfl))) | fail))
     ·rename_i hv
      subst hv
      refine fge (by walk_at "sub") (h1 ?_ _ (by k_is))
      rcases hdue with ⟨_, hd⟩ | ⟨hno', _⟩
      ·exact hd
      ·exact absurd ⟨hlt, hg⟩ (hno' p hpm)
     ·rename_i hv
      exact ⟨⟨by walk_at "hp", by rw [List.take_length]; walk_at "hp", by rw [List.take_length]; walk_at "hp", nSH, nS, nH, by walk_at "lk", by walk_at "lk", by rw [he]; walk_at "lk", by walk_at "sub"⟩, by walk_at "hp", twin_next hno hp fun q => hv (by have := q.2; rw [hg] at this; exact Option.some.inj this)⟩
   ·rename_i hlt
    exact ⟨⟨by walk_at "hp", by rw [List.take_length]; walk_at "hp", by rw [List.take_length]; walk_at "hp", nSH, nS, nH, by walk_at "lk", by walk_at "lk", by rw [he]; walk_at "lk", by walk_at "sub"⟩, by walk_at "hp", twin_next hno hp fun q => hlt q.1⟩
  ·rintro σ ⟨⟨hz, hS, hH, nSH, nS, nH, ls, lh, lc, sub⟩, hz3, hno⟩
   rw [List.take_length] at hS hH
   rw [List.length_map, List.length_map, List.take_length] at hno
   rcases hdue with ⟨⟨p, hp, hT⟩, _⟩ | ⟨_, hcn, hd⟩
   ·exact absurd hT (hno p hp)
   rw [he] at lc
   (repeat' (first | (with_reducible first | refine knext ?_ | refine ka1 ?_ | refine ka2 ?_ | refine k_xcons ?_ | refine ar_nil ?_ | fail) | ((with_reducible refine k_assign (by walk_at "ok") ?qa ?qb ?_); (case qa => exact rfl); (case qb => exact rfl)) | walk_at "n" | walk_at "k" | ((with_reducible refine c_yard (by assumption) ?qa ?qb ?_); (case qa => exact rfl); (case qb => exact ⟨fun ux => rfl, fun ux => rfl⟩)) | fail))
   have h0 := pow_pos' k
   have h60 := pow_le_60 hk
   refine a_yard (fun q => ?_) (fun k' hk' hkk σ3 y C dx S3 H3 s3 l3 hy hdx hS3 hH3 hY => ?_)
   ·rcases q with q | q | q
    ·lia
    ·lia
    ·exact absurd rfl (q k)
   obtain rfl := pow_inj hkk
   obtain rfl := nsEq hY.is.cls (by k_is)
   have e1 := hY.is.y
   have e2 := hY.is.dx
   have fS := s3 _ _ hS
   have fH := s3 _ _ hH
   (repeat' (first | (with_reducible first | refine knext ?_ | refine knret ?_ | refine kset ?_ | refine kret ?_ | refine k_xcons ?_ | refine k_ret ?_ | fail) | walk_at "n" | ((with_reducible refine x_setattr' (by walk_at "ok") ?qa ?_); (case qa => (intro env; rfl))) | ((with_reducible refine' set_at ?qa ?qb ?qc ?qd ?qe ?qf ?qg ?qh ?_); (case qa => walk_at "hp"); (case qb => walk_at "hp"); (case qc => k_is); (case qd => k_is); (case qe => k_is); (case qf => k_is); (case qg => exact rfl); (case qh => exact Nat.le_of_ble_eq_true rfl)) | fail))
   rw [putA_yard]
   have nyd : y ≠ dx := ne_of_hp e1 e2 (by intro q; cases q)
   have n1 := none_of_sub sub hdx
   have s4 : σ₁.Sub σ3 := fun a o e => s3 _ _ (sub _ _ e)
   have nSd : S ≠ dx := ne_of_hp fS e2 (by intro q; cases q)
   have nHd : H ≠ dx := ne_of_hp fH e2 (by intro q; cases q)
   exact fgt_of (h2 k P hd t _ y _ dx S H t1 t2 (put_sub (put_sub s4 n1) n1) rfl ⟨⟨hY.is.cls, put_ne nyd (put_ne nyd e1), put_same⟩, put_ne nSd (put_ne nSd fS), put_ne nHd (put_ne nHd fH), nSH, ⟨by rw [t2], by rw [t1]⟩, hcn, hk, by lia⟩ (none_of_sub sub hy) n1 nS nH)
theorem c_halved (g : Fx prog (hK w.params) cx sc (n + 2)) {args : List Expr} {px : Pos} (hx : sc.names.lookup (Str.ofString "_law_halved") = some .globalImplicit) (hp : Plain (Str.ofString "_law_halved") px args pos)
  (h : WAr prog w cx pos args σ (A_halved Q) E) : WEv prog w cx (.Call (.Name (Str.ofString "_law_halved") px) args [] pos) σ Q E := by
 refine v_callf g.ok hx (by k_is) (by k_is) (by decide) hp (h.imp (fun l σ₁ ⟨x, ns, hl, hx, hn, hq⟩ => ?_) fun ux ux e => e)
 subst hl
 refine call_fgt (ps := [Str.ofString "_law_script"]) g (fn_of (by k_is) (by k_is) (by k_is) (len1 rfl fun ux => rfl) (by decide) rfl rfl rfl (by decide)) rfl fun cx g => ?_
 have e6 : sizeLine = 2 ^ 24 := rfl
 have hx' : (σ₁.enter [Str.ofString "_law_script"] [.ref x]).hp x = some (.ro (ns.map AV.int)) := hx
 show WExs _ _ _ (_ :: _) _ _ _
 refine seq3 (HvI σ₁ x 0) ?_ ?_
 ·intro σ hv
  obtain ⟨z, ps, hz, ho, lz, ls, sub⟩ := id hv
  have fs := sub _ _ hx
  show WExs _ _ _ (_ :: _) _ _ _
  refine k_xcons (x_list g rfl (fun ux => rfl) ?_)
  (repeat' (first | (with_reducible first | refine v_slice ?_ | refine ev_int ?_ | fail) | walk_at "n" | fail))
  refine ⟨_, _, _, _, rfl, rfl, rfl, by walk_at "lst", by rw [List.length_map]; lia, fun ax hax => ?_⟩
  refine ⟨ax, _, fun i σ => HvI σ₁ x i σ ∧ σ.hp ax = some (.list _), rfl, ⟨⟨z, ps, by walk_at "hp", ho, lz, ls, by walk_at "sub"⟩, put_same⟩, fun i σ h => h.2, ?_, ?_⟩
  ·rintro i a σ cx g ha ⟨⟨z, ps, hz, ho, lz, ls, sub⟩, hax⟩
   have hi : i < 63 := Nat.lt_of_lt_of_le (List.getElem?_eq_some_iff.mp ha).1 (Nat.le_trans slice_len hn)
   obtain ⟨c, rfl⟩ := int_item ha
   obtain ⟨ne, len, all, sum⟩ := id ho
   have hpos : 0 < ps.length := List.length_pos_iff.mpr ne
   (repeat' (first | (with_reducible first | refine kb1 ?_ | refine kb2 ?_ | refine ka1 ?_ | refine ka2 ?_ | refine kcl ?_ | refine k_xcons ?_ | refine k_bin ?_ | refine ev_int ?_ | refine ar_nil ?_ | fail) | ((with_reducible refine k_assign (by walk_at "ok") ?qa ?qb ?_); (case qa => exact rfl); (case qb => exact rfl)) | walk_at "n" | ((with_reducible refine' k_callb (by walk_at "ok") ?qa ?qc ?qd ?qe ?qb ?qf ?_); (case qa => exact rfl); (case qb => decide); (case qc => k_is); (case qd => decide); (case qe => boot_by_name); (case qf => exact ⟨fun ux => rfl, fun ux => rfl⟩)) | walk_at "k" | ((with_reducible refine v_div (by walk_at "ok") ?qa ?_); (case qa => walk_at "pos")) | ((with_reducible refine' cl_len ?qa ?qb ?_); (case qa => walk_at "lst"); (case qb => walk_at "num")) | fail))
   rw [List.length_map]
   refine op_mod (by lia) ?_
   have hj0 : 0 ≤ c / 2 % (ps.length : Int) := Int.emod_nonneg _ (by lia)
   have hj1 : c / 2 % (ps.length : Int) < ps.length := Int.emod_lt_of_pos _ (by lia)
   generalize c / 2 % (ps.length : Int) = j at hj0 hj1 ⊢
   (repeat' (first | (with_reducible first | refine knext ?_ | refine kb1 ?_ | refine kb2 ?_ | refine kset ?_ | refine k_xcons ?_ | refine k_bin ?_ | refine k_sub ?_ | fail) | ((with_reducible refine k_assign (by walk_at "ok") ?qa ?qb ?_); (case qa => exact rfl); (case qb => exact rfl)) | walk_at "n" | fail))
   refine sub_prs (by walk_at "lst") hj0 hj1 (by lia) (fun p hp => ?_) (by intro _ _; with_unfolding_all rfl)
   (repeat' (first | (with_reducible first | refine knext ?_ | refine kb1 ?_ | refine kb2 ?_ | refine ktb ?_ | refine kif ?_ | refine kset ?_ | refine exs_nil ?_ | refine k_xcons ?_ | refine k_if ?_ | refine ev_int ?_ | refine k_sub ?_ | refine cmp_gt ?_ | fail) | ((with_reducible refine k_assign (by walk_at "ok") ?qa ?qb ?_); (case qa => exact rfl); (case qb => exact rfl)) | walk_at "n" | ((with_reducible refine k_tcmp ?qa ?_); (case qa => with_unfolding_all rfl)) | ((with_reducible refine v_div (by walk_at "ok") ?qa ?_); (case qa => walk_at "pos")) | with_reducible refine ite_dec (fun _ => ?_) (fun _ => ?_) | ((with_reducible refine sub_pr1 ?_ ?qa); (case qa => (intro _ _; with_unfolding_all rfl))) | fail))
   ·rename_i hh
    refine sub_prs (by walk_at "lst") hj0 hj1 (by lia) (fun p' hp' => ?_) (by intro _ _; with_unfolding_all rfl)
    obtain rfl : p' = p := by rw [hp] at hp'; cases hp'; rfl
    (repeat' (first | (with_reducible first | refine v_slice0 ?_ | refine knext ?_ | refine kb1 ?_ | refine kb2 ?_ | refine kset ?_ | refine k_xcons ?_ | refine k_bin ?_ | refine ev_int ?_ | fail) | ((with_reducible refine k_assign (by walk_at "ok") ?qa ?qb ?_); (case qa => exact rfl); (case qb => exact rfl)) | walk_at "n" | ((with_reducible refine sub_pr0 ?_ ?qa); (case qa => (intro _ _; with_unfolding_all rfl))) | fail))
    refine ⟨_, _, _, rfl, rfl, by walk_at "lst", by rw [List.length_map]; lia, fun z1 hz1 => ?_⟩
    (repeat' (first | (with_reducible first | refine kb1 ?_ | refine kb2 ?_ | refine ka1 ?_ | refine ka2 ?_ | refine k_bin ?_ | refine ar_nil ?_ | refine ev_tuple ?_ | refine v_list ?_ | refine op_add ?_ | fail) | walk_at "n" | walk_at "k" | ((with_reducible refine newl ?qa (fun _ _ => ?_)); (case qa => exact Nat.le_of_ble_eq_true rfl)) | ((with_reducible refine And.intro ?qa ?_); (case qa => (show List.length _ ≤ sizeLine; exact Nat.le_of_ble_eq_true rfl))) | fail))
    refine op_addl (by walk_at "lst") (by walk_at "lst") (by rw [List.length_take, List.length_map]; simp only [List.length_cons, List.length_nil]; lia) fun z3 hz3 => ?_
    (repeat' (first | (with_reducible first | refine v_slice1 ?_ | refine kb1 ?_ | refine kb2 ?_ | refine k_bin ?_ | refine ev_int ?_ | refine op_add ?_ | fail) | walk_at "n" | fail))
    refine ⟨_, _, _, rfl, rfl, by walk_at "lst", by rw [List.length_map]; lia, fun z4 hz4 => ?_⟩
    refine op_addl (by walk_at "lst") (by walk_at "lst") (by rw [List.length_append, List.length_take, List.length_drop, List.length_map]; simp only [List.length_cons, List.length_nil]; lia) fun z5 hz5 => ?_
    rw [halve_list hj0 hj1]
    (repeat' (first | (with_reducible first | refine knext ?_ | refine kset ?_ | refine exs_nil ?_ | fail) | fail))
    refine ⟨⟨z5, _, by walk_at "hp", ho.halve hp (by lia), by walk_at "lk", by walk_at "lk", by walk_at "sub"⟩, by walk_at "hp"⟩
   ·exact ⟨⟨z, ps, by walk_at "hp", ho.mono (Nat.le_succ _) (Int.le_refl _), by walk_at "lk", by walk_at "lk", by walk_at "sub"⟩, by walk_at "hp"⟩
  ·rintro σ ⟨⟨z, ps, hz, ho, lz, ls, sub⟩, hax⟩
   (repeat' (first | (with_reducible first | refine knext ?_ | refine knret ?_ | refine kret ?_ | refine k_xcons ?_ | refine k_ret ?_ | fail) | walk_at "n" | fail))
   exact fgt_of (hq _ z ps sub rfl hz (ho.mono (Nat.le_trans (Nat.add_le_add_left (Nat.le_trans slice_len hn) 1) (by decide)) (Int.le_refl _)))
 ·(repeat' (first | (with_reducible first | refine kscons ?_ | refine kb1 ?_ | refine kb2 ?_ | refine ka1 ?_ | refine ka2 ?_ | refine kset ?_ | refine k_bin ?_ | refine ev_int ?_ | refine ar_nil ?_ | refine ev_tuple ?_ | refine v_list ?_ | fail) | ((with_reducible refine k_assign (by walk_at "ok") ?qa ?qb ?_); (case qa => exact rfl); (case qb => exact rfl)) | walk_at "n" | walk_at "k" | ((with_reducible refine op_mod ?qa ?_); (case qa => walk_at "pos")) | ((with_reducible refine v_div (by walk_at "ok") ?qa ?_); (case qa => walk_at "pos")) | ((with_reducible refine c_cell (by assumption) ?qa ?qb ?_); (case qa => exact rfl); (case qb => exact ⟨fun ux => rfl, fun ux => rfl⟩)) | ((with_reducible refine c_doubled (by assumption) ?qa ?qb ?_); (case qa => exact rfl); (case qb => exact ⟨fun ux => rfl, fun ux => rfl⟩)) | ((with_reducible refine' a_cell ?qa ?qb ?qc ?qd ?_); (case qa => walk_at "hp"); (case qb => with_reducible assumption); (case qc => lia); (case qd => lia)) | fail))
  refine a_doubled (mod_nn (by decide)) (mod_lt (by decide) (by decide)) ?_
  (repeat' (first | (with_reducible first | refine kscons ?_ | refine kb1 ?_ | refine kb2 ?_ | refine ktb ?_ | refine ka1 ?_ | refine ka2 ?_ | refine kif ?_ | refine kset ?_ | refine exs_nil ?_ | refine k_xcons ?_ | refine k_if ?_ | refine k_bin ?_ | refine ev_int ?_ | refine ar_nil ?_ | refine ev_tuple ?_ | refine v_list ?_ | refine cmp_eq ?_ | fail) | ((with_reducible refine k_assign (by walk_at "ok") ?qa ?qb ?_); (case qa => exact rfl); (case qb => exact rfl)) | walk_at "n" | walk_at "k" | ((with_reducible refine k_tcmp ?qa ?_); (case qa => with_unfolding_all rfl)) | ((with_reducible refine newl ?qa (fun _ _ => ?_)); (case qa => exact Nat.le_of_ble_eq_true rfl)) | ((with_reducible refine op_mod ?qa ?_); (case qa => walk_at "pos")) | ((with_reducible refine v_div (by walk_at "ok") ?qa ?_); (case qa => walk_at "pos")) | with_reducible refine ite_beq (fun _ => ?_) (fun _ => ?_) | ((with_reducible refine And.intro ?qa ?_); (case qa => (show List.length _ ≤ sizeLine; exact Nat.le_of_ble_eq_true rfl))) | ((with_reducible refine c_doubled (by assumption) ?qa ?qb ?_); (case qa => exact rfl); (case qb => exact ⟨fun ux => rfl, fun ux => rfl⟩)) | fail))
  ·refine a_doubled (mod_nn (by decide)) (mod_lt (by decide) (by decide)) ?_
   (repeat' (first | (with_reducible first | refine knext ?_ | refine ka1 ?_ | refine ka2 ?_ | refine kset ?_ | refine exs_nil ?_ | refine ar_nil ?_ | fail) | ((with_reducible refine newl ?qa (fun _ _ => ?_)); (case qa => exact Nat.le_of_ble_eq_true rfl)) | ((with_reducible refine And.intro ?qa ?_); (case qa => (show List.length _ ≤ sizeLine; exact Nat.le_of_ble_eq_true rfl))) | fail))
   exact ksnil ⟨_, [(0, 2 ^ (cellAt ns 0 / 6 / 3 % 61).toNat)], set_hp put_same, ps_one (mod_nat (m := 61) (by decide) (by decide)), by walk_at "lk", by walk_at "lk", by walk_at "sub"⟩
  ·exact ksnil ⟨_, [(0, 2 ^ (cellAt ns 0 / 6 / 3 % 7).toNat)], set_hp put_same, ps_one (mod_nat (m := 7) (by decide) (by decide)), by walk_at "lk", by walk_at "lk", by walk_at "sub"⟩
theorem c_row (g : Fx prog (hK w.params) cx sc (n + 2)) {args : List Expr} {px : Pos} (hx : sc.names.lookup (Str.ofString "_law_in_a_row") = some .globalImplicit) (hp : Plain (Str.ofString "_law_in_a_row") px args pos)
  (h : WAr prog w cx pos args σ (A_row Q) E) : WEv prog w cx (.Call (.Name (Str.ofString "_law_in_a_row") px) args [] pos) σ Q E := by
 refine v_callf g.ok hx (by k_is) (by k_is) (by decide) hp (h.imp (fun l σ₁ ⟨x, c, ps, hl, hx, ho, hq⟩ => ?_) fun ux ux e => e)
 subst hl
 refine call_fgt (ps := [Str.ofString "_law_pieces", Str.ofString "_law_cell"]) g (fn_of (by k_is) (by k_is) (by k_is) (len2 rfl fun ux ux => rfl) (by decide) rfl rfl rfl (by decide)) rfl fun cx g => ?_
 have e6 : sizeLine = 2 ^ 24 := rfl
 have hx' : (σ₁.enter [Str.ofString "_law_pieces", Str.ofString "_law_cell"] [.ref x, .int c]).hp x = some (.list (ps.map prA)) := hx
 obtain ⟨ne, len, all, sum⟩ := id ho
 have hpos : 0 < ps.length := List.length_pos_iff.mpr ne
 show WExs _ _ _ (_ :: _) _ _ _
 refine seq3 (RwI σ₁ 512 (2 ^ 60) c) ?_ ?_
 ·intro σ h
  show WExs _ _ _ (_ :: _) _ _ _
  refine seq1 (RwI σ₁ 512 (2 ^ 60) c) ?_ ?_
  ·intro σ h
   show WExs _ _ _ (_ :: _) _ _ _
   refine seq1 (RwI σ₁ 513 (2 ^ 60 + 64) c) ?_ ?_
   ·rintro σ ⟨z, ms, hz, ho, lz, lc, sub⟩
    obtain ⟨mne, mlen, mall, msum⟩ := id ho
    show WExs _ _ _ (_ :: _) _ _ _
    (repeat' (first | (with_reducible first | refine knext ?_ | refine kset ?_ | refine k_xcons ?_ | refine ev_int ?_ | refine ar_nil ?_ | refine v_list ?_ | fail) | ((with_reducible refine k_assign (by walk_at "ok") ?qa ?qb ?_); (case qa => exact rfl); (case qb => exact rfl)) | ((with_reducible refine newl ?qa (fun _ _ => ?_)); (case qa => exact Nat.le_of_ble_eq_true rfl)) | fail))
    rename_i F hF
    have nzF : z ≠ F := ne_new hF hz
    have nF := none_of_sub sub hF
    refine x_list g rfl (fun ux => rfl) ?_
    (repeat' (first | walk_at "n" | fail))
    refine ⟨z, _, RfI σ₁ z F ms, rfl, ⟨by walk_at "hp", by show _ = some (AO.list []); walk_at "hp", by walk_at "lk", by show _ = some (AV.int 0); walk_at "lk", by walk_at "sub"⟩, fun i σ ⟨hz, _, _, _, _⟩ => hz, ?_, ?_⟩
    ·rintro i a σ cx g ha ⟨hz, hF', lf, lb, sub⟩
     obtain ⟨s, hs, rfl⟩ : ∃ s, ms[i]? = some s ∧ a = .int s := by
      rw [List.getElem?_map] at ha
      obtain ⟨p, hp, rfl⟩ := Option.map_eq_some_iff.mp ha
      exact ⟨p, hp, rfl⟩
     have hil := (List.getElem?_eq_some_iff.mp hs).1
     have hrl := rowsOf_len (l := ms.take i) (b := 0)
     rw [List.length_take] at hrl
     (repeat' (first | (with_reducible first | refine knext ?_ | refine kb1 ?_ | refine kb2 ?_ | refine ka1 ?_ | refine ka2 ?_ | refine kset ?_ | refine kdrop ?_ | refine exs_nil ?_ | refine k_xcons ?_ | refine k_bin ?_ | refine ar_nil ?_ | refine ev_tuple ?_ | refine op_add ?_ | fail) | ((with_reducible refine k_assign (by walk_at "ok") ?qa ?qb ?_); (case qa => exact rfl); (case qb => exact rfl)) | walk_at "n" | walk_at "k" | ((with_reducible refine And.intro ?qa ?_); (case qa => (show List.length _ ≤ sizeLine; exact Nat.le_of_ble_eq_true rfl))) | ((with_reducible refine' meth_append ?qa ?_); (case qa => walk_at "hp")) | ((with_reducible refine' cl_append ?qa ?qb ?_); (case qa => walk_at "hp"); (case qb => walk_at "num")) | ((with_reducible refine k_expr (by walk_at "ok") ?qa ?_); (case qa => (intro env; rfl))) | ((with_reducible refine v_methb' ?qa ?qb ?qc ?qd ?_); (case qa => (intro env; rfl)); (case qb => (intro env; rfl)); (case qc => exact rfl); (case qd => (intro env; rfl))) | fail))
     refine ⟨by walk_at "hp", ?_, by walk_at "lk", ?_, put_sub (by walk_at "sub") nF⟩
     ·rw [take_next hs, rowsOf_snoc, List.map_append, Int.zero_add]
      exact put_same
     ·rw [take_next hs, List.sum_append]
      show _ = some (AV.int (_ + (s + 0)))
      rw [Int.add_zero]
      walk_at "lk"
    ·rintro σ ⟨hz, hF', lf, lb, sub⟩
     rw [List.length_map, List.take_length] at hF'
     (repeat' (first | (with_reducible first | refine knext ?_ | refine knret ?_ | refine kret ?_ | refine k_xcons ?_ | refine k_ret ?_ | fail) | walk_at "n" | fail))
     exact fgt_of (hq _ F _ sub rfl hF' ho.rows)
   ·obtain ⟨z, ms, hz, ho, lz, lc, sub⟩ := h
    obtain ⟨mne, mlen, mall, msum⟩ := id ho
    (repeat' (first | (with_reducible first | refine kb1 ?_ | refine kb2 ?_ | refine ktb ?_ | refine ka1 ?_ | refine ka2 ?_ | refine kif ?_ | refine exs_nil ?_ | refine k_xcons ?_ | refine k_if ?_ | refine k_bin ?_ | refine ev_int ?_ | refine ar_nil ?_ | refine v_list ?_ | refine cmp_eq ?_ | fail) | ((with_reducible refine k_assign (by walk_at "ok") ?qa ?qb ?_); (case qa => exact rfl); (case qb => exact rfl)) | walk_at "n" | walk_at "k" | ((with_reducible refine k_tcmp ?qa ?_); (case qa => with_unfolding_all rfl)) | ((with_reducible refine op_mod ?qa ?_); (case qa => walk_at "pos")) | ((with_reducible refine v_div (by walk_at "ok") ?qa ?_); (case qa => walk_at "pos")) | with_reducible refine ite_beq (fun _ => ?_) (fun _ => ?_) | ((with_reducible refine c_doubled (by assumption) ?qa ?qb ?_); (case qa => exact rfl); (case qb => exact ⟨fun ux => rfl, fun ux => rfl⟩)) | fail))
    ·refine a_doubled (mod_nn (by decide)) (mod_lt (by decide) (by decide)) ?_
     have hm6 : (c / 3 % 7).toNat ≤ 6 := mod_nat (by decide) (by decide)
     have h0 := pow_pos' (c / 3 % 7).toNat
     have h64 := pow_le hm6
     generalize (c / 3 % 7).toNat = m at h0 h64 ⊢
     (repeat' (first | (with_reducible first | refine kb2 ?_ | refine ka1 ?_ | refine ka2 ?_ | refine ar_nil ?_ | fail) | ((with_reducible refine newl ?qa (fun _ _ => ?_)); (case qa => exact Nat.le_of_ble_eq_true rfl)) | fail))
     refine op_addl (by walk_at "lst") (by walk_at "lst") (by rw [List.length_map]; simp only [List.length_cons, List.length_nil]; lia) fun z' hz' => ?_
     (repeat' (first | (with_reducible first | refine knext ?_ | refine kset ?_ | refine exs_nil ?_ | fail) | fail))
     refine ksnil ⟨z', ms ++ [2 ^ m], ?_, ho.snoc h0 (by lia), by walk_at "lk", by walk_at "lk", by walk_at "sub"⟩
     rw [List.map_append]
     exact put_same
    ·exact ksnil ⟨z, ms, hz, ho.mono (by decide) (by decide), lz, lc, sub⟩
  ·obtain ⟨z, ms, hz, ho, lz, lc, sub⟩ := h
   obtain ⟨mne, mlen, mall, msum⟩ := id ho
   (repeat' (first | (with_reducible first | refine kb1 ?_ | refine kb2 ?_ | refine ktb ?_ | refine kif ?_ | refine exs_nil ?_ | refine k_xcons ?_ | refine k_if ?_ | refine k_bin ?_ | refine ev_int ?_ | refine cmp_eq ?_ | fail) | ((with_reducible refine k_assign (by walk_at "ok") ?qa ?qb ?_); (case qa => exact rfl); (case qb => exact rfl)) | walk_at "n" | ((with_reducible refine k_tcmp ?qa ?_); (case qa => with_unfolding_all rfl)) | ((with_reducible refine op_mod ?qa ?_); (case qa => walk_at "pos")) | with_reducible refine ite_beq (fun _ => ?_) (fun _ => ?_) | fail))
   ·refine v_sortr g.ok rfl (by k_is) (by boot_by_name) (fun ux => rfl) ?_
    (repeat' (first | walk_at "n" | fail))
    refine ⟨z, ms, rfl, by walk_at "lst", by lia, fun y ms' hy hpm => ?_⟩
    (repeat' (first | (with_reducible first | refine knext ?_ | refine kset ?_ | refine exs_nil ?_ | fail) | fail))
    exact ksnil ⟨y, ms', by walk_at "hp", ho.perm hpm, by walk_at "lk", by walk_at "lk", by walk_at "sub"⟩
   ·exact ksnil ⟨z, ms, hz, ho, lz, lc, sub⟩
 ·refine x_comp g.ok g.hh ⟨rfl, by decide, by decide, by decide, by decide, rfl⟩ rfl (swaps_comp g.ok rfl rfl (by decide)) ?_ (fun ux => rfl)
  (repeat' (first | walk_at "n" | fail))
  refine ⟨_, fun ux => true, sndF, iter_list (by walk_at "lst"), by rw [List.length_map]; lia, ?_, fun D hD => ?_⟩
  ·intro i a D acc cx' ha hD ok hh
   obtain ⟨p, hp', rfl⟩ := pr_item ha
   refine ⟨ts_nil ⟨rfl, AS.Kept.refl _⟩, fun _ => ?_⟩
   (repeat' (first | (with_reducible first | refine kb1 ?_ | refine kb2 ?_ | refine ev_int ?_ | refine k_sub ?_ | fail) | walk_at "n" | ((with_reducible refine sub_pr1 ?_ ?qa); (case qa => (intro _ _; with_unfolding_all rfl))) | fail))
   exact ⟨rfl, AS.Kept.refl _⟩
  rw [filt_snd]
  (repeat' (first | (with_reducible first | refine kscons ?_ | refine kb1 ?_ | refine kb2 ?_ | refine ka1 ?_ | refine ka2 ?_ | refine kcl ?_ | refine k_bin ?_ | refine ev_int ?_ | refine ar_nil ?_ | fail) | ((with_reducible refine k_assign (by walk_at "ok") ?qa ?qb ?_); (case qa => exact rfl); (case qb => exact rfl)) | walk_at "n" | ((with_reducible refine' k_callb (by walk_at "ok") ?qa ?qc ?qd ?qe ?qb ?qf ?_); (case qa => exact rfl); (case qb => decide); (case qc => k_is); (case qd => decide); (case qe => boot_by_name); (case qf => exact ⟨fun ux => rfl, fun ux => rfl⟩)) | walk_at "k" | ((with_reducible refine v_div (by walk_at "ok") ?qa ?_); (case qa => walk_at "pos")) | ((with_reducible refine' cl_len ?qa ?qb ?_); (case qa => walk_at "lst"); (case qb => walk_at "num")) | fail))
  rw [List.length_map, List.length_map]
  refine op_mod (by lia) ?_
  have hj0 : 0 ≤ c / 3 % (ps.length : Int) := Int.emod_nonneg _ (by lia)
  have hj1 : c / 3 % (ps.length : Int) < ps.length := Int.emod_lt_of_pos _ (by lia)
  generalize c / 3 % (ps.length : Int) = j at hj0 hj1 ⊢
  (repeat' (first | (with_reducible first | refine v_slice1 ?_ | refine kscons ?_ | refine kset ?_ | refine k_bin ?_ | fail) | ((with_reducible refine k_assign (by walk_at "ok") ?qa ?qb ?_); (case qa => exact rfl); (case qb => exact rfl)) | walk_at "n" | fail))
  refine ⟨_, _, _, rfl, rfl, by walk_at "lst", by rw [List.length_map, List.length_map]; lia, fun z1 hz1 => ?_⟩
  (repeat' (first | (with_reducible first | refine v_slice0 ?_ | refine kb1 ?_ | fail) | walk_at "n" | fail))
  refine ⟨_, _, _, rfl, rfl, by walk_at "lst", by rw [List.length_map, List.length_map]; lia, fun z2 hz2 => ?_⟩
  refine op_addl (by walk_at "lst") (by walk_at "lst") (by rw [List.length_drop, List.length_take, List.length_map, List.length_map]; lia) fun z3 hz3 => ?_
  rw [turn_list hj0 (by rw [List.length_map]; lia)]
  (repeat' (first | with_reducible refine kset ?_ | fail))
  exact ksnil ⟨z3, _, by walk_at "hp", ho.sizes.perm turn_perm, by walk_at "lk", by walk_at "lk", by walk_at "sub"⟩
theorem c_lines (g : Fx prog (hK w.params) cx sc (n + 2)) {args : List Expr} {px : Pos} (hx : sc.names.lookup (Str.ofString "_law_lines") = some .globalImplicit) (hp : Plain (Str.ofString "_law_lines") px args pos)
  (h : WAr prog w cx pos args σ (A_lines Q) E) : WEv prog w cx (.Call (.Name (Str.ofString "_law_lines") px) args [] pos) σ Q E := by
 refine v_callf g.ok hx (by k_is) (by k_is) (by decide) hp (h.imp (fun l σ₁ ⟨x, y, ns, ps, hl, hx, hn, hy, ho, hq⟩ => ?_) fun ux ux e => e)
 subst hl
 refine call_fgt (ps := [Str.ofString "_law_script", Str.ofString "_law_pieces"]) g (fn_of (by k_is) (by k_is) (by k_is) (len2 rfl fun ux ux => rfl) (by decide) rfl rfl rfl (by decide)) rfl fun cx g => ?_
 have e6 : sizeLine = 2 ^ 24 := rfl
 have hy' : (σ₁.enter [Str.ofString "_law_script", Str.ofString "_law_pieces"] [.ref x, .ref y]).hp y = some (.list (ps.map prA)) := hy
 obtain ⟨ne, len, all, sum⟩ := id ho
 (repeat' (first | (with_reducible first | refine knext ?_ | refine kset ?_ | refine k_xcons ?_ | refine ar_nil ?_ | refine v_list ?_ | fail) | ((with_reducible refine k_assign (by walk_at "ok") ?qa ?qb ?_); (case qa => exact rfl); (case qb => exact rfl)) | ((with_reducible refine newl ?qa (fun _ _ => ?_)); (case qa => exact Nat.le_of_ble_eq_true rfl)) | fail))
 rename_i L hL
 refine x_rangeg g rfl (fun ux => rfl) ?_
 (repeat' (first | (with_reducible first | refine ka1 ?_ | refine ka2 ?_ | refine kcl ?_ | refine ar_nil ?_ | fail) | walk_at "n" | ((with_reducible refine' k_callb (by walk_at "ok") ?qa ?qc ?qd ?qe ?qb ?qf ?_); (case qa => exact rfl); (case qb => decide); (case qc => k_is); (case qd => decide); (case qe => boot_by_name); (case qf => exact ⟨fun ux => rfl, fun ux => rfl⟩)) | ((with_reducible refine' k_callt (by walk_at "ok") ?qa ?qc ?qd ?qe ?qb ?qf ?_); (case qa => exact rfl); (case qb => decide); (case qc => k_is); (case qd => decide); (case qe => boot_by_name); (case qf => exact ⟨fun ux => rfl, fun ux => rfl⟩)) | walk_at "k" | ((with_reducible refine' cl_len ?qa ?qb ?_); (case qa => walk_at "lst"); (case qb => walk_at "num")) | ((with_reducible refine cl_range1 (fun _ _ => ?_))) | fail))
 rename_i ax hax
 rw [List.length_map]
 refine ⟨ax, 0, _, fun i σ => LnI σ₁ x y L i σ, rfl, put_same, by decide, by decide, by lia, by lia, ⟨[], by show _ = some (AO.list []); walk_at "hp", rfl, fun ux q => (nomatch q), by walk_at "lk", by walk_at "lk", by walk_at "lk", by walk_at "sub"⟩, ?_, ?_⟩
 ·rintro i σ cx g hi ⟨ls, hL', hl, hok, ll, lx, ly, sub⟩
  rw [Int.zero_add] at hi ⊢
  have hi' : i < ps.length := by lia
  have fx := sub _ _ hx
  have fy := sub _ _ hy
  show WExs _ _ _ (_ :: _) _ _ _
  refine seq2 (fun σ' => ∃ z, LwI σ₁ x y L i z σ') ?_ ?_
  ·rintro σ ⟨z, ⟨ls, hL', hl, hok, ll, lx, ly, sub⟩, hz, lw, lk⟩
   have fy := sub _ _ hy
   have hz4 := word_len hz
   have h4 : (Str.ofString " ").length = 1 := by decide
   show WExs _ _ _ (_ :: _) _ _ _
   (repeat' (first | (with_reducible first | refine kb1 ?_ | refine kb2 ?_ | refine k_xcons ?_ | refine k_bin ?_ | refine k_sub ?_ | fail) | walk_at "n" | ((with_reducible refine' k_callt (by walk_at "ok") ?qa ?qc ?qd ?qe ?qb ?qf ?_); (case qa => exact rfl); (case qb => decide); (case qc => k_is); (case qd => decide); (case qe => boot_by_name); (case qf => exact ⟨fun ux => rfl, fun ux => rfl⟩)) | walk_at "k" | ((with_reducible refine' meth_append ?qa ?_); (case qa => walk_at "hp")) | ((with_reducible refine k_expr (by walk_at "ok") ?qa ?_); (case qa => (intro env; rfl))) | ((with_reducible refine v_methb' ?qa ?qb ?qc ?qd ?_); (case qa => (intro env; rfl)); (case qb => (intro env; rfl)); (case qc => exact rfl); (case qd => (intro env; rfl))) | fail))
   refine sub_prs (by walk_at "lst") (by lia) (by lia) (by lia) (fun p hp => ?_) (by intro _ _; with_unfolding_all rfl)
   have hpb := all p (List.mem_of_getElem? hp)
   have b1 := int_str (n := p.1) (by lia) (by lia)
   have b2 := int_str (n := p.2) (by lia) (by lia)
   (repeat' (first | (with_reducible first | refine kb1 ?_ | refine kb2 ?_ | refine ka1 ?_ | refine ka2 ?_ | refine kcl ?_ | refine ev_int ?_ | refine ar_nil ?_ | fail) | ((with_reducible refine sub_pr0 ?_ ?qa); (case qa => (intro _ _; with_unfolding_all rfl))) | fail))
   refine cl_str (log_lt (by lia) (by lia)) ?_
   (repeat' (first | (with_reducible first | refine kb1 ?_ | refine kb2 ?_ | refine ev_str ?_ | fail) | fail))
   refine op_adds (by lia) ?_
   (repeat' (first | (with_reducible first | refine kb1 ?_ | refine kb2 ?_ | refine k_sub ?_ | fail) | walk_at "n" | ((with_reducible refine' k_callt (by walk_at "ok") ?qa ?qc ?qd ?qe ?qb ?qf ?_); (case qa => exact rfl); (case qb => decide); (case qc => k_is); (case qd => decide); (case qe => boot_by_name); (case qf => exact ⟨fun ux => rfl, fun ux => rfl⟩)) | walk_at "k" | fail))
   refine sub_prs (by walk_at "lst") (by lia) (by lia) (by lia) (fun p' hp' => ?_) (by intro _ _; with_unfolding_all rfl)
   obtain rfl : p' = p := by rw [hp] at hp'; cases hp'; rfl
   (repeat' (first | (with_reducible first | refine kb1 ?_ | refine kb2 ?_ | refine ka1 ?_ | refine ka2 ?_ | refine kcl ?_ | refine ev_int ?_ | refine ar_nil ?_ | fail) | ((with_reducible refine sub_pr1 ?_ ?qa); (case qa => (intro _ _; with_unfolding_all rfl))) | fail))
   refine cl_str (log_lt (by lia) (by lia)) ?_
   (repeat' (first | with_reducible refine kb2 ?_ | fail))
   refine op_adds (by simp only [Str.length_append]; lia) ?_
   (repeat' (first | (with_reducible first | refine kb1 ?_ | refine kb2 ?_ | refine ev_str ?_ | fail) | fail))
   refine op_adds (by simp only [Str.length_append]; lia) ?_
   (repeat' (first | (with_reducible first | refine kb1 ?_ | refine kb2 ?_ | fail) | walk_at "n" | fail))
   refine op_adds (by simp only [Str.length_append]; lia) ?_
   (repeat' (first | (with_reducible first | refine knext ?_ | refine ka1 ?_ | refine ka2 ?_ | refine kdrop ?_ | refine exs_nil ?_ | refine ar_nil ?_ | fail) | ((with_reducible refine' cl_append ?qa ?qb ?_); (case qa => walk_at "hp"); (case qb => walk_at "num")) | fail))
   refine ⟨ls ++ [lineOf p'.1 p'.2 z], ?_, by rw [List.length_append, hl]; rfl, fun a ha => ?_, by walk_at "lk", by walk_at "lk", by walk_at "lk", put_sub (by walk_at "sub") hL⟩
   ·rw [List.map_append]
    exact put_same
   ·rcases List.mem_append.mp ha with q | q
    ·exact hok a q
    ·rw [List.mem_singleton.mp q]
     exact ⟨_, _, z, rfl, hpb.1, hpb.2.1, hpb.2.2, hz⟩
  ·(repeat' (first | (with_reducible first | refine kb1 ?_ | refine kb2 ?_ | refine ka1 ?_ | refine ka2 ?_ | refine k_bin ?_ | refine ev_int ?_ | refine ev_str ?_ | refine ar_nil ?_ | refine v_list ?_ | refine k_sub ?_ | refine op_add ?_ | fail) | ((with_reducible refine k_assign (by walk_at "ok") ?qa ?qb ?_); (case qa => exact rfl); (case qb => exact rfl)) | walk_at "n" | walk_at "k" | ((with_reducible refine newl ?qa (fun _ _ => ?_)); (case qa => exact Nat.le_of_ble_eq_true rfl)) | ((with_reducible refine op_mod ?qa ?_); (case qa => walk_at "pos")) | ((with_reducible refine c_cell (by assumption) ?qa ?qb ?_); (case qa => exact rfl); (case qb => exact ⟨fun ux => rfl, fun ux => rfl⟩)) | ((with_reducible refine' a_cell ?qa ?qb ?qc ?qd ?_); (case qa => walk_at "hp"); (case qb => with_reducible assumption); (case qc => lia); (case qd => lia)) | fail))
   refine sub_strs (ls := [wOut, wFree]) (.inl put_same) (mod_nn (by decide)) (Int.emod_lt_of_pos _ (by decide)) (by decide) (fun z hz => ?_) (by intro _ _; with_unfolding_all rfl)
   have hz' : z = wOut ∨ z = wFree := by
    have := List.mem_of_getElem? hz
    simpa using this
   (repeat' (first | (with_reducible first | refine knext ?_ | refine kscons ?_ | refine kb1 ?_ | refine kb2 ?_ | refine ktb ?_ | refine ka1 ?_ | refine ka2 ?_ | refine kif ?_ | refine kset ?_ | refine kand ?_ | refine exs_nil ?_ | refine k_xcons ?_ | refine k_if ?_ | refine k_bin ?_ | refine ev_int ?_ | refine ev_str ?_ | refine ar_nil ?_ | refine tr_bool ?_ | refine tl_and_nil ?_ | refine k_and ?_ | refine cmp_eq ?_ | refine ite_true' ?_ | refine ite_false' ?_ | fail) | ((with_reducible refine k_assign (by walk_at "ok") ?qa ?qb ?_); (case qa => exact rfl); (case qb => exact rfl)) | walk_at "n" | walk_at "k" | ((with_reducible refine k_tcmp ?qa ?_); (case qa => with_unfolding_all rfl)) | ((with_reducible refine op_mod ?qa ?_); (case qa => walk_at "pos")) | with_reducible refine ite_beq (fun _ => ?_) (fun _ => ?_) | ((with_reducible refine c_cell (by assumption) ?qa ?qb ?_); (case qa => exact rfl); (case qb => exact ⟨fun ux => rfl, fun ux => rfl⟩)) | ((with_reducible refine' a_cell ?qa ?qb ?qc ?qd ?_); (case qa => walk_at "hp"); (case qb => with_reducible assumption); (case qc => lia); (case qd => lia)) | fail))
   ·exact ksnil ⟨wOut, ⟨ls, by walk_at "hp", hl, hok, by walk_at "lk", by walk_at "lk", by walk_at "lk", by walk_at "sub"⟩, .inl rfl, by show _ = some (AV.str (Str.ofString "out")); walk_at "lk", by walk_at "lk"⟩
   ·exact ksnil ⟨z, ⟨ls, by walk_at "hp", hl, hok, by walk_at "lk", by walk_at "lk", by walk_at "lk", by walk_at "sub"⟩, hz', by walk_at "lk", by walk_at "lk"⟩
   ·exact ksnil ⟨z, ⟨ls, by walk_at "hp", hl, hok, by walk_at "lk", by walk_at "lk", by walk_at "lk", by walk_at "sub"⟩, hz', by walk_at "lk", by walk_at "lk"⟩
 ·rintro σ ⟨ls, hL', hl, hok, ll, lx, ly, sub⟩
  (repeat' (first | (with_reducible first | refine knext ?_ | refine knret ?_ | refine kret ?_ | refine k_xcons ?_ | refine k_ret ?_ | fail) | walk_at "n" | fail))
  refine fgt_of (hq _ L ls sub rfl hL' (fun q => ne ?_) (by lia) hok)
  rw [q] at hl
  exact List.length_eq_zero_iff.mp (by simp at hl; lia)
theorem c_others (g : Fx prog (hK w.params) cx sc (n + 1)) {args : List Expr} {px : Pos} (hx : sc.names.lookup (Str.ofString "_law_others") = some .globalImplicit) (hp : Plain (Str.ofString "_law_others") px args pos)
  (h : WAr prog w cx pos args σ (A_others Q) E) : WEv prog w cx (.Call (.Name (Str.ofString "_law_others") px) args [] pos) σ Q E := by
 refine v_callf g.ok hx (by k_is) (by k_is) (by decide) hp (h.imp (fun l σ₁ ⟨x, hl, ho, hq⟩ => ?_) fun ux ux e => e)
 subst hl
 refine call_fgt (ps := [Str.ofString "_law_line"]) g (fn_of (by k_is) (by k_is) (by k_is) (len1 rfl fun ux => rfl) (by decide) rfl rfl rfl (by decide)) rfl fun cx g => ?_
 have e6 : sizeLine = 2 ^ 24 := rfl
 have hxl := line_len ho
 obtain ⟨a, s, z, hxe, ha, hs, hb, hz⟩ := ho
 have hz4 := word_len hz
 obtain ⟨ia, la⟩ := int_str ha (by lia)
 obtain ⟨is', ls'⟩ := int_str (n := s) (by lia) (by lia)
 have hx0 : 0 < x.length := by rw [hxe]; unfold lineOf; simp only [Str.length_append]; have : (Str.ofString " ").length = 1 := (by decide); lia
 have hsp : Txt.split x (Str.ofString " ") = [Str.ofString (toString a), Str.ofString (toString s), z] := by rw [hxe]; exact split_line hz4.2
 show WExs _ _ _ (_ :: _) _ _ _
 refine seq4 (OtI σ₁ x a s z 10) ?_ ?_
 rotate_left
 ·(repeat' (first | (with_reducible first | refine kscons ?_ | refine kb1 ?_ | refine kb2 ?_ | refine ka1 ?_ | refine ka2 ?_ | refine kset ?_ | refine ev_int ?_ | refine ev_str ?_ | refine ar_nil ?_ | refine k_sub ?_ | fail) | ((with_reducible refine k_assign (by walk_at "ok") ?qa ?qb ?_); (case qa => exact rfl); (case qb => exact rfl)) | walk_at "n" | ((with_reducible refine' k_callt (by walk_at "ok") ?qa ?qc ?qd ?qe ?qb ?qf ?_); (case qa => exact rfl); (case qb => decide); (case qc => k_is); (case qd => decide); (case qe => boot_by_name); (case qf => exact ⟨fun ux => rfl, fun ux => rfl⟩)) | walk_at "k" | ((with_reducible refine v_split ?qa ?qb ?qc ?qd ?_); (case qa => (intro env; rfl)); (case qb => (intro env; rfl)); (case qc => exact rfl); (case qd => (intro env; rfl))) | (with_reducible refine ex_str ?_) | ((with_reducible refine cl_split ?qa ?qb (fun _ _ => ?_)); (case qa => decide); (case qb => lia)) | fail))
  rename_i W hW
  rw [hsp]
  simp only [List.map_cons, List.map_nil]
  (repeat' (first | (with_reducible first | refine ka1 ?_ | refine ka2 ?_ | refine kcl ?_ | refine ar_nil ?_ | fail) | ((with_reducible refine' sub_w0 ?qa ?_ ?qb); (case qa => walk_at "lst"); (case qb => (intro _ _; with_unfolding_all rfl))) | fail))
  refine cl_int ia (by lia) ?_
  (repeat' (first | (with_reducible first | refine kscons ?_ | refine kb1 ?_ | refine kb2 ?_ | refine ka1 ?_ | refine ka2 ?_ | refine kcl ?_ | refine kset ?_ | refine ev_int ?_ | refine ar_nil ?_ | refine k_sub ?_ | fail) | ((with_reducible refine k_assign (by walk_at "ok") ?qa ?qb ?_); (case qa => exact rfl); (case qb => exact rfl)) | walk_at "n" | ((with_reducible refine' k_callt (by walk_at "ok") ?qa ?qc ?qd ?qe ?qb ?qf ?_); (case qa => exact rfl); (case qb => decide); (case qc => k_is); (case qd => decide); (case qe => boot_by_name); (case qf => exact ⟨fun ux => rfl, fun ux => rfl⟩)) | walk_at "k" | ((with_reducible refine' sub_w1 ?qa ?_ ?qb); (case qa => walk_at "lst"); (case qb => (intro _ _; with_unfolding_all rfl))) | fail))
  refine cl_int is' (by lia) ?_
  (repeat' (first | (with_reducible first | refine kscons ?_ | refine kb1 ?_ | refine kb2 ?_ | refine ka1 ?_ | refine ka2 ?_ | refine kset ?_ | refine k_bin ?_ | refine ev_str ?_ | refine ar_nil ?_ | refine v_list ?_ | fail) | ((with_reducible refine k_assign (by walk_at "ok") ?qa ?qb ?_); (case qa => exact rfl); (case qb => exact rfl)) | walk_at "n" | walk_at "k" | ((with_reducible refine newl ?qa (fun _ _ => ?_)); (case qa => exact Nat.le_of_ble_eq_true rfl)) | ((with_reducible refine op_addsC ?qa ?qb (fun _ _ => ?_)); (case qa => decide); (case qb => lia)) | ((with_reducible refine op_addsD ?qa ?qb (fun _ _ => ?_)); (case qa => decide); (case qb => lia)) | fail))
  exact ksnil (OtI.of (W := W) (by walk_at "hp") (set_hp put_same) (by repeat' (first | exact .nil | refine .cons (by first | lia | decide) ?_)) (by simp) (by simp) (by walk_at "lk") (by walk_at "lk") (by walk_at "lk") (by walk_at "lk") (by walk_at "lk") (by walk_at "sub"))
 intro σ h
 show WExs _ _ _ (_ :: _) _ _ _
 refine seq1 (OtI σ₁ x a s z 20) ?_ ?_
 rotate_left
 ·obtain ⟨W, Z, ls, hW, hZ, lens, ne, cnt, lw, lz, lx, la', lsz, sub⟩ := h
  (repeat' (first | (with_reducible first | refine kb1 ?_ | refine kb2 ?_ | refine ka1 ?_ | refine ka2 ?_ | refine k_bin ?_ | refine ev_int ?_ | refine ev_str ?_ | refine ar_nil ?_ | refine v_list ?_ | refine k_sub ?_ | fail) | ((with_reducible refine k_assign (by walk_at "ok") ?qa ?qb ?_); (case qa => exact rfl); (case qb => exact rfl)) | walk_at "n" | walk_at "k" | ((with_reducible refine newl ?qa (fun _ _ => ?_)); (case qa => exact Nat.le_of_ble_eq_true rfl)) | ((with_reducible refine' sub_w0 ?qa ?_ ?qb); (case qa => walk_at "lst"); (case qb => (intro _ _; with_unfolding_all rfl))) | ((with_reducible refine' sub_w1 ?qa ?_ ?qb); (case qa => walk_at "lst"); (case qb => (intro _ _; with_unfolding_all rfl))) | ((with_reducible refine' sub_w2 ?qa ?_ ?qb); (case qa => walk_at "lst"); (case qb => (intro _ _; with_unfolding_all rfl))) | ((with_reducible refine op_addsD ?qa ?qb (fun _ _ => ?_)); (case qa => decide); (case qb => lia)) | ((with_reducible refine op_addsF ?qa (fun _ _ => ?_)); (case qa => lia)) | fail))
  refine op_addlS (B := 300) (by walk_at "lst") (by walk_at "lst") (by repeat' (first | exact .nil | refine .cons (by first | lia | decide) ?_)) (by simp only [List.length_cons, List.length_nil]; lia) fun z' us hus hul hz' => ?_
  simp only [List.length_cons, List.length_nil] at hus
  (repeat' (first | with_reducible refine kset ?_ | fail))
  exact ksnil ⟨W, z', ls ++ us, by walk_at "hp", by walk_at "hp", lens_snoc lens hul, by simp [ne], by rw [List.length_append]; lia, by walk_at "lk", by walk_at "lk", by walk_at "lk", by walk_at "lk", by walk_at "lk", by walk_at "sub"⟩
 intro σ h
 show WExs _ _ _ (_ :: _) _ _ _
 refine seq1 (OtI σ₁ x a s z 30) ?_ ?_
 rotate_left
 ·obtain ⟨W, Z, ls, hW, hZ, lens, ne, cnt, lw, lz, lx, la', lsz, sub⟩ := h
  (repeat' (first | (with_reducible first | refine kb1 ?_ | refine kb2 ?_ | refine ka1 ?_ | refine ka2 ?_ | refine k_bin ?_ | refine ev_int ?_ | refine ev_str ?_ | refine ar_nil ?_ | refine v_list ?_ | refine k_sub ?_ | fail) | ((with_reducible refine k_assign (by walk_at "ok") ?qa ?qb ?_); (case qa => exact rfl); (case qb => exact rfl)) | walk_at "n" | walk_at "k" | ((with_reducible refine newl ?qa (fun _ _ => ?_)); (case qa => exact Nat.le_of_ble_eq_true rfl)) | ((with_reducible refine' sub_w0 ?qa ?_ ?qb); (case qa => walk_at "lst"); (case qb => (intro _ _; with_unfolding_all rfl))) | ((with_reducible refine' sub_w1 ?qa ?_ ?qb); (case qa => walk_at "lst"); (case qb => (intro _ _; with_unfolding_all rfl))) | ((with_reducible refine' sub_w2 ?qa ?_ ?qb); (case qa => walk_at "lst"); (case qb => (intro _ _; with_unfolding_all rfl))) | ((with_reducible refine op_addsD ?qa ?qb (fun _ _ => ?_)); (case qa => decide); (case qb => lia)) | ((with_reducible refine op_addsF ?qa (fun _ _ => ?_)); (case qa => lia)) | fail))
  refine op_addlS (B := 300) (by walk_at "lst") (by walk_at "lst") (by repeat' (first | exact .nil | refine .cons (by first | lia | decide) ?_)) (by simp only [List.length_cons, List.length_nil]; lia) fun z' us hus hul hz' => ?_
  simp only [List.length_cons, List.length_nil] at hus
  (repeat' (first | with_reducible refine kset ?_ | fail))
  exact ksnil ⟨W, z', ls ++ us, by walk_at "hp", by walk_at "hp", lens_snoc lens hul, by simp [ne], by rw [List.length_append]; lia, by walk_at "lk", by walk_at "lk", by walk_at "lk", by walk_at "lk", by walk_at "lk", by walk_at "sub"⟩
 intro σ h
 show WExs _ _ _ (_ :: _) _ _ _
 refine seq1 (OtI σ₁ x a s z 40) ?_ ?_
 rotate_left
 ·obtain ⟨W, Z, ls, hW, hZ, lens, ne, cnt, lw, lz, lx, la', lsz, sub⟩ := h
  (repeat' (first | (with_reducible first | refine kb1 ?_ | refine kb2 ?_ | refine ka1 ?_ | refine ka2 ?_ | refine kcl ?_ | refine k_bin ?_ | refine ev_int ?_ | refine ev_str ?_ | refine ar_nil ?_ | refine v_list ?_ | refine k_sub ?_ | refine op_add ?_ | refine op_sub ?_ | fail) | ((with_reducible refine k_assign (by walk_at "ok") ?qa ?qb ?_); (case qa => exact rfl); (case qb => exact rfl)) | walk_at "n" | ((with_reducible refine' k_callt (by walk_at "ok") ?qa ?qc ?qd ?qe ?qb ?qf ?_); (case qa => exact rfl); (case qb => decide); (case qc => k_is); (case qd => decide); (case qe => boot_by_name); (case qf => exact ⟨fun ux => rfl, fun ux => rfl⟩)) | walk_at "k" | ((with_reducible refine newl ?qa (fun _ _ => ?_)); (case qa => exact Nat.le_of_ble_eq_true rfl)) | ((with_reducible refine' sub_w0 ?qa ?_ ?qb); (case qa => walk_at "lst"); (case qb => (intro _ _; with_unfolding_all rfl))) | ((with_reducible refine' sub_w1 ?qa ?_ ?qb); (case qa => walk_at "lst"); (case qb => (intro _ _; with_unfolding_all rfl))) | ((with_reducible refine' sub_w2 ?qa ?_ ?qb); (case qa => walk_at "lst"); (case qb => (intro _ _; with_unfolding_all rfl))) | ((with_reducible refine op_addsD ?qa ?qb (fun _ _ => ?_)); (case qa => decide); (case qb => lia)) | ((with_reducible refine op_addsF ?qa (fun _ _ => ?_)); (case qa => lia)) | ((with_reducible refine cl_strF ?qa ?qb (fun _ _ => ?_)); (case qa => lia); (case qb => lia)) | fail))
  refine op_addlS (B := 300) (by walk_at "lst") (by walk_at "lst") (by repeat' (first | exact .nil | refine .cons (by first | lia | decide) ?_)) (by simp only [List.length_cons, List.length_nil]; lia) fun z' us hus hul hz' => ?_
  simp only [List.length_cons, List.length_nil] at hus
  (repeat' (first | with_reducible refine kset ?_ | fail))
  exact ksnil ⟨W, z', ls ++ us, by walk_at "hp", by walk_at "hp", lens_snoc lens hul, by simp [ne], by rw [List.length_append]; lia, by walk_at "lk", by walk_at "lk", by walk_at "lk", by walk_at "lk", by walk_at "lk", by walk_at "sub"⟩
 intro σ h
 show WExs _ _ _ (_ :: _) _ _ _
 refine seq1 (OtI σ₁ x a s z 50) ?_ ?_
 rotate_left
 ·obtain ⟨W, Z, ls, hW, hZ, lens, ne, cnt, lw, lz, lx, la', lsz, sub⟩ := h
  (repeat' (first | (with_reducible first | refine kb1 ?_ | refine kb2 ?_ | refine ka1 ?_ | refine ka2 ?_ | refine kcl ?_ | refine k_bin ?_ | refine ev_int ?_ | refine ev_str ?_ | refine ar_nil ?_ | refine v_list ?_ | refine k_sub ?_ | refine op_add ?_ | fail) | ((with_reducible refine k_assign (by walk_at "ok") ?qa ?qb ?_); (case qa => exact rfl); (case qb => exact rfl)) | walk_at "n" | ((with_reducible refine' k_callt (by walk_at "ok") ?qa ?qc ?qd ?qe ?qb ?qf ?_); (case qa => exact rfl); (case qb => decide); (case qc => k_is); (case qd => decide); (case qe => boot_by_name); (case qf => exact ⟨fun ux => rfl, fun ux => rfl⟩)) | walk_at "k" | ((with_reducible refine newl ?qa (fun _ _ => ?_)); (case qa => exact Nat.le_of_ble_eq_true rfl)) | ((with_reducible refine v_mul ?qa ?_); (case qa => walk_at "mul")) | ((with_reducible refine' sub_w0 ?qa ?_ ?qb); (case qa => walk_at "lst"); (case qb => (intro _ _; with_unfolding_all rfl))) | ((with_reducible refine' sub_w2 ?qa ?_ ?qb); (case qa => walk_at "lst"); (case qb => (intro _ _; with_unfolding_all rfl))) | ((with_reducible refine op_addsD ?qa ?qb (fun _ _ => ?_)); (case qa => decide); (case qb => lia)) | ((with_reducible refine op_addsF ?qa (fun _ _ => ?_)); (case qa => lia)) | ((with_reducible refine cl_strF ?qa ?qb (fun _ _ => ?_)); (case qa => lia); (case qb => lia)) | fail))
  refine op_addlS (B := 300) (by walk_at "lst") (by walk_at "lst") (by repeat' (first | exact .nil | refine .cons (by first | lia | decide) ?_)) (by simp only [List.length_cons, List.length_nil]; lia) fun z' us hus hul hz' => ?_
  simp only [List.length_cons, List.length_nil] at hus
  (repeat' (first | with_reducible refine kset ?_ | fail))
  exact ksnil ⟨W, z', ls ++ us, by walk_at "hp", by walk_at "hp", lens_snoc lens hul, by simp [ne], by rw [List.length_append]; lia, by walk_at "lk", by walk_at "lk", by walk_at "lk", by walk_at "lk", by walk_at "lk", by walk_at "sub"⟩
 intro σ h
 show WExs _ _ _ (_ :: _) _ _ _
 refine seq1 (OtI σ₁ x a s z 60) ?_ ?_
 rotate_left
 ·obtain ⟨W, Z, ls, hW, hZ, lens, ne, cnt, lw, lz, lx, la', lsz, sub⟩ := h
  (repeat' (first | (with_reducible first | refine kb1 ?_ | refine kb2 ?_ | refine ka1 ?_ | refine ka2 ?_ | refine k_bin ?_ | refine ev_int ?_ | refine ev_str ?_ | refine ar_nil ?_ | refine v_list ?_ | refine k_sub ?_ | fail) | ((with_reducible refine k_assign (by walk_at "ok") ?qa ?qb ?_); (case qa => exact rfl); (case qb => exact rfl)) | walk_at "n" | walk_at "k" | ((with_reducible refine newl ?qa (fun _ _ => ?_)); (case qa => exact Nat.le_of_ble_eq_true rfl)) | ((with_reducible refine' sub_w0 ?qa ?_ ?qb); (case qa => walk_at "lst"); (case qb => (intro _ _; with_unfolding_all rfl))) | ((with_reducible refine' sub_w1 ?qa ?_ ?qb); (case qa => walk_at "lst"); (case qb => (intro _ _; with_unfolding_all rfl))) | ((with_reducible refine op_addsD ?qa ?qb (fun _ _ => ?_)); (case qa => decide); (case qb => lia)) | ((with_reducible refine op_addsF ?qa (fun _ _ => ?_)); (case qa => lia)) | fail))
  refine op_addlS (B := 300) (by walk_at "lst") (by walk_at "lst") (by repeat' (first | exact .nil | refine .cons (by first | lia | decide) ?_)) (by simp only [List.length_cons, List.length_nil]; lia) fun z' us hus hul hz' => ?_
  simp only [List.length_cons, List.length_nil] at hus
  (repeat' (first | with_reducible refine kset ?_ | fail))
  exact ksnil ⟨W, z', ls ++ us, by walk_at "hp", by walk_at "hp", lens_snoc lens hul, by simp [ne], by rw [List.length_append]; lia, by walk_at "lk", by walk_at "lk", by walk_at "lk", by walk_at "lk", by walk_at "lk", by walk_at "sub"⟩
 intro σ h
 show WExs _ _ _ (_ :: _) _ _ _
 refine seq1 (OtI σ₁ x a s z 70) ?_ ?_
 rotate_left
 ·obtain ⟨W, Z, ls, hW, hZ, lens, ne, cnt, lw, lz, lx, la', lsz, sub⟩ := h
  (repeat' (first | (with_reducible first | refine kb1 ?_ | refine kb2 ?_ | refine ka1 ?_ | refine ka2 ?_ | refine k_bin ?_ | refine ev_int ?_ | refine ev_str ?_ | refine ar_nil ?_ | refine v_list ?_ | refine k_sub ?_ | fail) | ((with_reducible refine k_assign (by walk_at "ok") ?qa ?qb ?_); (case qa => exact rfl); (case qb => exact rfl)) | walk_at "n" | walk_at "k" | ((with_reducible refine newl ?qa (fun _ _ => ?_)); (case qa => exact Nat.le_of_ble_eq_true rfl)) | ((with_reducible refine' sub_w0 ?qa ?_ ?qb); (case qa => walk_at "lst"); (case qb => (intro _ _; with_unfolding_all rfl))) | ((with_reducible refine' sub_w1 ?qa ?_ ?qb); (case qa => walk_at "lst"); (case qb => (intro _ _; with_unfolding_all rfl))) | ((with_reducible refine op_addsC ?qa ?qb (fun _ _ => ?_)); (case qa => decide); (case qb => lia)) | ((with_reducible refine op_addsD ?qa ?qb (fun _ _ => ?_)); (case qa => decide); (case qb => lia)) | ((with_reducible refine op_addsF ?qa (fun _ _ => ?_)); (case qa => lia)) | fail))
  refine op_addlS (B := 300) (by walk_at "lst") (by walk_at "lst") (by repeat' (first | exact .nil | refine .cons (by first | lia | decide) ?_)) (by simp only [List.length_cons, List.length_nil]; lia) fun z' us hus hul hz' => ?_
  simp only [List.length_cons, List.length_nil] at hus
  (repeat' (first | with_reducible refine kset ?_ | fail))
  exact ksnil ⟨W, z', ls ++ us, by walk_at "hp", by walk_at "hp", lens_snoc lens hul, by simp [ne], by rw [List.length_append]; lia, by walk_at "lk", by walk_at "lk", by walk_at "lk", by walk_at "lk", by walk_at "lk", by walk_at "sub"⟩
 intro σ h
 show WExs _ _ _ (_ :: _) _ _ _
 refine seq1 (OtI σ₁ x a s z 80) ?_ ?_
 rotate_left
 ·obtain ⟨W, Z, ls, hW, hZ, lens, ne, cnt, lw, lz, lx, la', lsz, sub⟩ := h
  (repeat' (first | (with_reducible first | refine kb1 ?_ | refine kb2 ?_ | refine ka1 ?_ | refine ka2 ?_ | refine k_bin ?_ | refine ev_int ?_ | refine ev_str ?_ | refine ar_nil ?_ | refine v_list ?_ | refine k_sub ?_ | fail) | ((with_reducible refine k_assign (by walk_at "ok") ?qa ?qb ?_); (case qa => exact rfl); (case qb => exact rfl)) | walk_at "n" | walk_at "k" | ((with_reducible refine newl ?qa (fun _ _ => ?_)); (case qa => exact Nat.le_of_ble_eq_true rfl)) | ((with_reducible refine' sub_w0 ?qa ?_ ?qb); (case qa => walk_at "lst"); (case qb => (intro _ _; with_unfolding_all rfl))) | ((with_reducible refine' sub_w1 ?qa ?_ ?qb); (case qa => walk_at "lst"); (case qb => (intro _ _; with_unfolding_all rfl))) | ((with_reducible refine op_addsD ?qa ?qb (fun _ _ => ?_)); (case qa => decide); (case qb => lia)) | ((with_reducible refine op_addsF ?qa (fun _ _ => ?_)); (case qa => lia)) | fail))
  refine op_addlS (B := 300) (by walk_at "lst") (by walk_at "lst") (by repeat' (first | exact .nil | refine .cons (by first | lia | decide) ?_)) (by simp only [List.length_cons, List.length_nil]; lia) fun z' us hus hul hz' => ?_
  simp only [List.length_cons, List.length_nil] at hus
  (repeat' (first | with_reducible refine kset ?_ | fail))
  exact ksnil ⟨W, z', ls ++ us, by walk_at "hp", by walk_at "hp", lens_snoc lens hul, by simp [ne], by rw [List.length_append]; lia, by walk_at "lk", by walk_at "lk", by walk_at "lk", by walk_at "lk", by walk_at "lk", by walk_at "sub"⟩
 intro σ h
 show WExs _ _ _ (_ :: _) _ _ _
 refine seq1 (OtI σ₁ x a s z 90) ?_ ?_
 rotate_left
 ·obtain ⟨W, Z, ls, hW, hZ, lens, ne, cnt, lw, lz, lx, la', lsz, sub⟩ := h
  (repeat' (first | (with_reducible first | refine v_cut1 ?_ | refine kb1 ?_ | refine kb2 ?_ | refine ka1 ?_ | refine k_bin ?_ | refine ev_str ?_ | refine v_list ?_ | fail) | ((with_reducible refine k_assign (by walk_at "ok") ?qa ?qb ?_); (case qa => exact rfl); (case qb => exact rfl)) | walk_at "n" | walk_at "k" | ((with_reducible refine op_addsD ?qa ?qb (fun _ _ => ?_)); (case qa => decide); (case qb => lia)) | (with_reducible refine ex_str ?_) | fail))
  refine ⟨hx0, by lia, fun zc hzc => ?_⟩
  (repeat' (first | (with_reducible first | refine kb2 ?_ | refine ka1 ?_ | refine ka2 ?_ | refine ar_nil ?_ | fail) | ((with_reducible refine newl ?qa (fun _ _ => ?_)); (case qa => exact Nat.le_of_ble_eq_true rfl)) | fail))
  refine op_addlS (B := 300) (by walk_at "lst") (by walk_at "lst") (by repeat' (first | exact .nil | refine .cons (by first | lia | decide) ?_)) (by simp only [List.length_cons, List.length_nil]; lia) fun z' us hus hul hz' => ?_
  simp only [List.length_cons, List.length_nil] at hus
  (repeat' (first | with_reducible refine kset ?_ | fail))
  exact ksnil ⟨W, z', ls ++ us, by walk_at "hp", by walk_at "hp", lens_snoc lens hul, by simp [ne], by rw [List.length_append]; lia, by walk_at "lk", by walk_at "lk", by walk_at "lk", by walk_at "lk", by walk_at "lk", by walk_at "sub"⟩
 intro σ h
 show WExs _ _ _ (_ :: _) _ _ _
 refine seq1 (OtI σ₁ x a s z 100) ?_ ?_
 rotate_left
 ·obtain ⟨W, Z, ls, hW, hZ, lens, ne, cnt, lw, lz, lx, la', lsz, sub⟩ := h
  (repeat' (first | (with_reducible first | refine kb1 ?_ | refine kb2 ?_ | refine ka1 ?_ | refine ka2 ?_ | refine k_bin ?_ | refine ev_int ?_ | refine ev_str ?_ | refine ar_nil ?_ | refine v_list ?_ | refine k_sub ?_ | fail) | ((with_reducible refine k_assign (by walk_at "ok") ?qa ?qb ?_); (case qa => exact rfl); (case qb => exact rfl)) | walk_at "n" | walk_at "k" | ((with_reducible refine newl ?qa (fun _ _ => ?_)); (case qa => exact Nat.le_of_ble_eq_true rfl)) | ((with_reducible refine' sub_w0 ?qa ?_ ?qb); (case qa => walk_at "lst"); (case qb => (intro _ _; with_unfolding_all rfl))) | ((with_reducible refine' sub_w1 ?qa ?_ ?qb); (case qa => walk_at "lst"); (case qb => (intro _ _; with_unfolding_all rfl))) | ((with_reducible refine op_addsD ?qa ?qb (fun _ _ => ?_)); (case qa => decide); (case qb => lia)) | ((with_reducible refine op_addsF ?qa (fun _ _ => ?_)); (case qa => lia)) | fail))
  refine op_addlS (B := 300) (by walk_at "lst") (by walk_at "lst") (by repeat' (first | exact .nil | refine .cons (by first | lia | decide) ?_)) (by simp only [List.length_cons, List.length_nil]; lia) fun z' us hus hul hz' => ?_
  simp only [List.length_cons, List.length_nil] at hus
  (repeat' (first | with_reducible refine kset ?_ | fail))
  exact ksnil ⟨W, z', ls ++ us, by walk_at "hp", by walk_at "hp", lens_snoc lens hul, by simp [ne], by rw [List.length_append]; lia, by walk_at "lk", by walk_at "lk", by walk_at "lk", by walk_at "lk", by walk_at "lk", by walk_at "sub"⟩
 intro σ h
 show WExs _ _ _ (_ :: _) _ _ _
 refine seq1 (OtI σ₁ x a s z 110) ?_ ?_
 rotate_left
 ·obtain ⟨W, Z, ls, hW, hZ, lens, ne, cnt, lw, lz, lx, la', lsz, sub⟩ := h
  (repeat' (first | (with_reducible first | refine kb1 ?_ | refine kb2 ?_ | refine ka1 ?_ | refine ka2 ?_ | refine k_bin ?_ | refine ev_int ?_ | refine ev_str ?_ | refine ar_nil ?_ | refine v_list ?_ | refine k_sub ?_ | fail) | ((with_reducible refine k_assign (by walk_at "ok") ?qa ?qb ?_); (case qa => exact rfl); (case qb => exact rfl)) | walk_at "n" | walk_at "k" | ((with_reducible refine newl ?qa (fun _ _ => ?_)); (case qa => exact Nat.le_of_ble_eq_true rfl)) | ((with_reducible refine' sub_w0 ?qa ?_ ?qb); (case qa => walk_at "lst"); (case qb => (intro _ _; with_unfolding_all rfl))) | ((with_reducible refine' sub_w1 ?qa ?_ ?qb); (case qa => walk_at "lst"); (case qb => (intro _ _; with_unfolding_all rfl))) | ((with_reducible refine op_addsD ?qa ?qb (fun _ _ => ?_)); (case qa => decide); (case qb => lia)) | ((with_reducible refine op_addsF ?qa (fun _ _ => ?_)); (case qa => lia)) | fail))
  refine op_addlS (B := 300) (by walk_at "lst") (by walk_at "lst") (by repeat' (first | exact .nil | refine .cons (by first | lia | decide) ?_)) (by simp only [List.length_cons, List.length_nil]; lia) fun z' us hus hul hz' => ?_
  simp only [List.length_cons, List.length_nil] at hus
  (repeat' (first | with_reducible refine kset ?_ | fail))
  exact ksnil ⟨W, z', ls ++ us, by walk_at "hp", by walk_at "hp", lens_snoc lens hul, by simp [ne], by rw [List.length_append]; lia, by walk_at "lk", by walk_at "lk", by walk_at "lk", by walk_at "lk", by walk_at "lk", by walk_at "sub"⟩
 rintro σ ⟨W, Z, ls, hW, hZ, lens, ne, cnt, lw, lz, lx, la', lsz, sub⟩
 show WExs _ _ _ (_ :: _) _ _ _
 (repeat' (first | (with_reducible first | refine knret ?_ | refine kret ?_ | refine k_xcons ?_ | refine k_ret ?_ | fail) | walk_at "n" | fail))
 exact fgt_of (hq _ Z ls sub rfl hZ ne (by lia) lens)
theorem c_lnumber (g : Fx prog (hK w.params) cx sc (n + 1)) {args : List Expr} {px : Pos} (hx : sc.names.lookup (Str.ofString "_law_number") = some .globalImplicit) (hp : Plain (Str.ofString "_law_number") px args pos)
  (h : WAr prog w cx pos args σ (A_lnumber Q) E) : WEv prog w cx (.Call (.Name (Str.ofString "_law_number") px) args [] pos) σ Q E := by
 refine v_callf g.ok hx (by k_is) (by k_is) (by decide) hp (h.imp (fun l σ₁ ⟨x, hl, hz, hq⟩ => ?_) fun ux ux e => e)
 subst hl
 refine call_pure (ps := [Str.ofString "_law_word"]) g (fn_of (by k_is) (by k_is) (by k_is) (len1 rfl fun ux => rfl) (by decide) rfl rfl rfl (by decide)) rfl fun cx g => ?_
 have no : numOf x = none → Q (.int (-1)) σ₁ := fun q => by rw [q] at hq; exact hq
 show WExs _ _ _ (_ :: _) _ _ _
 refine seq1 (fun σ' => σ'.loc (Str.ofString "_law_word") = some (.str x) ∧ σ₁.Sub σ' ∧ x.length ≠ 0 ∧ ¬ 19 < x.length ∧ ¬ (x.cps[0]? = some 48 ∧ 1 < x.length)) ?_ ?_
 ·rintro σ ⟨l1, s1, q0, q1, q2⟩
  show WExs _ _ _ (_ :: _) _ _ _
  refine k_xcons (x_signs g rfl (fun ux => rfl) ?_)
  (repeat' (first | walk_at "n" | fail))
  refine ⟨x, fun i σ => σ.loc (Str.ofString "_law_word") = some (.str x) ∧ σ₁.Sub σ ∧ ∀ c ∈ x.cps.toList.take i, 48 ≤ c ∧ c ≤ 57, rfl, ⟨l1, s1, by simp⟩, ?_, ?_⟩
  ·rintro i c σ cx g hc ⟨l1, s1, hi⟩
   (repeat' (first | (with_reducible first | refine kb1 ?_ | refine kb2 ?_ | refine k_xcons ?_ | refine k_if ?_ | refine ev_str ?_ | fail) | walk_at "n" | ((with_reducible refine k_tcmp ?qa ?_); (case qa => with_unfolding_all rfl)) | fail))
   refine cmp_notin_s ?_
   rw [fig_in]
   (repeat' (first | (with_reducible first | refine knext ?_ | refine knret ?_ | refine ktb ?_ | refine kif ?_ | refine kret ?_ | refine ku ?_ | refine exs_nil ?_ | refine k_xcons ?_ | refine k_ret ?_ | refine ev_int ?_ | refine k_un ?_ | refine op_neg ?_ | refine ite_neg ?_ | fail) | with_reducible refine ite_dec (fun _ => ?_) (fun _ => ?_) | fail))
   ·rename_i hn
    refine ⟨by walk_at "lk", s1, fun d hd => ?_⟩
    rw [List.take_add_one, Array.getElem?_toList, hc] at hd
    rcases List.mem_append.mp hd with q | q
    ·exact hi d q
    ·rw [show d = c by simpa using q]; exact hn
   ·rename_i hn
    refine ⟨s1, no (numOf_none (.inr (.inr (.inr fun q => hn (q c ?_)))))⟩
    exact List.mem_of_getElem? (by rw [Array.getElem?_toList]; exact hc)
  ·rintro σ ⟨l1, s1, hi⟩
   rw [List.take_of_length_le (by rw [Array.length_toList]; exact Nat.le_refl _)] at hi
   obtain ⟨i, _, e1, e2⟩ := numOf_some q0 q1 q2 hi
   (repeat' (first | (with_reducible first | refine knext ?_ | refine ka1 ?_ | refine ka2 ?_ | refine kcl ?_ | refine k_xcons ?_ | refine k_ret ?_ | refine ar_nil ?_ | fail) | walk_at "n" | ((with_reducible refine' k_callt (by walk_at "ok") ?qa ?qc ?qd ?qe ?qb ?qf ?_); (case qa => exact rfl); (case qb => decide); (case qc => k_is); (case qd => decide); (case qe => boot_by_name); (case qf => exact ⟨fun ux => rfl, fun ux => rfl⟩)) | walk_at "k" | fail))
   refine cl_int e1 (by lia) ?_
   (repeat' (first | (with_reducible first | refine knret ?_ | refine kret ?_ | fail) | fail))
   rw [e2] at hq
   exact ⟨s1, hq⟩
 ·(repeat' (first | (with_reducible first | refine knret ?_ | refine ksret ?_ | refine kb1 ?_ | refine kb2 ?_ | refine ktb ?_ | refine ka1 ?_ | refine ka2 ?_ | refine kcl ?_ | refine kif ?_ | refine kret ?_ | refine kand ?_ | refine kor ?_ | refine ku ?_ | refine exs_nil ?_ | refine k_xcons ?_ | refine k_if ?_ | refine k_ret ?_ | refine ev_int ?_ | refine ev_str ?_ | refine ar_nil ?_ | refine tr_bool ?_ | refine tl_or_nil ?_ | refine k_and ?_ | refine k_or ?_ | refine k_un ?_ | refine k_sub ?_ | refine op_neg ?_ | refine cmp_gt ?_ | refine ite_true' ?_ | refine ite_false' ?_ | fail) | walk_at "n" | ((with_reducible refine' k_callb (by walk_at "ok") ?qa ?qc ?qd ?qe ?qb ?qf ?_); (case qa => exact rfl); (case qb => decide); (case qc => k_is); (case qd => decide); (case qe => boot_by_name); (case qf => exact ⟨fun ux => rfl, fun ux => rfl⟩)) | walk_at "k" | ((with_reducible refine k_tcmp ?qa ?_); (case qa => with_unfolding_all rfl)) | with_reducible refine ite_dec (fun _ => ?_) (fun _ => ?_) | ((with_reducible refine cl_len_s ?qa ?_); (case qa => lia)) | (with_reducible refine cmp_eq_s ?_) | (with_reducible refine ite_beqs (fun _ => ?_) (fun _ => ?_)) | fail))
  ·rename_i q
   subst q
   exact ⟨fun ux ux e => e, no (numOf_none (.inl (by decide)))⟩
  ·rename_i q0 q1
   exact ⟨fun ux ux e => e, no (numOf_none (.inr (.inl (by lia))))⟩
  ·rename_i q0 q1 q2
   have q3 := str_len0 q0
   refine sub_str0 q3 (fun c hc => ?_) (by intro _ _; with_unfolding_all rfl)
   (repeat' (first | (with_reducible first | refine knret ?_ | refine ksret ?_ | refine kb1 ?_ | refine kb2 ?_ | refine ktb ?_ | refine kif ?_ | refine kret ?_ | refine kand ?_ | refine kor ?_ | refine ku ?_ | refine exs_nil ?_ | refine k_xcons ?_ | refine k_ret ?_ | refine ev_int ?_ | refine ev_str ?_ | refine tl_and_nil ?_ | refine tl_or_nil ?_ | refine k_un ?_ | refine op_neg ?_ | refine ite_true' ?_ | refine ite_false' ?_ | fail) | (with_reducible refine cmp_eq_s ?_) | (with_reducible refine ite_beqs (fun _ => ?_) (fun _ => ?_)) | fail))
   ·rename_i q4
    exact ⟨fun ux ux e => e, no (numOf_none (.inr (.inr (.inl ⟨by rw [hc, sign0.mp q4], by lia⟩))))⟩
   ·rename_i q4
    exact ksnil ⟨by walk_at "lk", fun ux ux e => e, q3, by lia, fun w => q4 (sign0.mpr (by rw [hc] at w; exact Option.some.inj w.1))⟩
  ·rename_i q0 q1 q2
   exact ksnil ⟨by walk_at "lk", fun ux ux e => e, str_len0 q0, by lia, fun w => by lia⟩
theorem c_lissize (g : Fx prog (hK w.params) cx sc (n + 1)) {args : List Expr} {px : Pos} (hx : sc.names.lookup (Str.ofString "_law_is_size") = some .globalImplicit) (hp : Plain (Str.ofString "_law_is_size") px args pos)
  (h : WAr prog w cx pos args σ (A_lissize Q) E) : WEv prog w cx (.Call (.Name (Str.ofString "_law_is_size") px) args [] pos) σ Q E := by
 refine v_callf g.ok hx (by k_is) (by k_is) (by decide) hp (h.imp (fun l σ₁ ⟨v, hl, hq⟩ => ?_) fun ux ux e => e)
 subst hl
 refine call_pure (ps := [Str.ofString "_law_size"]) g (fn_of (by k_is) (by k_is) (by k_is) (len1 rfl fun ux => rfl) (by decide) rfl rfl rfl (by decide)) rfl fun cx g => ?_
 (repeat' (first | (with_reducible first | refine knext ?_ | refine knret ?_ | refine kb1 ?_ | refine kb2 ?_ | refine ktb ?_ | refine kif ?_ | refine kret ?_ | refine kor ?_ | refine exs_nil ?_ | refine k_xcons ?_ | refine k_if ?_ | refine k_ret ?_ | refine k_bin ?_ | refine ev_int ?_ | refine ev_bool ?_ | refine tr_bool ?_ | refine tl_or_nil ?_ | refine k_or ?_ | refine cmp_lt ?_ | refine cmp_gt ?_ | refine ite_true' ?_ | refine ite_false' ?_ | fail) | walk_at "n" | ((with_reducible refine k_tcmp ?qa ?_); (case qa => with_unfolding_all rfl)) | with_reducible refine ite_dec (fun _ => ?_) (fun _ => ?_) | ((with_reducible refine v_pow ?qa ?qb ?_); (case qa => first | decide | lia); (case qb => first | decide | decide +kernel | lia)) | fail))
 ·rw [isP_out (by lia)] at hq
  exact ⟨fun ux ux e => e, hq⟩
 ·rw [isP_out (by right; simp at *; lia)] at hq
  exact ⟨fun ux ux e => e, hq⟩
 ·rename_i q1 q2
  refine x_while g (fun m σ => ∃ u : Int, m = u.toNat ∧ 1 ≤ u ∧ u ≤ 2 ^ 60 ∧ isP v = isP u ∧ σ.loc (Str.ofString "_law_size") = some (.int u) ∧ σ₁.Sub σ) v.toNat ⟨v, rfl, by lia, by simp at *; lia, rfl, by walk_at "lk", fun ux ux e => e⟩ ?_
  rintro m σ ⟨u, hm, hu1, hu2, hu, lu, sub⟩
  (repeat' (first | (with_reducible first | refine knext ?_ | refine knret ?_ | refine kb1 ?_ | refine kb2 ?_ | refine ktb ?_ | refine kset ?_ | refine kret ?_ | refine exs_nil ?_ | refine k_xcons ?_ | refine k_ret ?_ | refine k_bin ?_ | refine ev_int ?_ | refine cmp_eq ?_ | fail) | ((with_reducible refine k_assign (by walk_at "ok") ?qa ?qb ?_); (case qa => exact rfl); (case qb => exact rfl)) | walk_at "n" | ((with_reducible refine k_tcmp ?qa ?_); (case qa => with_unfolding_all rfl)) | ((with_reducible refine k_cmp ?qa ?_); (case qa => with_unfolding_all rfl)) | ((with_reducible refine op_mod ?qa ?_); (case qa => walk_at "pos")) | ((with_reducible refine v_div (by walk_at "ok") ?qa ?_); (case qa => walk_at "pos")) | with_reducible refine ite_beq (fun _ => ?_) (fun _ => ?_) | fail))
  ·rename_i q
   exact ⟨(u / 2).toNat, by lia, u / 2, rfl, by lia, by lia, by rw [hu, isP_half q hu1 hu2], by walk_at "lk", by walk_at "sub"⟩
  ·rename_i q
   rw [hu, isP_odd q hu1] at hq
   exact ⟨sub, hq⟩
theorem c_ldue (g : Fx prog (hK w.params) cx sc (n + 2)) {args : List Expr} {px : Pos} (hx : sc.names.lookup (Str.ofString "_law_due") = some .globalImplicit) (hp : Plain (Str.ofString "_law_due") px args pos)
  (h : WAr prog w cx pos args σ (A_ldue Q) E) : WEv prog w cx (.Call (.Name (Str.ofString "_law_due") px) args [] pos) σ Q E := by
 refine v_callf g.ok hx (by k_is) (by k_is) (by decide) hp (h.imp (fun l σ₁ ⟨x, ls, hl, hx, hz, hs, h1, h2⟩ => ?_) fun ux ux e => e)
 subst hl
 refine call_fgt (ps := [Str.ofString "_law_lines_here"]) g (fn_of (by k_is) (by k_is) (by k_is) (len1 rfl fun ux => rfl) (by decide) rfl rfl rfl (by decide)) rfl fun cx g => ?_
 have e6 : sizeLine = 2 ^ 24 := rfl
 have hx' : (σ₁.enter [Str.ofString "_law_lines_here"] [.ref x]).hp x = some (.list (ls.map AV.str)) := hx
 (repeat' (first | (with_reducible first | refine knext ?_ | refine kset ?_ | refine k_xcons ?_ | refine ev_int ?_ | refine ar_nil ?_ | refine v_list ?_ | fail) | ((with_reducible refine k_assign (by walk_at "ok") ?qa ?qb ?_); (case qa => exact rfl); (case qb => exact rfl)) | ((with_reducible refine newl ?qa (fun _ _ => ?_)); (case qa => exact Nat.le_of_ble_eq_true rfl)) | fail))
 rename_i o ho f hf
 have nof : o ≠ f := ne_new (o := .list []) hf (by walk_at "hp")
 have no : σ₁.hp o = none := ho
 have nf : σ₁.hp f = none := none_of_sub (by walk_at "sub") hf
 have nxo : x ≠ o := ne_new ho hx
 have nxf : x ≠ f := ne_new nf hx
 refine x_list g rfl (fun ux => rfl) ?_
 (repeat' (first | walk_at "n" | fail))
 refine ⟨x, _, DuI σ₁ ls x o f, rfl, ⟨[], by walk_at "hp", by show _ = some (AO.list []); walk_at "hp", by show _ = some (AO.list []); walk_at "hp", nof, no, nf, by walk_at "lk", by walk_at "lk", by walk_at "lk", rfl, trivial, rfl, by walk_at "sub"⟩, fun i σ h => h.at, ?_, ?_⟩
 ·rintro i a σ cx g ha ⟨P, hz', ho', hf', _, _, _, lo, lf, lb, hP, c, hp, sub⟩
  obtain ⟨y, hy, rfl⟩ := str_item ha
  have hyl := hs y (List.mem_of_getElem? hy)
  have hsy := (sp_len (x := y)).2
  have hil := (List.getElem?_eq_some_iff.mp hy).1
  have hol := outs_len (P := P)
  have hfl := frees_len (P := P)
  have ret : dueR 0 [] (ls.map rowOf) = none → ∀ σ', σ₁.Sub σ' → Fgt Q σ₁.loc (.ret .none) σ' := fun q σ' s => fgt_of (h1 q _ s rfl)
  (repeat' (first | (with_reducible first | refine knext ?_ | refine knret ?_ | refine kb1 ?_ | refine kb2 ?_ | refine ktb ?_ | refine ka1 ?_ | refine ka2 ?_ | refine kcl ?_ | refine kif ?_ | refine kset ?_ | refine kret ?_ | refine kor ?_ | refine k_xcons ?_ | refine k_if ?_ | refine k_ret ?_ | refine ev_int ?_ | refine ev_none ?_ | refine ev_str ?_ | refine ar_nil ?_ | refine tr_bool ?_ | refine k_or ?_ | refine k_sub ?_ | refine cmp_ne ?_ | refine ite_true' ?_ | fail) | ((with_reducible refine k_assign (by walk_at "ok") ?qa ?qb ?_); (case qa => exact rfl); (case qb => exact rfl)) | walk_at "n" | ((with_reducible refine' k_callb (by walk_at "ok") ?qa ?qc ?qd ?qe ?qb ?qf ?_); (case qa => exact rfl); (case qb => decide); (case qc => k_is); (case qd => decide); (case qe => boot_by_name); (case qf => exact ⟨fun ux => rfl, fun ux => rfl⟩)) | walk_at "k" | ((with_reducible refine k_tcmp ?qa ?_); (case qa => with_unfolding_all rfl)) | with_reducible refine ite_bne (fun _ => ?_) (fun _ => ?_) | ((with_reducible refine' cl_len ?qa ?qb ?_); (case qa => walk_at "lst"); (case qb => walk_at "num")) | ((with_reducible refine v_split ?qa ?qb ?qc ?qd ?_); (case qa => (intro env; rfl)); (case qb => (intro env; rfl)); (case qc => exact rfl); (case qd => (intro env; rfl))) | (with_reducible refine ex_str ?_) | ((with_reducible refine cl_split ?qa ?qb (fun _ _ => ?_)); (case qa => decide); (case qb => lia)) | fail))
  ·rename_i q3
   rw [List.length_map] at q3
   exact ret (hp.bad (by rw [List.getElem?_map, hy]; rfl) fun p e => by rw [row_len (by lia)] at e; cases e) _ (by walk_at "sub")
  rename_i W hW q3
  rw [List.length_map] at q3
  obtain ⟨u, v, z, e⟩ := three_of (l := Txt.split y (Str.ofString " ")) (by lia)
  have hwl := (sp_len (x := y)).1
  rw [e] at hwl ⊢
  have hul := hwl u (by simp)
  have hvl := hwl v (by simp)
  simp only [List.map_cons, List.map_nil]
  (repeat' (first | (with_reducible first | refine kb1 ?_ | refine kb2 ?_ | refine ka1 ?_ | refine ka2 ?_ | refine ev_str ?_ | refine ar_nil ?_ | refine ev_tuple ?_ | fail) | walk_at "k" | ((with_reducible refine And.intro ?qa ?_); (case qa => (show List.length _ ≤ sizeLine; exact Nat.le_of_ble_eq_true rfl))) | ((with_reducible refine' sub_w2 ?qa ?_ ?qb); (case qa => walk_at "lst"); (case qb => (intro _ _; with_unfolding_all rfl))) | fail))
  refine cmp_notin_strs (xs := [wOut, wFree]) ?_
  (repeat' (first | (with_reducible first | refine knext ?_ | refine knret ?_ | refine kb1 ?_ | refine kb2 ?_ | refine ktb ?_ | refine ka1 ?_ | refine ka2 ?_ | refine kif ?_ | refine kret ?_ | refine kor ?_ | refine exs_nil ?_ | refine k_xcons ?_ | refine k_ret ?_ | refine ev_int ?_ | refine ev_none ?_ | refine ar_nil ?_ | refine tl_or_nil ?_ | refine k_sub ?_ | refine ite_neg ?_ | refine ite_true' ?_ | refine ite_false' ?_ | fail) | ((with_reducible refine k_assign (by walk_at "ok") ?qa ?qb ?_); (case qa => exact rfl); (case qb => exact rfl)) | walk_at "n" | walk_at "k" | with_reducible refine ite_dec (fun _ => ?_) (fun _ => ?_) | ((with_reducible refine' sub_w0 ?qa ?_ ?qb); (case qa => walk_at "lst"); (case qb => (intro _ _; with_unfolding_all rfl))) | ((with_reducible refine c_lnumber (by assumption) ?qa ?qb ?_); (case qa => exact rfl); (case qb => exact ⟨fun ux => rfl, fun ux => rfl⟩)) | fail))
  rotate_left
  ·rename_i q
   exact ret (hp.bad (by rw [List.getElem?_map, hy]; rfl) fun p e' => by rw [row_word e (by simpa using q)] at e'; cases e') _ (by walk_at "sub")
  rename_i hzm
  have hzz : z = wOut ∨ z = wFree := by simpa using hzm
  refine ⟨u, rfl, by lia, ?_⟩
  (repeat' (first | (with_reducible first | refine knext ?_ | refine kb1 ?_ | refine kb2 ?_ | refine ka1 ?_ | refine ka2 ?_ | refine kset ?_ | refine k_xcons ?_ | refine ev_int ?_ | refine ar_nil ?_ | refine k_sub ?_ | fail) | ((with_reducible refine k_assign (by walk_at "ok") ?qa ?qb ?_); (case qa => exact rfl); (case qb => exact rfl)) | walk_at "n" | walk_at "k" | ((with_reducible refine' sub_w1 ?qa ?_ ?qb); (case qa => walk_at "lst"); (case qb => (intro _ _; with_unfolding_all rfl))) | ((with_reducible refine c_lnumber (by assumption) ?qa ?qb ?_); (case qa => exact rfl); (case qb => exact ⟨fun ux => rfl, fun ux => rfl⟩)) | fail))
  refine ⟨v, rfl, by lia, ?_⟩
  have bad := due_bad1 hp c hy e hzz
  have good := due_row c e hzz
  have hrow : (ls.map rowOf)[i]? = some (rowOf y) := by rw [List.getElem?_map, hy]; rfl
  generalize (numOf u).getD (-1) = at' at bad good ⊢
  generalize (numOf v).getD (-1) = sz at bad good ⊢
  (repeat' (first | (with_reducible first | refine knext ?_ | refine knret ?_ | refine kb1 ?_ | refine kb2 ?_ | refine ktb ?_ | refine ka1 ?_ | refine ka2 ?_ | refine kif ?_ | refine kset ?_ | refine kret ?_ | refine kor ?_ | refine k_xcons ?_ | refine k_if ?_ | refine k_ret ?_ | refine ev_none ?_ | refine ar_nil ?_ | refine k_not ?_ | refine tr_bool ?_ | refine k_or ?_ | refine cmp_ne ?_ | refine ite_true' ?_ | fail) | walk_at "n" | walk_at "k" | ((with_reducible refine k_tcmp ?qa ?_); (case qa => with_unfolding_all rfl)) | with_reducible refine ite_bne (fun _ => ?_) (fun _ => ?_) | ((with_reducible refine c_lissize (by assumption) ?qa ?qb ?_); (case qa => exact rfl); (case qb => exact ⟨fun ux => rfl, fun ux => rfl⟩)) | ((with_reducible refine k_tval ?qa ?_); (case qa => (intro env; rfl))) | fail))
  ·rename_i q
   exact ret (bad (.inl q)) _ (by walk_at "sub")
  rename_i qa
  refine ⟨_, rfl, ?_⟩
  cases hi : isP sz with
  | false =>
   (repeat' (first | (with_reducible first | refine knret ?_ | refine ktb ?_ | refine kif ?_ | refine kret ?_ | refine knot ?_ | refine kor ?_ | refine k_xcons ?_ | refine k_ret ?_ | refine ev_none ?_ | refine ite_neg ?_ | refine ite_true' ?_ | refine ite_false' ?_ | fail) | fail))
   exact ret (bad (.inr (.inl (by rw [hi]; decide)))) _ (by walk_at "sub")
  | true =>
   have hpos := isP_pos hi
   (repeat' (first | (with_reducible first | refine knext ?_ | refine knret ?_ | refine kb1 ?_ | refine kb2 ?_ | refine ktb ?_ | refine ka1 ?_ | refine ka2 ?_ | refine kif ?_ | refine kset ?_ | refine kret ?_ | refine knot ?_ | refine kand ?_ | refine kor ?_ | refine kdrop ?_ | refine exs_nil ?_ | refine k_xcons ?_ | refine k_if ?_ | refine k_ret ?_ | refine k_bin ?_ | refine ev_int ?_ | refine ev_none ?_ | refine ev_str ?_ | refine ar_nil ?_ | refine tr_bool ?_ | refine tl_or_nil ?_ | refine k_and ?_ | refine k_or ?_ | refine ev_tuple ?_ | refine k_sub ?_ | refine op_add ?_ | refine op_sub ?_ | refine cmp_ne ?_ | refine ite_neg ?_ | refine ite_true' ?_ | refine ite_false' ?_ | fail) | ((with_reducible refine k_assign (by walk_at "ok") ?qa ?qb ?_); (case qa => exact rfl); (case qb => exact rfl)) | walk_at "n" | walk_at "k" | ((with_reducible refine k_tcmp ?qa ?_); (case qa => with_unfolding_all rfl)) | ((with_reducible refine op_mod ?qa ?_); (case qa => walk_at "pos")) | with_reducible refine ite_bne (fun _ => ?_) (fun _ => ?_) | ((with_reducible refine v_mul ?qa ?_); (case qa => walk_at "mul")) | ((with_reducible refine And.intro ?qa ?_); (case qa => (show List.length _ ≤ sizeLine; exact Nat.le_of_ble_eq_true rfl))) | ((with_reducible refine' meth_append ?qa ?_); (case qa => walk_at "hp")) | ((with_reducible refine' cl_append ?qa ?qb ?_); (case qa => walk_at "hp"); (case qb => walk_at "num")) | ((with_reducible refine k_expr (by walk_at "ok") ?qa ?_); (case qa => (intro env; rfl))) | ((with_reducible refine' sub_w2 ?qa ?_ ?qb); (case qa => walk_at "lst"); (case qb => (intro _ _; with_unfolding_all rfl))) | (with_reducible refine cmp_eq_s ?_) | (with_reducible refine ite_beqs (fun _ => ?_) (fun _ => ?_)) | ((with_reducible refine v_methb' ?qa ?qb ?qc ?qd ?_); (case qa => (intro env; rfl)); (case qb => (intro env; rfl)); (case qc => exact rfl); (case qd => (intro env; rfl))) | fail))
   ·rename_i q
    exact ret (bad (.inr (.inr q))) _ (by walk_at "sub")
   ·rename_i qm qz
    obtain ⟨g1, g2⟩ := good qa hi qm
    have hb : decide (z = wOut) = true := by rw [qz]; rfl
    rw [hb] at g1 g2
    refine ⟨P ++ [(at', sz, true)], by walk_at "hp", ?_, ?_, nof, no, nf, by walk_at "lk", by walk_at "lk", ?_, by rw [List.length_append, hP]; rfl, chn_snoc c g2, hp.next (by rw [hrow, g1]) g2 (by unfold twn; simp), put_sub (by walk_at "sub") no⟩
    ·rw [outs_snoc.1, List.map_append]
     exact put_same
    ·rw [outs_snoc.2]
     walk_at "hp"
    ·rw [endP_snoc, ← qa]
     walk_at "lk"
   ·rename_i qm qz qt
    obtain ⟨g1, g2⟩ := good qa hi qm
    have hb : decide (z = wOut) = false := decide_eq_false fun w => qz (w.trans rfl)
    rw [hb] at g1 g2
    refine cmp_in_prs g.ok (p := (at' - sz, sz)) (by walk_at "lst") ?_
    (repeat' (first | (with_reducible first | refine knext ?_ | refine knret ?_ | refine ktb ?_ | refine ka1 ?_ | refine ka2 ?_ | refine kif ?_ | refine kret ?_ | refine kand ?_ | refine kdrop ?_ | refine exs_nil ?_ | refine k_xcons ?_ | refine k_ret ?_ | refine ev_none ?_ | refine ar_nil ?_ | refine tl_and_nil ?_ | refine ev_tuple ?_ | refine ite_true' ?_ | refine ite_false' ?_ | fail) | walk_at "n" | walk_at "k" | with_reducible refine ite_dec (fun _ => ?_) (fun _ => ?_) | ((with_reducible refine And.intro ?qa ?_); (case qa => (show List.length _ ≤ sizeLine; exact Nat.le_of_ble_eq_true rfl))) | ((with_reducible refine' meth_append ?qa ?_); (case qa => walk_at "hp")) | ((with_reducible refine' cl_append ?qa ?qb ?_); (case qa => walk_at "hp"); (case qb => walk_at "num")) | ((with_reducible refine k_expr (by walk_at "ok") ?qa ?_); (case qa => (intro env; rfl))) | ((with_reducible refine v_methb' ?qa ?qb ?qc ?qd ?_); (case qa => (intro env; rfl)); (case qb => (intro env; rfl)); (case qc => exact rfl); (case qd => (intro env; rfl))) | fail))
    ·rename_i qi
     exact ret (hp.twin (by rw [hrow, g1]) g2 (twn_iff.mpr ⟨qt, qi⟩)) _ (by walk_at "sub")
    ·rename_i qi
     refine ⟨P ++ [(at', sz, false)], by walk_at "hp", ?_, ?_, nof, no, nf, by walk_at "lk", by walk_at "lk", ?_, by rw [List.length_append, hP]; rfl, chn_snoc c g2, hp.next (by rw [hrow, g1]) g2 (fun w => qi (twn_iff.mp w).2), put_sub (by walk_at "sub") nf⟩
     ·rw [frees_snoc.2]
      walk_at "hp"
     ·rw [frees_snoc.1, List.map_append]
      exact put_same
     ·rw [endP_snoc, ← qa]
      walk_at "lk"
   ·rename_i qm qz qt
    obtain ⟨g1, g2⟩ := good qa hi qm
    have hb : decide (z = wOut) = false := decide_eq_false fun w => qz (w.trans rfl)
    rw [hb] at g1 g2
    refine ⟨P ++ [(at', sz, false)], by walk_at "hp", ?_, ?_, nof, no, nf, by walk_at "lk", by walk_at "lk", ?_, by rw [List.length_append, hP]; rfl, chn_snoc c g2, hp.next (by rw [hrow, g1]) g2 (fun w => (twn_iff.mp w).1 qt), put_sub (by walk_at "sub") nf⟩
    ·rw [frees_snoc.2]
     walk_at "hp"
    ·rw [frees_snoc.1, List.map_append]
     exact put_same
    ·rw [endP_snoc, ← qa]
     walk_at "lk"
 ·rintro σ ⟨P, hz', ho', hf', _, _, _, lo, lf, lb, hP, c, hp, sub⟩
  have hlast := hp.last (by rw [List.length_map, List.length_map]; exact Nat.le_refl _)
  (repeat' (first | (with_reducible first | refine knext ?_ | refine ka1 ?_ | refine ka2 ?_ | refine k_xcons ?_ | refine k_if ?_ | refine ar_nil ?_ | refine k_not ?_ | fail) | walk_at "n" | walk_at "k" | ((with_reducible refine c_lissize (by assumption) ?qa ?qb ?_); (case qa => exact rfl); (case qb => exact ⟨fun ux => rfl, fun ux => rfl⟩)) | ((with_reducible refine k_tval ?qa ?_); (case qa => (intro env; rfl))) | fail))
  refine ⟨_, rfl, ?_⟩
  cases hi : isP (endP 0 P) with
  | true =>
   rw [hi, if_pos rfl] at hlast
   (repeat' (first | (with_reducible first | refine knext ?_ | refine knret ?_ | refine ktb ?_ | refine ka1 ?_ | refine ka2 ?_ | refine kif ?_ | refine kret ?_ | refine knot ?_ | refine exs_nil ?_ | refine k_xcons ?_ | refine k_ret ?_ | refine ar_nil ?_ | refine ev_tuple ?_ | refine ite_neg ?_ | refine ite_true' ?_ | fail) | walk_at "n" | walk_at "k" | ((with_reducible refine And.intro ?qa ?_); (case qa => (show List.length _ ≤ sizeLine; exact Nat.le_of_ble_eq_true rfl))) | fail))
   exact fgt_of (h2 _ P hlast _ o f sub rfl ho' hf')
  | false =>
   rw [hi, if_neg (by decide)] at hlast
   (repeat' (first | (with_reducible first | refine knret ?_ | refine ktb ?_ | refine kif ?_ | refine kret ?_ | refine knot ?_ | refine k_xcons ?_ | refine k_ret ?_ | refine ev_none ?_ | refine ite_neg ?_ | refine ite_false' ?_ | fail) | fail))
   exact fgt_of (h1 hlast _ sub rfl)
theorem c_spoilt (g : Fx prog (hK w.params) cx sc (n + 2)) {args : List Expr} {px : Pos} (hx : sc.names.lookup (Str.ofString "_law_spoilt") = some .globalImplicit) (hp : Plain (Str.ofString "_law_spoilt") px args pos)
  (h : WAr prog w cx pos args σ (A_spoilt Q) E) : WEv prog w cx (.Call (.Name (Str.ofString "_law_spoilt") px) args [] pos) σ Q E := by
 refine v_callf g.ok hx (by k_is) (by k_is) (by decide) hp (h.imp (fun l σ₁ ⟨x, c, ls, hl, hx, ne, hlen, ho, hq⟩ => ?_) fun ux ux e => e)
 subst hl
 refine call_fgt (ps := [Str.ofString "_law_lines_here", Str.ofString "_law_cell"]) g (fn_of (by k_is) (by k_is) (by k_is) (len2 rfl fun ux ux => rfl) (by decide) rfl rfl rfl (by decide)) rfl fun cx g => ?_
 have e6 : sizeLine = 2 ^ 24 := rfl
 have hx' : (σ₁.enter [Str.ofString "_law_lines_here", Str.ofString "_law_cell"] [.ref x, .int c]).hp x = some (.list (ls.map AV.str)) := hx
 have hpos : 0 < ls.length := List.length_pos_iff.mpr ne
 have hpos' : (0 : Int) < ((ls.map AV.str).length : Int) := by rw [List.length_map]; lia
 show WExs _ _ _ (_ :: _) _ _ _
 refine seq2 (fun σ' => ∃ j r : Int, 0 ≤ j ∧ j < ls.length ∧ σ'.loc (Str.ofString "_law_place") = some (.int j) ∧ σ'.loc (Str.ofString "_law_rest") = some (.int r) ∧ σ'.loc (Str.ofString "_law_lines_here") = some (.ref x) ∧ σ₁.Sub σ') ?_ ?_
 rotate_left
 ·(repeat' (first | (with_reducible first | refine kscons ?_ | refine kb1 ?_ | refine kb2 ?_ | refine ka1 ?_ | refine ka2 ?_ | refine kcl ?_ | refine kset ?_ | refine k_bin ?_ | refine ar_nil ?_ | fail) | ((with_reducible refine k_assign (by walk_at "ok") ?qa ?qb ?_); (case qa => exact rfl); (case qb => exact rfl)) | walk_at "n" | ((with_reducible refine' k_callb (by walk_at "ok") ?qa ?qc ?qd ?qe ?qb ?qf ?_); (case qa => exact rfl); (case qb => decide); (case qc => k_is); (case qd => decide); (case qe => boot_by_name); (case qf => exact ⟨fun ux => rfl, fun ux => rfl⟩)) | walk_at "k" | ((with_reducible refine op_mod ?qa ?_); (case qa => walk_at "pos")) | ((with_reducible refine v_div (by walk_at "ok") ?qa ?_); (case qa => walk_at "pos")) | ((with_reducible refine' cl_len ?qa ?qb ?_); (case qa => walk_at "lst"); (case qb => walk_at "num")) | fail))
  exact ksnil ⟨c % ((ls.map AV.str).length : Int), c / ((ls.map AV.str).length : Int), (mod_len hpos).1, (mod_len hpos).2, by walk_at "lk", by walk_at "lk", by walk_at "lk", by walk_at "sub"⟩
 rintro σ ⟨j, r, hj0, hj1, lp, lr, lx, sub⟩
 have fx := sub _ _ hx
 obtain ⟨cl1, cl2⟩ := cl_eq hj0 hj1
 have hlm : (ls.map AV.str).length ≤ sizeLine := by rw [List.length_map]; lia
 have hdl : ∀ i, ((ls.map AV.str).drop i).length ≤ 513 := fun i => by rw [List.length_drop, List.length_map]; lia
 have htl : ∀ i, ((ls.map AV.str).take i).length ≤ 513 := fun i => by rw [List.length_take, List.length_map]; lia
 have hjn : j.toNat < ls.length := by lia
 have hlm' : (ls.map AV.str).length ≤ 513 := by rw [List.length_map]; lia
 show WExs _ _ _ (_ :: _) _ _ _
 (repeat' (first | (with_reducible first | refine v_slice0 ?_ | refine v_slice1 ?_ | refine knext ?_ | refine kb1 ?_ | refine kb2 ?_ | refine ktb ?_ | refine ka1 ?_ | refine ka2 ?_ | refine kif ?_ | refine kset ?_ | refine exs_nil ?_ | refine k_xcons ?_ | refine k_if ?_ | refine k_ret ?_ | refine k_bin ?_ | refine ev_int ?_ | refine ev_str ?_ | refine ar_nil ?_ | refine v_list ?_ | refine k_sub ?_ | refine cmp_lt ?_ | refine cmp_eq ?_ | fail) | ((with_reducible refine k_assign (by walk_at "ok") ?qa ?qb ?_); (case qa => exact rfl); (case qb => exact rfl)) | walk_at "n" | walk_at "k" | ((with_reducible refine k_tcmp ?qa ?_); (case qa => with_unfolding_all rfl)) | ((with_reducible refine newl ?qa (fun _ _ => ?_)); (case qa => exact Nat.le_of_ble_eq_true rfl)) | ((with_reducible refine op_mod ?qa ?_); (case qa => walk_at "pos")) | ((with_reducible refine v_div (by walk_at "ok") ?qa ?_); (case qa => walk_at "pos")) | with_reducible refine ite_dec (fun _ => ?_) (fun _ => ?_) | with_reducible refine ite_beq (fun _ => ?_) (fun _ => ?_) | ((with_reducible refine c_others (by assumption) ?qa ?qb ?_); (case qa => exact rfl); (case qb => exact ⟨fun ux => rfl, fun ux => rfl⟩)) | fail))
 ·refine ⟨_, _, _, rfl, rfl, by walk_at "lst", hlm, fun z1 hz1 => ?_⟩
  (repeat' (first | (with_reducible first | refine v_slice1 ?_ | refine kb1 ?_ | refine kb2 ?_ | refine k_bin ?_ | refine ev_int ?_ | refine op_add ?_ | fail) | walk_at "n" | fail))
  refine ⟨_, _, _, rfl, rfl, by walk_at "lst", hlm, fun z2 hz2 => ?_⟩
  have d1 := htl (clipAt (ls.map AV.str).length j)
  have d2 := hdl (clipAt (ls.map AV.str).length (j + 1))
  refine op_addl (by walk_at "lst") (by walk_at "lst") (by lia) fun z3 hz3 => ?_
  (repeat' (first | (with_reducible first | refine knret ?_ | refine kret ?_ | fail) | fail))
  exact fgq (by walk_at "sub") fun σ' s' l' e' => hq σ' z3 _ s' l' (by rw [e']; exact put_same.trans (by rw [cl1, cl2, sp1])) (tx1 hlen ho _)
 ·refine sub_strs (by walk_at "lst") hj0 hj1 (by lia) (fun y hy => ?_) (by intro _ _; with_unfolding_all rfl)
  (repeat' (first | (with_reducible first | refine ka1 ?_ | refine ka2 ?_ | refine ar_nil ?_ | fail) | fail))
  refine ⟨y, rfl, ho y (List.mem_of_getElem? hy), fun σ2 z2 os s2 l2 hz2 one ocnt olen => ?_⟩
  have opos : 0 < os.length := List.length_pos_iff.mpr one
  have opos' : (0 : Int) < ((os.map AV.str).length : Int) := by rw [List.length_map]; lia
  have fx2 := s2 _ _ (show (σ.set _ _).hp x = _ from fx)
  have sub2 : σ₁.Sub σ2 := fun a o e => s2 _ _ (sub _ _ e)
  (repeat' (first | (with_reducible first | refine knext ?_ | refine kb1 ?_ | refine kb2 ?_ | refine ka1 ?_ | refine ka2 ?_ | refine kcl ?_ | refine kset ?_ | refine k_xcons ?_ | refine k_bin ?_ | refine ev_int ?_ | refine ar_nil ?_ | refine k_sub ?_ | fail) | ((with_reducible refine k_assign (by walk_at "ok") ?qa ?qb ?_); (case qa => exact rfl); (case qb => exact rfl)) | walk_at "n" | ((with_reducible refine' k_callb (by walk_at "ok") ?qa ?qc ?qd ?qe ?qb ?qf ?_); (case qa => exact rfl); (case qb => decide); (case qc => k_is); (case qd => decide); (case qe => boot_by_name); (case qf => exact ⟨fun ux => rfl, fun ux => rfl⟩)) | walk_at "k" | ((with_reducible refine op_mod ?qa ?_); (case qa => walk_at "pos")) | ((with_reducible refine v_div (by walk_at "ok") ?qa ?_); (case qa => walk_at "pos")) | ((with_reducible refine' cl_len ?qa ?qb ?_); (case qa => walk_at "lst"); (case qb => walk_at "num")) | fail))
  refine sub_strs (by walk_at "lst") (mod_len opos).1 (mod_len opos).2 (by lia) (fun o ho' => ?_) (by intro _ _; with_unfolding_all rfl)
  have hol := olen o (List.mem_of_getElem? ho')
  (repeat' (first | (with_reducible first | refine v_slice0 ?_ | refine knext ?_ | refine kset ?_ | refine k_xcons ?_ | refine k_ret ?_ | refine k_bin ?_ | fail) | walk_at "n" | fail))
  refine ⟨_, _, _, rfl, rfl, by walk_at "lst", hlm, fun z1 hz1 => ?_⟩
  have d1 := htl (clipAt (ls.map AV.str).length j)
  have d2 := hdl (clipAt (ls.map AV.str).length (j + 1))
  (repeat' (first | (with_reducible first | refine kb1 ?_ | refine kb2 ?_ | refine ka1 ?_ | refine ka2 ?_ | refine ar_nil ?_ | refine v_list ?_ | fail) | walk_at "n" | walk_at "k" | ((with_reducible refine newl ?qa (fun _ _ => ?_)); (case qa => exact Nat.le_of_ble_eq_true rfl)) | fail))
  refine op_addl (by walk_at "lst") (by walk_at "lst") (by simp only [List.length_cons, List.length_nil]; lia) fun z3 hz3 => ?_
  (repeat' (first | (with_reducible first | refine v_slice1 ?_ | refine kb1 ?_ | refine kb2 ?_ | refine k_bin ?_ | refine ev_int ?_ | refine op_add ?_ | fail) | walk_at "n" | fail))
  refine ⟨_, _, _, rfl, rfl, by walk_at "lst", hlm, fun z4 hz4 => ?_⟩
  refine op_addl (by walk_at "lst") (by walk_at "lst") (by rw [List.length_append]; simp only [List.length_cons, List.length_nil]; lia) fun z5 hz5 => ?_
  (repeat' (first | (with_reducible first | refine knret ?_ | refine kret ?_ | fail) | fail))
  exact fgq (by walk_at "sub") fun σ' s' l' e' => hq σ' z5 _ s' l' (by rw [e']; exact put_same.trans (by rw [cl1, cl2, sp2])) (tx2 hlen ho _ hol hjn)
 ·refine ⟨_, _, _, rfl, rfl, by walk_at "lst", hlm, fun z1 hz1 => ?_⟩
  have d1 := htl (clipAt (ls.map AV.str).length j)
  have d2 := hdl (clipAt (ls.map AV.str).length j)
  (repeat' (first | (with_reducible first | refine kb1 ?_ | refine kb2 ?_ | refine v_list ?_ | refine k_sub ?_ | fail) | walk_at "n" | walk_at "k" | fail))
  refine sub_strs (by walk_at "lst") hj0 hj1 (by lia) (fun y hy => ?_) (by intro _ _; with_unfolding_all rfl)
  have hyl := line_len (ho y (List.mem_of_getElem? hy))
  (repeat' (first | (with_reducible first | refine kb2 ?_ | refine ka1 ?_ | refine ka2 ?_ | refine ar_nil ?_ | fail) | ((with_reducible refine newl ?qa (fun _ _ => ?_)); (case qa => exact Nat.le_of_ble_eq_true rfl)) | fail))
  refine op_addl (by walk_at "lst") (by walk_at "lst") (by simp only [List.length_cons, List.length_nil]; lia) fun z3 hz3 => ?_
  (repeat' (first | (with_reducible first | refine v_slice1 ?_ | refine kb1 ?_ | fail) | walk_at "n" | fail))
  refine ⟨_, _, _, rfl, rfl, by walk_at "lst", hlm, fun z4 hz4 => ?_⟩
  refine op_addl (by walk_at "lst") (by walk_at "lst") (by rw [List.length_append]; simp only [List.length_cons, List.length_nil]; lia) fun z5 hz5 => ?_
  (repeat' (first | (with_reducible first | refine knret ?_ | refine kret ?_ | fail) | fail))
  exact fgq (by walk_at "sub") fun σ' s' l' e' => hq σ' z5 _ s' l' (by rw [e']; exact put_same.trans (by rw [cl1, sp2])) (tx3 hlen ho _ (by lia))
 ·refine ⟨_, _, _, rfl, rfl, by walk_at "lst", hlm, fun z1 hz1 => ?_⟩
  have d1 := htl (clipAt (ls.map AV.str).length j)
  have d2 := hdl (clipAt (ls.map AV.str).length j)
  (repeat' (first | (with_reducible first | refine v_slice0 ?_ | refine kb1 ?_ | fail) | walk_at "n" | fail))
  refine ⟨_, _, _, rfl, rfl, by walk_at "lst", hlm, fun z2 hz2 => ?_⟩
  refine op_addl (by walk_at "lst") (by walk_at "lst") (by lia) fun z3 hz3 => ?_
  (repeat' (first | (with_reducible first | refine knret ?_ | refine kret ?_ | fail) | fail))
  exact fgq (by walk_at "sub") fun σ' s' l' e' => hq σ' z3 _ s' l' (by rw [e']; exact put_same.trans (by rw [cl1, sp4])) (tx4 hlen ho _)
 ·refine ⟨_, _, _, rfl, rfl, by walk_at "lst", hlm, fun z1 hz1 => ?_⟩
  have d1 := htl (clipAt (ls.map AV.str).length j)
  have d2 := hdl (clipAt (ls.map AV.str).length j)
  (repeat' (first | (with_reducible first | refine v_slice1 ?_ | refine kb1 ?_ | fail) | walk_at "n" | ((with_reducible refine' k_callt (by walk_at "ok") ?qa ?qc ?qd ?qe ?qb ?qf ?_); (case qa => exact rfl); (case qb => decide); (case qc => k_is); (case qd => decide); (case qe => boot_by_name); (case qf => exact ⟨fun ux => rfl, fun ux => rfl⟩)) | walk_at "k" | fail))
  refine ⟨_, _, _, rfl, rfl, by walk_at "lst", hlm, fun z2 hz2 => ?_⟩
  (repeat' (first | (with_reducible first | refine ka1 ?_ | refine ka2 ?_ | refine kcl ?_ | refine ar_nil ?_ | fail) | fail))
  refine cl_reversed (by walk_at "lst") fun y hy => ?_
  (repeat' (first | (with_reducible first | refine ka1 ?_ | refine ka2 ?_ | refine kcl ?_ | refine ar_nil ?_ | fail) | fail))
  refine cl_list_rev g.hh (x := z2) (l := (ls.map AV.str).drop (clipAt (ls.map AV.str).length j)) (by walk_at "lst") put_same (by lia) fun z3 σ3 hz3 k3 l3 f3 => ?_
  have g1 : σ3.hp z1 = some (.list ((ls.map AV.str).take (clipAt (ls.map AV.str).length j))) := k3 z1 _ (ne_new (o := .list ((ls.map AV.str).take (clipAt (ls.map AV.str).length j))) hy (by walk_at "hp")) (put_old hy (by walk_at "hp"))
  have s4 : σ₁.Sub (((σ.set (Str.ofString "_law_way") (.int (r % 8))).put z1 (.list ((ls.map AV.str).take (clipAt (ls.map AV.str).length j)))).put z2 (.list ((ls.map AV.str).drop (clipAt (ls.map AV.str).length j)))) := by walk_at "sub"
  have sub3 : σ₁.Sub σ3 := fun a o e => k3 a o (ne_new hy (s4 _ _ e)) (put_old hy (s4 _ _ e))
  refine op_addl (by walk_at "lst") (by walk_at "lst") (by rw [List.length_reverse]; lia) fun z5 hz5 => ?_
  (repeat' (first | (with_reducible first | refine knret ?_ | refine kret ?_ | fail) | fail))
  exact fgq (by walk_at "sub") fun σ' s' l' e' => hq σ' z5 _ s' l' (by rw [e']; exact put_same.trans (by rw [cl1, sp5])) (tx5 hlen ho _)
 ·refine op_addl (by walk_at "lst") (by walk_at "lst") (by simp only [List.length_cons, List.length_nil]; lia) fun z1 hz1 => ?_
  (repeat' (first | (with_reducible first | refine kb1 ?_ | refine kb2 ?_ | refine ka1 ?_ | refine ka2 ?_ | refine k_bin ?_ | refine ev_str ?_ | refine ar_nil ?_ | refine v_list ?_ | fail) | walk_at "n" | walk_at "k" | ((with_reducible refine newl ?qa (fun _ _ => ?_)); (case qa => exact Nat.le_of_ble_eq_true rfl)) | fail))
  refine op_addl (by walk_at "lst") (by walk_at "lst") (by simp only [List.length_cons, List.length_nil]; lia) fun z2 hz2 => ?_
  (repeat' (first | (with_reducible first | refine kb1 ?_ | refine kb2 ?_ | refine ka1 ?_ | refine ka2 ?_ | refine k_bin ?_ | refine ev_int ?_ | refine ar_nil ?_ | fail) | walk_at "n" | ((with_reducible refine newl ?qa (fun _ _ => ?_)); (case qa => exact Nat.le_of_ble_eq_true rfl)) | ((with_reducible refine op_mod ?qa ?_); (case qa => walk_at "pos")) | ((with_reducible refine v_div (by walk_at "ok") ?qa ?_); (case qa => walk_at "pos")) | fail))
  have hm : r / 8 % 2 = 0 ∨ r / 8 % 2 = 1 := by lia
  rcases hm with hm | hm
  ·rw [hm]
   refine sub_list' (.inl put_same) (by decide) (by decide) (a := .ref z1) rfl ?_ (by intro _ _; with_unfolding_all rfl)
   (repeat' (first | (with_reducible first | refine knret ?_ | refine kret ?_ | fail) | fail))
   exact fgq (by walk_at "sub") fun σ' s' l' e' => hq σ' z1 ([Str.ofString ""] ++ ls) s' l' (by rw [e', List.map_append]; show _ = some (AO.list ([AV.str (Str.ofString "")] ++ _)); walk_at "hp") (tx6 hlen ho)
  ·rw [hm]
   refine sub_list' (.inl put_same) (by decide) (by decide) (a := .ref z2) rfl ?_ (by intro _ _; with_unfolding_all rfl)
   (repeat' (first | (with_reducible first | refine knret ?_ | refine kret ?_ | fail) | fail))
   exact fgq (by walk_at "sub") fun σ' s' l' e' => hq σ' z2 (ls ++ [Str.ofString ""]) s' l' (by rw [e', List.map_append]; show _ = some (AO.list (_ ++ [AV.str (Str.ofString "")])); walk_at "hp") (tx7 hlen ho)
theorem c_lref (g : Fx prog (hK w.params) cx sc (n + 6)) {args : List Expr} {px : Pos} (hx : sc.names.lookup (Str.ofString "_law_refused") = some .globalImplicit) (hp : Plain (Str.ofString "_law_refused") px args pos)
  (h : WAr prog w cx pos args σ (A_lref Q) E) : WEv prog w cx (.Call (.Name (Str.ofString "_law_refused") px) args [] pos) σ Q E := by
 refine v_callf g.ok hx (by k_is) (by k_is) (by decide) hp (h.imp (fun l σ₁ ⟨x, hl, hz, h1, hq⟩ => ?_) fun ux ux e => e)
 subst hl
 refine call_pure (ps := [Str.ofString "_law_text"]) g (fn_of (by k_is) (by k_is) (by k_is) (len1 rfl fun ux => rfl) (by decide) rfl rfl rfl (by decide)) rfl fun cx g => ?_
 (repeat' (first | (with_reducible first | refine ka1 ?_ | refine ka2 ?_ | refine k_xcons ?_ | refine ar_nil ?_ | fail) | walk_at "n" | walk_at "k" | (with_reducible refine ex_try (by assumption) ?_) | ((with_reducible refine k_expr (by walk_at "ok") ?qa ?_); (case qa => (intro env; rfl))) | ((with_reducible refine c_read (by assumption) ?qa ?qb ?_); (case qa => exact rfl); (case qb => exact ⟨fun ux => rfl, fun ux => rfl⟩)) | fail))
 refine ⟨x, rfl, hz, fun _ C hC => ?_, fun k P hd => by rw [h1] at hd; cases hd⟩
 obtain rfl := nsEq hC (by k_is)
 refine hd_plain g.ok rfl (by k_is) (by kts_exm) (by decide) fun cx ok => ?_
 (repeat' (first | (with_reducible first | refine knret ?_ | refine kret ?_ | refine k_xcons ?_ | refine k_ret ?_ | refine ev_bool ?_ | fail) | fail))
 exact ⟨fun ux ux e => e, hq⟩
theorem c_lrefany (g : Fx prog (hK w.params) cx sc (n + 6)) {args : List Expr} {px : Pos} (hx : sc.names.lookup (Str.ofString "_law_refused_by_any") = some .globalImplicit) (hp : Plain (Str.ofString "_law_refused_by_any") px args pos)
  (h : WAr prog w cx pos args σ (A_lref Q) E) : WEv prog w cx (.Call (.Name (Str.ofString "_law_refused_by_any") px) args [] pos) σ Q E := by
 refine v_callf g.ok hx (by k_is) (by k_is) (by decide) hp (h.imp (fun l σ₁ ⟨x, hl, hz, h1, hq⟩ => ?_) fun ux ux e => e)
 subst hl
 refine call_pure (ps := [Str.ofString "_law_text"]) g (fn_of (by k_is) (by k_is) (by k_is) (len1 rfl fun ux => rfl) (by decide) rfl rfl rfl (by decide)) rfl fun cx g => ?_
 (repeat' (first | (with_reducible first | refine ka1 ?_ | refine ka2 ?_ | refine k_xcons ?_ | refine ar_nil ?_ | fail) | walk_at "n" | walk_at "k" | (with_reducible refine ex_try (by assumption) ?_) | ((with_reducible refine k_expr (by walk_at "ok") ?qa ?_); (case qa => (intro env; rfl))) | ((with_reducible refine c_read (by assumption) ?qa ?qb ?_); (case qa => exact rfl); (case qb => exact ⟨fun ux => rfl, fun ux => rfl⟩)) | fail))
 refine ⟨x, rfl, hz, fun _ C hC => ?_, fun k P hd => by rw [h1] at hd; cases hd⟩
 obtain rfl := nsEq hC (by k_is)
 refine hd_as g.ok rfl (by k_is) (by kts_exm) (by decide) rfl fun cx ex ok hex => ?_
 (repeat' (first | (with_reducible first | refine knret ?_ | refine ktb ?_ | refine ka1 ?_ | refine ka2 ?_ | refine kcl ?_ | refine kret ?_ | refine kvand ?_ | refine ku ?_ | refine k_xcons ?_ | refine k_ret ?_ | refine ar_nil ?_ | refine ev_one ?_ | refine k_vand ?_ | refine k_un ?_ | refine ev_tuple ?_ | refine op_not ?_ | refine ite_true' ?_ | fail) | walk_at "n" | ((with_reducible refine' v_gname (by walk_at "ok") ?qa ?qb ?qc ?qd ?_); (case qa => exact rfl); (case qb => decide); (case qc => k_is); (case qd => intro h; first | exact vr_int | exact vr_ref | exact vr_str)) | ((with_reducible refine' v_bname (by walk_at "ok") ?qa ?qb ?qc ?qd ?qe ?_); (case qa => exact rfl); (case qb => decide); (case qc => k_is); (case qd => decide); (case qe => boot_by_name)) | ((with_reducible refine' k_callb (by walk_at "ok") ?qa ?qc ?qd ?qe ?qb ?qf ?_); (case qa => exact rfl); (case qb => decide); (case qc => k_is); (case qd => decide); (case qe => boot_by_name); (case qf => exact ⟨fun ux => rfl, fun ux => rfl⟩)) | walk_at "k" | ((with_reducible refine And.intro ?qa ?_); (case qa => (show List.length _ ≤ sizeLine; exact Nat.le_of_ble_eq_true rfl))) | ((with_reducible refine' cl_isi_exc (by walk_at "ok") ?qz ?qx ?qa ?qb ?_); (case qx => walk_at "hp"); (case qz => exact ⟨by k_is, by k_is, by k_is, by k_is, by k_is, by k_is, by k_is, by k_is⟩); (case qa => exact fun ux ux q => q); (case qb => kit_is)) | ((with_reducible refine' cl_isi_exct (by walk_at "ok") ?qz ?qx ?qa ?qb ?_); (case qx => walk_at "hp"); (case qz => exact ⟨by k_is, by k_is, by k_is, by k_is, by k_is, by k_is, by k_is, by k_is⟩); (case qa => exact rfl); (case qb => kit_is)) | fail))
 exact ⟨AS.Sub.put (fun ux ux e => e) hex, hq⟩
end
section
variable {w : World} {cx : CX} {sc : Scope} {n : Nat} {σ : AS} {Q : AV → AS → Prop} {QF : AF → AS → Prop} {E : Value → AS → Prop} {pos : Pos} {prog : Program}
noncomputable def lawS : Scope := fnS hpw.main.body[34]?
noncomputable def lawB : List Stmt := fnB hpw.main.body[34]?
theorem e14 (g : Fx prog (hK w.params) cx lawS 30) {ns sx} (h : M14 TxOk ns sx σ) : WExs prog w cx (lawB.drop 5) σ (fun f ux => f = .ret (.bool true)) (fun ux ux => False) := by
 conv at g => arg 4; whnf
 show WExs _ _ _ (_ :: _) _ _ _
 obtain ⟨z, ls, hz, ht, lz, lsx, fs⟩ := h
 have e6 : sizeLine = 2 ^ 24 := rfl
 obtain ⟨hj, hjl⟩ := ht.join
 (repeat' (first | (with_reducible first | refine ka1 ?_ | refine ka2 ?_ | refine k_xcons ?_ | refine ev_str ?_ | refine ar_nil ?_ | fail) | ((with_reducible refine k_assign (by walk_at "ok") ?qa ?qb ?_); (case qa => exact rfl); (case qb => exact rfl)) | walk_at "n" | walk_at "k" | ((with_reducible refine v_join ?qa ?qb ?qc ?qd ?_); (case qa => (intro env; rfl)); (case qb => (intro env; rfl)); (case qc => exact rfl); (case qd => (intro env; rfl))) | (with_reducible refine ex_str ?_) | fail))
 refine cl_join (by walk_at "lst") hj ?_
 generalize Txt.join (Str.ofString "\n") ls = x at hjl ⊢
 obtain ⟨hx1, hx2⟩ := nl_len (x := x)
 (repeat' (first | (with_reducible first | refine knext ?_ | refine ka1 ?_ | refine ka2 ?_ | refine kset ?_ | refine k_xcons ?_ | refine ev_str ?_ | refine ar_nil ?_ | fail) | ((with_reducible refine k_assign (by walk_at "ok") ?qa ?qb ?_); (case qa => exact rfl); (case qb => exact rfl)) | walk_at "n" | walk_at "k" | ((with_reducible refine c_ldue (by assumption) ?qa ?qb ?_); (case qa => exact rfl); (case qb => exact ⟨fun ux => rfl, fun ux => rfl⟩)) | ((with_reducible refine v_split ?qa ?qb ?qc ?qd ?_); (case qa => (intro env; rfl)); (case qb => (intro env; rfl)); (case qc => exact rfl); (case qd => (intro env; rfl))) | (with_reducible refine ex_str ?_) | ((with_reducible refine cl_split ?qa ?qb (fun _ _ => ?_)); (case qa => decide); (case qb => lia)) | fail))
 rename_i D hD
 refine ⟨D, _, rfl, by walk_at "hp", by lia, fun y hy => by have := hx1 y hy; lia, fun q σ' s l => ?_, fun e P hd σ' o f s l ho hf => ?_⟩
 ·(repeat' (first | (with_reducible first | refine knext ?_ | refine kb1 ?_ | refine kb2 ?_ | refine ktb ?_ | refine ka1 ?_ | refine ka2 ?_ | refine kif ?_ | refine kset ?_ | refine k_xcons ?_ | refine k_if ?_ | refine k_ret ?_ | refine ev_none ?_ | refine ar_nil ?_ | refine k_vand ?_ | refine ite_true' ?_ | refine is_nn ?_ | fail) | walk_at "n" | walk_at "k" | ((with_reducible refine k_tcmp ?qa ?_); (case qa => with_unfolding_all rfl)) | ((with_reducible refine c_lref (by assumption) ?qa ?qb ?_); (case qa => exact rfl); (case qb => exact ⟨fun ux => rfl, fun ux => rfl⟩)) | fail))
  refine ⟨x, rfl, hjl, q, ?_⟩
  (repeat' (first | (with_reducible first | refine ktb ?_ | refine ka1 ?_ | refine ka2 ?_ | refine kvand ?_ | refine ar_nil ?_ | refine ev_one ?_ | refine ite_true' ?_ | fail) | walk_at "n" | walk_at "k" | ((with_reducible refine c_lrefany (by assumption) ?qa ?qb ?_); (case qa => exact rfl); (case qb => exact ⟨fun ux => rfl, fun ux => rfl⟩)) | fail))
  refine ⟨x, rfl, hjl, q, ?_⟩
  (repeat' (first | (with_reducible first | refine knret ?_ | refine kret ?_ | fail) | fail))
  exact rfl
 ·(repeat' (first | (with_reducible first | refine knext ?_ | refine kb1 ?_ | refine kb2 ?_ | refine ktb ?_ | refine ka1 ?_ | refine ka2 ?_ | refine kif ?_ | refine kset ?_ | refine exs_nil ?_ | refine k_xcons ?_ | refine k_if ?_ | refine ev_none ?_ | refine ar_nil ?_ | refine ite_false' ?_ | fail) | ((with_reducible refine k_assign (by walk_at "ok") ?qa ?qb ?_); (case qa => exact rfl); (case qb => exact rfl)) | walk_at "n" | walk_at "k" | ((with_reducible refine k_tcmp ?qa ?_); (case qa => with_unfolding_all rfl)) | (with_reducible refine is_tn ?_) | ((with_reducible refine c_read (by assumption) ?qa ?qb ?_); (case qa => exact rfl); (case qb => exact ⟨fun ux => rfl, fun ux => rfl⟩)) | fail))
  refine ⟨x, rfl, hjl, fun q => (by rw [show dueR 0 [] (rowsIn x) = _ from hd] at q; cases q), fun k P' hd' t σ2 y C dx S H t1 t2 s2 l2 hY ny ndx nS nH => ?_⟩
  obtain ⟨rfl, rfl⟩ : e = 2 ^ k ∧ P = P' := by rw [show dueR 0 [] (rowsIn x) = _ from hd] at hd'; cases hd'; exact ⟨rfl, rfl⟩
  obtain rfl := nsEq hY.is.cls (by k_is)
  have e1 := hY.is.y
  have e2 := hY.is.dx
  have ho2 := s2 _ _ (show (σ'.set _ _).hp o = _ from ho)
  have hf2 := s2 _ _ (show (σ'.set _ _).hp f = _ from hf)
  have hkk := hY.k60
  have hlen := hY.len
  have h60 := pow_le_60 hkk
  (repeat' (first | (with_reducible first | refine knext ?_ | refine knret ?_ | refine kb1 ?_ | refine kb2 ?_ | refine ktb ?_ | refine ka1 ?_ | refine ka2 ?_ | refine kif ?_ | refine kset ?_ | refine kret ?_ | refine knot ?_ | refine kor ?_ | refine exs_nil ?_ | refine k_xcons ?_ | refine k_if ?_ | refine k_ret ?_ | refine ev_int ?_ | refine ev_bool ?_ | refine ar_nil ?_ | refine k_not ?_ | refine tr_bool ?_ | refine tl_or_nil ?_ | refine k_or ?_ | refine k_sub ?_ | refine cmp_ne ?_ | refine ite_neg ?_ | refine ite_true' ?_ | refine ite_false' ?_ | fail) | walk_at "n" | walk_at "k" | ((with_reducible refine k_tcmp ?qa ?_); (case qa => with_unfolding_all rfl)) | with_reducible refine ite_bne (fun _ => ?_) (fun _ => ?_) | ((with_reducible refine' v_attr' (by walk_at "ok") ?qa ?_); (case qa => (intro env; rfl))) | ((with_reducible refine' at_attr ?qa ?qb ?qc ?qd ?qe ?qf ?qg ?qh ?_); (case qa => walk_at "hp"); (case qb => walk_at "hp"); (case qc => k_is); (case qd => k_is); (case qe => k_is); (case qf => k_is); (case qg => exact rfl); (case qh => exact rfl)) | ((with_reducible refine sub_t0 ?_ ?qa); (case qa => (intro _ _; with_unfolding_all rfl))) | ((with_reducible refine c_whole (by assumption) ?qa ?qb ?_); (case qa => exact rfl); (case qb => exact ⟨fun ux => rfl, fun ux => rfl⟩)) | (with_reducible refine a_whole ?_) | ((with_reducible refine k_tval ?qa ?_); (case qa => (intro env; rfl))) | fail))
  ·rename_i q
   exact absurd rfl q
  refine x_range40 g rfl (fun ux => rfl) ?_
  (repeat' (first | (with_reducible first | refine kb1 ?_ | refine kb2 ?_ | refine ka1 ?_ | refine ka2 ?_ | refine kcl ?_ | refine ev_int ?_ | refine ar_nil ?_ | refine k_sub ?_ | fail) | walk_at "n" | ((with_reducible refine' k_callb (by walk_at "ok") ?qa ?qc ?qd ?qe ?qb ?qf ?_); (case qa => exact rfl); (case qb => decide); (case qc => k_is); (case qd => decide); (case qe => boot_by_name); (case qf => exact ⟨fun ux => rfl, fun ux => rfl⟩)) | ((with_reducible refine' k_callt (by walk_at "ok") ?qa ?qc ?qd ?qe ?qb ?qf ?_); (case qa => exact rfl); (case qb => decide); (case qc => k_is); (case qd => decide); (case qe => boot_by_name); (case qf => exact ⟨fun ux => rfl, fun ux => rfl⟩)) | walk_at "k" | ((with_reducible refine' cl_len ?qa ?qb ?_); (case qa => walk_at "lst"); (case qb => walk_at "num")) | ((with_reducible refine sub_t1 ?_ ?qa); (case qa => (intro _ _; with_unfolding_all rfl))) | fail))
  rw [List.length_map]
  refine cl_range3 g.ok (by decide) fun ax hax => ?_
  refine ⟨ax, (outsP P).length, Y14 (hK w.params) k t P y _ dx S H o f, rfl, put_same, by lia, ⟨hY.sub (by walk_at "sub"), by walk_at "hp", by walk_at "hp", by walk_at "lk", by walk_at "lk"⟩, ?_, ?_⟩
  ·rintro m σ cx g hm ⟨hY, ho, hf, ly, ld⟩
   have e1 := hY.is.y
   have e2 := hY.is.dx
   (repeat' (first | (with_reducible first | refine kb1 ?_ | refine kb2 ?_ | refine ka1 ?_ | refine ka2 ?_ | refine kcl ?_ | refine k_xcons ?_ | refine k_bin ?_ | refine ev_int ?_ | refine ar_nil ?_ | refine k_sub ?_ | refine op_sub ?_ | fail) | ((with_reducible refine k_assign (by walk_at "ok") ?qa ?qb ?_); (case qa => exact rfl); (case qb => exact rfl)) | walk_at "n" | ((with_reducible refine' k_callb (by walk_at "ok") ?qa ?qc ?qd ?qe ?qb ?qf ?_); (case qa => exact rfl); (case qb => decide); (case qc => k_is); (case qd => decide); (case qe => boot_by_name); (case qf => exact ⟨fun ux => rfl, fun ux => rfl⟩)) | walk_at "k" | ((with_reducible refine' cl_len ?qa ?qb ?_); (case qa => walk_at "lst"); (case qb => walk_at "num")) | ((with_reducible refine sub_t1 ?_ ?qa); (case qa => (intro _ _; with_unfolding_all rfl))) | fail))
   rw [List.length_map]
   refine sub_prs (by walk_at "lst") (by lia) (by lia) (by lia) (fun p hp => ?_) (by intro _ _; with_unfolding_all rfl)
   have hpm := List.mem_of_getElem? hp
   have hps := hY.rep.psz hpm
   have hown : ownA (ownI (outsP P) (p.1 + p.2 - 1)) = .int p.1 := by
    rw [ownI_mem hY.rep.once hpm (by unfold ownP; simp only [decide_eq_true_eq]; lia)]
    rfl
   (repeat' (first | (with_reducible first | refine knext ?_ | refine kb1 ?_ | refine kb2 ?_ | refine ka1 ?_ | refine ka2 ?_ | refine kset ?_ | refine k_xcons ?_ | refine k_if ?_ | refine k_bin ?_ | refine ev_int ?_ | refine ar_nil ?_ | refine k_sub ?_ | refine op_add ?_ | refine op_sub ?_ | fail) | walk_at "n" | walk_at "k" | ((with_reducible refine k_tcmp ?qa ?_); (case qa => with_unfolding_all rfl)) | ((with_reducible refine sub_pr0 ?_ ?qa); (case qa => (intro _ _; with_unfolding_all rfl))) | ((with_reducible refine sub_pr1 ?_ ?qa); (case qa => (intro _ _; with_unfolding_all rfl))) | ((with_reducible refine' on_yd ?qa ?_); (case qa => exact IsYd.mk (by k_is) (by walk_at "hp") (by walk_at "hp"))) | ((with_reducible refine c_owner (by assumption) ?qa ?_); (case qa => exact ⟨⟨_, fun ux => rfl⟩, fun ux => rfl⟩)) | fail))
   refine ⟨_, rfl, k, t, _, dx, S, H, _, _, hY.sub (by walk_at "sub"), ?_⟩
   rw [hown]
   (repeat' (first | (with_reducible first | refine knext ?_ | refine knret ?_ | refine kb1 ?_ | refine kb2 ?_ | refine ktb ?_ | refine kif ?_ | refine kret ?_ | refine exs_nil ?_ | refine k_xcons ?_ | refine k_ret ?_ | refine ev_int ?_ | refine ev_bool ?_ | refine k_sub ?_ | refine cmp_ne ?_ | fail) | walk_at "n" | with_reducible refine ite_bne (fun _ => ?_) (fun _ => ?_) | ((with_reducible refine sub_pr0 ?_ ?qa); (case qa => (intro _ _; with_unfolding_all rfl))) | fail))
   ·rename_i q
    exact absurd rfl q
   ·exact ⟨hY.sub (by walk_at "sub"), by walk_at "hp", by walk_at "hp", by walk_at "lk", by walk_at "lk"⟩
  ·rintro σ ⟨hY, ho, hf, ly, ld⟩
   have e1 := hY.is.y
   have e2 := hY.is.dx
   (repeat' (first | (with_reducible first | refine knext ?_ | refine k_xcons ?_ | refine k_ret ?_ | refine k_vand ?_ | fail) | walk_at "n" | ((with_reducible refine k_cmp ?qa ?_); (case qa => with_unfolding_all rfl)) | ((with_reducible refine c_out (by assumption) ?qa ?_); (case qa => exact ⟨⟨_, fun ux => rfl⟩, fun ux => rfl⟩)) | fail))
   refine a_tell (hY.sub (by walk_at "sub")) (fun u1 hu1 => ?_)
   rw [t1]
   (repeat' (first | (with_reducible first | refine knret ?_ | refine kb1 ?_ | refine kb2 ?_ | refine ktb ?_ | refine kret ?_ | refine kvand ?_ | refine ev_int ?_ | refine ev_one ?_ | refine k_sub ?_ | fail) | walk_at "n" | ((with_reducible refine k_cmp ?qa ?_); (case qa => with_unfolding_all rfl)) | with_reducible refine ite_dec (fun _ => ?_) (fun _ => ?_) | ((with_reducible refine' cmp_eq_prs (by walk_at "ok") ?qa ?qb ?_); (case qa => walk_at "lst"); (case qb => walk_at "lst")) | ((with_reducible refine sub_t1 ?_ ?qa); (case qa => (intro _ _; with_unfolding_all rfl))) | ((with_reducible refine c_free (by assumption) ?qa ?_); (case qa => exact ⟨⟨_, fun ux => rfl⟩, fun ux => rfl⟩)) | fail))
   ·refine a_tell (hY.sub (by walk_at "sub")) (fun u2 hu2 => ?_)
    rw [t2]
    (repeat' (first | (with_reducible first | refine knret ?_ | refine kb1 ?_ | refine kb2 ?_ | refine kret ?_ | refine ev_int ?_ | refine k_sub ?_ | fail) | walk_at "n" | ((with_reducible refine' cmp_eq_prs (by walk_at "ok") ?qa ?qb ?_); (case qa => walk_at "lst"); (case qb => walk_at "lst")) | ((with_reducible refine sub_t2 ?_ ?qa); (case qa => (intro _ _; with_unfolding_all rfl))) | fail))
    rw [decide_eq_true (rfl : freesP P = freesP P)]
   ·rename_i q
    exact absurd rfl q
theorem d14 (g : Fx prog (hK w.params) cx lawS 30) {ns sx} (hns : ns.length ≤ 63) (h : M14 LnOk ns sx σ) : WExs prog w cx (lawB.drop 4) σ (fun f ux => f = .ret (.bool true)) (fun ux ux => False) := by
 have g' := g
 conv at g => arg 4; whnf
 show WExs _ _ _ (_ :: _) _ _ _
 obtain ⟨z, ls, hz, ⟨ne, len, ok⟩, lz, lsx, fs⟩ := h
 refine seq1 (M14 TxOk ns sx) (fun σ' h => e14 g' h) ?_
 clear g'
 (repeat' (first | (with_reducible first | refine kb1 ?_ | refine kb2 ?_ | refine ktb ?_ | refine ka1 ?_ | refine ka2 ?_ | refine kif ?_ | refine exs_nil ?_ | refine k_xcons ?_ | refine k_if ?_ | refine k_bin ?_ | refine ev_int ?_ | refine ar_nil ?_ | refine cmp_eq ?_ | fail) | ((with_reducible refine k_assign (by walk_at "ok") ?qa ?qb ?_); (case qa => exact rfl); (case qb => exact rfl)) | walk_at "n" | walk_at "k" | ((with_reducible refine k_tcmp ?qa ?_); (case qa => with_unfolding_all rfl)) | ((with_reducible refine op_mod ?qa ?_); (case qa => walk_at "pos")) | ((with_reducible refine v_div (by walk_at "ok") ?qa ?_); (case qa => walk_at "pos")) | with_reducible refine ite_beq (fun _ => ?_) (fun _ => ?_) | ((with_reducible refine c_spoilt (by assumption) ?qa ?qb ?_); (case qa => exact rfl); (case qb => exact ⟨fun ux => rfl, fun ux => rfl⟩)) | ((with_reducible refine c_cell (by assumption) ?qa ?qb ?_); (case qa => exact rfl); (case qb => exact ⟨fun ux => rfl, fun ux => rfl⟩)) | ((with_reducible refine' a_cell ?qa ?qb ?qc ?qd ?_); (case qa => walk_at "hp"); (case qb => with_reducible assumption); (case qc => lia); (case qd => lia)) | fail))
 ·refine ⟨z, _, ls, rfl, by walk_at "hp", ne, len, ok, fun σ' z' ls' s l hz' ht => ?_⟩
  have fs' := s _ _ fs
  (repeat' (first | (with_reducible first | refine knext ?_ | refine kset ?_ | refine exs_nil ?_ | fail) | fail))
  exact ksnil ⟨z', ls', by walk_at "hp", ht, by walk_at "lk", by walk_at "lk", by walk_at "hp"⟩
 ·exact ksnil ⟨z, ls, hz, tx0 len ok, lz, lsx, fs⟩
theorem c14 (g : Fx prog (hK w.params) cx lawS 30) {ns sx} (hns : ns.length ≤ 63) (h : L14 513 (2 ^ 60 + 64) ns sx σ) : WExs prog w cx (lawB.drop 3) σ (fun f ux => f = .ret (.bool true)) (fun ux ux => False) := by
 have g' := g
 conv at g => arg 4; whnf
 show WExs _ _ _ (_ :: _) _ _ _
 obtain ⟨z, ps, hz, ho, lz, lsx, fs⟩ := h
 refine seq1 (M14 LnOk ns sx) (fun σ' h => d14 g' hns h) ?_
 clear g'
 (repeat' (first | (with_reducible first | refine ka1 ?_ | refine ka2 ?_ | refine ar_nil ?_ | fail) | ((with_reducible refine k_assign (by walk_at "ok") ?qa ?qb ?_); (case qa => exact rfl); (case qb => exact rfl)) | walk_at "n" | walk_at "k" | ((with_reducible refine c_lines (by assumption) ?qa ?qb ?_); (case qa => exact rfl); (case qb => exact ⟨fun ux => rfl, fun ux => rfl⟩)) | fail))
 refine ⟨sx, z, ns, ps, rfl, by walk_at "hp", hns, by walk_at "hp", ho, fun σ' z' ls s l hz' h1 h2 h3 => ?_⟩
 have fs' := s _ _ fs
 (repeat' (first | with_reducible refine kset ?_ | fail))
 exact ksnil ⟨z', ls, by walk_at "hp", ⟨h1, h2, h3⟩, by walk_at "lk", by walk_at "lk", by walk_at "hp"⟩
theorem b14 (g : Fx prog (hK w.params) cx lawS 30) {ns sx} (hns : ns.length ≤ 63) (h : L14 512 (2 ^ 60) ns sx σ) : WExs prog w cx (lawB.drop 2) σ (fun f ux => f = .ret (.bool true)) (fun ux ux => False) := by
 have g' := g
 conv at g => arg 4; whnf
 show WExs _ _ _ (_ :: _) _ _ _
 obtain ⟨z, ps, hz, ho, lz, lsx, fs⟩ := h
 refine seq1 (L14 513 (2 ^ 60 + 64) ns sx) (fun σ' h => c14 g' hns h) ?_
 clear g'
 (repeat' (first | (with_reducible first | refine kb1 ?_ | refine kb2 ?_ | refine ktb ?_ | refine ka1 ?_ | refine ka2 ?_ | refine kif ?_ | refine exs_nil ?_ | refine k_xcons ?_ | refine k_if ?_ | refine k_bin ?_ | refine ev_int ?_ | refine ar_nil ?_ | refine cmp_eq ?_ | fail) | ((with_reducible refine k_assign (by walk_at "ok") ?qa ?qb ?_); (case qa => exact rfl); (case qb => exact rfl)) | walk_at "n" | walk_at "k" | ((with_reducible refine k_tcmp ?qa ?_); (case qa => with_unfolding_all rfl)) | ((with_reducible refine op_mod ?qa ?_); (case qa => walk_at "pos")) | with_reducible refine ite_beq (fun _ => ?_) (fun _ => ?_) | ((with_reducible refine c_row (by assumption) ?qa ?qb ?_); (case qa => exact rfl); (case qb => exact ⟨fun ux => rfl, fun ux => rfl⟩)) | ((with_reducible refine c_cell (by assumption) ?qa ?qb ?_); (case qa => exact rfl); (case qb => exact ⟨fun ux => rfl, fun ux => rfl⟩)) | ((with_reducible refine' a_cell ?qa ?qb ?qc ?qd ?_); (case qa => walk_at "hp"); (case qb => with_reducible assumption); (case qc => lia); (case qd => lia)) | fail))
 ·refine ⟨z, _, ps, rfl, by walk_at "hp", ho, fun σ' z' ps' s l hz' ho' => ?_⟩
  have fs' := s _ _ fs
  (repeat' (first | (with_reducible first | refine knext ?_ | refine kset ?_ | refine exs_nil ?_ | fail) | fail))
  exact ksnil ⟨z', ps', by walk_at "hp", ho', by walk_at "lk", by walk_at "lk", by walk_at "hp"⟩
 ·exact ksnil ⟨z, ps, hz, ho.mono (by decide) (by decide), lz, lsx, fs⟩
theorem a14 (g : Fx prog (hK w.params) cx lawS 30) {ns sx} (hns : ns.length ≤ 63) (h : L14 512 (2 ^ 60) ns sx σ) : WExs prog w cx (lawB.drop 1) σ (fun f ux => f = .ret (.bool true)) (fun ux ux => False) := by
 have g' := g
 conv at g => arg 4; whnf
 show WExs _ _ _ (_ :: _) _ _ _
 obtain ⟨z, ps, hz, ho, lz, lsx, fs⟩ := h
 refine seq1 (L14 512 (2 ^ 60) ns sx) (fun σ' h => b14 g' hns h) ?_
 clear g'
 have e6 : sizeLine = 2 ^ 24 := rfl
 (repeat' (first | (with_reducible first | refine kb1 ?_ | refine kb2 ?_ | refine ktb ?_ | refine ka1 ?_ | refine ka2 ?_ | refine kif ?_ | refine exs_nil ?_ | refine k_xcons ?_ | refine k_if ?_ | refine k_bin ?_ | refine ev_int ?_ | refine ar_nil ?_ | refine cmp_eq ?_ | fail) | walk_at "n" | walk_at "k" | ((with_reducible refine k_tcmp ?qa ?_); (case qa => with_unfolding_all rfl)) | ((with_reducible refine op_mod ?qa ?_); (case qa => walk_at "pos")) | ((with_reducible refine v_div (by walk_at "ok") ?qa ?_); (case qa => walk_at "pos")) | with_reducible refine ite_beq (fun _ => ?_) (fun _ => ?_) | ((with_reducible refine c_cell (by assumption) ?qa ?qb ?_); (case qa => exact rfl); (case qb => exact ⟨fun ux => rfl, fun ux => rfl⟩)) | ((with_reducible refine' a_cell ?qa ?qb ?qc ?qd ?_); (case qa => walk_at "hp"); (case qb => with_reducible assumption); (case qc => lia); (case qd => lia)) | fail))
 ·refine x_comp g.ok g.hh ⟨rfl, by decide, by decide, by decide, by decide, rfl⟩ rfl (swaps_comp g.ok rfl rfl (by decide)) ?_ (fun ux => rfl)
  (repeat' (first | (with_reducible first | refine kb1 ?_ | refine kb2 ?_ | refine ka1 ?_ | refine ka2 ?_ | refine k_bin ?_ | refine ev_int ?_ | refine ar_nil ?_ | fail) | walk_at "n" | ((with_reducible refine' k_callt (by walk_at "ok") ?qa ?qc ?qd ?qe ?qb ?qf ?_); (case qa => exact rfl); (case qb => decide); (case qc => k_is); (case qd => decide); (case qe => boot_by_name); (case qf => exact ⟨fun ux => rfl, fun ux => rfl⟩)) | walk_at "k" | ((with_reducible refine op_mod ?qa ?_); (case qa => walk_at "pos")) | ((with_reducible refine v_div (by walk_at "ok") ?qa ?_); (case qa => walk_at "pos")) | ((with_reducible refine c_cell (by assumption) ?qa ?qb ?_); (case qa => exact rfl); (case qb => exact ⟨fun ux => rfl, fun ux => rfl⟩)) | ((with_reducible refine c_doubled (by assumption) ?qa ?qb ?_); (case qa => exact rfl); (case qb => exact ⟨fun ux => rfl, fun ux => rfl⟩)) | ((with_reducible refine' a_cell ?qa ?qb ?qc ?qd ?_); (case qa => walk_at "hp"); (case qb => with_reducible assumption); (case qc => lia); (case qd => lia)) | fail))
  refine a_doubled (mod_nn (by decide)) (mod_lt (by decide) (by decide)) ?_
  have hm9 : (cellAt ns (Int.toNat 2) / 16 % 10).toNat ≤ 9 := mod_nat (by decide) (by decide)
  have h0 := pow_pos' (cellAt ns (Int.toNat 2) / 16 % 10).toNat
  have h9 := pow_le hm9
  generalize (2 : Int) ^ (cellAt ns (Int.toNat 2) / 16 % 10).toNat = m at h0 h9 ⊢
  (repeat' (first | (with_reducible first | refine ka1 ?_ | refine ka2 ?_ | refine kcl ?_ | refine ar_nil ?_ | fail) | ((with_reducible refine cl_range1 (fun _ _ => ?_))) | fail))
  rename_i ax hax
  refine ⟨_, fun ux => true, onF, iter_range put_same (by lia) (by lia), by rw [List.length_map, List.length_range]; lia, ?_, fun D hD => ?_⟩
  ·intro i a D acc cx' ha hD ok hh
   obtain ⟨hi, rfl⟩ := range_item ha
   refine ⟨ts_nil ⟨rfl, AS.Kept.refl _⟩, fun _ => ?_⟩
   (repeat' (first | (with_reducible first | refine ka1 ?_ | refine ka2 ?_ | refine ev_int ?_ | refine ar_nil ?_ | refine ev_tuple ?_ | fail) | walk_at "n" | walk_at "k" | ((with_reducible refine And.intro ?qa ?_); (case qa => (show List.length _ ≤ sizeLine; exact Nat.le_of_ble_eq_true rfl))) | fail))
   exact ⟨rfl, AS.Kept.refl _⟩
  rw [filt_on]
  (repeat' (first | (with_reducible first | refine knext ?_ | refine exs_nil ?_ | fail) | fail))
  exact ksnil ⟨D, onesP m.toNat, by walk_at "hp", ones_ok (by lia) (by lia), by walk_at "lk", by walk_at "lk", by walk_at "hp"⟩
 ·exact ksnil ⟨z, ps, hz, ho, lz, lsx, fs⟩
end
theorem law_holds : PySem.Challenge.rw_uf060009_14.Holds := by
 refine holds_law (by decide +kernel) (fun said => ?_); refine holds_open (q := hq) (loose := []) (Xt := hX) (XP := XL hq []) (Yf := hH.obs) (Ya := hH.val) (YP := hH.says) (N := 5016) hleft (Hook.of hH) (Hook.keeps hH) (fun s e => xl_of s (Bool.and_eq_true_iff.mp e).1) XL.keeps (by rfl) (by rfl) (by rfl) (fun s e => recFacts_of (Bool.and_eq_true_iff.mp e).2) (by rfl) said (by decide +kernel) ⟨rfl, rfl, rfl, rfl, rfl, by decide +kernel⟩ ⟨[.list []], by decide +kernel, by decide +kernel⟩ ?_
 exact (by
  k_fill
  intro w s₀ s₁ mg mb G Y fa o pm cd doc dV kV ho hd hcd hD hmg hg args vals as hpre hlay hrd hwl hlo
  have KX := kIn_of Y
  have X := (Ground.X G).1
  have V := (Ground.X G).2
  refine Ground.open G ?_
  intro T B D TE TW
  refine guard_noD D (by decide +kernel) ?_
  clear D
  obtain ⟨_, _, M⟩ := bmod_of_top T
  have TA := at_of_top T
  obtain ⟨_, _, he, B0⟩ := based_of_top T rfl hmg ho hd
  have he' : cd = _ := he
  subst he'
  clear he hmg
  wrow_args hpre hlay hrd hwl hlo
  first | refine callC_kw (enter_call ?_) | refine enter_call ?_
  w_top on
  try refine codeAny_mono ?_ (fun ux ux g => GoodW.toG g)
  have K0 := below_caller (Top.heap T)
  w_call any ho hd hcd hD T F
  clear hd TA
  k_drop
  rename Frag.In _ _ => KX
  rename Top _ _ _ _ _ _ => T
  rename Heap.IsList _ _ _ => hL
  rename IntsAre _ _ => hI
  rename Fr _ _ _ _ => F
  rename _ = #[] => hg
  refine law_top (glo_of T KX (by decide +kernel) rfl) hL hI F rfl rfl rfl rfl rfl (by decide) (fun f s' h k ho hg' => good_end (fun ux => rfl) (by wrow_post) hg k ho hg' h) (fun cx σ g hloc hhp => ?_)
  rename List Int => ns
  have hns : ns.length ≤ 63 := by lia
  rename Below _ _ _ _ => K0
  rename Heap.CodeRec _ _ _ => hcd
  rename Dflts _ _ _ _ _ _ => hD
  rename Ground _ _ _ _ _ _ _ _ _ => G
  clear K0 hD hcd F hL hI hg T KX G
  show WExs _ _ _ (_ :: _) _ _ _
  refine seq1 (fun σ' => ∃ sx, L14 512 (2 ^ 60) ns sx σ') (fun σ' ⟨sx, h⟩ => a14 g hns h) ?_
  (repeat' (first | (with_reducible first | refine ka1 ?_ | refine ka2 ?_ | refine ar_nil ?_ | fail) | ((with_reducible refine k_assign (by walk_at "ok") ?qa ?qb ?_); (case qa => exact rfl); (case qb => exact rfl)) | walk_at "n" | walk_at "k" | ((with_reducible refine c_halved (by assumption) ?qa ?qb ?_); (case qa => exact rfl); (case qb => exact ⟨fun ux => rfl, fun ux => rfl⟩)) | fail))
  refine ⟨_, ns, rfl, by walk_at "hp", hns, fun σ' z ps s l hz ho => ?_⟩
  have fs := s _ _ hhp
  (repeat' (first | with_reducible refine kset ?_ | fail))
  exact ksnil ⟨_, z, ps, by walk_at "hp", ho, by walk_at "lk", by walk_at "lk", by walk_at "hp"⟩)
end Mine
theorem PySem.Challenge.cw_uf060009_14_holds : PySem.Challenge.rw_uf060009_14.Holds :=
 Mine.law_holds
