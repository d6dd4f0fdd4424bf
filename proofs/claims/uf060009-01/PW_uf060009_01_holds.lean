import PyProof.Rows.All
import Wide.All
import OpenK.AllK
import Wide.FinOn
import Lean
import PySem.Challenge.RW_uf060009_01
namespace Mine
open PySem PySem.W PyProof.Rows PySem.Calls
set_option autoImplicit false
set_option linter.unusedVariables false

inductive AV where
  | none | bool (b : Bool) | int (i : Int) | str (x : Str) | tup (l : List AV) | ref (a : Addr) | raw (v : Value)

mutual
def VR (h : Heap) : AV → Value → Prop
  | .none, v => v = .none
  | .bool b, v => v = .bool b
  | .int i, v => ∃ t, v = .int i t
  | .str x, v => ∃ t, v = .str x t
  | .ref a, v => v = .ref a
  | .raw u, v => v = u
  | .tup l, v => ∃ a vs, v = .ref a ∧ h.TupAt a vs ∧ VRs h l vs
def VRs (h : Heap) : List AV → List Value → Prop
  | [], vs => vs = []
  | x :: l, vs => ∃ v r, vs = v :: r ∧ VR h x v ∧ VRs h l r
end

def VM (h h' : Heap) : Prop := ∀ b o xs n, h.get? b = some o → o.cls = .type "tuple" → o.data = .seq xs n → ∃ sl, h'.get? b = some { o with slots := sl }
theorem VM.refl (h : Heap) : VM h h := fun _ o _ _ e _ _ => ⟨o.slots, e⟩
theorem VM.trans {h₁ h₂ h₃ : Heap} (a : VM h₁ h₂) (b : VM h₂ h₃) : VM h₁ h₃ := fun x o xs n e c d => let ⟨sl, e'⟩ := a x o xs n e c d; let ⟨sl', e''⟩ := b x _ xs n e' c d; ⟨sl', e''⟩
theorem VM.of_keeps {h h' : Heap} (k : ∀ b o, h.get? b = some o → h'.get? b = some o) : VM h h' := fun b o _ _ e _ _ => ⟨o.slots, k b o e⟩
theorem VM.of_slots {h h' : Heap} (k : h.UpToSlots h') : VM h h' := fun b o _ _ e _ d => k b o e fun vs q => by rw [d] at q; cases q
mutual
theorem VR.mono {h h' : Heap} (k : VM h h') : ∀ (a : AV) {v : Value}, VR h a v → VR h' a v
  | .none, _, x => x
  | .bool _, _, x => x
  | .int _, _, x => x
  | .str _, _, x => x
  | .ref _, _, x => x
  | .raw _, _, x => x
  | .tup l, _, ⟨a, vs, e, ⟨o, n, h1, h2, h3⟩, r⟩ => let ⟨sl, h1'⟩ := k a o _ n h1 h2 h3; ⟨a, vs, e, ⟨_, n, h1', h2, h3⟩, VRs.mono k l r⟩
theorem VRs.mono {h h' : Heap} (k : VM h h') : ∀ (l : List AV) {vs : List Value}, VRs h l vs → VRs h' l vs
  | [], _, x => x
  | a :: l, _, ⟨v, r, e, x, y⟩ => ⟨v, r, e, VR.mono k a x, VRs.mono k l y⟩
end
theorem VRs.length {h : Heap} : ∀ {l : List AV} {vs : List Value}, VRs h l vs → vs.length = l.length
  | [], _, e => by rw [show _ = [] from e]; rfl
  | _ :: _, _, ⟨_, _, e, _, y⟩ => by rw [e, List.length_cons, List.length_cons, y.length]
theorem VRs.get {h : Heap} : ∀ {l : List AV} {vs : List Value}, VRs h l vs → ∀ {i : Nat} {a : AV}, l[i]? = some a → ∃ v, vs[i]? = some v ∧ VR h a v
  | [], _, _, _, _, e => by simp at e
  | x :: l, _, ⟨v, r, rfl, p, q⟩, 0, a, e => by simp at e; subst e; exact ⟨v, rfl, p⟩
  | x :: l, _, ⟨v, r, rfl, p, q⟩, i + 1, a, e => by
    rw [List.getElem?_cons_succ] at e
    obtain ⟨u, h1, h2⟩ := q.get e
    exact ⟨u, by rw [List.getElem?_cons_succ]; exact h1, h2⟩
theorem VRs.snoc {h : Heap} : ∀ {l : List AV} {vs : List Value} {a : AV} {v : Value}, VRs h l vs → VR h a v → VRs h (l ++ [a]) (vs ++ [v])
  | [], _, _, v, e, x => by rw [show _ = [] from e]; exact ⟨v, [], rfl, x, rfl⟩
  | _ :: _, _, _, _, ⟨u, r, e, p, q⟩, x => by rw [e]; exact ⟨u, _, rfl, p, q.snoc x⟩
theorem VRs.append {h : Heap} : ∀ {l l' : List AV} {vs vs' : List Value}, VRs h l vs → VRs h l' vs' → VRs h (l ++ l') (vs ++ vs')
  | [], _, _, _, e, x => by rw [show _ = [] from e]; exact x
  | _ :: _, _, _, _, ⟨u, r, e, p, q⟩, x => by rw [e]; exact ⟨u, _, rfl, p, q.append x⟩

inductive AO where
  | list (l : List AV)
  | dict (d : List (Int × AV))
  | inst (C dx : Addr)
  | attrs (fs : List (Str × AV))
  | exc (C : Value)
  | range (a b c : Int)
  | ro (l : List AV)
def AO.isRo : AO → Bool | .ro _ => true | _ => false

def ESR (P : Params) (h : Heap) : List (Str × AV) → List DictEntry → Prop
  | [], es => es = []
  | (x, a) :: r, es => ∃ t v es', es = ⟨PyData.keyHash P x, .str x t, v⟩ :: es' ∧ VR h a v ∧ ESR P h r es'
theorem ESR.mono {P : Params} {h h' : Heap} (k : VM h h') : ∀ {fs : List (Str × AV)} {es : List DictEntry}, ESR P h fs es → ESR P h' fs es
  | [], _, e => e
  | (_, a) :: _, _, ⟨t, v, es', e, x, y⟩ => ⟨t, v, es', e, VR.mono k a x, y.mono k⟩
def KVR (h : Heap) : List (Int × AV) → List (Int × Value) → Prop
  | [], kvs => kvs = []
  | (i, a) :: r, kvs => ∃ v kvs', kvs = (i, v) :: kvs' ∧ VR h a v ∧ KVR h r kvs'
theorem KVR.mono {h h' : Heap} (k : VM h h') : ∀ {d : List (Int × AV)} {kvs : List (Int × Value)}, KVR h d kvs → KVR h' d kvs
  | [], _, e => e
  | (_, a) :: _, _, ⟨v, kvs', e, x, y⟩ => ⟨v, kvs', e, VR.mono k a x, y.mono k⟩

def OR (prog : Program) (w : World) (h : Heap) (a : Addr) : AO → Prop
  | .list l => ∃ vs, h.PlainList a (List.toArray vs) ∧ VRs h l vs
  | .dict d => ∃ kvs, h.DictOf (PySem.intKind prog w) a kvs ∧ KVR h d kvs ∧ (a == sysModules) = false
  | .inst C dx => h.get? a = some (instObj C dx)
  | .attrs fs => ∃ es n, h.get? a = some (dictOf es n) ∧ ESR w.params h fs es
  | .exc C => ∃ o vs, h.get? a = some o ∧ o.cls = C ∧ o.data = .fields vs
  | .range x y z => ∃ t u v, IsRange h a x y z t u v
  | .ro l => ∃ vs, h.IsList a (List.toArray vs) ∧ VRs h l vs

theorem OR.at {prog : Program} {w : World} {h h' : Heap} {a : Addr} (k : VM h h') (e : ∀ o, h.get? a = some o → h'.get? a = some o) : ∀ {x : AO}, OR prog w h a x → OR prog w h' a x
  | .list l, ⟨vs, ⟨n, p⟩, r⟩ => ⟨vs, ⟨n, e _ p⟩, r.mono k⟩
  | .dict d, ⟨kvs, ⟨o, es, ep, ho, q⟩, r, lo⟩ => ⟨kvs, ⟨o, es, ep, e _ ho, q⟩, r.mono k, lo⟩
  | .inst C dx, p => e _ p
  | .attrs fs, ⟨es, n, p, q⟩ => ⟨es, n, e _ p, q.mono k⟩
  | .exc C, ⟨o, vs, p, q⟩ => ⟨o, vs, e _ p, q⟩
  | .range _ _ _, ⟨t, u, v, p⟩ => ⟨t, u, v, e _ p⟩
  | .ro l, ⟨vs, ⟨o, p, q⟩, r⟩ => ⟨vs, ⟨o, e _ p, q⟩, r.mono k⟩
/-- an abstract object is no tuple -/
theorem OR.there {prog : Program} {w : World} {h : Heap} {a : Addr} : ∀ {x : AO}, OR prog w h a x → ∃ o, h.get? a = some o ∧ ∀ xs n, o.cls = .type "tuple" → o.data ≠ .seq xs n
  | .list l, ⟨vs, ⟨n, p⟩, r⟩ => ⟨_, p, by simp⟩
  | .dict d, ⟨kvs, ⟨o, es, ep, ho, q⟩, r, lo⟩ => ⟨o, ho, by rw [q.1.1]; simp⟩
  | .inst C dx, p => ⟨_, p, by simp⟩
  | .attrs fs, ⟨es, n, p, q⟩ => ⟨_, p, by simp⟩
  | .exc C, ⟨o, vs, p, q⟩ => ⟨o, p, by intro xs n _ e; rw [q.2] at e; cases e⟩
  | .range _ _ _, ⟨t, u, v, p⟩ => ⟨_, p, by simp⟩
  | .ro l, ⟨vs, ⟨o, p, q, _⟩, r⟩ => ⟨o, p, by rw [q]; simp⟩

structure AS where
  loc : Str → Option AV
  hp : Addr → Option AO
def AS.set (σ : AS) (x : Str) (v : AV) : AS := ⟨fun y => if y = x then some v else σ.loc y, σ.hp⟩
def AS.put (σ : AS) (a : Addr) (o : AO) : AS := ⟨σ.loc, fun b => if b = a then some o else σ.hp b⟩
/-- fewer facts -/
def AS.Le (σ' σ : AS) : Prop := (∀ x v, σ'.loc x = some v → σ.loc x = some v) ∧ ∀ a o, σ'.hp a = some o → σ.hp a = some o

structure CX where
  A : Around
  env : Env
  fenv : Env
  outer : List Env
  base : Heap
  P : Addr → Obj → Prop
  N : Addr → (Str → Option Value) → Prop
  gens : Array GenState
  drawn : Drawn
  os : OsState

def LocAt (h : Heap) (env : Env) (x : Str) (v : Value) : Prop :=
  match env.kindOf x with
  | some .local => ∃ m, h.Ns env.locals m ∧ m x = some v
  | some .cell => ∃ c o, env.cells.lookup x = some c ∧ h.get? c = some o ∧ o.data = .cell (some v)
  | some .free => ∃ c o, env.cells.lookup x = some c ∧ h.get? c = some o ∧ o.data = .cell (some v)
  | _ => False

def CX.frames (cx : CX) : List Addr := (cx.fenv :: cx.outer).filterMap (·.frame)
/-- the frame's own: its locals, its cells -/
def CX.own (cx : CX) (a : Addr) : Prop := a = cx.env.locals ∨ ∃ x, cx.env.cells.lookup x = some a

structure R (prog : Program) (w : World) (cx : CX) (σ : AS) (s : Shared) : Prop where
  stay : cx.base.StaysIn s.heap
  ff : s.heap.FunFrames cx.base (cx.fenv :: cx.outer)
  ns : ∃ m, s.heap.Ns cx.env.locals m
  loc : ∀ x v, σ.loc x = some v → ∃ u, LocAt s.heap cx.env x u ∧ VR s.heap v u
  pr : ∀ b o, cx.P b o → s.heap.get? b = some o ∧ b ∉ cx.frames
  pn : ∀ b m, cx.N b m → s.heap.Ns b m ∧ b ∈ cx.frames
  ob : ∀ a ao, σ.hp a = some ao → OR prog w s.heap a ao ∧ (ao.isRo = false → cx.base.get? a = none) ∧ (∀ o, ¬ cx.P a o) ∧ ¬ cx.own a ∧ ∀ e ∈ cx.fenv :: cx.outer, e.frame ≠ some a
  own : ∀ a, cx.own a → cx.base.get? a = none ∧ (∀ o, ¬ cx.P a o) ∧ ∀ m, ¬ cx.N a m
  cel : ∀ x c, cx.env.cells.lookup x = some c → c ≠ cx.env.locals ∧ (∃ o v, s.heap.get? c = some o ∧ o.data = .cell v) ∧ ∀ e ∈ cx.fenv :: cx.outer, e.frame ≠ some c
  oth : ∀ e ∈ cx.outer, e.frame ≠ some cx.env.locals
  gens : s.gens = cx.gens
  drawn : s.drawn = cx.drawn
  os : s.os = cx.os
end Mine

namespace Mine
open PySem PySem.W PyProof.Rows PySem.Calls
set_option autoImplicit false
set_option linter.unusedVariables false
section
variable {prog : Program} {w : World} {cx : CX} {σ σ' : AS} {s : Shared}

theorem LocAt.grow {h h' : Heap} {env : Env} {x : Str} {v : Value} (k : ∀ b o, h.get? b = some o → h'.get? b = some o) (l : LocAt h env x v) : LocAt h' env x v := by
  unfold LocAt at *
  split at l
  · obtain ⟨m, a, b⟩ := l; exact ⟨m, a.keeps k, b⟩
  · obtain ⟨c, o, a, b, d⟩ := l; exact ⟨c, o, a, k _ _ b, d⟩
  · obtain ⟨c, o, a, b, d⟩ := l; exact ⟨c, o, a, k _ _ b, d⟩
  · exact l

theorem R.grow {h' : Heap} {tk : Nat} (r : R prog w cx σ s) (k : ∀ b o, s.heap.get? b = some o → h'.get? b = some o) : R prog w cx σ { s with heap := h', toks := tk } where
  stay := fun b o e => k b o (r.stay b o e)
  ff := r.ff.of_keeps fun b o e _ => ⟨o, k b o e, rfl⟩
  ns := let ⟨m, a⟩ := r.ns; ⟨m, a.keeps k⟩
  loc := fun x v e => let ⟨u, a, b⟩ := r.loc x v e; ⟨u, a.grow k, b.mono (VM.of_keeps k)⟩
  pr := fun b o e => let ⟨a, c⟩ := r.pr b o e; ⟨k _ _ a, c⟩
  pn := fun b m e => let ⟨a, c⟩ := r.pn b m e; ⟨a.keeps k, c⟩
  ob := fun a ao e => let ⟨p, q⟩ := r.ob a ao e; ⟨p.at (VM.of_keeps k) fun o => k a o, q⟩
  own := r.own
  cel := fun x c e => let ⟨p, ⟨o, v, q1, q2⟩, q3⟩ := r.cel x c e; ⟨p, ⟨o, v, k _ _ q1, q2⟩, q3⟩
  oth := r.oth
  gens := r.gens
  drawn := r.drawn
  os := r.os
theorem R.tok {tk : Nat} (r : R prog w cx σ s) : R prog w cx σ { s with toks := tk } := r.grow (h' := s.heap) fun _ _ e => e
theorem R.le (r : R prog w cx σ s) (l : σ'.Le σ) : R prog w cx σ' s :=
  { r with loc := fun x v e => r.loc x v (l.1 x v e), ob := fun a ao e => r.ob a ao (l.2 a ao e) }

theorem ns_data {h : Heap} {a : Addr} {m : Str → Option Value} (n : h.Ns a m) : ∃ o es ep, h.get? a = some o ∧ o.data = .dict es ep := let ⟨o, es, ep, a, b, _⟩ := n; ⟨o, es, ep, a, b⟩

/-- a change at one address that the frame owns -/
theorem R.ownSet {h' : Heap} {tk : Nat} {a : Addr} {o₀ o₁ : Obj} (r : R prog w cx σ s) (ha : cx.own a) (hs : Heap.SameBut a s.heap h') (h0 : s.heap.get? a = some o₀) (h1 : h'.get? a = some o₁)
    (n0 : ∀ xs n, o₀.data ≠ .seq xs n) (nf : (∀ vs, o₀.data ≠ .fields vs) → ∀ vs, o₁.data ≠ .fields vs) (hns : ∃ m, h'.Ns cx.env.locals m) (hcel : ∀ x c, cx.env.cells.lookup x = some c → ∃ o v, h'.get? c = some o ∧ o.data = .cell v)
    (hloc : ∀ x v, σ'.loc x = some v → ∃ u, LocAt h' cx.env x u ∧ VR h' v u) (hhp : σ'.hp = σ.hp) : R prog w cx σ' { s with heap := h', toks := tk } ∧ VM s.heap h' := by
  have keep : ∀ b o, b ≠ a → s.heap.get? b = some o → h'.get? b = some o := fun b o n e => (hs.2 b n).trans e
  have vm : VM s.heap h' := fun b o xs n e _ d => ⟨o.slots, keep b o (fun q => by subst q; rw [h0] at e; cases e; exact n0 _ _ d) e⟩
  have fff : ∀ l, s.heap.FunFrames cx.base l → h'.FunFrames cx.base l := by
    intro l
    induction l with
    | nil => exact fun _ => trivial
    | cons e l ih =>
      rintro ⟨hk, ⟨L, o, hf, hn, ho, hd⟩, hr⟩
      refine ⟨hk, ?_, ih hr⟩
      by_cases q : L = a
      · subst q; rw [h0] at ho; cases ho; exact ⟨L, o₁, hf, hn, h1, nf hd⟩
      · exact ⟨L, o, hf, hn, keep L o q ho, hd⟩
  refine ⟨⟨fun b o e => ?_, fff _ r.ff, hns, hloc, fun b o e => ?_, fun b m e => ?_, fun b ao e => ?_, r.own, fun x c e => ?_, r.oth, r.gens, r.drawn, r.os⟩, vm⟩
  · refine keep b o (fun q => ?_) (r.stay b o e)
    subst q; rw [(r.own b ha).1] at e; cases e
  · obtain ⟨e', f⟩ := r.pr b o e
    exact ⟨keep b _ (fun q => by subst q; exact (r.own b ha).2.1 o e) e', f⟩
  · obtain ⟨⟨o, es, ep, e1, e2⟩, f⟩ := r.pn b m e
    exact ⟨⟨o, es, ep, keep b o (fun q => by subst q; exact (r.own b ha).2.2 m e) e1, e2⟩, f⟩
  · rw [hhp] at e
    obtain ⟨p, q1, q2, q3, q4⟩ := r.ob b ao e
    exact ⟨p.at vm fun o e' => keep b o (fun q => by subst q; exact q3 ha) e', q1, q2, q3, q4⟩
  · obtain ⟨p, _, q3⟩ := r.cel x c e
    exact ⟨p, hcel x c e, q3⟩

/-- a name of the frame is stored -/
theorem R.storeL {h' : Heap} {tk : Nat} {x : Str} {v : AV} {u : Value} {m : Str → Option Value} (r : R prog w cx σ s) (hk : cx.env.kindOf x = some .local) (hn : s.heap.Ns cx.env.locals m) (hv : VR s.heap v u)
    (hn' : h'.Ns cx.env.locals (fun y => if y = x then some u else m y)) (hs : Heap.SameBut cx.env.locals s.heap h') : R prog w cx (σ.set x v) { s with heap := h', toks := tk } ∧ VM s.heap h' := by
  obtain ⟨o₀, es, ep, h0, d0⟩ := ns_data hn
  obtain ⟨o₁, es₁, ep₁, h1, d1⟩ := ns_data hn'
  have vm : VM s.heap h' := fun b o xs n e _ d => ⟨o.slots, (hs.2 b (fun q => by subst q; rw [h0] at e; cases e; rw [d0] at d; cases d)).trans e⟩
  refine r.ownSet (.inl rfl) hs h0 h1 (by intro xs n; rw [d0]; simp) (by intro _ vs; rw [d1]; simp) ⟨_, hn'⟩ (fun y c e => ?_) (fun y a e => ?_) rfl
  · obtain ⟨p, ⟨o, v', q1, q2⟩, _⟩ := r.cel y c e
    exact ⟨o, v', (hs.2 c p).trans q1, q2⟩
  · unfold AS.set at e
    dsimp only at e
    split at e
    · rename_i q; subst q; cases e
      exact ⟨u, by unfold LocAt; rw [hk]; exact ⟨_, hn', by simp⟩, hv.mono vm⟩
    · rename_i q
      obtain ⟨u', l, b⟩ := r.loc y a e
      refine ⟨u', ?_, b.mono vm⟩
      unfold LocAt at l ⊢
      split at l
      · obtain ⟨m', a1, a2⟩ := l
        have : m' = m := by
          obtain ⟨o1, e1, p1, f1, f2, f3, f4⟩ := a1
          obtain ⟨o2, e2, p2, g1, g2, g3, g4⟩ := hn
          rw [f1] at g1; cases g1; rw [f2] at g2; cases g2
          funext z; rw [← f4 z, ← g4 z]
        exact ⟨_, hn', by rw [if_neg q, ← this]; exact a2⟩
      · obtain ⟨c, o, a1, a2, a3⟩ := l
        exact ⟨c, o, a1, (hs.2 c (r.cel y c a1).1).trans a2, a3⟩
      · obtain ⟨c, o, a1, a2, a3⟩ := l
        exact ⟨c, o, a1, (hs.2 c (r.cel y c a1).1).trans a2, a3⟩
      · exact l

/-- an object of the abstract heap is changed -/
theorem R.upd {h' : Heap} {tk : Nat} {a : Addr} {ao ao' : AO} (r : R prog w cx σ s) (ha : σ.hp a = some ao) (hro : ao.isRo = false) (keep : ∀ b o, b ≠ a → s.heap.get? b = some o → h'.get? b = some o) (ho : VM s.heap h' → OR prog w h' a ao') :
    R prog w cx (σ.put a ao') { s with heap := h', toks := tk } ∧ VM s.heap h' := by
  obtain ⟨p, q1, q2, q3, q4⟩ := r.ob a ao ha
  replace q1 := q1 hro
  obtain ⟨o₀, h0, n0⟩ := p.there
  have vm : VM s.heap h' := fun b o xs n e c d => ⟨o.slots, keep b o (fun q => by subst q; rw [h0] at e; cases e; exact n0 xs n c d) e⟩
  have ho := ho vm
  have ownNe : ∀ b, cx.own b → b ≠ a := fun b hb q => by subst q; exact q3 hb
  refine ⟨⟨fun b o e => ?_, ?_, ?_, fun x v e => ?_, fun b o e => ?_, fun b m e => ?_, fun b bo e => ?_, r.own, fun x c e => ?_, r.oth, r.gens, r.drawn, r.os⟩, vm⟩
  · exact keep b o (fun q => by subst q; rw [q1] at e; cases e) (r.stay b o e)
  · have : ∀ l, (∀ e ∈ l, e.frame ≠ some a) → s.heap.FunFrames cx.base l → h'.FunFrames cx.base l := by
      intro l
      induction l with
      | nil => exact fun _ _ => trivial
      | cons e l ih =>
        rintro hne ⟨hk, ⟨L, o, hf, hn, ho, hd⟩, hr⟩
        exact ⟨hk, ⟨L, o, hf, hn, keep L o (fun q => hne e (.head _) (by rw [hf, q])) ho, hd⟩, ih (fun e he => hne e (.tail _ he)) hr⟩
    exact this _ q4 r.ff
  · obtain ⟨m, o, es, ep, e1, e2⟩ := r.ns
    exact ⟨m, o, es, ep, keep _ o (ownNe _ (.inl rfl)) e1, e2⟩
  · obtain ⟨u, l, b⟩ := r.loc x v e
    refine ⟨u, ?_, b.mono vm⟩
    unfold LocAt at l ⊢
    split at l
    · obtain ⟨m, ⟨o, es, ep, e1, e2⟩, a2⟩ := l
      exact ⟨m, ⟨o, es, ep, keep _ o (ownNe _ (.inl rfl)) e1, e2⟩, a2⟩
    · obtain ⟨c, o, a1, a2, a3⟩ := l
      exact ⟨c, o, a1, keep c o (ownNe c (.inr ⟨x, a1⟩)) a2, a3⟩
    · obtain ⟨c, o, a1, a2, a3⟩ := l
      exact ⟨c, o, a1, keep c o (ownNe c (.inr ⟨x, a1⟩)) a2, a3⟩
    · exact l
  · obtain ⟨e', f⟩ := r.pr b o e
    exact ⟨keep b _ (fun q => by subst q; exact q2 o e) e', f⟩
  · obtain ⟨⟨o, es, ep, e1, e2⟩, f⟩ := r.pn b m e
    refine ⟨⟨o, es, ep, keep b o (fun q => ?_) e1, e2⟩, f⟩
    subst q
    obtain ⟨en, he, hf⟩ := List.mem_filterMap.mp f
    exact q4 en he hf
  · unfold AS.put at e
    dsimp only at e
    split at e
    · rename_i q; subst q; cases e; exact ⟨ho, fun _ => q1, q2, q3, q4⟩
    · rename_i q
      obtain ⟨p', q'⟩ := r.ob b bo e
      exact ⟨p'.at vm fun o e' => keep b o q e', q'⟩
  · obtain ⟨p', ⟨o, v, c1, c2⟩, c3⟩ := r.cel x c e
    exact ⟨p', ⟨o, v, keep c o (ownNe c (.inr ⟨x, e⟩)) c1, c2⟩, c3⟩

/-- a new object -/
theorem R.new {h' : Heap} {tk : Nat} {a : Addr} {ao : AO} (r : R prog w cx σ s) (hn : s.heap.get? a = none) (keep : ∀ b o, s.heap.get? b = some o → h'.get? b = some o) (ho : OR prog w h' a ao) :
    R prog w cx (σ.put a ao) { s with heap := h', toks := tk } := by
  have g := r.grow (tk := tk) keep
  have fresh : ∀ b o, s.heap.get? b = some o → b ≠ a := fun b o e q => by subst q; rw [hn] at e; cases e
  refine { g with ob := fun b bo e => ?_ }
  unfold AS.put at e
  dsimp only at e
  split at e
  · rename_i q; subst q; cases e
    refine ⟨ho, fun _ => ?_, fun o e => ?_, fun hb => ?_, fun e he hf => ?_⟩
    · cases q : cx.base.get? b with
      | none => rfl
      | some o => exact absurd rfl (fresh _ _ (r.stay b o q))
    · exact absurd rfl (fresh _ _ (r.pr b o e).1)
    · rcases hb with q | ⟨x, q⟩
      · obtain ⟨m, o, es, ep, e1, _⟩ := r.ns
        exact fresh _ _ e1 q.symm
      · obtain ⟨_, ⟨o, v, c1, _⟩, _⟩ := r.cel x b q
        exact absurd rfl (fresh _ _ c1)
    · obtain ⟨_, o, h1, _⟩ := r.ff.mem (List.mem_filterMap.mpr ⟨e, he, hf⟩)
      exact absurd rfl (fresh _ _ h1)
  · exact g.ob b bo e
end
end Mine

namespace Mine
open PySem PySem.W PyProof.Rows PySem.Calls
set_option autoImplicit false
set_option linter.unusedVariables false

/-- what the whole run gives: the written part, the globals, the built-ins -/
structure Glo (prog : Program) (K : Frag) (base : Heap) : Prop where
  KX : K.In base
  g : ∃ mg, base.Ns mainGlobals mg
  b : ∃ mb, base.Ns builtinsNs mb ∧ ∀ x : Str, x ≠ "__name__" → mb x = bootBuiltins x
  nolimit : base.NoLimit
  seer : base.NoSeer
  tree : prog.given.tree = none
  top : ∃ p loose mg mb, TopRead p loose mg mb base

structure Ok (prog : Program) (K : Frag) (cx : CX) (sc : Scope) (n : Nat) : Prop where
  glo : Glo prog K cx.base
  fr : cx.A.frames = some (cx.fenv :: cx.outer)
  scope : cx.env.scope = sc
  kind : sc.kind = .function
  frame : cx.env.frame = cx.fenv.frame
  glob : cx.env.globals = mainGlobals
  bi : cx.env.builtins = builtinsNs
  fgen : cx.fenv.scope.isGenerator = false
  fco : cx.fenv.scope.isCoroutine = false
  fglob : cx.fenv.globals = mainGlobals
  fbi : cx.fenv.builtins = builtinsNs
  fkind : cx.fenv.scope.kind = .function
  depth : cx.A.depth + 4 * n + 140 < recursionLimit
  units : cx.A.units + 16 * n + 200 < cLine

/-- an exception on its way, in the frame -/
def ExSt (B : Heap) (L : Addr) (e : Addr) (C : Value) (h : Heap) : Prop :=
  (∃ oe vs a0, h.get? e = some oe ∧ oe.cls = C ∧ oe.data = .fields vs ∧ vs[1]? = some .none ∧ vs[0]? = some a0) ∨
  (∃ a0, h.TracedW B e C a0) ∨ (∃ a0, h.TracedAtW B e C a0 (rawInt L))

/-- the heap's part of an exception on its way -/
structure XC (cx : CX) (h₀ h : Heap) (L e : Addr) : Prop where
  fr : cx.fenv.frame = some L
  st : (hideAll h₀ cx.frames).StaysIn h
  new : (hideAll h₀ cx.frames).get? e = none
  ff : h.FunFrames (hideAll h₀ cx.frames) (cx.fenv :: cx.outer)
  up : h₀.UpToSlots h

section
variable {prog : Program} {w : World} {K : Frag} {cx : CX} {sc : Scope} {n : Nat} {σ : AS}

def PostR {α β : Type} (prog : Program) (w : World) (rel : Heap → β → α → Prop) (cx : CX) (s : Shared) (Q : β → AS → Prop) (v : α) (s' : Shared) : Prop :=
  ∃ b σ', R prog w cx σ' s' ∧ rel s'.heap b v ∧ VM s.heap s'.heap ∧ Q b σ'
def PostE (prog : Program) (w : World) (cx : CX) (s : Shared) (E : Value → AS → Prop) (v : Value) (s' : Shared) : Prop :=
  ∃ e C σ' s₀ L, v = .ref e ∧ R prog w cx σ' s₀ ∧ s' = { s₀ with heap := s'.heap, toks := s'.toks } ∧ XC cx s₀.heap s'.heap L e ∧ ExSt (hideAll s₀.heap cx.frames) L e C s'.heap ∧ VM s.heap s₀.heap ∧ E C σ'
theorem PostE.mono {s s₁ : Shared} {E : Value → AS → Prop} {v : Value} {s' : Shared} (vm : VM s.heap s₁.heap) (h : PostE prog w cx s₁ E v s') : PostE prog w cx s E v s' :=
  let ⟨e, C, σ', s₀, L, a, b, c, d, f, g, i⟩ := h; ⟨e, C, σ', s₀, L, a, b, c, d, f, vm.trans g, i⟩

def Wp {α β : Type} (prog : Program) (w : World) (rel : Heap → β → α → Prop) (cx : CX) (t : Sem α) (σ : AS) (Q : β → AS → Prop) (E : Value → AS → Prop) : Prop :=
  ∀ s, R prog w cx σ s → wpAny (model prog w) cx.A t (PostR prog w rel cx s Q) (PostE prog w cx s E) s
def BR (_ : Heap) (b v : Bool) : Prop := b = v
def UR (_ : Heap) (_ _ : Unit) : Prop := True
inductive AF where
  | next | brk | cont | ret (v : AV)
def FR (h : Heap) : AF → Flow → Prop
  | .next, f => f = .next
  | .brk, f => f = .brk
  | .cont, f => f = .cont
  | .ret a, f => ∃ v, f = .ret v ∧ VR h a v
abbrev WEv (prog : Program) (w : World) (cx : CX) (e : Expr) (σ : AS) (Q : AV → AS → Prop) (E : Value → AS → Prop) : Prop := Wp prog w VR cx (eval e cx.env) σ Q E
abbrev WTr (prog : Program) (w : World) (cx : CX) (e : Expr) (σ : AS) (Q : Bool → AS → Prop) (E : Value → AS → Prop) : Prop := Wp prog w BR cx (isTrue e cx.env (eval e cx.env)) σ Q E
abbrev WEx (prog : Program) (w : World) (cx : CX) (st : Stmt) (σ : AS) (Q : AF → AS → Prop) (E : Value → AS → Prop) : Prop := Wp prog w FR cx (exec st cx.env) σ Q E
abbrev WExs (prog : Program) (w : World) (cx : CX) (st : List Stmt) (σ : AS) (Q : AF → AS → Prop) (E : Value → AS → Prop) : Prop := Wp prog w FR cx (execs st cx.env) σ Q E

/-- the rest of an operation, its operands at hand -/
def WOp1 (prog : Program) (w : World) (cx : CX) (t : Value → Sem Value) (a : AV) (σ : AS) (Q : AV → AS → Prop) (E : Value → AS → Prop) : Prop :=
  ∀ s va, R prog w cx σ s → VR s.heap a va → wpAny (model prog w) cx.A (t va) (PostR prog w VR cx s Q) (PostE prog w cx s E) s
def WOp2 (prog : Program) (w : World) (cx : CX) (t : Value → Value → Sem Value) (a b : AV) (σ : AS) (Q : AV → AS → Prop) (E : Value → AS → Prop) : Prop :=
  ∀ s va vb, R prog w cx σ s → VR s.heap a va → VR s.heap b vb → wpAny (model prog w) cx.A (t va vb) (PostR prog w VR cx s Q) (PostE prog w cx s E) s
def WOp3 (prog : Program) (w : World) (cx : CX) (t : Value → Value → Value → Sem Unit) (a b c : AV) (σ : AS) (Q : Unit → AS → Prop) (E : Value → AS → Prop) : Prop :=
  ∀ s va vb vc, R prog w cx σ s → VR s.heap a va → VR s.heap b vb → VR s.heap c vc → wpAny (model prog w) cx.A (t va vb vc) (PostR prog w UR cx s Q) (PostE prog w cx s E) s
def WSt (prog : Program) (w : World) (cx : CX) (t : Value → Sem Unit) (a : AV) (σ : AS) (Q : Unit → AS → Prop) (E : Value → AS → Prop) : Prop :=
  ∀ s va, R prog w cx σ s → VR s.heap a va → wpAny (model prog w) cx.A (t va) (PostR prog w UR cx s Q) (PostE prog w cx s E) s

variable {Q : AV → AS → Prop} {QB : Bool → AS → Prop} {QF : AF → AS → Prop} {E : Value → AS → Prop} {pos : Pos}

theorem here {α β : Type} {rel : Heap → β → α → Prop} {s : Shared} {tk : Nat} {b : β} {v : α} {Q : β → AS → Prop} (r : R prog w cx σ s) (hv : rel s.heap b v) (h : Q b σ) : PostR prog w rel cx s Q v { s with toks := tk } :=
  ⟨b, σ, r.tok, hv, VM.refl _, h⟩
theorem here0 {α β : Type} {rel : Heap → β → α → Prop} {s : Shared} {b : β} {v : α} {Q : β → AS → Prop} (r : R prog w cx σ s) (hv : rel s.heap b v) (h : Q b σ) : PostR prog w rel cx s Q v s :=
  ⟨b, σ, r, hv, VM.refl _, h⟩

theorem vr_int {h : Heap} {i : Int} {t : Tok} : VR h (.int i) (.int i t) := ⟨t, rfl⟩
theorem vr_str {h : Heap} {x : Str} {t : Tok} : VR h (.str x) (.str x t) := ⟨t, rfl⟩
theorem vr_bool {h : Heap} {b : Bool} : VR h (.bool b) (.bool b) := rfl
theorem vr_none {h : Heap} : VR h .none .none := rfl
theorem vr_ref {h : Heap} {a : Addr} : VR h (.ref a) (.ref a) := rfl
/-! constants and names -/
theorem ev_int {i : Int} {k : Nat} (h : Q (.int i) σ) : WEv prog w cx (.Constant (.int i) k pos) σ Q E := fun s r => wpAny_Constant_int (here r vr_int h)
theorem ev_none {k : Nat} (h : Q .none σ) : WEv prog w cx (.Constant .none k pos) σ Q E := fun s r => wpAny_pure (here0 r vr_none h)
theorem ev_bool {b : Bool} {k : Nat} (h : Q (.bool b) σ) : WEv prog w cx (.Constant (.bool b) k pos) σ Q E := fun s r => wpAny_pure (here0 r vr_bool h)
theorem ev_str {x : Str} {k : Nat} (h : Q (.str x) σ) : WEv prog w cx (.Constant (.str x) k pos) σ Q E := fun s r => wpAny_mkText (here r vr_str h)

theorem ev_name (ok : Ok prog K cx sc n) {x : Str} {v : AV} (hv : σ.loc x = some v) (h : Q v σ) (hd : (x == ("__debug__" : Str)) = false := by decide) (hc : (x == ("__classdict__" : Str)) = false := by decide) :
    WEv prog w cx (.Name x pos) σ Q E := fun s r => by
  have hk : cx.env.scope.kind = .function := by rw [ok.scope]; exact ok.kind
  obtain ⟨u, l, hu⟩ := r.loc x v hv
  refine wpAny_Name ?_ hd
  unfold LocAt at l
  split at l
  · rename_i hx; obtain ⟨m, a, b⟩ := l; exact wpAny_loadName_local hk hx a b (here0 r hu h)
  · rename_i hx; obtain ⟨c, o, a, b, d⟩ := l; exact wpAny_loadName_cell hk hx a ⟨o, b, d⟩ (here0 r hu h)
  · rename_i hx; obtain ⟨c, o, a, b, d⟩ := l; exact wpAny_loadName_free hk hx a ⟨o, b, d⟩ (here0 r hu h) hc
  · exact l.elim

/-- a name of the text's top that holds a plain value -/
theorem ev_gname (ok : Ok prog K cx sc n) {x : Str} {v : AV} {u : Value} (hx : sc.names.lookup x = some .globalImplicit) (e : nsIn K mainGlobals x = some (some u)) (hv : ∀ h : Heap, VR h v u) (h : Q v σ) (hd : (x == ("__debug__" : Str)) = false := by decide) :
    WEv prog w cx (.Name x pos) σ Q E := fun s r => by
  have hk : cx.env.scope.kind = .function := by rw [ok.scope]; exact ok.kind
  obtain ⟨mg, hg⟩ := ok.glo.g
  exact Name_function_global hk (by unfold Env.kindOf; rw [ok.scope]; exact hx) (loadGlobal_global (by rw [ok.glob]; exact hg.keeps r.stay) (mg_of ok.glo.KX hg e) (here0 r (hv _) h)) hd

/-! operators -/
theorem ev_bin {l rr : Expr} {op : Operator} (h : WEv prog w cx l σ (fun a σ₁ => WEv prog w cx rr σ₁ (fun b σ₂ => WOp2 prog w cx (binaryOp op) a b σ₂ Q E) E) E) :
    WEv prog w cx (.BinOp l op rr pos) σ Q E := fun s r => by
  refine wpAny_BinOp (wpAny_mono (h s r) (fun va s₁ ⟨a, σ₁, r₁, v₁, m₁, q₁⟩ => wpAny_mono (q₁ s₁ r₁) (fun vb s₂ ⟨b, σ₂, r₂, v₂, m₂, q₂⟩ => ?_) fun _ _ e => e.mono m₁) fun _ _ e => e)
  refine wpAny_mono (q₂ s₂ va vb r₂ (v₁.mono m₂) v₂) (fun v s₃ ⟨c, σ₃, r₃, v₃, m₃, q₃⟩ => ⟨c, σ₃, r₃, v₃, (m₁.trans m₂).trans m₃, q₃⟩) fun _ _ e => e.mono (m₁.trans m₂)

theorem op_add {a b : Int} (h : Q (.int (a + b)) σ) : WOp2 prog w cx (binaryOp .Add) (.int a) (.int b) σ Q E := by
  rintro s _ _ r ⟨t, rfl⟩ ⟨u, rfl⟩; exact PyProof.Rows.add_int (here r vr_int h)
theorem op_sub {a b : Int} (h : Q (.int (a - b)) σ) : WOp2 prog w cx (binaryOp .Sub) (.int a) (.int b) σ Q E := by
  rintro s _ _ r ⟨t, rfl⟩ ⟨u, rfl⟩; exact PyProof.Rows.sub_int (here r vr_int h)
theorem op_mul {a b : Int} (hm : IntMulOk a b) (h : Q (.int (a * b)) σ) : WOp2 prog w cx (binaryOp .Mult) (.int a) (.int b) σ Q E := by
  rintro s _ _ r ⟨t, rfl⟩ ⟨u, rfl⟩; exact PyProof.Rows.mul_int (here r vr_int h) hm
theorem op_mod {a b : Int} (hb : 0 < b) (h : Q (.int (a % b)) σ) : WOp2 prog w cx (binaryOp .Mod) (.int a) (.int b) σ Q E := by
  rintro s _ _ r ⟨t, rfl⟩ ⟨u, rfl⟩
  refine PyProof.Rows.mod_int (by omega) (here (b := AV.int _) r vr_int ?_)
  rw [Int.fmod_eq_emod_of_nonneg _ (by omega)]; exact h
theorem op_div (ok : Ok prog K cx sc n) {a b : Int} (hb : 0 < b) (h : Q (.int (a / b)) σ) : WOp2 prog w cx (binaryOp .FloorDiv) (.int a) (.int b) σ Q E := by
  rintro s _ _ r ⟨t, rfl⟩ ⟨u, rfl⟩
  refine PyProof.Rows.floordiv_int (by omega) (here (b := AV.int _) r vr_int ?_) (.inr (PylongRoom.of (ok.glo.nolimit.keeps r.stay) (by have := ok.depth; unfold Builtin.pylongFrames; omega)
    (SeerAt.of (ok.glo.seer.keeps r.stay) ok.glo.tree ok.fr ok.fgen ok.fco ok.fbi ok.fglob)))
  rw [Int.fdiv_eq_ediv_of_nonneg _ (by omega)]; exact h
theorem op_pow {a : Int} {k : Int} (hn : 0 ≤ k) (hsz : (Builtin.Int.intBits a : Int) * k ≤ 2 ^ 27) (h : Q (.int (a ^ k.toNat)) σ) : WOp2 prog w cx (binaryOp .Pow) (.int a) (.int k) σ Q E := by
  rintro s _ _ r ⟨t, rfl⟩ ⟨u, rfl⟩; exact PyProof.Rows.pow_int hn hsz (here r vr_int h)

/-! comparisons -/
theorem ev_cmp {l rr : Expr} {op : CmpOp} (h : WEv prog w cx l σ (fun a σ₁ => WEv prog w cx rr σ₁ (fun b σ₂ => WOp2 prog w cx (compareOp op) a b σ₂ Q E) E) E) (hm : behindInMarks op rr = false := by with_unfolding_all rfl) :
    WEv prog w cx (.Compare l [op] [rr] pos) σ Q E := fun s r => by
  refine wpAny_Compare1 (wpAny_mono (h s r) (fun va s₁ ⟨a, σ₁, r₁, v₁, m₁, q₁⟩ => wpAny_mono (q₁ s₁ r₁) (fun vb s₂ ⟨b, σ₂, r₂, v₂, m₂, q₂⟩ => ?_) fun _ _ e => e.mono m₁) fun _ _ e => e) hm
  refine wpAny_mono (q₂ s₂ va vb r₂ (v₁.mono m₂) v₂) (fun v s₃ ⟨c, σ₃, r₃, v₃, m₃, q₃⟩ => ⟨c, σ₃, r₃, v₃, (m₁.trans m₂).trans m₃, q₃⟩) fun _ _ e => e.mono (m₁.trans m₂)
/-- a comparison that gives a bool, tested -/
theorem tr_cmp {l rr : Expr} {op : CmpOp} (h : WEv prog w cx l σ (fun a σ₁ => WEv prog w cx rr σ₁ (fun b σ₂ => WOp2 prog w cx (compareOp op) a b σ₂ (fun v σ₃ => ∃ c, v = .bool c ∧ QB c σ₃) E) E) E) (hm : behindInMarks op rr = false := by with_unfolding_all rfl) :
    WTr prog w cx (.Compare l [op] [rr] pos) σ QB E := fun s r => by
  refine wpAny_isTrue_Compare1 (wpAny_mono (h s r) (fun va s₁ ⟨a, σ₁, r₁, v₁, m₁, q₁⟩ => wpAny_mono (q₁ s₁ r₁) (fun vb s₂ ⟨b, σ₂, r₂, v₂, m₂, q₂⟩ => ?_) fun _ _ e => e.mono m₁) fun _ _ e => e) hm
  refine wpAny_mono (q₂ s₂ va vb r₂ (v₁.mono m₂) v₂) (fun v s₃ ⟨c, σ₃, r₃, v₃, m₃, d, hc, q₃⟩ => ?_) fun _ _ e => e.mono (m₁.trans m₂)
  subst hc
  rw [show v = .bool d from v₃]
  exact wpAny_truthy_bool ⟨d, σ₃, r₃, rfl, (m₁.trans m₂).trans m₃, q₃⟩
theorem cmp_lt {a b : Int} (h : Q (.bool (decide (a < b))) σ) : WOp2 prog w cx (compareOp .Lt) (.int a) (.int b) σ Q E := by
  rintro s _ _ r ⟨t, rfl⟩ ⟨u, rfl⟩; exact PyProof.Rows.lt_int (here0 r vr_bool h)
theorem cmp_gt {a b : Int} (h : Q (.bool (decide (b < a))) σ) : WOp2 prog w cx (compareOp .Gt) (.int a) (.int b) σ Q E := by
  rintro s _ _ r ⟨t, rfl⟩ ⟨u, rfl⟩; exact PyProof.Rows.gt_int (here0 r vr_bool h)
theorem cmp_le {a b : Int} (h : Q (.bool (decide (a ≤ b))) σ) : WOp2 prog w cx (compareOp .LtE) (.int a) (.int b) σ Q E := by
  rintro s _ _ r ⟨t, rfl⟩ ⟨u, rfl⟩; exact PyProof.Rows.le_int (here0 r vr_bool h)
theorem cmp_ge {a b : Int} (h : Q (.bool (decide (b ≤ a))) σ) : WOp2 prog w cx (compareOp .GtE) (.int a) (.int b) σ Q E := by
  rintro s _ _ r ⟨t, rfl⟩ ⟨u, rfl⟩; exact PyProof.Rows.ge_int (here0 r vr_bool h)
theorem cmp_eq {a b : Int} (h : Q (.bool (a == b)) σ) : WOp2 prog w cx (compareOp .Eq) (.int a) (.int b) σ Q E := by
  rintro s _ _ r ⟨t, rfl⟩ ⟨u, rfl⟩; exact PyProof.Rows.eq_int (here0 r vr_bool h)
theorem cmp_ne {a b : Int} (h : Q (.bool (a != b)) σ) : WOp2 prog w cx (compareOp .NotEq) (.int a) (.int b) σ Q E := by
  rintro s _ _ r ⟨t, rfl⟩ ⟨u, rfl⟩; exact PyProof.Rows.ne_int (here0 r vr_bool h)

/-! truth -/
theorem tr_not {e : Expr} (h : WTr prog w cx e σ (fun c σ₁ => QB (!c) σ₁) E) : WTr prog w cx (.UnaryOp .Not e pos) σ QB E := fun s r =>
  isTrue_not (wpAny_mono (h s r) (fun c s₁ ⟨c', σ₁, r₁, v₁, m₁, q₁⟩ => ⟨!c', σ₁, r₁, by rw [show c' = c from v₁]; rfl, m₁, q₁⟩) fun _ _ e => e)
theorem wtr_and {s : Shared} {x : Expr} {rest : List Expr} {pos : Pos} {whole : Sem Value} (r : R prog w cx σ s)
    (h : WTr prog w cx x σ (fun c σ₁ => if c then ∀ s₁, R prog w cx σ₁ s₁ → wpAny (model prog w) cx.A (isTrue (.BoolOp .And rest pos) cx.env whole) (PostR prog w BR cx s₁ QB) (PostE prog w cx s₁ E) s₁ else QB false σ₁) E) :
    wpAny (model prog w) cx.A (isTrue (.BoolOp .And (x :: rest) pos) cx.env whole) (PostR prog w BR cx s QB) (PostE prog w cx s E) s := by
  refine isTrue_and (wpAny_mono (h s r) (fun c s₁ ⟨c', σ₁, r₁, v₁, m₁, q₁⟩ => ?_) fun _ _ e => e)
  have hc : c' = c := v₁
  subst hc
  cases c' with
  | true =>
    rw [if_pos rfl] at q₁ ⊢
    exact wpAny_mono (q₁ s₁ r₁) (fun v s₂ ⟨d, σ₂, r₂, v₂, m₂, q₂⟩ => ⟨d, σ₂, r₂, v₂, m₁.trans m₂, q₂⟩) fun _ _ e => e.mono m₁
  | false => exact ⟨false, σ₁, r₁, rfl, m₁, q₁⟩
theorem wtr_or {s : Shared} {x : Expr} {rest : List Expr} {pos : Pos} {whole : Sem Value} (r : R prog w cx σ s)
    (h : WTr prog w cx x σ (fun c σ₁ => if c then QB true σ₁ else ∀ s₁, R prog w cx σ₁ s₁ → wpAny (model prog w) cx.A (isTrue (.BoolOp .Or rest pos) cx.env whole) (PostR prog w BR cx s₁ QB) (PostE prog w cx s₁ E) s₁) E) :
    wpAny (model prog w) cx.A (isTrue (.BoolOp .Or (x :: rest) pos) cx.env whole) (PostR prog w BR cx s QB) (PostE prog w cx s E) s := by
  refine isTrue_or (wpAny_mono (h s r) (fun c s₁ ⟨c', σ₁, r₁, v₁, m₁, q₁⟩ => ?_) fun _ _ e => e)
  have hc : c' = c := v₁
  subst hc
  cases c' with
  | false =>
    simp only [Bool.false_eq_true, if_false] at q₁ ⊢
    exact wpAny_mono (q₁ s₁ r₁) (fun v s₂ ⟨d, σ₂, r₂, v₂, m₂, q₂⟩ => ⟨d, σ₂, r₂, v₂, m₁.trans m₂, q₂⟩) fun _ _ e => e.mono m₁
  | true => exact ⟨true, σ₁, r₁, rfl, m₁, q₁⟩
theorem tr_and2 {a b : Expr} (h : WTr prog w cx a σ (fun c σ₁ => if c then WTr prog w cx b σ₁ QB E else QB false σ₁) E) : WTr prog w cx (.BoolOp .And [a, b] pos) σ QB E := fun s r => by
  refine wtr_and r (fun s₀ r₀ => wpAny_mono (h s₀ r₀) (fun c s₁ ⟨c', σ₁, r₁, v₁, m₁, q₁⟩ => ⟨c', σ₁, r₁, v₁, m₁, ?_⟩) fun _ _ e => e)
  cases c' with
  | false => exact q₁
  | true =>
    rw [if_pos rfl] at q₁ ⊢
    intro s₂ r₂
    refine wtr_and r₂ (fun s₃ r₃ => wpAny_mono (q₁ s₃ r₃) (fun c s₄ ⟨c', σ₄, r₄, v₄, m₄, q₄⟩ => ⟨c', σ₄, r₄, v₄, m₄, ?_⟩) fun _ _ e => e)
    cases c' with
    | false => exact q₄
    | true => rw [if_pos rfl]; intro s₅ r₅; exact isTrue_and_nil ⟨true, σ₄, r₅, rfl, VM.refl _, q₄⟩
theorem tr_or2 {a b : Expr} (h : WTr prog w cx a σ (fun c σ₁ => if c then QB true σ₁ else WTr prog w cx b σ₁ QB E) E) : WTr prog w cx (.BoolOp .Or [a, b] pos) σ QB E := fun s r => by
  refine wtr_or r (fun s₀ r₀ => wpAny_mono (h s₀ r₀) (fun c s₁ ⟨c', σ₁, r₁, v₁, m₁, q₁⟩ => ⟨c', σ₁, r₁, v₁, m₁, ?_⟩) fun _ _ e => e)
  cases c' with
  | true => exact q₁
  | false =>
    simp only [Bool.false_eq_true, if_false] at q₁ ⊢
    intro s₂ r₂
    refine wtr_or r₂ (fun s₃ r₃ => wpAny_mono (q₁ s₃ r₃) (fun c s₄ ⟨c', σ₄, r₄, v₄, m₄, q₄⟩ => ⟨c', σ₄, r₄, v₄, m₄, ?_⟩) fun _ _ e => e)
    cases c' with
    | true => exact q₄
    | false => simp only [Bool.false_eq_true, if_false]; intro s₅ r₅; exact isTrue_or_nil ⟨false, σ₄, r₅, rfl, VM.refl _, q₄⟩
/-- any other test whose value is a bool -/
theorem tr_val {e : Expr} (h : WEv prog w cx e σ (fun v σ₁ => ∃ c, v = .bool c ∧ QB c σ₁) E) (he : isTrue e cx.env (eval e cx.env) = (do let v ← eval e cx.env; standAt e.pos; holding [v] (truthy v)) := by rfl) : WTr prog w cx e σ QB E := fun s r => by
  refine isTrue_plain (wpAny_mono (h s r) (fun v s₁ ⟨c, σ₁, r₁, v₁, m₁, d, hc, q₁⟩ => ?_) fun _ _ e => e) he
  subst hc
  rw [show v = .bool d from v₁]
  exact wpAny_truthy_bool ⟨d, σ₁, r₁, rfl, m₁, q₁⟩
end
end Mine

namespace Mine
open PySem PySem.W PyProof.Rows PySem.Calls
set_option autoImplicit false
set_option linter.unusedVariables false
section
variable {prog : Program} {w : World} {K : Frag} {cx : CX} {sc : Scope} {n : Nat} {σ : AS} {Q : AV → AS → Prop} {QB : Bool → AS → Prop} {QF : AF → AS → Prop} {E : Value → AS → Prop} {pos : Pos}

theorem PostR.mono {α β : Type} {rel : Heap → β → α → Prop} {s s₁ s' : Shared} {Q : β → AS → Prop} {v : α} (vm : VM s.heap s₁.heap) (h : PostR prog w rel cx s₁ Q v s') : PostR prog w rel cx s Q v s' :=
  let ⟨b, σ', a, c, d, e⟩ := h; ⟨b, σ', a, c, vm.trans d, e⟩
theorem PostR.imp {α β : Type} {rel : Heap → β → α → Prop} {s s' : Shared} {Q Q' : β → AS → Prop} {v : α} (hq : ∀ b σ, Q b σ → Q' b σ) (h : PostR prog w rel cx s Q v s') : PostR prog w rel cx s Q' v s' :=
  let ⟨b, σ', a, c, d, e⟩ := h; ⟨b, σ', a, c, d, hq b σ' e⟩
theorem PostE.imp {s s' : Shared} {E E' : Value → AS → Prop} {v : Value} (hq : ∀ b σ, E b σ → E' b σ) (h : PostE prog w cx s E v s') : PostE prog w cx s E' v s' :=
  let ⟨e, C, σ', s₀, L, a, b, c, d, f, g, i⟩ := h; ⟨e, C, σ', s₀, L, a, b, c, d, f, g, hq C σ' i⟩
theorem Wp.imp {α β : Type} {rel : Heap → β → α → Prop} {t : Sem α} {Q Q' : β → AS → Prop} {E E' : Value → AS → Prop} (h : Wp prog w rel cx t σ Q E) (hq : ∀ b σ, Q b σ → Q' b σ) (he : ∀ b σ, E b σ → E' b σ) : Wp prog w rel cx t σ Q' E' :=
  fun s r => wpAny_mono (h s r) (fun _ _ p => p.imp hq) fun _ _ p => p.imp he

/-! statements -/
theorem exs_nil (h : QF .next σ) : WExs prog w cx [] σ QF E := fun s r => wpAny_execs_nil (here0 (rel := FR) (b := AF.next) r rfl h)
theorem exs_cons {st : Stmt} {rest : List Stmt} (h : WEx prog w cx st σ (fun f σ₁ => match f with | .next => WExs prog w cx rest σ₁ QF E | f => QF f σ₁) E) : WExs prog w cx (st :: rest) σ QF E := fun s r => by
  refine wpAny_execs_cons (wpAny_mono (h s r) (fun f s₁ ⟨a, σ₁, r₁, v₁, m₁, q₁⟩ => ?_) fun _ _ e => e)
  cases a with
  | next =>
    rw [show f = .next from v₁]
    exact wpAny_mono (q₁ s₁ r₁) (fun _ _ p => p.mono m₁) fun _ _ e => e.mono m₁
  | brk => rw [show f = .brk from v₁]; exact ⟨.brk, σ₁, r₁, rfl, m₁, q₁⟩
  | cont => rw [show f = .cont from v₁]; exact ⟨.cont, σ₁, r₁, rfl, m₁, q₁⟩
  | ret a =>
    obtain ⟨v, rfl, hv⟩ := v₁
    exact ⟨.ret a, σ₁, r₁, ⟨v, rfl, hv⟩, m₁, q₁⟩
theorem ex_if {test : Expr} {body orelse : List Stmt} (h : WTr prog w cx test σ (fun c σ₁ => if c then WExs prog w cx body σ₁ QF E else WExs prog w cx orelse σ₁ QF E) E) : WEx prog w cx (.If test body orelse pos) σ QF E := fun s r => by
  refine wpAny_If (wpAny_mono (h s r) (fun c s₁ ⟨c', σ₁, r₁, v₁, m₁, q₁⟩ => ?_) fun _ _ e => e)
  have hc : c' = c := v₁
  subst hc
  cases c' with
  | true => exact wpAny_mono (q₁ s₁ r₁) (fun _ _ p => p.mono m₁) fun _ _ e => e.mono m₁
  | false => exact wpAny_mono (q₁ s₁ r₁) (fun _ _ p => p.mono m₁) fun _ _ e => e.mono m₁
theorem ex_ret {e : Expr} (h : WEv prog w cx e σ (fun a σ₁ => QF (.ret a) σ₁) E) : WEx prog w cx (.Return (some e) pos) σ QF E := fun s r =>
  wpAny_Return_some (wpAny_mono (h s r) (fun v s₁ ⟨a, σ₁, r₁, v₁, m₁, q₁⟩ => ⟨.ret a, σ₁, r₁, ⟨v, rfl, v₁⟩, m₁, q₁⟩) fun _ _ e => e)
theorem ex_pass (h : QF .next σ) : WEx prog w cx (.Pass pos) σ QF E := fun s r => wpAny_Pass (here0 (rel := FR) (b := AF.next) r rfl h)

/-- a name is stored -/
theorem st_name (ok : Ok prog K cx sc n) {x : Str} {a : AV} {Q : Unit → AS → Prop} (hx : sc.names.lookup x = some .local) (h : Q () (σ.set x a)) : WSt prog w cx (storeName cx.env x) a σ Q E := fun s va r hv => by
  have hk : cx.env.kindOf x = some .local := by unfold Env.kindOf; rw [ok.scope]; exact hx
  obtain ⟨m, hn⟩ := r.ns
  refine wpAny_storeName_local hk hn (fun h' hn' hs => ?_) (by rw [ok.scope, ok.kind]; rfl)
  obtain ⟨r', vm⟩ := r.storeL (tk := s.toks + 1) hk hn hv hn' hs
  exact ⟨(), _, r', trivial, vm, h⟩
theorem ex_assign (ok : Ok prog K cx sc n) {x : Str} {value : Expr} {pos' : Pos} (h : WEv prog w cx value σ (fun a σ₁ => QF .next (σ₁.set x a)) E) (hx : sc.names.lookup x = some .local)
    (hs : swapsWith value (some (.Name x pos')) pos.line cx.env = pure false) : WEx prog w cx (.Assign [.Name x pos'] value pos) σ QF E := fun s r => by
  refine wpAny_Assign_Name (wpAny_mono (h s r) (fun v s₁ ⟨a, σ₁, r₁, v₁, m₁, q₁⟩ => ?_) fun _ _ e => e) hs
  refine wpAny_mono (st_name (Q := fun _ σ' => QF .next σ') ok hx q₁ s₁ v r₁ v₁) (fun _ s₂ ⟨_, σ₂, r₂, _, m₂, q₂⟩ => ⟨.next, σ₂, r₂, rfl, m₁.trans m₂, q₂⟩) fun _ _ e => e.mono m₁
end
end Mine

namespace Mine
open PySem PySem.W PyProof.Rows PySem.Calls
set_option autoImplicit false
set_option linter.unusedVariables false
section
variable {prog : Program} {w : World} {K : Frag} {cx : CX} {sc : Scope} {n : Nat} {σ : AS} {E : Value → AS → Prop}

theorem frame_mem {e : Env} {a : Addr} {l : List Env} (he : e ∈ l) (hf : e.frame = some a) : a ∈ l.filterMap (·.frame) := List.mem_filterMap.mpr ⟨e, he, hf⟩
theorem mem_frame {a : Addr} {l : List Env} (h : a ∈ l.filterMap (·.frame)) : ∃ e ∈ l, e.frame = some a := by
  obtain ⟨e, he, hf⟩ := List.mem_filterMap.mp h; exact ⟨e, he, hf⟩

/-- frames may gain slots, all else stays -/
theorem R.slots {s₀ : Shared} {h' : Heap} {tk : Nat} (r : R prog w cx σ s₀) (k : (hideAll s₀.heap cx.frames).StaysIn h') (u : s₀.heap.UpToSlots h') : R prog w cx σ { s₀ with heap := h', toks := tk } := by
  have keep : ∀ b o, b ∉ cx.frames → s₀.heap.get? b = some o → h'.get? b = some o := fun b o n e => k b o (hideAll_get _ e n)
  have vm := VM.of_slots u
  have offBase : ∀ b o, cx.base.get? b = some o → b ∉ cx.frames := fun b o e hm => by
    have := (r.ff.mem hm).1; rw [this] at e; cases e
  refine ⟨fun b o e => keep b o (offBase b o e) (r.stay b o e), ?_, ?_, fun x v e => ?_, fun b o e => ?_, fun b m e => ?_, fun a ao e => ?_, r.own, fun x c e => ?_, r.oth, r.gens, r.drawn, r.os⟩
  · exact r.ff.of_keeps fun b o e hn => let ⟨sl, e'⟩ := u b o e hn; ⟨_, e', rfl⟩
  · obtain ⟨m, hm⟩ := r.ns; exact ⟨m, u.ns hm⟩
  · obtain ⟨y, l, b⟩ := r.loc x v e
    refine ⟨y, ?_, b.mono vm⟩
    unfold LocAt at l ⊢
    split at l
    · obtain ⟨m, a1, a2⟩ := l; exact ⟨m, u.ns a1, a2⟩
    · obtain ⟨c, o, a1, a2, a3⟩ := l
      exact ⟨c, o, a1, keep c o (fun hm => by obtain ⟨en, he, hf⟩ := mem_frame hm; exact (r.cel x c a1).2.2 en he hf) a2, a3⟩
    · obtain ⟨c, o, a1, a2, a3⟩ := l
      exact ⟨c, o, a1, keep c o (fun hm => by obtain ⟨en, he, hf⟩ := mem_frame hm; exact (r.cel x c a1).2.2 en he hf) a2, a3⟩
    · exact l
  · obtain ⟨e', f⟩ := r.pr b o e
    exact ⟨keep b _ f e', f⟩
  · obtain ⟨e', f⟩ := r.pn b m e
    exact ⟨u.ns e', f⟩
  · obtain ⟨p, q1, q2, q3, q4⟩ := r.ob a ao e
    exact ⟨p.at vm fun o e' => keep a o (fun hm => by obtain ⟨en, he, hf⟩ := mem_frame hm; exact q4 en he hf) e', q1, q2, q3, q4⟩
  · obtain ⟨p, ⟨o, v, q1, q2⟩, q3⟩ := r.cel x c e
    exact ⟨p, ⟨o, v, keep c o (fun hm => by obtain ⟨en, he, hf⟩ := mem_frame hm; exact q3 en he hf) q1, q2⟩, q3⟩

theorem upToSlots_of {h h' : Heap} (k : ∀ b o, h.get? b = some o → (∀ vs, o.data ≠ .fields vs) → ∃ sl, h'.get? b = some { o with slots := sl }) : h.UpToSlots h' := k

theorem note_x {M : Model} {s : Shared} {h₀ : Heap} {L e : Addr} {C : Value} {E' : Value → Shared → Prop} {Q : Unit → Shared → Prop} (hfr : cx.A.frames = some (cx.fenv :: cx.outer)) (hfe : cx.env = cx.fenv) (x : XC cx h₀ s.heap L e) (es : ExSt (hideAll h₀ cx.frames) L e C s.heap)
    (hq : ∀ h' a0, XC cx h₀ h' L e → h'.TracedAtW (hideAll h₀ cx.frames) e C a0 (rawInt L) → Q () { s with heap := h' }) : wpAny M cx.A (noteFrame (.ref e) cx.env) Q E' s := by
  rw [hfe]
  rcases es with ⟨oe, vs, a0, he, hC, hd, h1, h0⟩ | ⟨a0, ht⟩ | ⟨a0, ht⟩
  · unfold noteFrame
    simp only [x.fr]
    refine wpAny_bind (wpAny_field he hd h1 ?_)
    rw [if_neg (by decide)]
    subst hC
    exact wpAny_entryW hfr x.ff x.fr he x.st x.new hd (Array.getElem?_eq_some_iff.mp h1).1 h0 fun h' ⟨x1, x2, x3, x4⟩ => hq h' a0 ⟨x.fr, x1, x.new, x2, x.up.trans (upToSlots_of x4)⟩ x3
  · exact wpAny_noteFrame_onW hfr x.ff x.fr ht x.st x.new fun h' ⟨x1, x2, x3, x4⟩ => hq h' a0 ⟨x.fr, x1, x.new, x2, x.up.trans (upToSlots_of x4)⟩ x3
  · exact wpAny_noteFrame_againW x.fr ht (hq s.heap a0 x ht)

theorem back_x {M : Model} {s : Shared} {h₀ : Heap} {L e : Addr} {C a0 : Value} {E' : Value → Shared → Prop} (hfe : cx.env = cx.fenv) (x : XC cx h₀ s.heap L e) (ht : s.heap.TracedAtW (hideAll h₀ cx.frames) e C a0 (rawInt L))
    (hq : ∀ h', XC cx h₀ h' L e → h'.TracedAtW (hideAll h₀ cx.frames) e C a0 (rawInt L) → E' (.ref e) { s with heap := h' }) : cameBackBy M cx.A cx.env E' (.ref e) s := by
  unfold cameBackBy
  rw [hfe]
  obtain ⟨oe, vs, T, oT, ts, he, hcls, hd, h1, hnT, hTe, hT, hdT, h3⟩ := ht
  have hsz3 : 3 < ts.size := (Array.getElem?_eq_some_iff.mp h3).1
  refine wpAny_bind (wpAny_field he hd h1 ?_)
  rw [if_neg (show ¬ ((Value.ref T == Value.none) = true) from by simp)]
  unfold setFlight
  refine wpAny_bind (wpAny_field he hd h1 ?_)
  rw [if_pos (show (Value.ref T != Value.none) = true from by simp)]
  rw [x.fr]
  have other : ∀ b, b ≠ T → (s.heap.update T (Obj.mapFields (·.setIfInBounds 3 ((some L : Option Addr).elim Value.none fun f => rawInt f)))).get? b = s.heap.get? b := fun b hb => Heap.get?_update_other _ _ (Ne.symm hb)
  have noRecord : ∀ b o, s.heap.get? b = some o → (∀ vs, o.data ≠ .fields vs) → b ≠ T := fun b o hb hnf q => by
    rw [q, hT] at hb; injection hb with hb; subst hb; exact hnf ts hdT
  refine wpAny_setField hT hdT hsz3 (hq _ ⟨x.fr, fun b o hbo => (other b fun q => by rw [q, hnT] at hbo; cases hbo).trans (x.st b o hbo), x.new,
    x.ff.of_keeps fun b o hb hnf => ⟨o, (other b (noRecord b o hb hnf)).trans hb, rfl⟩, x.up.trans fun b o hb hnf => ⟨o.slots, (other b (noRecord b o hb hnf)).trans hb⟩⟩ ?_)
  exact ⟨oe, vs, T, _, _, (other e (Ne.symm hTe)).trans he, hcls, hd, h1, hnT, hTe, Heap.get?_update_self _ hT (Obj.isFreed_of_fields (Obj.data_mapFields hdT _)), Obj.data_mapFields hdT _, by simp [hsz3]⟩

/-- an exception leaves a loop of the frame -/
theorem passes {s s₁ : Shared} (hfr : cx.A.frames = some (cx.fenv :: cx.outer)) (hfe : cx.env = cx.fenv) (vm : VM s.heap s₁.heap) {v : Value} {s' : Shared} (h : PostE prog w cx s₁ E v s') :
    notedBy (model prog w) cx.A cx.env (fun e s'' => cameBackBy (model prog w) cx.A cx.env (PostE prog w cx s E) e s'') v s' := by
  obtain ⟨e, C, σ', s₀, L, rfl, r, hs, x, es, m, he⟩ := h
  unfold notedBy
  refine note_x hfr hfe x es fun h' a0 x' ht => ?_
  refine back_x hfe x' ht fun h'' x'' ht' => ?_
  exact ⟨e, C, σ', s₀, L, rfl, r, by rw [hs], x'', .inr (.inr ⟨a0, ht'⟩), vm.trans m, he⟩
end
end Mine

namespace Mine
open PySem PySem.W PyProof.Rows PySem.Calls
set_option autoImplicit false
set_option linter.unusedVariables false
section
variable {prog : Program} {w : World} {K : Frag} {cx : CX} {sc : Scope} {n : Nat} {σ : AS} {Q : AV → AS → Prop} {QB : Bool → AS → Prop} {QF : AF → AS → Prop} {E : Value → AS → Prop} {pos : Pos}

def CX.withP (cx : CX) (P' : Addr → Obj → Prop) : CX := { cx with P := P' }
theorem Ok.withP (ok : Ok prog K cx sc n) (P' : Addr → Obj → Prop) : Ok prog K (cx.withP P') sc n := ⟨ok.1, ok.2, ok.3, ok.4, ok.5, ok.6, ok.7, ok.8, ok.9, ok.10, ok.11, ok.12, ok.13, ok.14⟩
theorem R.lessP {P' : Addr → Obj → Prop} {s : Shared} (hP : ∀ b o, cx.P b o → P' b o) (r : R prog w (cx.withP P') σ s) : R prog w cx σ s :=
  ⟨r.stay, r.ff, r.ns, r.loc, fun b o e => r.pr b o (hP b o e), r.pn, fun a ao e => let ⟨p, q1, q2, q3⟩ := r.ob a ao e; ⟨p, q1, fun o e' => q2 o (hP a o e'), q3⟩,
    fun a e => let ⟨q1, q2, q3⟩ := r.own a e; ⟨q1, fun o e' => q2 o (hP a o e'), q3⟩, r.cel, r.oth, r.gens, r.drawn, r.os⟩
theorem PostE.lessP {P' : Addr → Obj → Prop} {s s' : Shared} {v : Value} (hP : ∀ b o, cx.P b o → P' b o) (h : PostE prog w (cx.withP P') s E v s') : PostE prog w cx s E v s' :=
  let ⟨e, C, σ', s₀, L, a, b, c, d, f, g, i⟩ := h; ⟨e, C, σ', s₀, L, a, b.lessP hP, c, ⟨d.1, d.2, d.3, d.4, d.5⟩, f, g, i⟩

/-- an address that nothing tracks -/
structure Off (cx : CX) (σ : AS) (I : Addr) : Prop where
  base : cx.base.get? I = none
  P : ∀ o, ¬ cx.P I o
  hp : ∀ ao, σ.hp I ≠ some ao
  own : ¬ cx.own I
  fr : I ∉ cx.frames
theorem Off.new {s : Shared} {I : Addr} (r : R prog w cx σ s) (hn : s.heap.get? I = none) : Off cx σ I := by
  have fresh : ∀ b o, s.heap.get? b = some o → b ≠ I := fun b o e q => by subst q; rw [hn] at e; cases e
  refine ⟨?_, fun o e => fresh _ _ (r.pr I o e).1 rfl, fun ao e => ?_, fun hb => ?_, fun hm => ?_⟩
  · cases q : cx.base.get? I with
    | none => rfl
    | some o => exact absurd rfl (fresh _ _ (r.stay I o q))
  · obtain ⟨o, ho, _⟩ := (r.ob I ao e).1.there
    exact fresh _ _ ho rfl
  · rcases hb with q | ⟨x, q⟩
    · obtain ⟨m, o, es, ep, e1, _⟩ := r.ns
      exact fresh _ _ e1 q.symm
    · obtain ⟨_, ⟨o, v, c1, _⟩, _⟩ := r.cel x I q
      exact fresh _ _ c1 rfl
  · obtain ⟨_, o, h1, _⟩ := r.ff.mem hm
    exact fresh _ _ h1 rfl
theorem R.off {s : Shared} {h' : Heap} {tk : Nat} {I : Addr} {o₀ : Obj} (r : R prog w cx σ s) (f : Off cx σ I) (h0 : s.heap.get? I = some o₀) (n0 : ∀ xs n, o₀.data ≠ .seq xs n) (keep : ∀ b o, b ≠ I → s.heap.get? b = some o → h'.get? b = some o) :
    R prog w cx σ { s with heap := h', toks := tk } ∧ VM s.heap h' := by
  have vm : VM s.heap h' := fun b o xs n e _ d => ⟨o.slots, keep b o (fun q => by subst q; rw [h0] at e; cases e; exact n0 _ _ d) e⟩
  have ownNe : ∀ b, cx.own b → b ≠ I := fun b hb q => by subst q; exact f.own hb
  have frNe : ∀ b, b ∈ cx.frames → b ≠ I := fun b hb q => by subst q; exact f.fr hb
  refine ⟨⟨fun b o e => ?_, ?_, ?_, fun x v e => ?_, fun b o e => ?_, fun b m e => ?_, fun b bo e => ?_, r.own, fun x c e => ?_, r.oth, r.gens, r.drawn, r.os⟩, vm⟩
  · exact keep b o (fun q => by subst q; rw [f.base] at e; cases e) (r.stay b o e)
  · have : ∀ l, (∀ e ∈ l, ∀ a, e.frame = some a → a ≠ I) → s.heap.FunFrames cx.base l → h'.FunFrames cx.base l := by
      intro l
      induction l with
      | nil => exact fun _ _ => trivial
      | cons e l ih =>
        rintro hne ⟨hk, ⟨L, o, hf, hn, ho, hd⟩, hr⟩
        exact ⟨hk, ⟨L, o, hf, hn, keep L o (hne e (.head _) L hf) ho, hd⟩, ih (fun e he => hne e (.tail _ he)) hr⟩
    exact this _ (fun e he a ha => frNe a (List.mem_filterMap.mpr ⟨e, he, ha⟩)) r.ff
  · obtain ⟨m, o, es, ep, e1, e2⟩ := r.ns
    exact ⟨m, o, es, ep, keep _ o (ownNe _ (.inl rfl)) e1, e2⟩
  · obtain ⟨u, l, b⟩ := r.loc x v e
    refine ⟨u, ?_, b.mono vm⟩
    unfold LocAt at l ⊢
    split at l
    · obtain ⟨m, ⟨o, es, ep, e1, e2⟩, a2⟩ := l
      exact ⟨m, ⟨o, es, ep, keep _ o (ownNe _ (.inl rfl)) e1, e2⟩, a2⟩
    · obtain ⟨c, o, a1, a2, a3⟩ := l
      exact ⟨c, o, a1, keep c o (ownNe c (.inr ⟨x, a1⟩)) a2, a3⟩
    · obtain ⟨c, o, a1, a2, a3⟩ := l
      exact ⟨c, o, a1, keep c o (ownNe c (.inr ⟨x, a1⟩)) a2, a3⟩
    · exact l
  · obtain ⟨e', g⟩ := r.pr b o e
    exact ⟨keep b _ (fun q => by subst q; exact f.P o e) e', g⟩
  · obtain ⟨⟨o, es, ep, e1, e2⟩, g⟩ := r.pn b m e
    exact ⟨⟨o, es, ep, keep b o (frNe b g) e1, e2⟩, g⟩
  · obtain ⟨p', q'⟩ := r.ob b bo e
    exact ⟨p'.at vm fun o e' => keep b o (fun q => by subst q; exact f.hp _ e) e', q'⟩
  · obtain ⟨p', ⟨o, v, c1, c2⟩, c3⟩ := r.cel x c e
    exact ⟨p', ⟨o, v, keep c o (ownNe c (.inr ⟨x, e⟩)) c1, c2⟩, c3⟩
/-- the iterator is protected while the body runs -/
theorem R.guard {s : Shared} {I : Addr} {o : Obj} (r : R prog w cx σ s) (f : Off cx σ I) (h0 : s.heap.get? I = some o) : R prog w (cx.withP fun b x => cx.P b x ∨ (b = I ∧ x = o)) σ s :=
  ⟨r.stay, r.ff, r.ns, r.loc, fun b x e => e.elim (r.pr b x) (fun ⟨p, q⟩ => by subst p; subst q; exact ⟨h0, f.fr⟩), r.pn,
    fun a ao e => let ⟨p, q1, q2, q3⟩ := r.ob a ao e; ⟨p, q1, fun x e' => e'.elim (q2 x) fun ⟨p', _⟩ => by subst p'; exact f.hp _ e, q3⟩,
    fun a e => let ⟨q1, q2, q3⟩ := r.own a e; ⟨q1, fun x e' => e'.elim (q2 x) fun ⟨p', _⟩ => by subst p'; exact f.own e, q3⟩, r.cel, r.oth, r.gens, r.drawn, r.os⟩
theorem Off.of_guard {s : Shared} {I : Addr} {o : Obj} {σ σ' : AS} (f : Off cx σ I) (r : R prog w (cx.withP fun b x => cx.P b x ∨ (b = I ∧ x = o)) σ' s) : Off cx σ' I :=
  ⟨f.base, f.P, fun ao e => (r.ob I ao e).2.2.1 o (.inr ⟨rfl, rfl⟩), f.own, f.fr⟩

/-! while -/
theorem ex_while (ok : Ok prog K cx sc n) (hfe : cx.env = cx.fenv) {test : Expr} {body : List Stmt} (J : Nat → AS → Prop) (k₀ : Nat) (h0 : J k₀ σ)
    (turn : ∀ k σ₁, J k σ₁ → WTr prog w cx test σ₁ (fun c σ₂ => if c then WExs prog w cx body σ₂ (fun f σ₃ => match f with | .next | .cont => ∃ m, m < k ∧ J m σ₃ | .brk => QF .next σ₃ | .ret v => QF (.ret v) σ₃) E else QF .next σ₂) E) :
    WEx prog w cx (.While test body [] pos) σ QF E := fun s r => by
  refine wpAny_While (codeAny_whileLoop (I := fun k s' => ∃ σ', R prog w cx σ' s' ∧ VM s.heap s'.heap ∧ J k σ') ?_ k₀ ⟨σ, r, VM.refl _, h0⟩)
  rintro k s₁ ⟨σ₁, r₁, m₁, hj⟩
  refine wpAny_mono (turn k σ₁ hj s₁ r₁) (fun c s₂ ⟨c', σ₂, r₂, v₂, m₂, q₂⟩ => ?_) fun e s' p => passes ok.fr hfe m₁ p
  have hc : c' = c := v₂
  subst hc
  cases c' with
  | false => exact wpAny_execs_nil ⟨.next, σ₂, r₂, rfl, m₁.trans m₂, q₂⟩
  | true =>
    refine wpAny_mono (q₂ s₂ r₂) (fun f s₃ ⟨a, σ₃, r₃, v₃, m₃, q₃⟩ => ?_) fun e s' p => passes ok.fr hfe (m₁.trans m₂) p
    have mm := (m₁.trans m₂).trans m₃
    cases a with
    | next => rw [show f = .next from v₃]; obtain ⟨m, hm, hj'⟩ := q₃; exact ⟨m, hm, σ₃, r₃, mm, hj'⟩
    | cont => rw [show f = .cont from v₃]; obtain ⟨m, hm, hj'⟩ := q₃; exact ⟨m, hm, σ₃, r₃, mm, hj'⟩
    | brk => rw [show f = .brk from v₃]; exact ⟨.next, σ₃, r₃, rfl, mm, q₃⟩
    | ret a => obtain ⟨v, rfl, hv⟩ := v₃; exact ⟨.ret a, σ₃, r₃, ⟨v, rfl, hv⟩, mm, q₃⟩

/-- what a loop's turn must give -/
def Turn (J : AS → Prop) (QF : AF → AS → Prop) (f : AF) (σ : AS) : Prop := match f with | .next | .cont => J σ | .brk => QF .next σ | .ret v => QF (.ret v) σ

/-! for over a list -/
def ForL (prog : Program) (w : World) (cx : CX) (x : Str) (body : List Stmt) (QF : AF → AS → Prop) (E : Value → AS → Prop) (v : AV) (σ₁ : AS) : Prop :=
  ∃ ax l, ∃ J : Nat → AS → Prop, v = .ref ax ∧ J 0 σ₁ ∧ (∀ i σ, J i σ → σ.hp ax = some (.list l)) ∧
    (∀ i a σ P', l[i]? = some a → J i σ → (∀ b o, cx.P b o → P' b o) → WExs prog w (cx.withP P') body (σ.set x a) (Turn (J (i + 1)) QF) E) ∧ ∀ σ, J l.length σ → QF .next σ

theorem listIter_data {h : Heap} {I l : Addr} {i : Nat} (x : h.IsListIter I l i) : ∃ o, h.get? I = some o ∧ (∀ xs n, o.data ≠ .seq xs n) ∧ ∀ h' : Heap, h'.get? I = some o → h'.IsListIter I l i := by
  obtain ⟨o, a, b, c⟩ := x
  exact ⟨o, a, by intro xs n; rw [c]; simp, fun h' e => ⟨o, e, b, c⟩⟩

theorem ex_for_list (ok : Ok prog K cx sc n) (hfe : cx.env = cx.fenv) (hh : cx.A.handled = none) {x : Str} {px : Pos} {iter : Expr} {body : List Stmt} (hx : sc.names.lookup x = some .local)
    (h : WEv prog w cx iter σ (ForL prog w cx x body QF E) E) (hs : ∀ v, foldedSetIterable iter cx.env v = pure v) : WEx prog w cx (.For (.Name x px) iter body [] pos) σ QF E := fun s r => by
  refine wpAny_For (wpAny_mono (h s r) (fun v s₁ ⟨a, σ₁, r₁, v₁, m₁, q₁⟩ => ?_) fun _ _ e => e) hs
  obtain ⟨ax, l, J, rfl, j0, jl, turn, fin⟩ := q₁
  rw [show v = .ref ax from v₁]
  have isl : ∀ {s' : Shared} {σ' : AS}, R prog w cx σ' s' → (∃ i, J i σ') → ∃ vs, s'.heap.IsList ax (List.toArray vs) ∧ VRs s'.heap l vs := fun {s' σ'} r' ⟨i, hj⟩ => by
    obtain ⟨⟨vs, ⟨k, p⟩, q⟩, _⟩ := r'.ob ax _ (jl i σ' hj)
    exact ⟨vs, ⟨_, p, rfl, k, rfl⟩, q⟩
  obtain ⟨vs, hl, hv⟩ := isl r₁ ⟨0, j0⟩
  refine wpAny_pyIter_list hl ?_
  have hnone : s₁.heap.get? s₁.heap.objs.size = none := by
    cases q : s₁.heap.get? s₁.heap.objs.size with
    | none => rfl
    | some o => exact absurd (Heap.lt_size q) (Nat.lt_irrefl _)
  have r₂ := r₁.grow (h' := s₁.heap.push { cls := .type "list_iterator", data := .fields #[.ref ax, .int 0 0] }) (tk := s₁.toks) fun b o e => Heap.get?_push_of_some _ e
  have off := Off.new r₁ hnone
  have it0 : (s₁.heap.push { cls := .type "list_iterator", data := .fields #[.ref ax, .int 0 0] }).IsListIter s₁.heap.objs.size ax 0 := ⟨_, Heap.get?_push_size _ rfl, rfl, rfl⟩
  have m₂ : VM s.heap (s₁.heap.push { cls := .type "list_iterator", data := .fields #[.ref ax, .int 0 0] }) := m₁.trans (VM.of_keeps fun b o e => Heap.get?_push_of_some _ e)
  generalize hI : s₁.heap.objs.size = I at off it0 ⊢
  refine codeAny_forLoop (I := fun k s' => ∃ i σ', k + i = l.length + 1 ∧ i ≤ l.length ∧ R prog w cx σ' s' ∧ VM s.heap s'.heap ∧ J i σ' ∧ Off cx σ' I ∧ s'.heap.IsListIter I ax i) ?_ (l.length + 1) ⟨0, σ₁, by omega, by omega, r₂, m₂, j0, off, it0⟩
  rintro k s₃ ⟨i, σ₃, hk, hil, r₃, m₃, j₃, off₃, it₃⟩
  obtain ⟨vs₃, hl₃, hv₃⟩ := isl r₃ ⟨i, j₃⟩
  obtain ⟨o₀, ho₀, nd₀, _⟩ := listIter_data it₃
  by_cases hi : i < l.length
  · obtain ⟨v, hvi, hva⟩ := hv₃.get (i := i) (a := l[i]) (by simp [hi])
    refine wpAny_pyNext_list_item it₃ hl₃ (x := v) (by simpa using hvi) fun h' it' hs' => ?_
    obtain ⟨r₄, m₄⟩ := r₃.off (h' := h') (tk := s₃.toks) off₃ ho₀ nd₀ fun b o hb e => (hs'.2 b hb).trans e
    obtain ⟨o₁, ho₁, nd₁, back⟩ := listIter_data it'
    have hP : ∀ b o, cx.P b o → (fun b x => cx.P b x ∨ (b = I ∧ x = o₁)) b o := fun b o e => .inl e
    have g₄ := r₄.guard off₃ ho₁
    refine wpAny_assign_Name (wpAny_mono (st_name (cx := cx.withP fun b x => cx.P b x ∨ (b = I ∧ x = o₁)) (Q := fun _ σ' => σ' = σ₃.set x l[i]) (E := E) (ok.withP _) hx rfl _ v g₄ (hva.mono m₄)) (fun _ s₅ ⟨_, σ₅, r₅, _, m₅, q₅⟩ => ?_) fun e s' p => passes ok.fr hfe (m₃.trans m₄) (p.lessP hP))
    subst q₅
    have m₅' := (m₃.trans m₄).trans m₅
    refine wpAny_mono (turn i l[i] σ₃ _ (by simp [hi]) j₃ hP s₅ r₅) (fun f s₆ ⟨fa, σ₆, r₆, v₆, m₆, q₆⟩ => ?_) fun e s' p => passes ok.fr hfe m₅' (p.lessP hP)
    have mm := m₅'.trans m₆
    have again : J (i + 1) σ₆ → ∃ m, m < k ∧ ∃ i σ', m + i = l.length + 1 ∧ i ≤ l.length ∧ R prog w cx σ' s₆ ∧ VM s.heap s₆.heap ∧ J i σ' ∧ Off cx σ' I ∧ s₆.heap.IsListIter I ax i := fun hj =>
      ⟨k - 1, by omega, i + 1, σ₆, by omega, by omega, r₆.lessP hP, mm, hj, off₃.of_guard r₆, back _ (r₆.pr I o₁ (.inr ⟨rfl, rfl⟩)).1⟩
    cases fa with
    | next => rw [show f = .next from v₆]; exact again q₆
    | cont => rw [show f = .cont from v₆]; exact again q₆
    | brk => rw [show f = .brk from v₆]; exact ⟨.next, σ₆, r₆.lessP hP, rfl, mm, q₆⟩
    | ret a => obtain ⟨v, rfl, hv⟩ := v₆; exact ⟨.ret a, σ₆, r₆.lessP hP, ⟨v, rfl, hv⟩, mm, q₆⟩
  · have : i = l.length := by omega
    subst this
    refine wpAny_pyNext_list_end hh it₃ hl₃ (by simp [hv₃.length]) fun h' he' => ?_
    obtain ⟨r₄, m₄⟩ := r₃.off (h' := h') (tk := s₃.toks) off₃ ho₀ nd₀ fun b o hb e => he' b o hb e
    exact wpAny_execs_nil ⟨.next, σ₃, r₄, rfl, m₃.trans m₄, fin σ₃ j₃⟩

/-! for over a range of step one -/
def ForR (prog : Program) (w : World) (cx : CX) (x : Str) (body : List Stmt) (QF : AF → AS → Prop) (E : Value → AS → Prop) (v : AV) (σ₁ : AS) : Prop :=
  ∃ ax a b c, ∃ J : Nat → AS → Prop, v = .ref ax ∧ σ₁.hp ax = some (.range a b c) ∧ c ≠ 0 ∧ Builtin.Range.small a b c = true ∧ J 0 σ₁ ∧
    (∀ i σ P', i < (Builtin.Range.rangeSize a b c).toNat → J i σ → (∀ b o, cx.P b o → P' b o) → WExs prog w (cx.withP P') body (σ.set x (.int (a + i * c))) (Turn (J (i + 1)) QF) E) ∧ ∀ σ, J (Builtin.Range.rangeSize a b c).toNat σ → QF .next σ

theorem rangeSize_nonneg (a b c : Int) (hc : c ≠ 0) : 0 ≤ Builtin.Range.rangeSize a b c := by
  unfold Builtin.Range.rangeSize
  split
  · split
    · have : 0 ≤ (b - a - 1) / c := Int.ediv_nonneg (by omega) (by omega)
      omega
    · omega
  · split
    · have : 0 ≤ (a - b - 1) / (-c) := Int.ediv_nonneg (by omega) (by omega)
      omega
    · omega

theorem ex_for_range (ok : Ok prog K cx sc n) (hfe : cx.env = cx.fenv) (hh : cx.A.handled = none) {x : Str} {px : Pos} {iter : Expr} {body : List Stmt} (hx : sc.names.lookup x = some .local)
    (h : WEv prog w cx iter σ (ForR prog w cx x body QF E) E) (hs : ∀ v, foldedSetIterable iter cx.env v = pure v) : WEx prog w cx (.For (.Name x px) iter body [] pos) σ QF E := fun s r => by
  refine wpAny_For (wpAny_mono (h s r) (fun v s₁ ⟨a, σ₁, r₁, v₁, m₁, q₁⟩ => ?_) fun _ _ e => e) hs
  obtain ⟨ax, a, b, c, J, rfl, hr, hc0, hsm, j0, turn, fin⟩ := q₁
  rw [show v = .ref ax from v₁]
  obtain ⟨⟨t, u, v', hR⟩, _⟩ := r₁.ob ax _ hr
  refine wpAny_pyIter_range hR hsm ?_
  obtain ⟨N, hN⟩ : ∃ N : Nat, Builtin.Range.rangeSize a b c = N := ⟨(Builtin.Range.rangeSize a b c).toNat, by rw [Int.toNat_of_nonneg (rangeSize_nonneg a b c hc0)]⟩
  rw [hN] at turn fin ⊢
  rw [Int.toNat_natCast] at turn fin
  have hnone : s₁.heap.get? s₁.heap.objs.size = none := by
    cases q : s₁.heap.get? s₁.heap.objs.size with
    | none => rfl
    | some o => exact absurd (Heap.lt_size q) (Nat.lt_irrefl _)
  have r₂ := r₁.grow (h' := s₁.heap.push { cls := .type "range_iterator", data := .fields #[rawInt a, rawInt N, rawInt c] }) (tk := s₁.toks) fun b o e => Heap.get?_push_of_some _ e
  have off := Off.new r₁ hnone
  have it0 : IsRangeIter (s₁.heap.push { cls := .type "range_iterator", data := .fields #[rawInt a, rawInt N, rawInt c] }) s₁.heap.objs.size a N c := Heap.get?_push_size _ rfl
  have m₂ : VM s.heap (s₁.heap.push { cls := .type "range_iterator", data := .fields #[rawInt a, rawInt N, rawInt c] }) := m₁.trans (VM.of_keeps fun b o e => Heap.get?_push_of_some _ e)
  generalize hI : s₁.heap.objs.size = I at off it0 ⊢
  have W := Walks.range (prog := prog) (w := w) hh I a c N
  refine codeAny_forLoop (I := fun k s' => ∃ i σ', k + i = N + 1 ∧ i ≤ N ∧ R prog w cx σ' s' ∧ VM s.heap s'.heap ∧ J i σ' ∧ Off cx σ' I ∧ IsRangeIter s'.heap I (a + (i : Nat) * c) ((N : Int) - (i : Nat)) c) ?_ (N + 1) ⟨0, σ₁, by omega, by omega, r₂, m₂, j0, off, by simpa using it0⟩
  rintro k s₃ ⟨i, σ₃, hk, hil, r₃, m₃, j₃, off₃, it₃⟩
  by_cases hi : i < N
  · refine W.item i s₃ _ _ hi it₃ fun v h' tk hv it' hs' => ?_
    obtain ⟨tv, rfl⟩ := hv
    obtain ⟨r₄, m₄⟩ := r₃.off (h' := h') (tk := tk) off₃ it₃ (by intro xs n; simp) fun b o hb e => hs' b o (by simpa using hb) e
    have hP : ∀ b o, cx.P b o → (fun b x => cx.P b x ∨ (b = I ∧ x = { cls := .type "range_iterator", dict := none, data := .fields #[rawInt (a + ((i + 1 : Nat) : Int) * c), rawInt ((N : Int) - ((i + 1 : Nat) : Int)), rawInt c], slots := #[] })) b o := fun b o e => .inl e
    have g₄ := r₄.guard off₃ it'
    refine wpAny_assign_Name (wpAny_mono (st_name (cx := cx.withP fun b x => cx.P b x ∨ (b = I ∧ x = { cls := .type "range_iterator", dict := none, data := .fields #[rawInt (a + ((i + 1 : Nat) : Int) * c), rawInt ((N : Int) - ((i + 1 : Nat) : Int)), rawInt c], slots := #[] })) (Q := fun _ σ' => σ' = σ₃.set x (.int (a + i * c))) (E := E) (ok.withP _) hx rfl _ _ g₄ vr_int) (fun _ s₅ ⟨_, σ₅, r₅, _, m₅, q₅⟩ => ?_) fun e s' p => passes ok.fr hfe (m₃.trans m₄) (p.lessP hP))
    subst q₅
    have m₅' := (m₃.trans m₄).trans m₅
    refine wpAny_mono (turn i σ₃ _ hi j₃ hP s₅ r₅) (fun f s₆ ⟨fa, σ₆, r₆, v₆, m₆, q₆⟩ => ?_) fun e s' p => passes ok.fr hfe m₅' (p.lessP hP)
    have mm := m₅'.trans m₆
    have again : J (i + 1) σ₆ → ∃ m, m < k ∧ ∃ i σ', m + i = N + 1 ∧ i ≤ N ∧ R prog w cx σ' s₆ ∧ VM s.heap s₆.heap ∧ J i σ' ∧ Off cx σ' I ∧ IsRangeIter s₆.heap I (a + (i : Nat) * c) ((N : Int) - (i : Nat)) c := fun hj =>
      ⟨k - 1, by omega, i + 1, σ₆, by omega, by omega, r₆.lessP hP, mm, hj, off₃.of_guard r₆, (r₆.pr I _ (.inr ⟨rfl, rfl⟩)).1⟩
    cases fa with
    | next => rw [show f = .next from v₆]; exact again q₆
    | cont => rw [show f = .cont from v₆]; exact again q₆
    | brk => rw [show f = .brk from v₆]; exact ⟨.next, σ₆, r₆.lessP hP, rfl, mm, q₆⟩
    | ret a => obtain ⟨v, rfl, hv⟩ := v₆; exact ⟨.ret a, σ₆, r₆.lessP hP, ⟨v, rfl, hv⟩, mm, q₆⟩
  · have : i = N := by omega
    subst this
    refine W.done s₃ _ _ it₃ fun h' tk he' => ?_
    obtain ⟨r₄, m₄⟩ := r₃.off (h' := h') (tk := tk) off₃ it₃ (by intro xs n; simp) fun b o hb e => he' b o (by simpa using hb) e
    exact wpAny_execs_nil ⟨.next, σ₃, r₄, rfl, m₃.trans m₄, fin σ₃ j₃⟩
end
end Mine

namespace Mine
open PySem PySem.W PyProof.Rows PySem.Calls
set_option autoImplicit false
set_option linter.unusedVariables false
section
variable {prog : Program} {w : World} {K : Frag} {cx : CX} {sc : Scope} {n : Nat} {σ : AS} {Q : AV → AS → Prop} {QB : Bool → AS → Prop} {QF : AF → AS → Prop} {E : Value → AS → Prop} {pos : Pos}

/-- an exception leaves the frame -/
theorem leaves_x {M : Model} {s : Shared} {h₀ : Heap} {L e : Addr} {C : Value} {E' : Value → Shared → Prop} {Q : Unit → Shared → Prop} (hfr : cx.A.frames = some (cx.fenv :: cx.outer)) (x : XC cx h₀ s.heap L e) (es : ExSt (hideAll h₀ cx.frames) L e C s.heap)
    (hq : ∀ h' a0, XC cx h₀ h' L e → h'.TracedW (hideAll h₀ cx.frames) e C a0 → Q () { s with heap := h' }) : wpAny M cx.A (leaving cx.fenv (.ref e)) Q E' s := by
  rcases es with ⟨oe, vs, a0, he, hC, hd, h1, h0⟩ | ⟨a0, ht⟩ | ⟨a0, ht⟩
  · subst hC
    exact wpAny_leaving_firstW hfr x.ff x.fr he x.st x.new hd h1 h0 fun h' ⟨x1, x2, x3, x4⟩ => hq h' a0 ⟨x.fr, x1, x.new, x2, x.up.trans (upToSlots_of x4)⟩ x3
  · exact wpAny_leaving_nextW hfr x.ff x.fr ht x.st x.new fun h' ⟨x1, x2, x3, x4⟩ => hq h' a0 ⟨x.fr, x1, x.new, x2, x.up.trans (upToSlots_of x4)⟩ x3
  · unfold leaving
    refine wpAny_bind (wpAny_noteFrame_againW x.fr ht ?_)
    refine wpAny_setFlight_noneW x.st x.ff ht fun h' k1 k2 k3 k4 => hq h' a0 ⟨x.fr, k1, x.new, k2, x.up.trans fun b o hb hn => ⟨o.slots, k4 b o hb hn⟩⟩ k3

theorem cellsFrom_some : ∀ (names : List (Str × NameKind)) (k : Nat) (acc : List (Str × Addr)) (x : Str), (acc.lookup x).isSome = true ∨ names.lookup x = some .cell → ((cellsFrom k names acc).lookup x).isSome = true
  | [], k, acc, x, h => by
    unfold cellsFrom
    rcases h with h | h
    · exact h
    · cases h
  | (y, kd) :: r, k, acc, x, h => by
    unfold cellsFrom
    split
    · rename_i hk
      refine cellsFrom_some r _ _ x ?_
      rcases h with h | h
      · left
        rw [List.lookup_cons]
        split
        · rfl
        · exact h
      · rw [List.lookup_cons] at h
        split at h
        · rename_i q; left; rw [List.lookup_cons, q]; rfl
        · exact .inr h
    · rename_i hk
      refine cellsFrom_some r _ _ x ?_
      rcases h with h | h
      · exact .inl h
      · rw [List.lookup_cons] at h
        split at h
        · cases h; exact absurd rfl hk
        · exact .inr h

theorem bindL_other {ko : Str → Option NameKind} : ∀ (b : List (Str × Value)) (m : Str → Option Value) (x : Str), x ∉ b.map (·.1) → bindL ko b m x = m x
  | [], m, x, _ => rfl
  | (y, v) :: r, m, x, h => by
    unfold bindL
    rw [bindL_other r _ x fun q => h (.tail _ q)]
    split
    · show (if x = y then some v else m x) = m x
      exact if_neg fun q => h (by rw [q]; exact .head _)
    · rfl
theorem bindC_other {ko : Str → Option NameKind} : ∀ (b : List (Str × Value)) (m : Str → Option Value) (x : Str), x ∉ b.map (·.1) → bindC ko b m x = m x
  | [], m, x, _ => rfl
  | (y, v) :: r, m, x, h => by
    unfold bindC
    rw [bindC_other r _ x fun q => h (.tail _ q)]
    split
    · rfl
    · show (if x = y then some v else m x) = m x
      exact if_neg fun q => h (by rw [q]; exact .head _)
theorem bindL_at {ko : Str → Option NameKind} : ∀ (b : List (Str × Value)) (m : Str → Option Value) (x : Str) (v : Value), (b.map (·.1)).Nodup → (x, v) ∈ b → ko x = some .local → bindL ko b m x = some v
  | (y, u) :: r, m, x, v, hn, hm, hk => by
    unfold bindL
    rw [List.map_cons, List.nodup_cons] at hn
    rcases List.mem_cons.mp hm with e | hm
    · cases e
      rw [bindL_other _ _ _ hn.1, if_pos hk, if_pos rfl]
    · exact bindL_at r _ x v hn.2 hm hk
theorem bindC_at {ko : Str → Option NameKind} : ∀ (b : List (Str × Value)) (m : Str → Option Value) (x : Str) (v : Value), (b.map (·.1)).Nodup → (x, v) ∈ b → ko x ≠ some .local → bindC ko b m x = some v
  | (y, u) :: r, m, x, v, hn, hm, hk => by
    unfold bindC
    rw [List.map_cons, List.nodup_cons] at hn
    rcases List.mem_cons.mp hm with e | hm
    · cases e
      rw [bindC_other _ _ _ hn.1, if_neg hk, if_pos rfl]
    · exact bindC_at r _ x v hn.2 hm hk

theorem zip_get {h : Heap} : ∀ {ps : List Str} {l : List AV} {vs : List Value} {x : Str} {a : AV}, VRs h l vs → (ps.zip l).lookup x = some a → ∃ v, (x, v) ∈ ps.zip vs ∧ VR h a v
  | [], _, _, _, _, _, e => by simp at e
  | p :: ps, [], _, _, _, _, e => by simp at e
  | p :: ps, b :: l, _, x, a, ⟨v, r, rfl, q1, q2⟩, e => by
    rw [List.zip_cons_cons, List.lookup_cons] at e
    split at e
    · rename_i q; cases e; rw [beq_iff_eq.mp q]; exact ⟨v, .head _, q1⟩
    · obtain ⟨u, h1, h2⟩ := zip_get q2 e
      exact ⟨u, .tail _ h1, h2⟩

/-- a function of the text -/
structure Fn (K : Frag) (f : Addr) (sc : Scope) (body : List Stmt) (ps : List Str) : Prop where
  ex : ∃ oc od osl name qual params dV kV doc pm an cdv ct, K.lookup f = some ⟨oc, od, .func (fnOf name qual params body sc dV kV doc pm an cdv ct), osl⟩ ∧ codeIn K cdv qual = true ∧ keepIn K (.ref f) = true ∧
    ∀ vs : List Value, vs.length = ps.length → bindArgs (fnOf name qual params body sc dV kV doc pm an cdv ct) ⟨vs, []⟩ = pure (ps.zip vs)
  nd : ps.Nodup
  kind : sc.kind = .function
  gen : sc.isGenerator = false
  co : sc.isCoroutine = false
  ks : ∀ x ∈ ps, sc.names.lookup x = some .local ∨ sc.names.lookup x = some .cell

/-- the context in a called function -/
def CX.callee (cx : CX) (env' : Env) (h : Heap) : CX where
  A := cx.A.deeper env'
  env := env'
  fenv := env'
  outer := cx.fenv :: cx.outer
  base := cx.base
  P := fun b o => cx.P b o ∨ (cx.own b ∧ b ∉ cx.frames ∧ h.get? b = some o)
  N := fun b m => cx.N b m ∨ (b = cx.env.locals ∧ b ∈ cx.frames ∧ h.Ns b m)
  gens := cx.gens
  drawn := cx.drawn
  os := cx.os

def AS.enter (σ : AS) (ps : List Str) (l : List AV) : AS := ⟨fun x => (ps.zip l).lookup x, σ.hp⟩

theorem nofields_ns {h : Heap} {a : Addr} {m : Str → Option Value} (x : h.Ns a m) : ∃ o, h.get? a = some o ∧ ∀ vs, o.data ≠ .fields vs := by
  obtain ⟨o, es, ep, a1, a2, _⟩ := x
  exact ⟨o, a1, by intro vs q; rw [a2] at q; cases q⟩

theorem R.enter {s s₁ : Shared} {sc' : Scope} {fd : FuncData} {f : Addr} {ps : List Str} {l : List AV} {vs : List Value} (r : R prog w cx σ s) (hl : VRs s.heap l vs) (hlen : ps.length = l.length) (nd : ps.Nodup) (hsc : fd.scope.kind = .function)
    (hk : ∀ x ∈ ps, fd.scope.names.lookup x = some .local ∨ fd.scope.names.lookup x = some .cell)
    (x : InCallC s (callEnvC fd s.heap.objs.size f).locals (bindL (callEnvC fd s.heap.objs.size f).kindOf (ps.zip vs) fun _ => none) (callEnvC fd s.heap.objs.size f).cells (bindC (callEnvC fd s.heap.objs.size f).kindOf (ps.zip vs) fun _ => none) s₁) :
    R prog w (cx.callee (callEnvC fd s.heap.objs.size f) s.heap) (σ.enter ps l) s₁ := by
  have L0 : (callEnvC fd s.heap.objs.size f).locals = s.heap.objs.size := rfl
  have fr0 : (callEnvC fd s.heap.objs.size f).frame = some s.heap.objs.size := rfl
  have keep := x.toInCall.keep
  have old : ∀ (b : Nat) o, s.heap.get? b = some o → b < s.heap.objs.size := fun b o e => Heap.lt_size e
  have hnb : ∀ b : Nat, s.heap.objs.size ≤ b → cx.base.get? b = none := fun b hb => by
    cases q : cx.base.get? b with
    | none => rfl
    | some o => have := old _ _ (r.stay b o q); omega
  have frOld : ∀ b : Nat, b ∈ cx.frames → b < s.heap.objs.size := fun b hb => by obtain ⟨_, o, h1, _⟩ := r.ff.mem hb; exact old _ _ h1
  have above : ∀ y (c : Nat), (callEnvC fd s.heap.objs.size f).cells.lookup y = some c → s.heap.objs.size < c := fun y c e => x.above y c (mem_of_lookup e)
  have own' : ∀ a : Nat, (cx.callee (callEnvC fd s.heap.objs.size f) s.heap).own a → s.heap.objs.size ≤ a := by
    rintro a (e | ⟨y, e⟩)
    · rw [show a = s.heap.objs.size from e]; exact Nat.le_refl _
    · exact Nat.le_of_lt (above y a e)
  have vm : VM s.heap s₁.heap := VM.of_keeps keep
  have names : (ps.zip vs).map (·.1) = ps := by
    rw [List.map_fst_zip]
    rw [hl.length]; omega
  have nd' : ((ps.zip vs).map (·.1)).Nodup := by rw [names]; exact nd
  obtain ⟨h₁, tk, hs₁⟩ := x.toInCall.same
  have ffk : s₁.heap.FunFrames cx.base (cx.fenv :: cx.outer) := r.ff.of_keeps fun b o e _ => ⟨o, keep b o e, rfl⟩
  refine ⟨fun b o e => keep b o (r.stay b o e), ?_, ⟨_, x.toInCall.ns⟩, fun y a e => ?_, fun b o e => ?_, fun b m e => ?_, fun a ao e => ?_, fun a e => ?_, fun y c e => ?_, fun e he hf => ?_, by rw [hs₁]; exact r.gens, by rw [hs₁]; exact r.drawn, by rw [hs₁]; exact r.os⟩
  · obtain ⟨o, h1, h2⟩ := nofields_ns x.toInCall.ns
    refine ⟨?_, ⟨s.heap.objs.size, o, fr0, hnb _ (Nat.le_refl _), h1, h2⟩, ffk⟩
    show fd.scope.kind ≠ .module
    rw [hsc]; decide
  · obtain ⟨v, hm, hv⟩ := zip_get hl e
    refine ⟨v, ?_, hv.mono vm⟩
    have hy : y ∈ ps := by rw [← names]; exact List.mem_map.mpr ⟨_, hm, rfl⟩
    unfold LocAt
    rcases hk y hy with q | q
    · have hko : (callEnvC fd s.heap.objs.size f).kindOf y = some .local := q
      show match (callEnvC fd s.heap.objs.size f).kindOf y with | some .local => _ | some .cell => _ | some .free => _ | _ => False
      rw [hko]
      exact ⟨_, x.toInCall.ns, bindL_at _ _ _ _ nd' hm hko⟩
    · have hko : (callEnvC fd s.heap.objs.size f).kindOf y = some .cell := q
      show match (callEnvC fd s.heap.objs.size f).kindOf y with | some .local => _ | some .cell => _ | some .free => _ | _ => False
      rw [hko]
      obtain ⟨c, hc⟩ := Option.isSome_iff_exists.mp (cellsFrom_some fd.scope.names (s.heap.objs.size + 1) [] y (.inr q))
      obtain ⟨o, h1, h2⟩ := x.cell y c hc
      exact ⟨c, o, hc, h1, by rw [h2, bindC_at _ _ _ _ nd' hm (by rw [hko]; decide)]⟩
  · have : s.heap.get? b = some o ∧ b ∉ cx.frames := e.elim (fun e => r.pr b o e) fun ⟨_, q, q'⟩ => ⟨q', q⟩
    refine ⟨keep b o this.1, fun hm => ?_⟩
    rcases List.mem_cons.mp (show b ∈ s.heap.objs.size :: cx.frames from hm) with q | q
    · have lt := old _ _ this.1; rw [q] at lt; exact absurd lt (Nat.lt_irrefl _)
    · exact this.2 q
  · have : s.heap.Ns b m ∧ b ∈ cx.frames := e.elim (fun e => r.pn b m e) fun ⟨_, q, q'⟩ => ⟨q', q⟩
    exact ⟨this.1.keeps keep, List.mem_cons_of_mem _ this.2⟩
  · obtain ⟨p, q1, q2, q3, q4⟩ := r.ob a ao e
    obtain ⟨o, ho, _⟩ := p.there
    have lt := old _ _ ho
    refine ⟨p.at vm fun o => keep a o, q1, fun o e' => e'.elim (q2 o) fun ⟨q, _⟩ => q3 q, fun q => by have := own' a q; omega, fun e he hf => ?_⟩
    rcases List.mem_cons.mp he with q | q
    · subst q; injection (fr0.symm.trans hf) with hf; rw [← hf] at lt; exact absurd lt (Nat.lt_irrefl _)
    · exact q4 e q hf
  · have := own' a e
    refine ⟨hnb a this, fun o e' => ?_, fun m e' => ?_⟩
    · have : s.heap.get? a = some o := e'.elim (fun e => (r.pr a o e).1) fun ⟨_, _, q'⟩ => q'
      have := old _ _ this; omega
    · have : s.heap.Ns a m := e'.elim (fun e => (r.pn a m e).1) fun ⟨_, _, q'⟩ => q'
      obtain ⟨o, h1, _⟩ := nofields_ns this
      have := old _ _ h1; omega
  · have lt := above y c e
    refine ⟨fun q => ?_, ?_, fun e he hf => ?_⟩
    · rw [show c = s.heap.objs.size from q] at lt; exact absurd lt (Nat.lt_irrefl _)
    · obtain ⟨o, h1, h2⟩ := x.cell y c e
      exact ⟨o, _, h1, h2⟩
    · rcases List.mem_cons.mp he with q | q
      · subst q; injection (fr0.symm.trans hf) with hf; rw [← hf] at lt; exact absurd lt (Nat.lt_irrefl _)
      · have := frOld c (List.mem_filterMap.mpr ⟨e, q, hf⟩); omega
  · have := frOld s.heap.objs.size (List.mem_filterMap.mpr ⟨e, he, hf⟩); omega

/-- back in the caller -/
theorem R.leave {s s₂ : Shared} {env' : Env} {σ₂ : AS} (r : R prog w cx σ s) (r₂ : R prog w (cx.callee env' s.heap) σ₂ s₂) (vm : VM s.heap s₂.heap) : R prog w cx ⟨σ.loc, σ₂.hp⟩ s₂ := by
  have ownIn : ∀ a o, cx.own a → s.heap.get? a = some o → a ∉ cx.frames → s₂.heap.get? a = some o := fun a o h1 h2 h3 => (r₂.pr a o (.inr ⟨h1, h3, h2⟩)).1
  have nsIn : ∀ m, s.heap.Ns cx.env.locals m → s₂.heap.Ns cx.env.locals m := fun m hm => by
    by_cases hf : cx.env.locals ∈ cx.frames
    · exact (r₂.pn _ m (.inr ⟨rfl, hf, hm⟩)).1
    · obtain ⟨o, es, ep, h1, h2⟩ := hm
      exact ⟨o, es, ep, ownIn _ _ (.inl rfl) h1 hf, h2⟩
  have cellIn : ∀ x c o, cx.env.cells.lookup x = some c → s.heap.get? c = some o → s₂.heap.get? c = some o := fun x c o h1 h2 =>
    ownIn c o (.inr ⟨x, h1⟩) h2 fun hm => by obtain ⟨e, he, hf⟩ := mem_frame hm; exact (r.cel x c h1).2.2 e he hf
  refine ⟨r₂.stay, r₂.ff.2.2, ?_, fun x v e => ?_, fun b o e => ?_, fun b m e => ?_, fun a ao e => ?_, r.own, fun x c e => ?_, r.oth, r₂.gens, r₂.drawn, r₂.os⟩
  · obtain ⟨m, hm⟩ := r.ns; exact ⟨m, nsIn m hm⟩
  · obtain ⟨u, l, b⟩ := r.loc x v e
    refine ⟨u, ?_, b.mono vm⟩
    unfold LocAt at l ⊢
    split at l
    · obtain ⟨m, a1, a2⟩ := l; exact ⟨m, nsIn m a1, a2⟩
    · obtain ⟨c, o, a1, a2, a3⟩ := l; exact ⟨c, o, a1, cellIn x c o a1 a2, a3⟩
    · obtain ⟨c, o, a1, a2, a3⟩ := l; exact ⟨c, o, a1, cellIn x c o a1 a2, a3⟩
    · exact l
  · exact ⟨(r₂.pr b o (.inl e)).1, (r.pr b o e).2⟩
  · exact ⟨(r₂.pn b m (.inl e)).1, (r.pn b m e).2⟩
  · obtain ⟨p, q1, q2, q3, q4⟩ := r₂.ob a ao e
    refine ⟨p, q1, fun o e' => q2 o (.inl e'), fun hb => ?_, fun e he hf => q4 e (.tail _ he) hf⟩
    by_cases hf : a ∈ cx.frames
    · obtain ⟨en, he, hf⟩ := mem_frame hf
      exact q4 en (.tail _ he) hf
    · rcases hb with q | ⟨x, q⟩
      · obtain ⟨m, hm⟩ := r.ns
        obtain ⟨o, h1, _⟩ := nofields_ns hm
        exact q2 o (.inr ⟨.inl q, hf, by rw [q]; exact h1⟩)
      · obtain ⟨_, ⟨o, v, c1, _⟩, _⟩ := r.cel x a q
        exact q2 o (.inr ⟨.inr ⟨x, q⟩, hf, c1⟩)
  · obtain ⟨p, ⟨o, v, c1, c2⟩, c3⟩ := r.cel x c e
    exact ⟨p, ⟨o, v, cellIn x c o e c1, c2⟩, c3⟩
end
end Mine

namespace Mine
open PySem PySem.W PyProof.Rows PySem.Calls
set_option autoImplicit false
set_option linter.unusedVariables false
section
variable {prog : Program} {w : World} {K : Frag} {cx : CX} {sc : Scope} {n : Nat} {σ : AS} {Q : AV → AS → Prop} {QB : Bool → AS → Prop} {QF : AF → AS → Prop} {E : Value → AS → Prop} {pos : Pos}

theorem postE_leave {s s₀ s' : Shared} {σ₂ : AS} {env' : Env} {L e : Addr} {h' : Heap} {C a0 : Value} (r : R prog w cx σ s) (hx : ∃ L, cx.fenv.frame = some L) (hf : env'.frame = some L) (hlo : env'.locals = L) (r₂ : R prog w (cx.callee env' s.heap) σ₂ s₀) (vm : VM s.heap s₀.heap)
    (x : XC (cx.callee env' s.heap) s₀.heap h' L e) (t : h'.TracedW (hideAll s₀.heap (cx.callee env' s.heap).frames) e C a0) (hs : s' = { s₀ with heap := h', toks := s'.toks }) (q : E C ⟨σ.loc, σ₂.hp⟩) : PostE prog w cx s E (.ref e) s' := by
  obtain ⟨Lc, hLc⟩ := hx
  have frs : (cx.callee env' s.heap).frames = L :: cx.frames := by
    show ((env' :: cx.fenv :: cx.outer).filterMap (·.frame)) = _
    rw [List.filterMap_cons, hf]
    rfl
  rw [frs] at t
  have x1 := x.st; have x2 := x.new; have x4 := x.ff; have x5 := x.up
  rw [frs] at x1 x2 x4
  have r₃ := r.leave r₂ vm
  have own' : (cx.callee env' s.heap).own L := .inl hlo.symm
  obtain ⟨o1, o2, o3⟩ := r₂.own L own'
  have off : Off cx ⟨σ.loc, σ₂.hp⟩ L := by
    have fr : L ∉ cx.frames := fun hm => by obtain ⟨en, he, hf'⟩ := mem_frame hm; exact r₂.oth en he (by rw [hf']; exact congrArg some hlo.symm)
    refine ⟨o1, fun o e' => o2 o (.inl e'), fun ao e' => (r₂.ob L ao e').2.2.2.1 own', fun hb => ?_, fr⟩
    rcases hb with q | ⟨y, q⟩
    · obtain ⟨m, hm⟩ := r.ns
      obtain ⟨o, h1, _⟩ := nofields_ns hm
      exact o2 o (.inr ⟨.inl q, fr, by rw [q]; exact h1⟩)
    · obtain ⟨_, ⟨o, v, c1, _⟩, _⟩ := r.cel y L q
      exact o2 o (.inr ⟨.inr ⟨y, q⟩, fr, c1⟩)
  obtain ⟨m, hm⟩ := r₂.ns
  rw [show (cx.callee env' s.heap).env.locals = L from hlo] at hm
  obtain ⟨o₀, es, ep, g0, g1, g2⟩ := hm
  obtain ⟨sl, gL⟩ := x5 L o₀ g0 (by intro vs q; rw [g1] at q; cases q)
  obtain ⟨h₀', hh₀⟩ : ∃ h₀' : Heap, h₀' = s₀.heap.update L (fun _ => { o₀ with slots := sl }) := ⟨_, rfl⟩
  have gL' : h₀'.get? L = some { o₀ with slots := sl } := by
    rw [hh₀]; exact Heap.get?_update_self _ g0 (Heap.get?_some_iff.mp gL).2
  have gO : ∀ b, b ≠ L → h₀'.get? b = s₀.heap.get? b := fun b hb => by rw [hh₀]; exact Heap.get?_update_other _ _ (Ne.symm hb)
  obtain ⟨r₄, vm₄⟩ := r₃.off (h' := h₀') (tk := s₀.toks) off g0 (by intro xs n q; rw [g1] at q; cases q) fun b o hb e' => (gO b hb).trans e'
  obtain ⟨oe, vs, T, oT, ts, he, hcls, hd, h1, hnT, hTe, hT, hdT, h3⟩ := t
  have eL : e ≠ L := fun q => by subst q; rw [gL] at he; injection he with he; subst he; rw [show ({ o₀ with slots := sl } : Obj).data = _ from g1] at hd; cases hd
  have TL : T ≠ L := fun q => by subst q; rw [gL] at hT; injection hT with hT; subst hT; rw [show ({ o₀ with slots := sl } : Obj).data = _ from g1] at hdT; cases hdT
  have hid : ∀ b o, (hideAll h₀' cx.frames).get? b = some o → h'.get? b = some o := fun b o e' => by
    have e1 := of_hideAll _ e'
    have nf : b ∉ cx.frames := fun hm => by rw [hideAll_none _ hm] at e'; cases e'
    by_cases hb : b = L
    · subst hb; rw [gL'] at e1; rw [← e1]; exact gL
    · exact x1 b o (hideAll_get _ ((gO b hb).symm.trans e1) fun hm => by
        rcases List.mem_cons.mp hm with q | q
        · exact hb q
        · exact nf q)
  have hidN : ∀ b, b ≠ L → (hideAll s₀.heap (L :: cx.frames)).get? b = none → (hideAll h₀' cx.frames).get? b = none := fun b hb e' => by
    cases q : (hideAll h₀' cx.frames).get? b with
    | none => rfl
    | some o =>
      have e1 := of_hideAll _ q
      have nf : b ∉ cx.frames := fun hm => by rw [hideAll_none _ hm] at q; cases q
      rw [hideAll_get _ ((gO b hb).symm.trans e1) fun hm => by
        rcases List.mem_cons.mp hm with q | q
        · exact hb q
        · exact nf q] at e'
      cases e'
  refine ⟨e, C, _, { s₀ with heap := h₀', toks := s₀.toks }, Lc, rfl, r₄, by rw [hs], ?_, .inr (.inl ⟨a0, oe, vs, T, oT, ts, ?_, hcls, hd, h1, hidN T TL hnT, hTe, ?_, hdT, h3⟩), vm.trans vm₄, q⟩
  · have heq : s'.heap = h' := by rw [hs]
    rw [heq]
    refine ⟨hLc, hid, hidN e eL x2, ?_, fun b o hb hn => ?_⟩
    · have : ∀ l : List Env, (∀ en ∈ l, ∀ a, en.frame = some a → a ∈ cx.frames) → h'.FunFrames (hideAll s₀.heap (L :: cx.frames)) l → h'.FunFrames (hideAll h₀' cx.frames) l := by
        intro l
        induction l with
        | nil => exact fun _ _ => trivial
        | cons en l ih =>
          rintro hm ⟨hk, ⟨a, o, hf, hn, ho, hd⟩, hr⟩
          exact ⟨hk, ⟨a, o, hf, hideAll_none _ (hm en (.head _) a hf), ho, hd⟩, ih (fun e he => hm e (.tail _ he)) hr⟩
      exact this _ (fun en he a ha => List.mem_filterMap.mpr ⟨en, he, ha⟩) x4.2.2
    · by_cases hb' : b = L
      · subst hb'; rw [gL'] at hb; injection hb with hb; subst hb; exact ⟨_, gL⟩
      · exact x5 b o ((gO b hb').symm.trans hb) hn
  · rw [hs]; exact he
  · rw [hs]; exact hT

/-- a call of a value -/
def WCl (prog : Program) (w : World) (cx : CX) (f : Value) (l : List AV) (σ : AS) (Q : AV → AS → Prop) (E : Value → AS → Prop) : Prop :=
  ∀ s vs, R prog w cx σ s → VRs s.heap l vs → wpAny (model prog w) cx.A (call f vs) (PostR prog w VR cx s Q) (PostE prog w cx s E) s

def retOf : AF → AV | .ret v => v | _ => .none

/-- a call of a function of the text -/
theorem cl_fn (ok : Ok prog K cx sc (n + 1)) {f : Addr} {sc' : Scope} {body : List Stmt} {ps : List Str} {l : List AV} (F : Fn K f sc' body ps) (hlen : ps.length = l.length)
    (h : ∀ cx', Ok prog K cx' sc' n → cx'.env = cx'.fenv → cx'.A.handled = cx.A.handled → WExs prog w cx' body (σ.enter ps l) (fun fl σ₂ => Q (retOf fl) ⟨σ.loc, σ₂.hp⟩) (fun C σ₂ => E C ⟨σ.loc, σ₂.hp⟩)) :
    WCl prog w cx (.ref f) l σ Q E := by
  intro s vs r hv
  obtain ⟨oc, od, osl, name, qual, params, dV, kV, doc, pm, an, cdv, ct, hlk, hcd, _, hb⟩ := F.ex
  have KX := ok.glo.KX
  have X : K.In s.heap := fun a o e => r.stay a o (KX a o e)
  have hvl : vs.length = ps.length := by rw [hv.length, hlen]
  refine wpAny_call (codeAny_call_cells (fd := fnOf name qual params body sc' dV kV doc pm an cdv ct) (body := body) (binds := ps.zip vs) (by have := ok.depth; omega) (X _ _ hlk) rfl (ok.glo.nolimit.keeps r.stay) (codeRec_of X hcd) rfl (hb vs hvl) rfl ?_ ?_ F.co F.gen F.kind)
  · intro y hy
    rcases F.ks y.1 ((List.of_mem_zip hy).1) with q | q
    · exact .inl q
    · exact .inr ⟨q, cellsFrom_some _ _ _ _ (.inr q)⟩
  · intro s₁ x
    have r₁ := r.enter (sc' := sc') hv hlen F.nd (fd := fnOf name qual params body sc' dV kV doc pm an cdv ct) F.kind F.ks x
    have ok' : Ok prog K (cx.callee (callEnvC (fnOf name qual params body sc' dV kV doc pm an cdv ct) s.heap.objs.size f) s.heap) sc' n :=
      ⟨ok.glo, by show (cx.A.frames.map _) = _; rw [ok.fr]; rfl, rfl, F.kind, rfl, rfl, rfl, F.gen, F.co, rfl, rfl, F.kind, by have := ok.depth; show cx.A.depth + 1 + 4 * n + 140 < _; omega, by have := ok.units; show cx.A.units + 3 + 16 * n + 200 < _; omega⟩
    have vm : VM s.heap s₁.heap := VM.of_keeps x.toInCall.keep
    refine wpAny_mono (h _ ok' rfl rfl s₁ r₁) (fun fl s₂ ⟨a, σ₂, r₂, v₂, m₂, q₂⟩ => ?_) fun v s₂ he => ?_
    · have r₃ := r.leave r₂ (vm.trans m₂)
      cases a with
      | next => rw [show fl = .next from v₂]; exact ⟨AV.none, _, r₃, vr_none, vm.trans m₂, q₂⟩
      | brk => rw [show fl = .brk from v₂]; exact ⟨AV.none, _, r₃, vr_none, vm.trans m₂, q₂⟩
      | cont => rw [show fl = .cont from v₂]; exact ⟨AV.none, _, r₃, vr_none, vm.trans m₂, q₂⟩
      | ret a => obtain ⟨v, rfl, hv'⟩ := v₂; exact ⟨_, _, r₃, hv', vm.trans m₂, q₂⟩
    · obtain ⟨e, C, σ₂, s₀, L, rfl, r₂, hs, x₂, es, m₂, q₂⟩ := he
      have hL : L = s.heap.objs.size := by
        have := x₂.fr
        injection ((show some L = some s.heap.objs.size from this.symm.trans rfl))
      refine leaves_x ok'.fr x₂ es fun h' a0 x₃ t => ?_
      have : ∃ L, cx.fenv.frame = some L := by obtain ⟨_, ⟨L, o, hf, _⟩, _⟩ := r.ff; exact ⟨L, hf⟩
      exact postE_leave r this (by rw [hL]; rfl) (by rw [hL]; rfl) r₂ (vm.trans m₂) x₃ t (by rw [hs]) q₂

/-! arguments -/
abbrev WAr (prog : Program) (w : World) (cx : CX) (pos : Pos) (es : List Expr) (σ : AS) (Q : List AV → AS → Prop) (E : Value → AS → Prop) : Prop := Wp prog w VRs cx (spliced (backTo pos (starEach es cx.env))) σ Q E
theorem ar_nil {Q : List AV → AS → Prop} (h : Q [] σ) : WAr prog w cx pos [] σ Q E := fun s r => args_nil (here0 (rel := VRs) (b := []) r rfl h)
theorem ar_cons {e : Expr} {rest : List Expr} {Q : List AV → AS → Prop} (h : WEv prog w cx e σ (fun a σ₁ => WAr prog w cx pos rest σ₁ (fun l σ₂ => Q (a :: l) σ₂) E) E) (he : ∀ env, starEach (e :: rest) env = (false, eval e env) :: starEach rest env := by intro env; rfl) :
    WAr prog w cx pos (e :: rest) σ Q E := fun s r => by
  refine args_cons (wpAny_mono (h s r) (fun v s₁ ⟨a, σ₁, r₁, v₁, m₁, q₁⟩ => ?_) fun _ _ e => e) (he _)
  exact wpAny_mono (q₁ s₁ r₁) (fun vs s₂ ⟨l, σ₂, r₂, v₂, m₂, q₂⟩ => ⟨a :: l, σ₂, r₂, ⟨v, vs, rfl, v₁.mono m₂, v₂⟩, m₁.trans m₂, q₂⟩) fun _ _ e => e.mono m₁

theorem evalArgs_all {M : Model} {A : Around} {s : Shared} {E : Value → Shared → Prop} {f : Value} {a : List (Bool × Sem Value)} {Q : Args → Shared → Prop} (hp : a.any (·.1) = false) (h : wpAny M A (spliced a) (fun vs s' => Q ⟨vs, []⟩ s') E s) : wpAny M A (evalArgs f true a []) Q E s := by
  cases a with
  | nil =>
    unfold evalArgs
    show wpAny M A (spliced [] >>= _) Q E s
    refine wpAny_bind (wpAny_mono h (fun vs s' h' => wpAny_bind (wpAny_pure ?_)) fun _ _ x => x)
    refine wpAny_holding ?_
    exact wpAny_bind (wpAny_pure (wpAny_bind (wpAny_pure (wpAny_pure h'))))
  | cons x rest =>
    obtain ⟨b, x⟩ := x
    cases b with
    | true => cases hp
    | false => exact evalArgs_plain h

/-- a call of a thing of the text: a function, a class -/
theorem ev_call (ok : Ok prog K cx sc n) {func : Expr} {args : List Expr} {f : Addr} (hk : keepIn K (.ref f) = true) (h : WEv prog w cx func σ (fun a σ₁ => a = .ref f ∧ WAr prog w cx pos args σ₁ (fun l σ₂ => WCl prog w cx (.ref f) l σ₂ Q E) E) E)
    (he : ∀ env, eval (.Call func args [] pos) env = (do callWith pos (← eval func env) [] (backTo pos (starEach args env)) (backToKw pos (keywordEach [] env))) := by intro env; rfl) (hpl : ∀ env, (backTo pos (starEach args env)).any (·.1) = false := by intro env; rfl) :
    WEv prog w cx (.Call func args [] pos) σ Q E := fun s r => by
  refine Call_ (wpAny_mono (h s r) (fun v s₁ ⟨a, σ₁, r₁, v₁, m₁, ha, q₁⟩ => ?_) fun _ _ e => e) (he _)
  subst ha
  rw [show v = .ref f from v₁]
  have KX := ok.glo.KX
  refine callWith_of (P := fun h => K.In h) (by rw [hpl]; rfl) (fun h X => keeps_K hk h X) ?_
  have key : wpAny (model prog w) cx.A (spliced (backTo pos (starEach args cx.env))) (fun vs s₂ => K.In s₂.heap ∧ wpAny (model prog w) cx.A (call (.ref f) ([] ++ vs)) (PostR prog w VR cx s Q) (PostE prog w cx s E) s₂) (PostE prog w cx s E) s₁ := by
    refine wpAny_mono (q₁ s₁ r₁) (fun vs s₂ ⟨l, σ₂, r₂, v₂, m₂, q₂⟩ => ⟨fun a o e => r₂.stay a o (KX a o e), ?_⟩) fun _ _ e => e.mono m₁
    exact wpAny_mono (q₂ s₂ vs r₂ v₂) (fun _ _ p => p.mono (m₁.trans m₂)) fun _ _ e => e.mono (m₁.trans m₂)
  exact evalArgs_all (hpl _) key
end
end Mine

namespace Mine
open PySem PySem.W PyProof.Rows PySem.Calls
set_option autoImplicit false
set_option linter.unusedVariables false
section
variable {prog : Program} {w : World} {K : Frag} {cx : CX} {sc : Scope} {n : Nat} {σ : AS} {Q : AV → AS → Prop} {QB : Bool → AS → Prop} {QF : AF → AS → Prop} {E : Value → AS → Prop} {pos : Pos}

theorem vr_raw {h : Heap} {v : Value} : VR h (.raw v) v := rfl

/-- a name of the built-ins -/
theorem ev_bname (ok : Ok prog K cx sc n) {x : Str} {u : Value} (hx : sc.names.lookup x = some .globalImplicit) (e : nsIn K mainGlobals x = some none) (hn : x ≠ "__name__") (hb : bootBuiltins x = some u) (h : Q (.raw u) σ) (hd : (x == ("__debug__" : Str)) = false := by decide) :
    WEv prog w cx (.Name x pos) σ Q E := fun s r => by
  have hk : cx.env.scope.kind = .function := by rw [ok.scope]; exact ok.kind
  obtain ⟨mg, hg⟩ := ok.glo.g
  obtain ⟨mb, hm, hbt⟩ := ok.glo.b
  exact Name_function_global hk (by unfold Env.kindOf; rw [ok.scope]; exact hx) (loadGlobal_builtin (by rw [ok.glob]; exact hg.keeps r.stay) (mg_none_of ok.glo.KX hg e) (by rw [ok.bi]; exact hm.keeps r.stay) ((hbt x hn).trans hb) (here0 r vr_raw h)) hd

/-- a call of a built-in function -/
theorem ev_callb {func : Expr} {args : List Expr} {id : String} (h : WEv prog w cx func σ (fun a σ₁ => a = .raw (.builtin id) ∧ WAr prog w cx pos args σ₁ (fun l σ₂ => WCl prog w cx (.builtin id) l σ₂ Q E) E) E)
    (he : ∀ env, eval (.Call func args [] pos) env = (do callWith pos (← eval func env) [] (backTo pos (starEach args env)) (backToKw pos (keywordEach [] env))) := by intro env; rfl) (hpl : ∀ env, (backTo pos (starEach args env)).any (·.1) = false := by intro env; rfl) :
    WEv prog w cx (.Call func args [] pos) σ Q E := fun s r => by
  refine Call_ (wpAny_mono (h s r) (fun v s₁ ⟨a, σ₁, r₁, v₁, m₁, ha, q₁⟩ => ?_) fun _ _ e => e) (he _)
  subst ha
  rw [show v = .builtin id from v₁]
  refine PySem.Calls.callWith_builtin (hpl _) (evalArgs_all (hpl _) ?_)
  refine wpAny_mono (q₁ s₁ r₁) (fun vs s₂ ⟨l, σ₂, r₂, v₂, m₂, q₂⟩ => ?_) fun _ _ e => e.mono m₁
  exact wpAny_mono (q₂ s₂ vs r₂ v₂) (fun _ _ p => p.mono (m₁.trans m₂)) fun _ _ e => e.mono (m₁.trans m₂)
/-- a call of a built-in type -/
theorem ev_callt {func : Expr} {args : List Expr} {T : String} (h : WEv prog w cx func σ (fun a σ₁ => a = .raw (.type T) ∧ WAr prog w cx pos args σ₁ (fun l σ₂ => WCl prog w cx (.type T) l σ₂ Q E) E) E)
    (he : ∀ env, eval (.Call func args [] pos) env = (do callWith pos (← eval func env) [] (backTo pos (starEach args env)) (backToKw pos (keywordEach [] env))) := by intro env; rfl) (hpl : ∀ env, (backTo pos (starEach args env)).any (·.1) = false := by intro env; rfl) :
    WEv prog w cx (.Call func args [] pos) σ Q E := fun s r => by
  refine Call_ (wpAny_mono (h s r) (fun v s₁ ⟨a, σ₁, r₁, v₁, m₁, ha, q₁⟩ => ?_) fun _ _ e => e) (he _)
  subst ha
  rw [show v = .type T from v₁]
  refine PyProof.Rows.callWith_type (hpl _) (evalArgs_all (hpl _) ?_)
  refine wpAny_mono (q₁ s₁ r₁) (fun vs s₂ ⟨l, σ₂, r₂, v₂, m₂, q₂⟩ => ?_) fun _ _ e => e.mono m₁
  exact wpAny_mono (q₂ s₂ vs r₂ v₂) (fun _ _ p => p.mono (m₁.trans m₂)) fun _ _ e => e.mono (m₁.trans m₂)

/-! the facts of lists -/
def AS.lst (σ : AS) (a : Addr) (l : List AV) : Prop := σ.hp a = some (.list l) ∨ σ.hp a = some (.ro l)
theorem R.lst {s : Shared} {a : Addr} {l : List AV} (r : R prog w cx σ s) (h : σ.lst a l) : ∃ vs, s.heap.IsList a (List.toArray vs) ∧ VRs s.heap l vs := by
  rcases h with h | h
  · obtain ⟨⟨vs, p, q⟩, _⟩ := r.ob _ _ h
    exact ⟨vs, p.isList, q⟩
  · obtain ⟨⟨vs, p, q⟩, _⟩ := r.ob _ _ h
    exact ⟨vs, p, q⟩

theorem vrs1 {h : Heap} {a : AV} {vs : List Value} (x : VRs h [a] vs) : ∃ v, vs = [v] ∧ VR h a v := by
  obtain ⟨v, r, e, p, q⟩ := x
  rw [show r = [] from q] at e
  exact ⟨v, e, p⟩
theorem vrs2 {h : Heap} {a b : AV} {vs : List Value} (x : VRs h [a, b] vs) : ∃ v u, vs = [v, u] ∧ VR h a v ∧ VR h b u := by
  obtain ⟨v, r, e, p, q⟩ := x
  obtain ⟨u, rfl, q'⟩ := vrs1 q
  exact ⟨v, u, e, p, q'⟩

/-! built-in functions -/
theorem cl_len {a : Addr} {l : List AV} (hl : σ.lst a l) (hf : (l.length : Int) < 2 ^ 63) (h : Q (.int l.length) σ) : WCl prog w cx (.builtin "len") [.ref a] σ Q E := fun s vs r hv => by
  obtain ⟨v, rfl, q⟩ := vrs1 hv
  rw [show v = .ref a from q]
  obtain ⟨us, p, q⟩ := r.lst hl
  have : (us.toArray.size : Int) = l.length := by rw [List.size_toArray, q.length]
  refine call_len_list p (by omega) ?_
  rw [this]
  exact here r vr_int h
theorem cl_min {a b : Int} (hh : cx.A.handled = none) (h : Q (.int (min a b)) σ) : WCl prog w cx (.builtin "min") [.int a, .int b] σ Q E := fun s vs r hv => by
  obtain ⟨v, u, rfl, ⟨t, rfl⟩, ⟨t', rfl⟩⟩ := vrs2 hv
  refine min_two_ints hh fun h' tk k => ⟨.int (min a b), σ, r.grow k, ?_, VM.of_keeps k, h⟩
  split
  · rw [Int.min_eq_right (by omega)]; exact vr_int
  · rw [Int.min_eq_left (by omega)]; exact vr_int
theorem cl_max {a b : Int} (hh : cx.A.handled = none) (h : Q (.int (max a b)) σ) : WCl prog w cx (.builtin "max") [.int a, .int b] σ Q E := fun s vs r hv => by
  obtain ⟨v, u, rfl, ⟨t, rfl⟩, ⟨t', rfl⟩⟩ := vrs2 hv
  refine max_two_ints hh fun h' tk k => ⟨.int (max a b), σ, r.grow k, ?_, VM.of_keeps k, h⟩
  split
  · rw [Int.max_eq_right (by omega)]; exact vr_int
  · rw [Int.max_eq_left (by omega)]; exact vr_int
theorem push_none (h : Heap) : h.get? h.objs.size = none := by
  cases q : h.get? h.objs.size with
  | none => rfl
  | some o => exact absurd (Heap.lt_size q) (Nat.lt_irrefl _)
theorem cl_range1 {a : Int} (h : ∀ x, σ.hp x = none → Q (.ref x) (σ.put x (.range 0 a 1))) : WCl prog w cx (.type "range") [.int a] σ Q E := fun s vs r hv => by
  obtain ⟨v, rfl, ⟨t, rfl⟩⟩ := vrs1 hv
  refine call_range_1 ?_
  refine ⟨.ref _, _, r.new (ao := .range 0 a 1) (push_none _) (fun b o e => Heap.get?_push_of_some _ e) ⟨_, _, _, Heap.get?_push_size _ rfl⟩, vr_ref, VM.of_keeps fun b o e => Heap.get?_push_of_some _ e, h _ ?_⟩
  cases q : σ.hp s.heap.objs.size with
  | none => rfl
  | some ao => exact absurd q ((Off.new r (push_none _)).hp ao)
theorem cl_range2 {a b : Int} (h : ∀ x, σ.hp x = none → Q (.ref x) (σ.put x (.range a b 1))) : WCl prog w cx (.type "range") [.int a, .int b] σ Q E := fun s vs r hv => by
  obtain ⟨v, u, rfl, ⟨t, rfl⟩, ⟨t', rfl⟩⟩ := vrs2 hv
  refine call_range_2 ?_
  refine ⟨.ref _, _, r.new (ao := .range a b 1) (push_none _) (fun b o e => Heap.get?_push_of_some _ e) ⟨_, _, _, Heap.get?_push_size _ rfl⟩, vr_ref, VM.of_keeps fun b o e => Heap.get?_push_of_some _ e, h _ ?_⟩
  cases q : σ.hp s.heap.objs.size with
  | none => rfl
  | some ao => exact absurd q ((Off.new r (push_none _)).hp ao)
/-- isinstance of a plain value and a class or type -/
theorem cl_isi_int (ok : Ok prog K cx sc n) {i : Int} {c : AV} {cv : Value} {b : Bool} (hc : ∀ h v, VR h c v → v = cv) (e : kitOne K (.type "int") cv = some b) (h : Q (.bool b) σ) : WCl prog w cx (.builtin "isinstance") [.int i, c] σ Q E := fun s vs r hv => by
  obtain ⟨v, u, rfl, ⟨t, rfl⟩, q⟩ := vrs2 hv
  rw [hc _ _ q]
  exact kia_one kitx_int (fun a o e => r.stay a o (ok.glo.KX a o e)) trivial e (by simp) fun tk => here r vr_bool h
theorem cl_isi_bool (ok : Ok prog K cx sc n) {i : Bool} {c : AV} {cv : Value} {b : Bool} (hc : ∀ h v, VR h c v → v = cv) (e : kitOne K (.type "bool") cv = some b) (h : Q (.bool b) σ) : WCl prog w cx (.builtin "isinstance") [.bool i, c] σ Q E := fun s vs r hv => by
  obtain ⟨v, u, rfl, p, q⟩ := vrs2 hv
  rw [hc _ _ q, show v = .bool i from p]
  exact kia_one kitx_bool (fun a o e => r.stay a o (ok.glo.KX a o e)) trivial e (by simp) fun tk => here r vr_bool h

/-! displays -/
theorem ev_tuple {elts : List Expr} {k : Nat} (h : WAr prog w cx pos elts σ (fun l σ₁ => l.length ≤ sizeLine ∧ Q (.tup l) σ₁) E) : WEv prog w cx (.Tuple elts k pos) σ Q E := fun s r => by
  refine Tuple_ (wpAny_mono (h s r) (fun vs s₁ ⟨l, σ₁, r₁, v₁, m₁, hl, q₁⟩ => ?_) fun _ _ e => e)
  have kp : ∀ b o, s₁.heap.get? b = some o → (s₁.heap.push { cls := .type "tuple", data := .seq vs.toArray }).get? b = some o := fun b o e => Heap.get?_push_of_some _ e
  refine wpAny_newTuple ⟨.tup l, σ₁, r₁.grow (tk := s₁.toks) kp, ⟨_, vs, rfl, ⟨_, _, Heap.get?_push_size _ rfl, rfl, rfl⟩, v₁.mono (VM.of_keeps kp)⟩, m₁.trans (VM.of_keeps kp), q₁⟩ (by rw [v₁.length]; exact hl)
theorem ev_list {elts : List Expr} (h : WAr prog w cx pos elts σ (fun l σ₁ => l.length ≤ sizeLine ∧ ∀ x, σ₁.hp x = none → Q (.ref x) (σ₁.put x (.list l))) E) : WEv prog w cx (.List elts pos) σ Q E := fun s r => by
  refine List_ (wpAny_mono (h s r) (fun vs s₁ ⟨l, σ₁, r₁, v₁, m₁, hl, q₁⟩ => ?_) fun _ _ e => e)
  have kp : ∀ b o, s₁.heap.get? b = some o → (s₁.heap.push { cls := .type "list", data := .seq vs.toArray }).get? b = some o := fun b o e => Heap.get?_push_of_some _ e
  refine wpAny_newList ⟨.ref _, _, r₁.new (ao := .list l) (tk := s₁.toks) (push_none _) kp ⟨vs, ⟨_, Heap.get?_push_size _ rfl⟩, v₁.mono (VM.of_keeps kp)⟩, vr_ref, m₁.trans (VM.of_keeps kp), q₁ _ ?_⟩ (by rw [v₁.length]; exact hl)
  cases q : σ₁.hp s₁.heap.objs.size with
  | none => rfl
  | some ao => exact absurd q ((Off.new r₁ (push_none _)).hp ao)

/-! subscripts -/
theorem ev_sub {value slice : Expr} (h : WEv prog w cx value σ (fun a σ₁ => WEv prog w cx slice σ₁ (fun b σ₂ => WOp2 prog w cx (subscriptTail value slice) a b σ₂ Q E) E) E) : WEv prog w cx (.Subscript value slice pos) σ Q E := fun s r => by
  refine Subscript_ (wpAny_mono (h s r) (fun va s₁ ⟨a, σ₁, r₁, v₁, m₁, q₁⟩ => wpAny_mono (q₁ s₁ r₁) (fun vb s₂ ⟨b, σ₂, r₂, v₂, m₂, q₂⟩ => ?_) fun _ _ e => e.mono m₁) fun _ _ e => e)
  refine wpAny_mono (q₂ s₂ va vb r₂ (v₁.mono m₂) v₂) (fun v s₃ ⟨c, σ₃, r₃, v₃, m₃, q₃⟩ => ⟨c, σ₃, r₃, v₃, (m₁.trans m₂).trans m₃, q₃⟩) fun _ _ e => e.mono (m₁.trans m₂)
theorem sub_tup {value slice : Expr} {l : List AV} {i : Int} {k : Nat} {a : AV} (hlo : -(2 ^ 63) ≤ i) (hhi : i < 2 ^ 63) (hk : seqIndex? i l.length = some k) (ha : l[k]? = some a) (h : Q a σ)
    (hs : ∀ o i, subscripted slice false o i = operate [o, i] (getItem o i) := by intro _ _; with_unfolding_all rfl) (ht : ∀ o r, letTemporaryGo value o r = pure () := by intro _ _; with_unfolding_all rfl) :
    WOp2 prog w cx (subscriptTail value slice) (.tup l) (.int i) σ Q E := by
  rintro s _ _ r ⟨x, vs, rfl, ⟨o, m, h1, h2, h3⟩, q⟩ ⟨t, rfl⟩
  obtain ⟨v, hv, hva⟩ := q.get ha
  exact item_tupleL ⟨o, h1, h2, m, h3⟩ hlo hhi (by rw [q.length]; exact hk) hv (here0 r hva h) (hs _ _) (ht _)
theorem sub_list {value slice : Expr} {x : Addr} {l : List AV} {i : Int} {a : AV} (hl : σ.lst x l) (hlo : 0 ≤ i) (hhi : i < 2 ^ 63) (ha : l[i.toNat]? = some a) (h : Q a σ)
    (hs : ∀ o i, subscripted slice false o i = operate [o, i] (getItem o i) := by intro _ _; with_unfolding_all rfl) (ht : ∀ o r, letTemporaryGo value o r = pure () := by intro _ _; with_unfolding_all rfl) :
    WOp2 prog w cx (subscriptTail value slice) (.ref x) (.int i) σ Q E := by
  rintro s va _ r q0 ⟨t, rfl⟩
  rw [show va = .ref x from q0]
  obtain ⟨vs, p, q⟩ := r.lst hl
  obtain ⟨v, hv, hva⟩ := q.get ha
  exact subscriptTail_builtin p.typeIs slot_list_getitem.lookup (wpAny_getItem_list p hlo hhi (by simpa using hv) (here0 r hva h)) (hs _ _) (ht _)

/-! membership of a tuple -/
def intsOf : List AV → Option (List Int)
  | [] => some []
  | .int i :: l => (intsOf l).map (i :: ·)
  | _ => none
theorem intsAre_of {h : Heap} : ∀ {l : List AV} {ns : List Int} {vs : List Value}, intsOf l = some ns → VRs h l vs → IntsAre vs ns
  | [], _, _, e, q => by cases e; rw [show _ = [] from q]; exact .nil
  | .int i :: l, _, _, e, ⟨v, r, ev, p, q⟩ => by
    obtain ⟨t, rfl⟩ := p
    subst ev
    unfold intsOf at e
    cases h : intsOf l with
    | none => rw [h] at e; cases e
    | some ns => rw [h] at e; cases e; exact .cons i t (intsAre_of h q)
theorem cmp_notin_tup {i : Int} {l : List AV} {ns : List Int} (hl : intsOf l = some ns) (h : Q (.bool (!(ns.any (· == i)))) σ) : WOp2 prog w cx (compareOp .NotIn) (.int i) (.tup l) σ Q E := by
  rintro s _ _ r ⟨t, rfl⟩ ⟨x, vs, rfl, ⟨o, m, h1, h2, h3⟩, q⟩
  exact notin_tuple_ints ⟨o, h1, h2, m, h3⟩ (intsAre_of hl q) (here0 r vr_bool h)
theorem cmp_in_tup {i : Int} {l : List AV} {ns : List Int} (hl : intsOf l = some ns) (h : Q (.bool (ns.any (· == i))) σ) : WOp2 prog w cx (compareOp .In) (.int i) (.tup l) σ Q E := by
  rintro s _ _ r ⟨t, rfl⟩ ⟨x, vs, rfl, ⟨o, m, h1, h2, h3⟩, q⟩
  exact in_tuple_ints ⟨o, h1, h2, m, h3⟩ (intsAre_of hl q) (here0 r vr_bool h)
end
end Mine

namespace Mine
open PySem PySem.W PyProof.Rows PySem.Calls
set_option autoImplicit false
set_option linter.unusedVariables false

/-- a plain function's frame, outside of a handler -/
structure Fx (prog : Program) (K : Frag) (cx : CX) (sc : Scope) (n : Nat) : Prop where
  ok : Ok prog K cx sc n
  fe : cx.env = cx.fenv
  hh : cx.A.handled = none

section
variable {prog : Program} {w : World} {K : Frag} {cx : CX} {sc : Scope} {n : Nat} {σ : AS} {Q : AV → AS → Prop} {QB : Bool → AS → Prop} {QF : AF → AS → Prop} {E : Value → AS → Prop} {pos : Pos}

theorem Fx.withP (g : Fx prog K cx sc n) (P' : Addr → Obj → Prop) : Fx prog K (cx.withP P') sc n := ⟨g.ok.withP P', g.fe, g.hh⟩
theorem Fx.less {m : Nat} (g : Fx prog K cx sc n) (h : m ≤ n) : Fx prog K cx sc m :=
  ⟨⟨g.ok.1, g.ok.2, g.ok.3, g.ok.4, g.ok.5, g.ok.6, g.ok.7, g.ok.8, g.ok.9, g.ok.10, g.ok.11, g.ok.12, by have := g.ok.depth; omega, by have := g.ok.units; omega⟩, g.fe, g.hh⟩

/-! truth of and, or with any number of parts -/
def WTl (prog : Program) (w : World) (cx : CX) (pos : Pos) (op : BoolOp) (es : List Expr) (σ : AS) (QB : Bool → AS → Prop) (E : Value → AS → Prop) : Prop := ∀ whole, Wp prog w BR cx (isTrue (.BoolOp op es pos) cx.env whole) σ QB E
theorem tr_bool {op : BoolOp} {es : List Expr} (h : WTl prog w cx pos op es σ QB E) : WTr prog w cx (.BoolOp op es pos) σ QB E := h _
theorem tl_and_nil (h : QB true σ) : WTl prog w cx pos .And [] σ QB E := fun whole s r => isTrue_and_nil (here0 (rel := BR) (b := true) r rfl h)
theorem tl_or_nil (h : QB false σ) : WTl prog w cx pos .Or [] σ QB E := fun whole s r => isTrue_or_nil (here0 (rel := BR) (b := false) r rfl h)
theorem tl_and {e : Expr} {es : List Expr} (h : WTr prog w cx e σ (fun c σ₁ => if c then WTl prog w cx pos .And es σ₁ QB E else QB false σ₁) E) : WTl prog w cx pos .And (e :: es) σ QB E := fun whole s r => by
  refine wtr_and r (fun s₀ r₀ => wpAny_mono (h s₀ r₀) (fun c s₁ ⟨c', σ₁, r₁, v₁, m₁, q₁⟩ => ⟨c', σ₁, r₁, v₁, m₁, ?_⟩) fun _ _ e => e)
  cases c' with
  | false => exact q₁
  | true => rw [if_pos rfl] at q₁ ⊢; exact fun s₂ r₂ => q₁ _ s₂ r₂
theorem tl_or {e : Expr} {es : List Expr} (h : WTr prog w cx e σ (fun c σ₁ => if c then QB true σ₁ else WTl prog w cx pos .Or es σ₁ QB E) E) : WTl prog w cx pos .Or (e :: es) σ QB E := fun whole s r => by
  refine wtr_or r (fun s₀ r₀ => wpAny_mono (h s₀ r₀) (fun c s₁ ⟨c', σ₁, r₁, v₁, m₁, q₁⟩ => ⟨c', σ₁, r₁, v₁, m₁, ?_⟩) fun _ _ e => e)
  cases c' with
  | true => exact q₁
  | false => simp only [Bool.false_eq_true, if_false] at q₁ ⊢; exact fun s₂ r₂ => q₁ _ s₂ r₂

/-! and, or, not as values; their parts are bools -/
theorem ev_one {e : Expr} {op : BoolOp} (h : WEv prog w cx e σ Q E) : WEv prog w cx (.BoolOp op [e] pos) σ Q E := fun s r => BoolOp_one (h s r)
theorem ev_and {e₁ e₂ : Expr} {es : List Expr} (h : WEv prog w cx e₁ σ (fun a σ₁ => ∃ c, a = .bool c ∧ if c then WEv prog w cx (.BoolOp .And (e₂ :: es) pos) σ₁ Q E else Q (.bool false) σ₁) E) : WEv prog w cx (.BoolOp .And (e₁ :: e₂ :: es) pos) σ Q E := fun s r => by
  refine BoolOp_and (wpAny_mono (h s r) (fun v s₁ ⟨a, σ₁, r₁, v₁, m₁, c, ha, q₁⟩ => ?_) fun _ _ e => e)
  subst ha
  rw [show v = .bool c from v₁]
  refine wpAny_truthy_bool ?_
  cases c with
  | true => exact wpAny_mono (q₁ s₁ r₁) (fun _ _ p => p.mono m₁) fun _ _ e => e.mono m₁
  | false => exact ⟨.bool false, σ₁, r₁, vr_bool, m₁, q₁⟩
theorem ev_or {e₁ e₂ : Expr} {es : List Expr} (h : WEv prog w cx e₁ σ (fun a σ₁ => ∃ c, a = .bool c ∧ if c then Q (.bool true) σ₁ else WEv prog w cx (.BoolOp .Or (e₂ :: es) pos) σ₁ Q E) E) : WEv prog w cx (.BoolOp .Or (e₁ :: e₂ :: es) pos) σ Q E := fun s r => by
  refine BoolOp_or (wpAny_mono (h s r) (fun v s₁ ⟨a, σ₁, r₁, v₁, m₁, c, ha, q₁⟩ => ?_) fun _ _ e => e)
  subst ha
  rw [show v = .bool c from v₁]
  refine wpAny_truthy_bool ?_
  cases c with
  | false => exact wpAny_mono (q₁ s₁ r₁) (fun _ _ p => p.mono m₁) fun _ _ e => e.mono m₁
  | true => exact ⟨.bool true, σ₁, r₁, vr_bool, m₁, q₁⟩
theorem ev_un {e : Expr} {op : UnaryOp} (h : WEv prog w cx e σ (fun a σ₁ => WOp1 prog w cx (unaryOp op) a σ₁ Q E) E) : WEv prog w cx (.UnaryOp op e pos) σ Q E := fun s r => by
  refine UnaryOp_ (wpAny_mono (h s r) (fun va s₁ ⟨a, σ₁, r₁, v₁, m₁, q₁⟩ => ?_) fun _ _ e => e)
  exact wpAny_mono (q₁ s₁ va r₁ v₁) (fun _ _ p => p.mono m₁) fun _ _ e => e.mono m₁
theorem op_not {b : Bool} (h : Q (.bool (!b)) σ) : WOp1 prog w cx (unaryOp .Not) (.bool b) σ Q E := fun s va r hv => by
  rw [show va = .bool b from hv]
  exact not_of (wpAny_truthy_bool (here0 r vr_bool h))
theorem op_neg {i : Int} (h : Q (.int (-i)) σ) : WOp1 prog w cx (unaryOp .USub) (.int i) σ Q E := fun s va r hv => by
  obtain ⟨t, rfl⟩ := hv
  exact PySem.P.neg_int (here r vr_int h)

/-! splitting tests -/
theorem ite_dec {p : Prop} [Decidable p] {X Y : Prop} (h1 : p → X) (h0 : ¬ p → Y) : if decide p = true then X else Y := by
  by_cases h : p
  · rw [if_pos (decide_eq_true h)]; exact h1 h
  · rw [if_neg (by simpa using h)]; exact h0 h
theorem ite_beq {a b : Int} {X Y : Prop} (h1 : a = b → X) (h0 : a ≠ b → Y) : if (a == b) = true then X else Y := by
  by_cases h : a = b
  · rw [if_pos (by simpa using h)]; exact h1 h
  · rw [if_neg (by simpa using h)]; exact h0 h
theorem ite_bne {a b : Int} {X Y : Prop} (h1 : a ≠ b → X) (h0 : a = b → Y) : if (a != b) = true then X else Y := by
  by_cases h : a = b
  · rw [if_neg (by simpa using h)]; exact h0 h
  · rw [if_pos (by simpa using h)]; exact h1 h
theorem ite_pos' {c : Prop} [Decidable c] {X Y : Prop} (h : c) (hx : X) : if c then X else Y := by rw [if_pos h]; exact hx
theorem ite_no' {c : Prop} [Decidable c] {X Y : Prop} (h : ¬ c) (hx : Y) : if c then X else Y := by rw [if_neg h]; exact hx
theorem ite_true' {X Y : Prop} (h : X) : if true = true then X else Y := by rw [if_pos rfl]; exact h
theorem ite_false' {X Y : Prop} (h : Y) : if false = true then X else Y := by rw [if_neg (by decide)]; exact h
theorem ite_neg {b : Bool} {X Y : Prop} (h : if b = true then Y else X) : if (!b) = true then X else Y := by
  cases b <;> simpa using h

/-! calls and loops in a plain frame -/
theorem call_fn (g : Fx prog K cx sc (n + 1)) {f : Addr} {sc' : Scope} {body : List Stmt} {ps : List Str} {l : List AV} (F : Fn K f sc' body ps) (hlen : ps.length = l.length)
    (h : ∀ cx', Fx prog K cx' sc' n → WExs prog w cx' body (σ.enter ps l) (fun fl σ₂ => Q (retOf fl) ⟨σ.loc, σ₂.hp⟩) (fun C σ₂ => E C ⟨σ.loc, σ₂.hp⟩)) : WCl prog w cx (.ref f) l σ Q E :=
  cl_fn g.ok F hlen fun cx' ok fe hh => h cx' ⟨ok, fe, hh.trans g.hh⟩

theorem for_range (g : Fx prog K cx sc n) {x : Str} {px : Pos} {iter : Expr} {body : List Stmt} (hx : sc.names.lookup x = some .local)
    (h : WEv prog w cx iter σ (fun v σ₁ => ∃ ax a b c, ∃ J : Nat → AS → Prop, v = .ref ax ∧ σ₁.hp ax = some (.range a b c) ∧ c ≠ 0 ∧ Builtin.Range.small a b c = true ∧ J 0 σ₁ ∧
      (∀ i σ cx', Fx prog K cx' sc n → i < (Builtin.Range.rangeSize a b c).toNat → J i σ → WExs prog w cx' body (σ.set x (.int (a + i * c))) (Turn (J (i + 1)) QF) E) ∧ ∀ σ, J (Builtin.Range.rangeSize a b c).toNat σ → QF .next σ) E)
    (hs : ∀ v, foldedSetIterable iter cx.env v = pure v) : WEx prog w cx (.For (.Name x px) iter body [] pos) σ QF E :=
  ex_for_range g.ok g.fe g.hh hx (h.imp (fun v σ₁ ⟨ax, a, b, c, J, h1, h2, h3, h4, h5, h6, h7⟩ => ⟨ax, a, b, c, J, h1, h2, h3, h4, h5, fun i σ P' hi hj _ => h6 i σ _ (g.withP P') hi hj, h7⟩) fun _ _ e => e) hs
theorem for_list (g : Fx prog K cx sc n) {x : Str} {px : Pos} {iter : Expr} {body : List Stmt} (hx : sc.names.lookup x = some .local)
    (h : WEv prog w cx iter σ (fun v σ₁ => ∃ ax l, ∃ J : Nat → AS → Prop, v = .ref ax ∧ J 0 σ₁ ∧ (∀ i σ, J i σ → σ.hp ax = some (.list l)) ∧
      (∀ i a σ cx', Fx prog K cx' sc n → l[i]? = some a → J i σ → WExs prog w cx' body (σ.set x a) (Turn (J (i + 1)) QF) E) ∧ ∀ σ, J l.length σ → QF .next σ) E)
    (hs : ∀ v, foldedSetIterable iter cx.env v = pure v) : WEx prog w cx (.For (.Name x px) iter body [] pos) σ QF E :=
  ex_for_list g.ok g.fe g.hh hx (h.imp (fun v σ₁ ⟨ax, l, J, h1, h2, h3, h4, h5⟩ => ⟨ax, l, J, h1, h2, h3, fun i a σ P' ha hj _ => h4 i a σ _ (g.withP P') ha hj, h5⟩) fun _ _ e => e) hs
theorem while_ (g : Fx prog K cx sc n) {test : Expr} {body : List Stmt} (J : Nat → AS → Prop) (k₀ : Nat) (h0 : J k₀ σ)
    (turn : ∀ k σ₁, J k σ₁ → WTr prog w cx test σ₁ (fun c σ₂ => if c then WExs prog w cx body σ₂ (fun f σ₃ => match f with | .next | .cont => ∃ m, m < k ∧ J m σ₃ | .brk => QF .next σ₃ | .ret v => QF (.ret v) σ₃) E else QF .next σ₂) E) :
    WEx prog w cx (.While test body [] pos) σ QF E := ex_while g.ok g.fe J k₀ h0 turn

/-! the top -/
theorem ints_vr {h : Heap} : ∀ {vs : List Value} {ns : List Int}, IntsAre vs ns → VRs h (ns.map AV.int) vs
  | _, _, .nil => rfl
  | _, _, .cons i t r => ⟨_, _, rfl, vr_int, ints_vr r⟩
theorem law_top {s₁ : Shared} {h₁ : Heap} {l fa : Addr} {vs : List Value} {ns : List Int} {name : Str} {cd : Value} {tk : Nat} {body : List Stmt} {Qw : Flow → Shared → Prop} {Ew : Value → Shared → Prop} {m : Str → Option Value} (glo : Glo prog K s₁.heap)
    (hL : s₁.heap.IsList l vs.toArray) (hI : IntsAre vs ns) (F : Fr s₁.heap s₁.heap.objs.size h₁ m) (hm : m (Str.ofString "_law_script") = some (.ref l)) (hk : sc.kind = .function) (hx : sc.names.lookup (Str.ofString "_law_script") = some .local) (hgn : sc.isGenerator = false) (hco : sc.isCoroutine = false)
    (hq : ∀ f s', (∃ v, f = .ret v ∧ v = .bool true) → (∀ b o, s₁.heap.get? b = some o → s'.heap.get? b = some o) → s'.os = s₁.os → s'.gens = s₁.gens → Qw f s')
    (h : ∀ cx σ, Fx prog K cx sc 30 → σ.loc (Str.ofString "_law_script") = some (.ref l) → σ.hp l = some (.ro (ns.map AV.int)) → WExs prog w cx body σ (fun f _ => f = .ret (.bool true)) (fun _ _ => False)) :
    wpAny (model prog w) (callerA.deeper (envOf name sc s₁.heap.objs.size fa cd)) (execs body (envOf name sc s₁.heap.objs.size fa cd)) Qw Ew { heap := h₁, gens := s₁.gens, drawn := s₁.drawn, toks := tk, os := s₁.os } := by
  let cx : CX := ⟨callerA.deeper (envOf name sc s₁.heap.objs.size fa cd), envOf name sc s₁.heap.objs.size fa cd, envOf name sc s₁.heap.objs.size fa cd, [], s₁.heap, fun _ _ => False, fun _ _ => False, s₁.gens, s₁.drawn, s₁.os⟩
  have ok : Fx prog K cx sc 30 := ⟨⟨glo, rfl, rfl, hk, rfl, rfl, rfl, hgn, hco, rfl, rfl, hk, by show callerA.depth + 1 + 4 * 30 + 140 < recursionLimit; decide, by show callerA.units + 3 + 16 * 30 + 200 < cLine; decide⟩, rfl, rfl⟩
  obtain ⟨o, hl1, hl2, hl3⟩ := hL
  have lt : (l : Nat) < s₁.heap.objs.size := Heap.lt_size hl1
  have r : R prog w cx ⟨fun x => if x = Str.ofString "_law_script" then some (.ref l) else none, fun a => if a = l then some (.ro (ns.map AV.int)) else none⟩ { heap := h₁, gens := s₁.gens, drawn := s₁.drawn, toks := tk, os := s₁.os } := by
    refine ⟨F.keep, ?_, ⟨m, F.ns⟩, fun x v e => ?_, fun _ _ e => e.elim, fun _ _ e => e.elim, fun a ao e => ?_, fun a e => ?_, fun x c e => (by cases e), fun _ e => (nomatch e), rfl, rfl, rfl⟩
    · obtain ⟨oL, h1, h2⟩ := nofields_ns F.ns
      exact ⟨by show sc.kind ≠ _; rw [hk]; decide, ⟨_, oL, rfl, push_none _, h1, h2⟩, trivial⟩
    · dsimp only at e
      split at e
      · rename_i q; subst q; cases e
        refine ⟨.ref l, ?_, vr_ref⟩
        unfold LocAt
        rw [show cx.env.kindOf (Str.ofString "_law_script") = some .local from hx]
        exact ⟨m, F.ns, hm⟩
      · cases e
    · dsimp only at e
      split at e
      · rename_i q; subst q; cases e
        refine ⟨⟨vs, ⟨o, F.keep _ _ hl1, hl2, hl3⟩, ints_vr hI⟩, fun q => (by cases q), fun _ q => q, fun q => ?_, fun e he hf => ?_⟩
        · rcases q with q | ⟨x, q⟩
          · rw [show a = s₁.heap.objs.size from q] at lt; exact absurd lt (Nat.lt_irrefl _)
          · cases q
        · rcases List.mem_cons.mp he with q | q
          · subst q
            injection (show some s₁.heap.objs.size = some a from hf) with hf
            rw [← hf] at lt; exact absurd lt (Nat.lt_irrefl _)
          · cases q
      · cases e
    · rcases e with q | ⟨x, q⟩
      · rw [show a = s₁.heap.objs.size from q]; exact ⟨push_none _, fun _ q => q, fun _ q => q⟩
      · cases q
  refine wpAny_mono (h cx _ ok (by simp) (by simp) _ r) (fun f s' ⟨a, σ', r', v', _, q'⟩ => ?_) fun v s' ⟨_, _, _, _, _, _, _, _, _, _, _, e⟩ => e.elim
  subst q'
  obtain ⟨v, rfl, hv⟩ := v'
  exact hq _ _ ⟨v, rfl, hv⟩ r'.stay r'.os r'.gens
end
end Mine

namespace Mine
open PySem PySem.W PyProof.Rows PySem.Calls
set_option autoImplicit false
set_option linter.unusedVariables false
section
variable {prog : Program} {w : World} {K : Frag} {cx : CX} {sc : Scope} {n : Nat} {σ : AS} {Q : AV → AS → Prop} {QB : Bool → AS → Prop} {QF : AF → AS → Prop} {E : Value → AS → Prop} {pos : Pos}

theorem fn_of {f : Addr} {sc : Scope} {body : List Stmt} {ps : List Str} {oc : Value} {od : Option Addr} {osl : Array (Option Value)} {name qual : Str} {params : Arguments} {dV kV doc pm cdv ct : Value} {an : Option Addr}
    (hlk : K.lookup f = some ⟨oc, od, .func (fnOf name qual params body sc dV kV doc pm an cdv ct), osl⟩) (hcd : codeIn K cdv qual = true) (hk : keepIn K (.ref f) = true)
    (hb : ∀ vs : List Value, vs.length = ps.length → bindArgs (fnOf name qual params body sc dV kV doc pm an cdv ct) ⟨vs, []⟩ = pure (ps.zip vs)) (nd : ps.Nodup) (kind : sc.kind = .function) (gen : sc.isGenerator = false) (co : sc.isCoroutine = false)
    (ks : ∀ x ∈ ps, sc.names.lookup x = some .local ∨ sc.names.lookup x = some .cell) : Fn K f sc body ps :=
  ⟨⟨_, _, _, _, _, _, _, _, _, _, _, _, _, hlk, hcd, hk, hb⟩, nd, kind, gen, co, ks⟩
theorem len1 {P : List Value → Prop} {ps : List Str} (hp : ps.length = 1) (h : ∀ a, P [a]) : ∀ vs : List Value, vs.length = ps.length → P vs := fun vs hv => by
  rw [hp] at hv
  obtain ⟨a, rfl⟩ := List.length_eq_one_iff.mp hv
  exact h a
theorem len0 {P : List Value → Prop} {ps : List Str} (hp : ps.length = 0) (h : P []) : ∀ vs : List Value, vs.length = ps.length → P vs := fun vs hv => by
  rw [hp] at hv
  rw [List.length_eq_zero_iff.mp hv]; exact h
theorem len2 {P : List Value → Prop} {ps : List Str} (hp : ps.length = 2) (h : ∀ a b, P [a, b]) : ∀ vs : List Value, vs.length = ps.length → P vs := fun vs hv => by
  rw [hp] at hv
  match vs, hv with
  | [a, b], _ => exact h a b
theorem len3 {P : List Value → Prop} {ps : List Str} (hp : ps.length = 3) (h : ∀ a b c, P [a, b, c]) : ∀ vs : List Value, vs.length = ps.length → P vs := fun vs hv => by
  rw [hp] at hv
  match vs, hv with
  | [a, b, c], _ => exact h a b c
theorem len4 {P : List Value → Prop} {ps : List Str} (hp : ps.length = 4) (h : ∀ a b c d, P [a, b, c, d]) : ∀ vs : List Value, vs.length = ps.length → P vs := fun vs hv => by
  rw [hp] at hv
  match vs, hv with
  | [a, b, c, d], _ => exact h a b c d

/-- a call of a function by its name -/
theorem ev_callf (ok : Ok prog K cx sc n) {x : Str} {px : Pos} {args : List Expr} {f : Addr} (hx : sc.names.lookup x = some .globalImplicit) (e : nsIn K mainGlobals x = some (some (.ref f))) (hk : keepIn K (.ref f) = true)
    (h : WAr prog w cx pos args σ (fun l σ₁ => WCl prog w cx (.ref f) l σ₁ Q E) E) (hd : (x == ("__debug__" : Str)) = false := by decide)
    (he : ∀ env, eval (.Call (.Name x px) args [] pos) env = (do callWith pos (← eval (.Name x px) env) [] (backTo pos (starEach args env)) (backToKw pos (keywordEach [] env))) := by intro env; rfl) (hpl : ∀ env, (backTo pos (starEach args env)).any (·.1) = false := by intro env; rfl) :
    WEv prog w cx (.Call (.Name x px) args [] pos) σ Q E := ev_call ok hk (ev_gname ok hx e (fun _ => vr_ref) ⟨rfl, h⟩ hd) he hpl
/-- a call of a built-in function by its name -/
theorem ev_callb' (ok : Ok prog K cx sc n) {x : Str} {px : Pos} {args : List Expr} {id : String} (hx : sc.names.lookup x = some .globalImplicit) (e : nsIn K mainGlobals x = some none) (hn : x ≠ "__name__") (hb : bootBuiltins x = some (.builtin id))
    (h : WAr prog w cx pos args σ (fun l σ₁ => WCl prog w cx (.builtin id) l σ₁ Q E) E) (hd : (x == ("__debug__" : Str)) = false := by decide)
    (he : ∀ env, eval (.Call (.Name x px) args [] pos) env = (do callWith pos (← eval (.Name x px) env) [] (backTo pos (starEach args env)) (backToKw pos (keywordEach [] env))) := by intro env; rfl) (hpl : ∀ env, (backTo pos (starEach args env)).any (·.1) = false := by intro env; rfl) :
    WEv prog w cx (.Call (.Name x px) args [] pos) σ Q E := ev_callb (ev_bname ok hx e hn hb ⟨rfl, h⟩ hd) he hpl
theorem ev_callt' (ok : Ok prog K cx sc n) {x : Str} {px : Pos} {args : List Expr} {id : String} (hx : sc.names.lookup x = some .globalImplicit) (e : nsIn K mainGlobals x = some none) (hn : x ≠ "__name__") (hb : bootBuiltins x = some (.type id))
    (h : WAr prog w cx pos args σ (fun l σ₁ => WCl prog w cx (.type id) l σ₁ Q E) E) (hd : (x == ("__debug__" : Str)) = false := by decide)
    (he : ∀ env, eval (.Call (.Name x px) args [] pos) env = (do callWith pos (← eval (.Name x px) env) [] (backTo pos (starEach args env)) (backToKw pos (keywordEach [] env))) := by intro env; rfl) (hpl : ∀ env, (backTo pos (starEach args env)).any (·.1) = false := by intro env; rfl) :
    WEv prog w cx (.Call (.Name x px) args [] pos) σ Q E := ev_callt (ev_bname ok hx e hn hb ⟨rfl, h⟩ hd) he hpl
theorem set_same {x : Str} {v : AV} : (σ.set x v).loc x = some v := by unfold AS.set; simp
theorem set_ne {x y : Str} {v : AV} {u : Option AV} (h : y ≠ x) (h' : σ.loc y = u) : (σ.set x v).loc y = u := by unfold AS.set; simp [h, h']
theorem put_same {a : Addr} {o : AO} : (σ.put a o).hp a = some o := by unfold AS.put; simp
theorem put_ne {a b : Addr} {o : AO} {u : Option AO} (h : b ≠ a) (h' : σ.hp b = u) : (σ.put a o).hp b = u := by unfold AS.put; simp [h, h']
theorem set_hp {x : Str} {v : AV} {b : Addr} {u : Option AO} (h' : σ.hp b = u) : (σ.set x v).hp b = u := h'
theorem put_loc {a : Addr} {o : AO} {y : Str} {u : Option AV} (h' : σ.loc y = u) : (σ.put a o).loc y = u := h'
end
end Mine

namespace Mine
open PySem PySem.W PyProof.Rows PySem.Calls
set_option autoImplicit false
set_option linter.unusedVariables false
section
variable {prog : Program} {w : World} {K : Frag} {cx : CX} {sc : Scope} {n : Nat} {σ : AS} {Q : AV → AS → Prop} {QB : Bool → AS → Prop} {QF : AF → AS → Prop} {E : Value → AS → Prop} {pos : Pos}

def Nx (k : AS → Prop) (QF : AF → AS → Prop) : AF → AS → Prop
  | .next, σ => k σ
  | f, σ => QF f σ
theorem nx_next {k : AS → Prop} (h : k σ) : Nx k QF .next σ := h
theorem nx_ret {k : AS → Prop} {v : AV} (h : QF (.ret v) σ) : Nx k QF (.ret v) σ := h
theorem nx_brk {k : AS → Prop} (h : QF .brk σ) : Nx k QF .brk σ := h
theorem nx_cont {k : AS → Prop} (h : QF .cont σ) : Nx k QF .cont σ := h
theorem x_cons {st : Stmt} {rest : List Stmt} (h : WEx prog w cx st σ (Nx (fun σ₁ => WExs prog w cx rest σ₁ QF E) QF) E) : WExs prog w cx (st :: rest) σ QF E :=
  exs_cons (h.imp (fun f σ₁ q => by cases f <;> exact q) fun _ _ e => e)
theorem turn_next {J : AS → Prop} (h : J σ) : Turn J QF .next σ := h
theorem turn_cont {J : AS → Prop} (h : J σ) : Turn J QF .cont σ := h
theorem turn_brk {J : AS → Prop} (h : QF .next σ) : Turn J QF .brk σ := h
theorem turn_ret {J : AS → Prop} {v : AV} (h : QF (.ret v) σ) : Turn J QF (.ret v) σ := h
theorem x_while (g : Fx prog K cx sc n) {test : Expr} {body : List Stmt} (J : Nat → AS → Prop) (k₀ : Nat) (h0 : J k₀ σ)
    (turn : ∀ k σ₁, J k σ₁ → WTr prog w cx test σ₁ (fun c σ₂ => if c then WExs prog w cx body σ₂ (Turn (fun σ => ∃ m, m < k ∧ J m σ) QF) E else QF .next σ₂) E) :
    WEx prog w cx (.While test body [] pos) σ QF E := while_ g J k₀ h0 fun k σ₁ hj => (turn k σ₁ hj).imp (fun c σ₂ q => by
      cases c with
      | false => exact q
      | true => exact Wp.imp q (fun f σ₃ q => by cases f <;> exact q) fun _ _ e => e) fun _ _ e => e
theorem isb {b : Bool} {P : Bool → Prop} (h : P b) : ∃ c, AV.bool b = .bool c ∧ P c := ⟨b, rfl, h⟩
theorem x_assign (g : Ok prog K cx sc n) {x : Str} {value : Expr} {pos' : Pos} (hx : sc.names.lookup x = some .local)
    (hs : swapsWith value (some (.Name x pos')) pos.line cx.env = pure false) (h : WEv prog w cx value σ (fun a σ₁ => QF .next (σ₁.set x a)) E) : WEx prog w cx (.Assign [.Name x pos'] value pos) σ QF E := ex_assign g h hx hs
theorem v_name (g : Ok prog K cx sc n) {x : Str} {v : AV} (hd : (x == ("__debug__" : Str)) = false) (hc : (x == ("__classdict__" : Str)) = false) (hv : σ.loc x = some v) (h : Q v σ) : WEv prog w cx (.Name x pos) σ Q E := ev_name g hv h hd hc
theorem v_gname (g : Ok prog K cx sc n) {x : Str} {v : AV} {u : Value} (hx : sc.names.lookup x = some .globalImplicit) (hd : (x == ("__debug__" : Str)) = false) (e : nsIn K mainGlobals x = some (some u)) (hv : ∀ h : Heap, VR h v u) (h : Q v σ) : WEv prog w cx (.Name x pos) σ Q E := ev_gname g hx e hv h hd
theorem v_bname (g : Ok prog K cx sc n) {x : Str} {u : Value} (hx : sc.names.lookup x = some .globalImplicit) (hd : (x == ("__debug__" : Str)) = false) (e : nsIn K mainGlobals x = some none) (hn : x ≠ "__name__") (hb : bootBuiltins x = some u) (h : Q (.raw u) σ) : WEv prog w cx (.Name x pos) σ Q E := ev_bname g hx e hn hb h hd
theorem v_callb (g : Ok prog K cx sc n) {x : Str} {px : Pos} {args : List Expr} {id : String} (hx : sc.names.lookup x = some .globalImplicit) (e : nsIn K mainGlobals x = some none) (hn : x ≠ "__name__") (hb : bootBuiltins x = some (.builtin id))
    (hd : (x == ("__debug__" : Str)) = false) (he : ∀ env, eval (.Call (.Name x px) args [] pos) env = (do callWith pos (← eval (.Name x px) env) [] (backTo pos (starEach args env)) (backToKw pos (keywordEach [] env)))) (hpl : ∀ env, (backTo pos (starEach args env)).any (·.1) = false)
    (h : WAr prog w cx pos args σ (fun l σ₁ => WCl prog w cx (.builtin id) l σ₁ Q E) E) : WEv prog w cx (.Call (.Name x px) args [] pos) σ Q E := ev_callb' g hx e hn hb h hd he hpl
theorem v_callt (g : Ok prog K cx sc n) {x : Str} {px : Pos} {args : List Expr} {id : String} (hx : sc.names.lookup x = some .globalImplicit) (e : nsIn K mainGlobals x = some none) (hn : x ≠ "__name__") (hb : bootBuiltins x = some (.type id))
    (hd : (x == ("__debug__" : Str)) = false) (he : ∀ env, eval (.Call (.Name x px) args [] pos) env = (do callWith pos (← eval (.Name x px) env) [] (backTo pos (starEach args env)) (backToKw pos (keywordEach [] env)))) (hpl : ∀ env, (backTo pos (starEach args env)).any (·.1) = false)
    (h : WAr prog w cx pos args σ (fun l σ₁ => WCl prog w cx (.type id) l σ₁ Q E) E) : WEv prog w cx (.Call (.Name x px) args [] pos) σ Q E := ev_callt' g hx e hn hb h hd he hpl
theorem a_cons {e : Expr} {rest : List Expr} {Q : List AV → AS → Prop} (he : ∀ env, starEach (e :: rest) env = (false, eval e env) :: starEach rest env) (h : WEv prog w cx e σ (fun a σ₁ => WAr prog w cx pos rest σ₁ (fun l σ₂ => Q (a :: l) σ₂) E) E) : WAr prog w cx pos (e :: rest) σ Q E := ar_cons h he
theorem v_cmp {l rr : Expr} {op : CmpOp} (hm : behindInMarks op rr = false) (h : WEv prog w cx l σ (fun a σ₁ => WEv prog w cx rr σ₁ (fun b σ₂ => WOp2 prog w cx (compareOp op) a b σ₂ Q E) E) E) : WEv prog w cx (.Compare l [op] [rr] pos) σ Q E := ev_cmp h hm
theorem t_cmp {l rr : Expr} {op : CmpOp} (hm : behindInMarks op rr = false) (h : WEv prog w cx l σ (fun a σ₁ => WEv prog w cx rr σ₁ (fun b σ₂ => WOp2 prog w cx (compareOp op) a b σ₂ (fun v σ₃ => ∃ c, v = .bool c ∧ QB c σ₃) E) E) E) : WTr prog w cx (.Compare l [op] [rr] pos) σ QB E := tr_cmp h hm
theorem t_val {e : Expr} (he : ∀ env, isTrue e env (eval e env) = (do let v ← eval e env; standAt e.pos; holding [v] (truthy v))) (h : WEv prog w cx e σ (fun v σ₁ => ∃ c, v = .bool c ∧ QB c σ₁) E) : WTr prog w cx e σ QB E := tr_val h (he _)
theorem v_div (g : Ok prog K cx sc n) {a b : Int} (hb : 0 < b) (h : Q (.int (a / b)) σ) : WOp2 prog w cx (binaryOp .FloorDiv) (.int a) (.int b) σ Q E := op_div g hb h
/-- the parts of a called function's name -/
abbrev Plain (x : Str) (px : Pos) (args : List Expr) (pos : Pos) : Prop := (∀ env, eval (.Call (.Name x px) args [] pos) env = (do callWith pos (← eval (.Name x px) env) [] (backTo pos (starEach args env)) (backToKw pos (keywordEach [] env)))) ∧ ∀ env, (backTo pos (starEach args env)).any (·.1) = false
theorem v_callf (g : Ok prog K cx sc n) {x : Str} {px : Pos} {args : List Expr} {f : Addr} (hx : sc.names.lookup x = some .globalImplicit) (e : nsIn K mainGlobals x = some (some (.ref f))) (hk : keepIn K (.ref f) = true)
    (hd : (x == ("__debug__" : Str)) = false) (hp : Plain x px args pos) (h : WAr prog w cx pos args σ (fun l σ₁ => WCl prog w cx (.ref f) l σ₁ Q E) E) : WEv prog w cx (.Call (.Name x px) args [] pos) σ Q E := ev_callf g hx e hk h hd hp.1 hp.2
end
end Mine

namespace Mine
open PySem PySem.W PyProof.Rows PySem.Calls
set_option autoImplicit false
set_option linter.unusedVariables false
/-- all objects' facts stay -/
def AS.Sub (σ σ' : AS) : Prop := ∀ a o, σ.hp a = some o → σ'.hp a = some o
theorem AS.Sub.refl (σ : AS) : σ.Sub σ := fun _ _ e => e
theorem AS.Sub.trans {σ₁ σ₂ σ₃ : AS} (a : σ₁.Sub σ₂) (b : σ₂.Sub σ₃) : σ₁.Sub σ₃ := fun x o e => b x o (a x o e)
theorem AS.Sub.set {σ σ' : AS} {x : Str} {v : AV} (a : σ.Sub σ') : σ.Sub (σ'.set x v) := a
theorem AS.Sub.put {σ σ' : AS} {x : Addr} {o : AO} (a : σ.Sub σ') (h : σ'.hp x = none) : σ.Sub (σ'.put x o) := fun y o' e => by
  unfold AS.put
  dsimp only
  split
  · rename_i q; subst q; rw [a y o' e] at h; cases h
  · exact a y o' e
section
variable {prog : Program} {w : World} {K : Frag} {cx : CX} {sc : Scope} {n : Nat} {σ : AS} {Q : AV → AS → Prop} {QB : Bool → AS → Prop} {QF : AF → AS → Prop} {E : Value → AS → Prop} {pos : Pos}

theorem Wp.forget {α β : Type} {rel : Heap → β → α → Prop} {t : Sem α} {Q : β → AS → Prop} (h : Wp prog w rel cx t σ (fun b σ' => ∃ σ₀, σ₀.Le σ' ∧ Q b σ₀) E) : Wp prog w rel cx t σ Q E := fun s r =>
  wpAny_mono (h s r) (fun v s' ⟨b, σ', r', v', m', σ₀, l, q⟩ => ⟨b, σ₀, r'.le l, v', m', q⟩) fun _ _ e => e
theorem WCl.forget {f : Value} {l : List AV} (h : WCl prog w cx f l σ (fun b σ' => ∃ σ₀, σ₀.Le σ' ∧ Q b σ₀) (fun C σ' => ∃ σ₀, σ₀.Le σ' ∧ E C σ₀)) : WCl prog w cx f l σ Q E := fun s vs r hv =>
  wpAny_mono (h s vs r hv) (fun v s' ⟨b, σ', r', v', m', σ₀, l, q⟩ => ⟨b, σ₀, r'.le l, v', m', q⟩) fun v s' ⟨e, C, σ', s₀, L, a, b, c, d, f, g, σ₀, l, i⟩ => ⟨e, C, σ₀, s₀, L, a, b.le l, c, d, f, g, i⟩
/-- a function that leaves all objects as they were, or that raises so -/
theorem call_pure (g : Fx prog K cx sc (n + 1)) {f : Addr} {sc' : Scope} {body : List Stmt} {ps : List Str} {l : List AV} (F : Fn K f sc' body ps) (hlen : ps.length = l.length)
    (h : ∀ cx', Fx prog K cx' sc' n → WExs prog w cx' body (σ.enter ps l) (fun fl σ₂ => σ.Sub σ₂ ∧ Q (retOf fl) σ) (fun C σ₂ => σ.Sub σ₂ ∧ E C σ)) : WCl prog w cx (.ref f) l σ Q E :=
  WCl.forget (call_fn g F hlen fun cx' g' => (h cx' g').imp (fun fl σ₂ ⟨a, b⟩ => ⟨σ, ⟨fun _ _ e => e, a⟩, b⟩) fun C σ₂ ⟨a, b⟩ => ⟨σ, ⟨fun _ _ e => e, a⟩, b⟩)

theorem rangeSize_one {a b : Int} (h : a ≤ b) : Builtin.Range.rangeSize a b 1 = b - a := by
  unfold Builtin.Range.rangeSize
  rw [if_pos (by decide)]
  split
  · rw [Int.ediv_one]; omega
  · omega
/-- a loop over range(a, b) -/
theorem x_range (g : Fx prog K cx sc n) {x : Str} {px : Pos} {iter : Expr} {body : List Stmt} (hx : sc.names.lookup x = some .local) (hs : ∀ v, foldedSetIterable iter cx.env v = pure v)
    (h : WEv prog w cx iter σ (fun v σ₁ => ∃ ax a b, ∃ J : Nat → AS → Prop, v = .ref ax ∧ σ₁.hp ax = some (.range a b 1) ∧ -(2 ^ 62) ≤ a ∧ a ≤ b ∧ b < 2 ^ 62 ∧ J 0 σ₁ ∧
      (∀ (i : Nat) σ cx', Fx prog K cx' sc n → a + i < b → J i σ → WExs prog w cx' body (σ.set x (.int (a + i))) (Turn (J (i + 1)) QF) E) ∧ ∀ σ, J (b - a).toNat σ → QF .next σ) E) : WEx prog w cx (.For (.Name x px) iter body [] pos) σ QF E :=
  for_range g hx (h.imp (fun v σ₁ ⟨ax, a, b, J, h1, h2, h3, h4, h5, h6, h7, h8⟩ => ⟨ax, a, b, 1, J, h1, h2, by decide, small_one h3 (by omega) (by omega) h5, h6, fun i σ cx' g' hi hj => by
    rw [rangeSize_one h4] at hi
    have := h7 i σ cx' g' (by omega) hj
    rw [Int.mul_one]; exact this, fun σ hj => by rw [rangeSize_one h4] at hj; exact h8 σ hj⟩) fun _ _ e => e) hs
/-- the script's cell -/
def cellAt (ns : List Int) (k : Nat) : Int := ns[k]?.getD 0
theorem v_mul {a b : Int} (hm : IntMulOk a b) (h : Q (.int (a * b)) σ) : WOp2 prog w cx (binaryOp .Mult) (.int a) (.int b) σ Q E := op_mul hm h
theorem v_pow {a k : Int} (hn : 0 ≤ k) (hsz : (Builtin.Int.intBits a : Int) * k ≤ 2 ^ 27) (h : Q (.int (a ^ k.toNat)) σ) : WOp2 prog w cx (binaryOp .Pow) (.int a) (.int k) σ Q E := op_pow hn hsz h

/-! what the law's own helpers give -/
def A_twin (Q : AV → AS → Prop) (l : List AV) (σ : AS) : Prop := ∃ a b : Int, l = [.int a, .int b] ∧ 0 < b ∧ Q (.int (if a / b % 2 = 0 then a + b else a - b)) σ
theorem a_twin {a b : Int} (hb : 0 < b) (h : Q (.int (if a / b % 2 = 0 then a + b else a - b)) σ) : A_twin Q [.int a, .int b] σ := ⟨a, b, rfl, hb, h⟩
def A_whole (Q : AV → AS → Prop) (l : List AV) (σ : AS) : Prop := ∃ a : Int, l = [.int a] ∧ Q (.bool true) σ
theorem a_whole {a : Int} (h : Q (.bool true) σ) : A_whole Q [.int a] σ := ⟨a, rfl, h⟩
def A_cell (Q : AV → AS → Prop) (l : List AV) (σ : AS) : Prop := ∃ x k ns, l = [.ref x, .int k] ∧ σ.hp x = some (.ro (ns.map AV.int)) ∧ ns.length ≤ 63 ∧ 0 ≤ k ∧ k < 2 ^ 62 ∧ Q (.int (cellAt ns k.toNat)) σ
theorem a_cell {x : Addr} {k : Int} {ns : List Int} (h1 : σ.hp x = some (.ro (ns.map AV.int))) (h2 : ns.length ≤ 63) (h3 : 0 ≤ k) (h4 : k < 2 ^ 62) (h : Q (.int (cellAt ns k.toNat)) σ) : A_cell Q [.ref x, .int k] σ := ⟨x, k, ns, rfl, h1, h2, h3, h4, h⟩
def A_doubled (Q : AV → AS → Prop) (l : List AV) (σ : AS) : Prop := ∃ k : Int, l = [.int k] ∧ 0 ≤ k ∧ k < 2 ^ 20 ∧ Q (.int (2 ^ k.toNat)) σ
theorem a_doubled {k : Int} (h0 : 0 ≤ k) (h1 : k < 2 ^ 20) (h : Q (.int (2 ^ k.toNat)) σ) : A_doubled Q [.int k] σ := ⟨k, rfl, h0, h1, h⟩

/-- the end -/
theorem good_end {c : ClaimW} {cl : Str → Option Addr} {mean : ExcName → Option Value} {args : List WData} {s₁ s' : Shared} {f : Flow} (hn : ∀ cls, c.raises args cls = false) (hp : c.post args (.bool true) args = true) (hg : s₁.gens = #[])
    (k : ∀ b o, s₁.heap.get? b = some o → s'.heap.get? b = some o) (ho : s'.os = s₁.os) (hg' : s'.gens = s₁.gens) :
    (∃ v, f = .ret v ∧ v = .bool true) → GoodW c cl mean args s₁ (.ok (.ret (match f with | .ret v => v | _ => .none))) s' := by
  rintro ⟨v, rfl, rfl⟩
  exact ⟨.inl ⟨.bool true, .bool true, [], rfl, hn, ReadsW.bool _, hp, fun _ => ⟨.nil, fun _ ha => nomatch ha⟩⟩, k, ho, hg'.trans hg⟩
theorem glo_of {p : Program} {loose : List Str} {mean : ExcName → Option Value} {mg mb : Str → Option Value} {h : Heap} (T : Top p loose mean mg mb h) (KX : K.In h) (hi : importsNone p = true) (ht : prog.given.tree = none) : Glo prog K h :=
  ⟨KX, ⟨mg, T.g⟩, ⟨mb, T.b, T.builtins⟩, T.nolimit, T.seer hi, ht, ⟨p, loose, mg, mb, topRead_of T⟩⟩
end
end Mine

namespace Mine
open PySem PySem.W PyProof.Rows PySem.Calls
set_option autoImplicit false
set_option linter.unusedVariables false
section
variable {prog : Program} {w : World} {K : Frag} {cx : CX} {sc : Scope} {n : Nat} {σ : AS} {Q : AV → AS → Prop} {QB : Bool → AS → Prop} {QF : AF → AS → Prop} {E : Value → AS → Prop} {pos : Pos}

theorem frames_some {s : Shared} (r : R prog w cx σ s) : ∃ L, cx.fenv.frame = some L := by obtain ⟨_, ⟨L, o, hf, _⟩, _⟩ := r.ff; exact ⟨L, hf⟩
theorem ff_hide {h : Heap} {base : Heap} {h₀ : Heap} {fr : List Addr} : ∀ l : List Env, (∀ en ∈ l, ∀ a, en.frame = some a → a ∈ fr) → h.FunFrames base l → h.FunFrames (hideAll h₀ fr) l
  | [], _, _ => trivial
  | en :: l, hm, ⟨hk, ⟨a, o, hf, hn, ho, hd⟩, hr⟩ => ⟨hk, ⟨a, o, hf, hideAll_none _ (hm en (.head _) a hf), ho, hd⟩, ff_hide l (fun e he => hm e (.tail _ he)) hr⟩

/-- raise X(..) of a class of the text -/
theorem ex_raise (ok : Ok prog K cx sc n) (hh : cx.A.handled = none) {x : Str} {C : Addr} {bmB : List Value} {B newId initId : String} {np cpos : Pos} {args : List Expr} (hx : sc.names.lookup x = some .globalImplicit) (e : nsIn K mainGlobals x = some (some (.ref C)))
    (q : excIn K C bmB newId = true) (FB : ExcBaseFacts B newId initId bmB) (hd : (x == ("__debug__" : Str)) = false) (hpl : ∀ env, (backTo cpos (starEach args env)).any (·.1) = false)
    (h : WAr prog w cx cpos args σ (fun l σ₁ => l.length ≤ sizeLine ∧ E (.ref C) σ₁) E) : WEx prog w cx (.Raise (some (.Call (.Name x np) args [] cpos)) none pos) σ QF E := fun s r => by
  obtain ⟨p, loose, mg, mb, T⟩ := ok.glo.top
  obtain ⟨tl, N, nm, qn, bs, hdct, sn, sub, ab, col, dd, k0, k1, k2, k3, k5, mN, hC, hN, hni, TL⟩ := (own_of_in ok.glo.KX T e q).obj
  refine wpAny_Raise_call_subT (C := C) (nm := nm) (q := qn) (N := N) (bs := bs) (bm := tl) (hdct := hdct) (sn := sn) (sub := sub) (ab := ab) (col := col) (dd := dd) (k0 := k0) (k1 := k1) (k2 := k2) (k3 := k3) (k5 := k5)
    FB (mN := mN) (TL.hasType FB.hasBase) hh (hpl _) hni ?_
  refine wpAny_mono (ev_gname (E := E) (pos := np) (Q := fun v σ₁ => v = .ref C ∧ σ₁ = σ) ok hx e (fun _ => vr_ref) ⟨rfl, rfl⟩ hd s r) (fun f s₁ ⟨a, σ₁, r₁, v₁, m₁, ha, hσ⟩ => ?_) fun _ _ e => e
  subst ha hσ
  refine ⟨v₁, evalArgs_all (hpl _) (wpAny_mono (h s₁ r₁) (fun vs s₂ ⟨l, σ₂, r₂, v₂, m₂, hl, hE⟩ => ?_) fun _ _ e => e.mono m₁)⟩
  refine ⟨rfl, by show vs.length ≤ _; rw [v₂.length]; exact hl, r₂.stay _ _ hC, hN.keeps r₂.stay, TL.keeps r₂.stay, fun h' e' M => ?_⟩
  obtain ⟨t, he, htn, ht⟩ := M.there
  obtain ⟨L, hL⟩ := frames_some r₂
  refine ⟨e', .ref C, σ₂, s₂, L, rfl, r₂, rfl, ⟨hL, fun b o hb => M.keeps b o (of_hideAll _ hb), ?_, ?_, Heap.UpToSlots.of_keeps M.keeps⟩, .inl ⟨_, _, _, he, rfl, rfl, rfl, rfl⟩, m₁.trans m₂, hE⟩
  · cases qq : (hideAll s₂.heap cx.frames).get? e' with
    | none => rfl
    | some o => have := of_hideAll _ qq; rw [M.new] at this; cases this
  · exact ff_hide _ (fun en he a ha => List.mem_filterMap.mpr ⟨en, he, ha⟩) (r₂.ff.of_keeps fun b o hb _ => ⟨o, M.keeps b o hb, rfl⟩)

/-- the context in a handler -/
def CX.mark (cx : CX) (e : Addr) : CX := { cx with A := cx.A.mark (some (.ref e)) }
theorem Ok.mark (ok : Ok prog K cx sc n) (e : Addr) : Ok prog K (cx.mark e) sc n := ⟨ok.1, ok.2, ok.3, ok.4, ok.5, ok.6, ok.7, ok.8, ok.9, ok.10, ok.11, ok.12, ok.13, ok.14⟩
theorem R.mark {s : Shared} (r : R prog w cx σ s) (e : Addr) : R prog w (cx.mark e) σ s := ⟨r.1, r.2, r.3, r.4, r.5, r.6, r.7, r.8, r.9, r.10, r.11, r.12, r.13⟩
theorem R.unmark {s : Shared} {e : Addr} (r : R prog w (cx.mark e) σ s) : R prog w cx σ s := ⟨r.1, r.2, r.3, r.4, r.5, r.6, r.7, r.8, r.9, r.10, r.11, r.12, r.13⟩

/-- handlers -/
def WHd (prog : Program) (w : World) (cx : CX) (hs : List ExceptHandler) (C : Value) (σ : AS) (QF : AF → AS → Prop) (E : Value → AS → Prop) : Prop :=
  ∀ s e L a0 h₀ tk, R prog w cx σ { s with heap := h₀, toks := tk } → XC cx h₀ s.heap L e → s.heap.TracedW (hideAll h₀ cx.frames) e C a0 → wpAny (model prog w) cx.A (handleBy (.ref e) cx.env hs) (PostR prog w FR cx { s with heap := h₀ } QF) (PostE prog w cx { s with heap := h₀ } E) s

theorem ex_try (g : Fx prog K cx sc n) {body : List Stmt} {h₀ : ExceptHandler} {hs : List ExceptHandler} (h : WExs prog w cx body σ QF (fun C σ₁ => WHd prog w cx (h₀ :: hs) C σ₁ QF E)) : WEx prog w cx (.Try body (h₀ :: hs) [] [] pos) σ QF E := fun s r => by
  refine wpAny_Try_except (wpAny_mono (h s r) (fun f s₁ ⟨a, σ₁, r₁, v₁, m₁, q₁⟩ => ?_) fun v s₁ ⟨e, C, σ₁, s₀, L, hv, r₁, hs, x, es, m₁, q⟩ => ?_)
  · cases a with
    | next => rw [show f = .next from v₁]; exact wpAny_execs_nil ⟨.next, σ₁, r₁, rfl, m₁, q₁⟩
    | brk => rw [show f = .brk from v₁]; exact ⟨.brk, σ₁, r₁, rfl, m₁, q₁⟩
    | cont => rw [show f = .cont from v₁]; exact ⟨.cont, σ₁, r₁, rfl, m₁, q₁⟩
    | ret a => obtain ⟨v, rfl, hv⟩ := v₁; exact ⟨.ret a, σ₁, r₁, ⟨v, rfl, hv⟩, m₁, q₁⟩
  · subst hv
    refine note_x g.ok.fr g.fe x es fun h' a0 x' ht => ?_
    refine wpAny_setFlight_noneW x'.st x'.ff ht fun h'' k1 k2 k3 k4 => ?_
    have x'' : XC cx s₀.heap h'' L e := ⟨x'.fr, k1, x'.new, k2, x'.up.trans fun b o hb hn => ⟨o.slots, k4 b o hb hn⟩⟩
    have := q { s₁ with heap := h'' } e L a0 s₀.heap s₀.toks (by rw [hs]; exact r₁) x'' k3
    exact wpAny_mono this (fun _ _ p => p.mono m₁) fun _ _ p => p.mono m₁

/-- one more fact -/
theorem R.add {s : Shared} {a : Addr} {ao : AO} (r : R prog w cx σ s) (ho : OR prog w s.heap a ao) (h1 : cx.base.get? a = none) (h2 : ∀ o, ¬ cx.P a o) (h3 : ¬ cx.own a) (h4 : ∀ e ∈ cx.fenv :: cx.outer, e.frame ≠ some a) : R prog w cx (σ.put a ao) s := by
  refine { r with ob := fun b bo e => ?_ }
  unfold AS.put at e
  dsimp only at e
  split at e
  · rename_i q; subst q; cases e; exact ⟨ho, fun _ => h1, h2, h3, h4⟩
  · exact r.ob b bo e
theorem exc_new {h₀ h : Heap} {L e : Addr} {tk : Nat} {s : Shared} (r : R prog w cx σ { s with heap := h₀, toks := tk }) (x : XC cx h₀ h L e) : cx.base.get? e = none ∧ (∀ o, ¬ cx.P e o) ∧ σ.hp e = none := by
  have key : ∀ o, h₀.get? e = some o → e ∉ cx.frames → False := fun o h1 h2 => by
    have := x.new; rw [hideAll_get _ h1 h2] at this; cases this
  refine ⟨?_, fun o hp => key o (r.pr e o hp).1 (r.pr e o hp).2, ?_⟩
  · cases q : cx.base.get? e with
    | none => rfl
    | some o => exact (key o (r.stay e o q) fun hm => by have := (r.ff.mem hm).1; rw [this] at q; cases q).elim
  · cases q : σ.hp e with
    | none => rfl
    | some ao =>
      obtain ⟨p, _, _, _, q4⟩ := r.ob e ao q
      obtain ⟨o, ho, _⟩ := p.there
      exact (key o ho fun hm => by obtain ⟨en, he, hf⟩ := mem_frame hm; exact q4 en he hf).elim
/-- in the suite of a handler -/
theorem exc_in {h₀ : Heap} {L e : Addr} {tk tk' : Nat} {s : Shared} {C a0 : Value} {h : Heap} (r : R prog w cx σ { s with heap := h₀, toks := tk }) (x : XC cx h₀ h L e) (t : h.TracedW (hideAll h₀ cx.frames) e C a0) :
    R prog w cx (σ.put e (.exc C)) { s with heap := h, toks := tk' } := by
  obtain ⟨b1, b2, b3⟩ := exc_new r x
  have r' : R prog w cx σ { s with heap := h, toks := tk' } := r.slots (tk := tk') x.st x.up
  obtain ⟨oe, vs, T, oT, ts, he, ⟨hcls, h0⟩, hd, h1, hnT, hTe, hT, hdT, h3⟩ := t
  refine r'.add ⟨oe, vs, he, hcls, hd⟩ b1 b2 (fun q => ?_) fun en hen hf => ?_
  · rcases q with q | ⟨y, q⟩
    · obtain ⟨m, hm⟩ := r'.ns
      obtain ⟨o, g1, g2⟩ := nofields_ns hm
      rw [← q] at g1
      rw [show h.get? e = some o from g1] at he; cases he; exact g2 _ hd
    · obtain ⟨_, ⟨o, v, c1, c2⟩, _⟩ := r'.cel y e q
      rw [show h.get? e = some o from c1] at he; cases he; rw [c2] at hd; cases hd
  · obtain ⟨_, o, g1, g2⟩ := r'.ff.mem (List.mem_filterMap.mpr ⟨en, hen, hf⟩)
    rw [show h.get? e = some o from g1] at he; cases he; exact g2 _ hd

theorem vm_up {h h' : Heap} (u : h.UpToSlots h') : VM h h' := VM.of_slots u

/-- the class of a handler is looked up and compared -/
theorem hd_test (ok : Ok prog K cx sc n) {x : Str} {np hpos : Pos} {D Ca : Addr} {b : Bool} {name : Option Str} {b₀ : Stmt} {body : List Stmt} {rest : List ExceptHandler} (hx : sc.names.lookup x = some .globalImplicit) (e : nsIn K mainGlobals x = some (some (.ref D)))
    (hm : exmOne K (.ref Ca) (.ref D) = some b) (hd : (x == ("__debug__" : Str)) = false) {s : Shared} {ex L : Addr} {a0 : Value} {h₀ : Heap} {tk : Nat} {Qw : Flow → Shared → Prop} {Ew : Value → Shared → Prop}
    (r : R prog w cx σ { s with heap := h₀, toks := tk }) (xc : XC cx h₀ s.heap L ex) (t : s.heap.TracedW (hideAll h₀ cx.frames) ex (.ref Ca) a0)
    (h1 : b = true → codeAny (model prog w) (cx.A.mark (some (.ref ex))) (.handlers (.ref ex) [.ExceptHandler none name (b₀ :: body) hpos] cx.env) (fun r s₂ => match r with
          | .ok f => (match name with
            | none => Qw f s₂
            | some n => wpAny (model prog w) cx.A (do bindName cx.env n .none; unbindBehindTheSuite cx.env n hpos) (fun _ s₃ => Qw f s₃) Ew s₂)
          | .error x => cameBackBy (model prog w) cx.A cx.env Ew x s₂) s)
    (h0 : b = false → wpAny (model prog w) cx.A (handleBy (.ref ex) cx.env rest) Qw Ew s) :
    wpAny (model prog w) cx.A (handleBy (.ref ex) cx.env (.ExceptHandler (some (.Name x np)) name (b₀ :: body) hpos :: rest)) Qw Ew s := by
  have r' : R prog w cx σ { s with heap := s.heap, toks := s.toks } := r.slots (tk := s.toks) xc.st xc.up
  have KX : K.In s.heap := fun a o q => r'.stay a o (ok.glo.KX a o q)
  have hk : cx.env.scope.kind = .function := by rw [ok.scope]; exact ok.kind
  obtain ⟨mg, hg⟩ := ok.glo.g
  obtain ⟨oe, vs, T, oT, ts, he, ⟨hcls, _⟩, _⟩ := t
  have LT : Looks (model prog w) s.heap (typeOf (.ref ex)) (.ref Ca) := hcls ▸ (Looks.ld he).andThen .now
  refine wpAny_handleBy_cons (codeAny_handlers_test (Name_function_global hk (by unfold Env.kindOf; rw [ok.scope]; exact hx) (loadGlobal_global (by rw [ok.glob]; exact hg.keeps r'.stay) (mg_of ok.glo.KX hg e) ?_) hd)) (by intro q; cases q)
  refine (exm_one KX LT hm).here ?_
  cases b with
  | true => exact h1 rfl
  | false => exact h0 rfl

theorem hd_skip (ok : Ok prog K cx sc n) {x : Str} {np hpos : Pos} {D Ca : Addr} {name : Option Str} {b₀ : Stmt} {body : List Stmt} {rest : List ExceptHandler} (hx : sc.names.lookup x = some .globalImplicit) (e : nsIn K mainGlobals x = some (some (.ref D)))
    (hm : exmOne K (.ref Ca) (.ref D) = some false) (hd : (x == ("__debug__" : Str)) = false) (h : WHd prog w cx rest (.ref Ca) σ QF E) : WHd prog w cx (.ExceptHandler (some (.Name x np)) name (b₀ :: body) hpos :: rest) (.ref Ca) σ QF E :=
  fun s ex L a0 h₀ tk r xc t => hd_test ok hx e hm hd r xc t (fun q => by cases q) fun _ => h s ex L a0 h₀ tk r xc t
theorem hd_plain (ok : Ok prog K cx sc n) {x : Str} {np hpos : Pos} {D Ca : Addr} {b₀ : Stmt} {body : List Stmt} {rest : List ExceptHandler} (hx : sc.names.lookup x = some .globalImplicit) (e : nsIn K mainGlobals x = some (some (.ref D)))
    (hm : exmOne K (.ref Ca) (.ref D) = some true) (hd : (x == ("__debug__" : Str)) = false) (h : ∀ cx', Ok prog K cx' sc n → WExs prog w cx' (b₀ :: body) σ QF (fun _ _ => False)) : WHd prog w cx (.ExceptHandler (some (.Name x np)) none (b₀ :: body) hpos :: rest) (.ref Ca) σ QF E :=
  fun s ex L a0 h₀ tk r xc t => hd_test ok hx e hm hd r xc t (fun _ => by
    refine codeAny_handlers_suite (lands_againW ⟨xc.st, xc.new, xc.ff, t⟩ fun h' ⟨k1, k2, k3, k4⟩ u => ?_)
    have r' : R prog w cx σ { s with heap := h', toks := s.toks } := r.slots (tk := s.toks) k1 (xc.up.trans u)
    refine wpAny_mono (h (cx.mark ex) (ok.mark ex) { s with heap := h' } (r'.mark ex)) (fun f s₂ ⟨a, σ₂, r₂, v₂, m₂, q₂⟩ => ?_) fun v s₂ ⟨_, _, _, _, _, _, _, _, _, _, _, q⟩ => q.elim
    exact ⟨a, σ₂, r₂.unmark, v₂, (vm_up (xc.up.trans u)).trans m₂, q₂⟩) fun q => by cases q
def AS.del (σ : AS) (x : Str) : AS := ⟨fun y => if y = x then none else σ.loc y, σ.hp⟩
theorem R.goes {s : Shared} {h' : Heap} {tk : Nat} {x : Str} {v : Option Value} {m : Str → Option Value} (r : R prog w cx σ s) (hk : cx.env.kindOf x = some .local) (hn : s.heap.Ns cx.env.locals m)
    (hn' : h'.Ns cx.env.locals (fun y => if y = x then v else m y)) (hs : Heap.SameBut cx.env.locals s.heap h') : R prog w cx (σ.del x) { s with heap := h', toks := tk } ∧ VM s.heap h' := by
  obtain ⟨o₀, es, ep, h0, d0⟩ := ns_data hn
  obtain ⟨o₁, es₁, ep₁, h1, d1⟩ := ns_data hn'
  have vm : VM s.heap h' := fun b o xs n e _ d => ⟨o.slots, (hs.2 b (fun q => by subst q; rw [h0] at e; cases e; rw [d0] at d; cases d)).trans e⟩
  refine r.ownSet (.inl rfl) hs h0 h1 (by intro xs n; rw [d0]; simp) (by intro _ vs; rw [d1]; simp) ⟨_, hn'⟩ (fun y c e => ?_) (fun y a e => ?_) rfl
  · obtain ⟨p, ⟨o, v', q1, q2⟩, _⟩ := r.cel y c e
    exact ⟨o, v', (hs.2 c p).trans q1, q2⟩
  · unfold AS.del at e
    dsimp only at e
    split at e
    · cases e
    · rename_i q
      obtain ⟨u', l, b⟩ := r.loc y a e
      refine ⟨u', ?_, b.mono vm⟩
      unfold LocAt at l ⊢
      split at l
      · obtain ⟨m', a1, a2⟩ := l
        have : m' = m := by
          obtain ⟨o1, e1, p1, f1, f2, f3, f4⟩ := a1
          obtain ⟨o2, e2, p2, g1, g2, g3, g4⟩ := hn
          rw [f1] at g1; cases g1; rw [f2] at g2; cases g2
          funext z; rw [← f4 z, ← g4 z]
        exact ⟨_, hn', by rw [if_neg q, ← this]; exact a2⟩
      · obtain ⟨c, o, a1, a2, a3⟩ := l
        exact ⟨c, o, a1, (hs.2 c (r.cel y c a1).1).trans a2, a3⟩
      · obtain ⟨c, o, a1, a2, a3⟩ := l
        exact ⟨c, o, a1, (hs.2 c (r.cel y c a1).1).trans a2, a3⟩
      · exact l
theorem FR.mono {h h' : Heap} (k : VM h h') {a : AF} {f : Flow} (x : FR h a f) : FR h' a f := by
  cases a with
  | ret a => obtain ⟨v, e, hv⟩ := x; exact ⟨v, e, hv.mono k⟩
  | _ => exact x
theorem hd_as (ok : Ok prog K cx sc n) {x y : Str} {np hpos : Pos} {D Ca : Addr} {b₀ : Stmt} {body : List Stmt} {rest : List ExceptHandler} (hx : sc.names.lookup x = some .globalImplicit) (e : nsIn K mainGlobals x = some (some (.ref D)))
    (hm : exmOne K (.ref Ca) (.ref D) = some true) (hd : (x == ("__debug__" : Str)) = false) (hy : sc.names.lookup y = some .local)
    (h : ∀ cx' ex, Ok prog K cx' sc n → σ.hp ex = none → WExs prog w cx' (b₀ :: body) ((σ.put ex (.exc (.ref Ca))).set y (.ref ex)) (fun f σ' => QF f (σ'.del y)) (fun _ _ => False)) : WHd prog w cx (.ExceptHandler (some (.Name x np)) (some y) (b₀ :: body) hpos :: rest) (.ref Ca) σ QF E :=
  fun s ex L a0 h₀ tk r xc t => hd_test ok hx e hm hd r xc t (fun _ => by
    refine codeAny_handlers_suite_as (lands_againW ⟨xc.st, xc.new, xc.ff, t⟩ fun h' ⟨k1, k2, k3, k4⟩ u => ?_)
    have xc' : XC cx h₀ h' L ex := ⟨xc.fr, k1, k2, k3, xc.up.trans u⟩
    have r' : R prog w cx (σ.put ex (.exc (.ref Ca))) { s with heap := h', toks := s.toks } := exc_in r xc' k4
    have hk : cx.env.kindOf y = some .local := by unfold Env.kindOf; rw [ok.scope]; exact hy
    refine wpAny_mono (st_name (E := fun _ _ => False) (Q := fun _ σ' => σ' = (σ.put ex (.exc (.ref Ca))).set y (.ref ex)) (ok.mark ex) hy rfl { s with heap := h', toks := s.toks } (.ref ex) (r'.mark ex) rfl) (fun _ s₁ ⟨_, σ₁, r₁, _, m₁, q₁⟩ => ?_) fun v s₂ ⟨_, _, _, _, _, _, _, _, _, _, _, q⟩ => q.elim
    subst q₁
    refine wpAny_mono (h (cx.mark ex) ex (ok.mark ex) (exc_new r xc).2.2 s₁ r₁) (fun f s₂ ⟨a, σ₂, r₂, v₂, m₂, q₂⟩ => ?_) fun v s₂ ⟨_, _, _, _, _, _, _, _, _, _, _, q⟩ => q.elim
    obtain ⟨m, hn⟩ := r₂.ns
    refine wpAny_nameGoes_keeps hk hn (by rw [ok.scope, ok.kind]; rfl) fun h'' v hn' hs' => ?_
    obtain ⟨r₃, m₃⟩ := r₂.unmark.goes (tk := s₂.toks + 1) hk hn hn' hs'
    exact ⟨a, _, r₃, FR.mono m₃ v₂, (((vm_up (xc.up.trans u)).trans m₁).trans m₂).trans m₃, q₂⟩) fun q => by cases q
end
end Mine

namespace Mine
open PySem PySem.W PyProof.Rows PySem.Calls Builtin Builtin.ObjectAttr Builtin.Getset_descriptor
set_option autoImplicit false
set_option linter.unusedVariables false
set_option maxRecDepth 100000
section
variable {prog : Program} {w : World} {K : Frag} {A : Around} {E : Value → Shared → Prop} {s : Shared} {x D : Addr}

theorem exc_find {M : Model} {h : Heap} {name : Str} {a g : Value} (X : K.In h) (ha : findIn K (.ref D) name = some (some a)) (hg : specialIn K a "__get__" = some (some g)) (ht : takesIn K a = some true) : Looks M h (find (.ref x) (.ref D) name) (.bind g a) := by
  have L1 := looks_findIn (M := M) X ha
  have L2 := looks_specialIn (M := M) X hg
  have L3 := looks_takesIn (M := M) X ht
  exact L1.andThen ((show Looks M h (getOf (some a)) (some g) from L2).andThen ((show Looks M h (dataDescriptor? (some a) (some g)) (some (g, a)) from L3.andThen .now).andThen (Looks.tag .now)))

theorem exc_get {R : Result → Shared → Prop} {tp : Value} (X : K.In s.heap) (L0 : Looks (model prog w) s.heap (typeOf (.ref x)) (.ref D)) (hm : mroIn K D (.type "object") = some true) (h : R (.ok (.ret (.ref D))) s) :
    codeAny (model prog w) A (.call (.builtin "getset_descriptor.__get__") ⟨[.builtin "object.__class__", .ref x, tp], []⟩) R s := by
  obtain ⟨hh, g, dr, t, os⟩ := s
  have L1 := looks_mroIn (M := model prog w) X hm
  refine codeAny_call_builtin KF.slot_gs.plain KF.entry_gs (KF.slot_gs.check _ _ _ _ _ _ _ _ KF.type_class (KF.args_gs _ _ _) ?_)
  unfold Builtin.«getset_descriptor.__get__» descrGet
  rw [dga_obj]
  refine wpAny_bind (wpAny_pure ?_)
  unfold descrGetter descrCheckInstance descrNameAndClass isInstance
  simp only [KF.owner_class]
  repeat lk
  refine ⟨Code.quiet_builtin _ (by decide +kernel), codeAny_builtin KF.entry_class ?_⟩
  unfold Builtin.«object.__class__» shownTypeOf
  repeat lk
  exact h

theorem exc_class {Q : Option Value → Shared → Prop} (X : K.In s.heap) (L0 : Looks (model prog w) s.heap (typeOf (.ref x)) (.ref D)) (hga : findIn K (.ref D) "__getattribute__" = some (some (.builtin "BaseException.__getattribute__")))
    (hgt : findIn K (.ref D) "__getattr__" = some none) (ha : findIn K (.ref D) "__class__" = some (some (.builtin "object.__class__"))) (hg : specialIn K (.builtin "object.__class__") "__get__" = some (some (.builtin "getset_descriptor.__get__")))
    (ht : takesIn K (.builtin "object.__class__") = some true) (hm : mroIn K D (.type "object") = some true) (hb : mroIn K D (.type "BaseException") = some true) (h : Q (some (.ref D)) { s with toks := s.toks + 1 }) :
    wpAny (model prog w) A (getAttr? (.ref x) "__class__") Q E s := by
  obtain ⟨hh, g, d, t, os⟩ := s
  have L1 := looks_findIn (M := model prog w) X hga
  have L2 := looks_findIn (M := model prog w) X hgt
  have L3 := exc_find (M := model prog w) (x := x) X ha hg ht
  have L4 := looks_mroIn (M := model prog w) X hb
  have f3 := PySem.F.excAttr_ValueError.ga.bind (.ref x)
  unfold getAttr? getAttrBy? getAttrBy
  refine wpAny_bind (wpAny_mkText (wpAny_bind (wpAny_attempt (wpAny_holding (wpAny_bind (L0.at (wpAny_bind (L1.at ?_))))))))
  dsimp only
  have hne : (Value.builtin "BaseException.__getattribute__" == Value.builtin "object.__getattribute__") = false := by decide +kernel
  rw [if_neg (by rw [hne, Bool.and_false]; decide)]
  unfold getAttrByItsOwn hookBefore
  rw [show onTheHeap (Value.ref D) = true from rfl, if_pos rfl]
  refine wpAny_bind (L2.at (wpAny_bind (wpAny_attempt (wpAny_holding ?_))))
  unfold callGetattribute boundAndCalled
  rw [if_neg (by decide)]
  refine wpAny_bind (wpAny_of_eq f3 ?_)
  dsimp only
  refine wpAny_call (codeAny_call_builtin PySem.F.excAttr_ValueError.ga.plain PySem.F.entry_bexc_ga ?_)
  have hk : builtinKind "BaseException.__getattribute__" = some .slot := by decide +kernel
  have hsplit : splitId "BaseException.__getattribute__" = some ("BaseException", "__getattribute__") := by decide +kernel
  have hargs := PySem.F.args_bexc_ga (.ref x) (.str "__class__" t)
  simp only [checkBuiltinCall, hk, hsplit]
  refine wpAny_bind ?_
  unfold isInstance
  repeat lk
  show wpAny _ _ (run (.call (.builtin "getset_descriptor.__get__") ⟨[.builtin "object.__class__", .ref x, .ref D], []⟩) none) _ _ _
  refine wpAny_run (exc_get (s := ⟨hh, g, d, t + 1, os⟩) X L0 hm ?_)
  refine wpAny_pure (wpAny_pure ?_)
  exact handed_on rfl (wpAny_pure h)

theorem kitx_exc (hga : findIn K (.ref D) "__getattribute__" = some (some (.builtin "BaseException.__getattribute__")))
    (hgt : findIn K (.ref D) "__getattr__" = some none) (ha : findIn K (.ref D) "__class__" = some (some (.builtin "object.__class__"))) (hg : specialIn K (.builtin "object.__class__") "__get__" = some (some (.builtin "getset_descriptor.__get__")))
    (ht : takesIn K (.builtin "object.__class__") = some true) (hm : mroIn K D (.type "object") = some true) (hb : mroIn K D (.type "BaseException") = some true) (hdct : isClsIn K D = true) :
    KitX K (.ref x) (.ref D) (fun h => ∃ o vs, h.get? x = some o ∧ o.cls = .ref D ∧ o.data = .fields vs) where
  ty := fun M h _ ⟨o, vs, h1, h2, _⟩ => h2 ▸ (Looks.ld h1).andThen .now
  it := fun _ _ X _ => by
    obtain ⟨cdD, hcD⟩ := Option.isSome_iff_exists.mp hdct
    unfold clsIn at hcD
    split at hcD
    · rename_i c' d' cd' sl' ho
      intro A' Q' E' s' k q
      unfold isType loadHead
      exact wpAny_bind (wpAny_loadPart (k _ _ (X _ _ ho)) (wpAny_pure q))
    · cases hcD
  ne := fun h tp dd its n sl X htp => by
    obtain ⟨cdD, hcD⟩ := Option.isSome_iff_exists.mp hdct
    refine Bool.eq_false_iff.mpr fun q => ?_
    have e : D = tp := Value.ref.inj (beq_iff_eq.mp q)
    subst e
    unfold clsIn at hcD
    split at hcD
    · rename_i c' d' cd' sl' ho
      have z := (X _ _ ho).symm.trans htp
      cases z
    · cases hcD
  ca := fun {_ _ _ _ _ s} X ⟨o, vs, h1, h2, _⟩ k => exc_class X (h2 ▸ (Looks.ld h1).andThen .now) hga hgt ha hg ht hm hb k
end
section
variable {prog : Program} {w : World} {K : Frag} {cx : CX} {sc : Scope} {n : Nat} {σ : AS} {Q : AV → AS → Prop} {QB : Bool → AS → Prop} {QF : AF → AS → Prop} {E : Value → AS → Prop} {pos : Pos}
/-- an exception class of the text -/
structure ExcCls (K : Frag) (D : Addr) : Prop where
  ga : findIn K (.ref D) "__getattribute__" = some (some (.builtin "BaseException.__getattribute__"))
  gt : findIn K (.ref D) "__getattr__" = some none
  a : findIn K (.ref D) "__class__" = some (some (.builtin "object.__class__"))
  g : specialIn K (.builtin "object.__class__") "__get__" = some (some (.builtin "getset_descriptor.__get__"))
  t : takesIn K (.builtin "object.__class__") = some true
  m : mroIn K D (.type "object") = some true
  b : mroIn K D (.type "BaseException") = some true
  c : isClsIn K D = true
theorem cl_isi_exc (ok : Ok prog K cx sc n) {x D : Addr} (z : ExcCls K D) (hx : σ.hp x = some (.exc (.ref D))) {c : AV} {cv : Value} {b : Bool} (hc : ∀ h v, VR h c v → v = cv) (e : kitOne K (.ref D) cv = some b) (h : Q (.bool b) σ) : WCl prog w cx (.builtin "isinstance") [.ref x, c] σ Q E := fun s vs r hv => by
  obtain ⟨v, u, rfl, p, q⟩ := vrs2 hv
  rw [hc _ _ q, show v = .ref x from p]
  exact kia_one (kitx_exc z.ga z.gt z.a z.g z.t z.m z.b z.c) (fun a o e => r.stay a o (ok.glo.KX a o e)) (r.ob x _ hx).1 e (by simp) fun tk => here r vr_bool h
def refsOf : List AV → Option (List Value)
  | [] => some []
  | .ref a :: l => (refsOf l).map (.ref a :: ·)
  | .raw v :: l => (refsOf l).map (v :: ·)
  | _ => none
theorem refs_of {h : Heap} : ∀ {l : List AV} {us : List Value} {vs : List Value}, refsOf l = some us → VRs h l vs → vs = us
  | [], _, _, e, q => by cases e; exact q
  | .ref a :: l, _, _, e, ⟨v, r, ev, p, q⟩ => by
    subst ev
    rw [show v = .ref a from p]
    unfold refsOf at e
    cases h : refsOf l with
    | none => rw [h] at e; cases e
    | some ns => rw [h] at e; cases e; rw [refs_of h q]
  | .raw a :: l, _, _, e, ⟨v, r, ev, p, q⟩ => by
    subst ev
    rw [show v = a from p]
    unfold refsOf at e
    cases h : refsOf l with
    | none => rw [h] at e; cases e
    | some ns => rw [h] at e; cases e; rw [refs_of h q]
theorem cl_isi_exct (ok : Ok prog K cx sc n) {x D : Addr} (z : ExcCls K D) (hx : σ.hp x = some (.exc (.ref D))) {l : List AV} {us : List Value} {b : Bool} (hc : refsOf l = some us) (e : kitAny K (.ref D) us = some b) (h : Q (.bool b) σ) : WCl prog w cx (.builtin "isinstance") [.ref x, .tup l] σ Q E := fun s vs r hv => by
  obtain ⟨v, u, rfl, p, ⟨a, ws, rfl, ⟨o, m, h1, h2, h3⟩, q⟩⟩ := vrs2 hv
  rw [show v = .ref x from p]
  have := refs_of hc q
  subst this
  obtain ⟨oc, od, oda, osl⟩ := o
  dsimp only at h2 h3
  subst h2 h3
  exact kia_tup (kitx_exc z.ga z.gt z.a z.g z.t z.m z.b z.c) (fun a o e => r.stay a o (ok.glo.KX a o e)) (r.ob x _ hx).1 h1 e (by simp) fun tk => here r vr_bool h
theorem nsEq {C C' : Addr} {x : Str} (h : nsIn K mainGlobals x = some (some (.ref C))) (h' : nsIn K mainGlobals x = some (some (.ref C'))) : C = C' := by
  rw [h] at h'; injection h' with h'; injection h' with h'; injection h'
theorem x_raise (g : Fx prog K cx sc n) {x : Str} {C : Addr} {np cpos : Pos} {args : List Expr} (hx : sc.names.lookup x = some .globalImplicit) (e : nsIn K mainGlobals x = some (some (.ref C)))
    (q : excIn K C [.type "ValueError", .type "Exception", .type "BaseException", .type "object"] "ValueError.__new__" = true) (hd : (x == ("__debug__" : Str)) = false) (hpl : ∀ env, (backTo cpos (starEach args env)).any (·.1) = false)
    (h : WAr prog w cx cpos args σ (fun l σ₁ => l.length ≤ sizeLine ∧ E (.ref C) σ₁) E) : WEx prog w cx (.Raise (some (.Call (.Name x np) args [] cpos)) none pos) σ QF E :=
  ex_raise g.ok g.hh hx e q PySem.F.excBase_ValueError hd hpl h
def AV.flat : AV → Bool
  | .none | .bool _ | .int _ | .str _ => true
  | _ => false
theorem x_expr (ok : Ok prog K cx sc n) {v : Expr} (hs : ∀ env, swapsWith v none pos.line env = pure false) (h : WEv prog w cx v σ (fun a σ₁ => a.flat = true ∧ QF .next σ₁) E) : WEx prog w cx (.Expr v pos) σ QF E := fun s r => by
  refine wpAny_Expr (wpAny_mono (h s r) (fun va s₁ ⟨a, σ₁, r₁, v₁, m₁, hf, q₁⟩ => ?_) fun _ _ e => e) (by unfold interactive; rw [ok.scope, ok.kind]; rfl) (hs _)
  have fin : PostR prog w FR cx s QF .next s₁ := ⟨.next, σ₁, r₁, rfl, m₁, q₁⟩
  cases a with
  | none => rw [show va = .none from v₁]; exact fin
  | bool b => rw [show va = .bool b from v₁]; exact fin
  | int i => obtain ⟨t, rfl⟩ := v₁; exact fin
  | str i => obtain ⟨t, rfl⟩ := v₁; exact fin
  | _ => cases hf
theorem cmp_is_bool {a b : Bool} (h : Q (.bool (a == b)) σ) : WOp2 prog w cx (compareOp .Is) (.bool a) (.bool b) σ Q E := by
  intro s va vb r h1 h2
  rw [show va = .bool a from h1, show vb = .bool b from h2]
  refine wpAny_is_plain (by cases a <;> cases b <;> rfl) ?_
  have : (Value.bool a == Value.bool b) = (a == b) := by cases a <;> cases b <;> rfl
  rw [this]
  exact here0 r vr_bool h
theorem cmp_is_none {a : AV} (h : Q (.bool (match a with | .none => true | _ => false)) σ) (hf : a.flat = true) : WOp2 prog w cx (compareOp .Is) a .none σ Q E := by
  intro s va vb r h1 h2
  rw [show vb = .none from h2]
  cases a with
  | none => rw [show va = .none from h1]; exact wpAny_is_self rfl (here0 r vr_bool h)
  | bool b => rw [show va = .bool b from h1]; exact is_none_ne (by intro x; cases x) (here0 r vr_bool h)
  | int b => obtain ⟨t, rfl⟩ := h1; exact is_none_ne (by intro x; cases x) (here0 r vr_bool h)
  | str b => obtain ⟨t, rfl⟩ := h1; exact is_none_ne (by intro x; cases x) (here0 r vr_bool h)
  | _ => cases hf
end
end Mine

namespace Mine
open PySem PySem.W PyProof.Rows PySem.Calls
set_option autoImplicit false
set_option linter.unusedVariables false
section
variable {prog : Program} {w : World} {K : Frag} {cx : CX} {sc : Scope} {n : Nat} {σ : AS} {Q : AV → AS → Prop} {QB : Bool → AS → Prop} {QF : AF → AS → Prop} {E : Value → AS → Prop} {pos : Pos}
/-- e is the least exponent with v ≤ 2 ^ e -/
def Fit (v : Int) (e : Nat) : Prop := e ≤ 60 ∧ v ≤ 2 ^ e ∧ ∀ j, j < e → (2 : Int) ^ j < v
def A_sizefor (K : Frag) (E : Value → AS → Prop) (Q : AV → AS → Prop) (l : List AV) (σ : AS) : Prop := ∃ v : Int, l = [.int v] ∧ ((v < 1 ∨ 2 ^ 60 < v) → ∀ C, nsIn K mainGlobals (Str.ofString "NoWish") = some (some (.ref C)) → E (.ref C) σ) ∧ (1 ≤ v → v ≤ 2 ^ 60 → ∀ e, Fit v e → Q (.int (2 ^ e)) σ)
theorem a_sizefor {v : Int} (h1 : (v < 1 ∨ 2 ^ 60 < v) → ∀ C, nsIn K mainGlobals (Str.ofString "NoWish") = some (some (.ref C)) → E (.ref C) σ) (h2 : 1 ≤ v → v ≤ 2 ^ 60 → ∀ e, Fit v e → Q (.int (2 ^ e)) σ) : A_sizefor K E Q [.int v] σ := ⟨v, rfl, h1, h2⟩
def A_issize (Q : AV → AS → Prop) (l : List AV) (σ : AS) : Prop := ∃ v : Int, l = [.int v] ∧ ((v < 1 ∨ 2 ^ 60 < v) → Q (.bool false) σ) ∧ (1 ≤ v → v ≤ 2 ^ 60 → ∀ e, Fit v e → Q (.bool ((2 : Int) ^ e == v)) σ)
theorem a_issize {v : Int} (h1 : (v < 1 ∨ 2 ^ 60 < v) → Q (.bool false) σ) (h2 : 1 ≤ v → v ≤ 2 ^ 60 → ∀ e, Fit v e → Q (.bool ((2 : Int) ^ e == v)) σ) : A_issize Q [.int v] σ := ⟨v, rfl, h1, h2⟩
/-- the loop that doubles a size till it is at least v -/
def Dbl (x y : Str) (v : Int) (σ₀ : AS) (k : Nat) (σ : AS) : Prop := ∃ i, k + i = 61 ∧ i ≤ 60 ∧ σ.loc x = some (.int (2 ^ i)) ∧ σ.loc y = some (.int v) ∧ (∀ j, j < i → (2 : Int) ^ j < v) ∧ σ₀.Sub σ
theorem fit_unique {k e : Nat} (h : Fit (2 ^ k) e) : e = k := by
  obtain ⟨_, h1, h2⟩ := h
  rcases Nat.lt_trichotomy e k with q | q | q
  · have : (2 : Nat) ^ e < 2 ^ k := Nat.pow_lt_pow_right (by decide) q
    have : (2 : Int) ^ e < 2 ^ k := by exact_mod_cast this
    omega
  · exact q
  · have := h2 k q
    omega
theorem fit_half {v : Int} {e : Nat} (h : Fit v e) (hv : 1 ≤ v) : (2 : Int) ^ e / 2 < v := by
  obtain ⟨_, h1, h2⟩ := h
  cases e with
  | zero => simp; omega
  | succ e =>
    have := h2 e (by omega)
    rw [Int.pow_succ, Int.mul_ediv_cancel _ (by decide)]
    exact this
theorem pow_le_60 {e : Nat} (h : e ≤ 60) : (2 : Int) ^ e ≤ 2 ^ 60 := by
  have : (2 : Nat) ^ e ≤ 2 ^ 60 := Nat.pow_le_pow_right (by decide) h
  exact_mod_cast this
theorem pow_pos' (e : Nat) : (0 : Int) < 2 ^ e := Int.pow_pos (by decide)
end
end Mine

open PySem PySem.W PyProof.Rows
set_option Elab.async false
set_option maxRecDepth 100000
set_option maxHeartbeats 8000000
namespace Mine
open_top hd for PySem.Challenge.rw_uf060009_01
local macro_rules | `(tactic| walk_at "ok") => `(tactic| first | assumption | exact Fx.ok (by assumption))
local macro_rules | `(tactic| walk_at "lk") => `(tactic| first | with_reducible assumption | with_reducible exact set_same | ((with_reducible refine put_loc ?_); walk_at "lk") | ((with_reducible refine set_ne ?a ?_); (case a => decide); walk_at "lk") | exact rfl)
local macro_rules | `(tactic| walk_at "hp") => `(tactic| first | with_reducible assumption | with_reducible exact put_same | ((with_reducible refine set_hp ?_); walk_at "hp") | ((with_reducible refine put_ne ?a ?_); (case a => first | assumption | (exact Ne.symm (by assumption)) | (intro q; subst q; simp_all; done)); walk_at "hp") | exact rfl)
local macro_rules | `(tactic| walk_at "lst") => `(tactic| first | exact Or.inl (by walk_at "hp") | exact Or.inr (by walk_at "hp"))
local macro_rules | `(tactic| walk_at "num") => `(tactic| first | omega | with_reducible assumption | (simp only [List.length_map]; omega))
local macro_rules | `(tactic| walk_at "mul") => `(tactic| first | exact IntMulOk.of_right (by decide) | exact IntMulOk.of_left (by decide) | exact IntMulOk.of_right (intBits_le_64 (by omega) (by omega)) | exact IntMulOk.of_left (intBits_le_64 (by omega) (by omega)) | mul_fits)
local macro_rules | `(tactic| walk_at "pos") => `(tactic| first | with_reducible assumption | omega | exact Int.pow_pos (by decide) | decide | exact Int.mul_pos (by decide) (Int.pow_pos (by decide)))
local macro_rules | `(tactic| walk_at "w") => `(tactic| first
  | with_reducible refine nx_next ?_
  | with_reducible refine nx_ret ?_
  | with_reducible refine nx_brk ?_
  | with_reducible refine nx_cont ?_
  | with_reducible refine exs_nil ?_
  | with_reducible refine x_cons ?_
  | with_reducible refine ex_if ?_
  | with_reducible refine ex_ret ?_
  | with_reducible refine ex_pass ?_
  | ((with_reducible refine x_assign (by walk_at "ok") ?a ?b ?_); (case a => exact rfl); (case b => exact rfl))
  | with_reducible refine ev_bin ?_
  | with_reducible refine ev_int ?_
  | with_reducible refine ev_none ?_
  | with_reducible refine ev_bool ?_
  | with_reducible refine ev_str ?_
  | ((with_reducible refine' v_name (by walk_at "ok") ?a ?b ?c ?_); (case a => decide); (case b => decide); (case c => walk_at "lk"))
  | ((with_reducible refine' v_gname (by walk_at "ok") ?a ?b ?c ?d ?_); (case a => exact rfl); (case b => decide); (case c => k_is); (case d => intro h; first | exact vr_int | exact vr_ref | exact vr_str))
  | ((with_reducible refine' v_bname (by walk_at "ok") ?a ?b ?c ?d ?e ?_); (case a => exact rfl); (case b => decide); (case c => k_is); (case d => decide); (case e => boot_by_name))
  | ((with_reducible refine' v_callb (by walk_at "ok") ?a ?c ?d ?e ?b ?f ?g ?_); (case a => exact rfl); (case b => decide); (case c => k_is); (case d => decide); (case e => boot_by_name); (case f => (intro env; rfl)); (case g => (intro env; rfl)))
  | ((with_reducible refine' v_callt (by walk_at "ok") ?a ?c ?d ?e ?b ?f ?g ?_); (case a => exact rfl); (case b => decide); (case c => k_is); (case d => decide); (case e => boot_by_name); (case f => (intro env; rfl)); (case g => (intro env; rfl)))
  | with_reducible refine ar_nil ?_
  | ((with_reducible refine a_cons ?a ?_); (case a => (intro env; rfl)))
  | ((with_reducible refine t_cmp ?a ?_); (case a => with_unfolding_all rfl))
  | ((with_reducible refine v_cmp ?a ?_); (case a => with_unfolding_all rfl))
  | with_reducible refine tr_not ?_
  | with_reducible refine tr_bool ?_
  | with_reducible refine tl_and_nil ?_
  | with_reducible refine tl_or_nil ?_
  | with_reducible refine tl_and ?_
  | with_reducible refine tl_or ?_
  | with_reducible refine ev_one ?_
  | with_reducible refine ev_and ?_
  | with_reducible refine ev_or ?_
  | with_reducible refine ev_un ?_
  | with_reducible refine ev_tuple ?_
  | with_reducible refine ev_list ?_
  | with_reducible refine ev_sub ?_
  | with_reducible refine op_add ?_
  | with_reducible refine op_sub ?_
  | with_reducible refine op_not ?_
  | with_reducible refine op_neg ?_
  | ((with_reducible refine op_mod ?a ?_); (case a => walk_at "pos"))
  | ((with_reducible refine v_div (by walk_at "ok") ?a ?_); (case a => walk_at "pos"))
  | with_reducible refine cmp_lt ?_
  | with_reducible refine cmp_gt ?_
  | with_reducible refine cmp_le ?_
  | with_reducible refine cmp_ge ?_
  | with_reducible refine cmp_eq ?_
  | with_reducible refine cmp_ne ?_
  | with_reducible refine isb ?_
  | with_reducible refine ite_dec (fun _ => ?_) (fun _ => ?_)
  | with_reducible refine ite_beq (fun _ => ?_) (fun _ => ?_)
  | with_reducible refine ite_bne (fun _ => ?_) (fun _ => ?_)
  | with_reducible refine ite_neg ?_
  | with_reducible refine ite_true' ?_
  | with_reducible refine ite_false' ?_
  | ((with_reducible refine' cl_isi_int (by walk_at "ok") ?a ?b ?_); (case a => exact fun _ _ q => q); (case b => kit_is))
  | ((with_reducible refine' cl_isi_bool (by walk_at "ok") ?a ?b ?_); (case a => exact fun _ _ q => q); (case b => kit_is))
  | ((with_reducible refine' cl_len ?a ?b ?_); (case a => walk_at "lst"); (case b => walk_at "num"))
  | ((with_reducible refine cl_min (Fx.hh (by assumption)) ?_))
  | ((with_reducible refine cl_max (Fx.hh (by assumption)) ?_))
  | ((with_reducible refine cl_range1 (fun _ _ => ?_)))
  | ((with_reducible refine cl_range2 (fun _ _ => ?_)))
  | ((with_reducible refine v_mul ?a ?_); (case a => walk_at "mul"))
  | ((with_reducible refine v_pow ?a ?b ?_); (case a => first | decide | omega); (case b => first | decide | decide +kernel | omega))
  | ((with_reducible refine And.intro ?a ?_); (case a => (show List.length _ ≤ sizeLine; exact Nat.le_of_ble_eq_true rfl)))
  | ((with_reducible refine' cmp_notin_tup ?a ?_); (case a => exact rfl))
  | ((with_reducible refine' cmp_in_tup ?a ?_); (case a => exact rfl))
  | ((with_reducible refine x_expr (by walk_at "ok") ?a ?_); (case a => (intro env; rfl)))
  | ((with_reducible refine' x_raise (by assumption) ?a ?b ?c ?d ?e ?_); (case a => exact rfl); (case b => k_is); (case c => k_exc); (case d => decide); (case e => (intro env; rfl)))
  | (with_reducible refine ex_try (by assumption) ?_)
  | (with_reducible refine cmp_is_bool ?_)
  | ((with_reducible refine' cl_isi_exc (by walk_at "ok") ?z ?x ?a ?b ?_); (case x => walk_at "hp"); (case z => exact ⟨by k_is, by k_is, by k_is, by k_is, by k_is, by k_is, by k_is, by k_is⟩); (case a => exact fun _ _ q => q); (case b => kit_is))
  | ((with_reducible refine' cl_isi_exct (by walk_at "ok") ?z ?x ?a ?b ?_); (case x => walk_at "hp"); (case z => exact ⟨by k_is, by k_is, by k_is, by k_is, by k_is, by k_is, by k_is, by k_is⟩); (case a => exact rfl); (case b => kit_is))
  | walk_at "c"
  | ((with_reducible refine t_val ?a ?_); (case a => (intro env; rfl))))
local macro_rules | `(tactic| walk_at "ws") => `(tactic| repeat' (walk_at "w"))

section
variable {w : World} {cx : CX} {sc : Scope} {n : Nat} {σ : AS} {Q : AV → AS → Prop} {QB : Bool → AS → Prop} {QF : AF → AS → Prop} {E : Value → AS → Prop} {pos : Pos} {prog : Program}
theorem c_whole (g : Fx prog (hd.heap_39 w.params) cx sc (n + 1)) {args : List Expr} {px : Pos} (hx : sc.names.lookup (Str.ofString "_law_whole") = some .globalImplicit) (hp : Plain (Str.ofString "_law_whole") px args pos)
    (h : WAr prog w cx pos args σ (A_whole Q) E) : WEv prog w cx (.Call (.Name (Str.ofString "_law_whole") px) args [] pos) σ Q E := by
  refine v_callf g.ok hx (by k_is) (by k_is) (by decide) hp (h.imp (fun l σ₁ ⟨a, hl, hq⟩ => ?_) fun _ _ e => e)
  subst hl
  refine call_fn (ps := [Str.ofString "_law_found"]) g (fn_of (by k_is) (by k_is) (by k_is) (len1 rfl fun _ => rfl) (by decide) rfl rfl rfl (by decide)) rfl fun cx g => ?_
  walk_at "ws"
  exact hq
theorem c_cell (g : Fx prog (hd.heap_39 w.params) cx sc (n + 1)) {args : List Expr} {px : Pos} (hx : sc.names.lookup (Str.ofString "_law_cell_at") = some .globalImplicit) (hp : Plain (Str.ofString "_law_cell_at") px args pos)
    (h : WAr prog w cx pos args σ (A_cell Q) E) : WEv prog w cx (.Call (.Name (Str.ofString "_law_cell_at") px) args [] pos) σ Q E := by
  refine v_callf g.ok hx (by k_is) (by k_is) (by decide) hp (h.imp (fun l σ₁ ⟨x, k, ns, hl, hx, hn, h0, h1, hq⟩ => ?_) fun _ _ e => e)
  subst hl
  refine call_fn (ps := [Str.ofString "_law_script", Str.ofString "_law_k"]) g (fn_of (by k_is) (by k_is) (by k_is) (len2 rfl fun _ _ => rfl) (by decide) rfl rfl rfl (by decide)) rfl fun cx g => ?_
  have hx' : (σ₁.enter [Str.ofString "_law_script", Str.ofString "_law_k"] [.ref x, .int k]).hp x = some (.ro (ns.map AV.int)) := hx
  walk_at "ws"
  · rename_i hlt
    rw [List.length_map] at hlt
    refine sub_list (.inr hx') h0 (by omega) (a := .int (cellAt ns k.toNat)) ?_ hq
    rw [List.getElem?_map]
    unfold cellAt
    rw [List.getElem?_eq_getElem (by omega)]
    rfl
  · rename_i hlt
    rw [List.length_map] at hlt
    unfold cellAt at hq
    rw [List.getElem?_eq_none (by omega)] at hq
    exact hq
theorem c_doubled (g : Fx prog (hd.heap_39 w.params) cx sc (n + 1)) {args : List Expr} {px : Pos} (hx : sc.names.lookup (Str.ofString "_law_doubled") = some .globalImplicit) (hp : Plain (Str.ofString "_law_doubled") px args pos)
    (h : WAr prog w cx pos args σ (A_doubled Q) E) : WEv prog w cx (.Call (.Name (Str.ofString "_law_doubled") px) args [] pos) σ Q E := by
  refine v_callf g.ok hx (by k_is) (by k_is) (by decide) hp (h.imp (fun l σ₁ ⟨k, hl, h0, h1, hq⟩ => ?_) fun _ _ e => e)
  subst hl
  refine call_pure (ps := [Str.ofString "_law_times"]) g (fn_of (by k_is) (by k_is) (by k_is) (len1 rfl fun _ => rfl) (by decide) rfl rfl rfl (by decide)) rfl fun cx g => ?_
  walk_at "ws"
  refine x_range g rfl (fun _ => rfl) ?_
  walk_at "ws"
  rename_i ax hax
  refine ⟨ax, 0, k, fun i σ => σ.loc (Str.ofString "_law_size") = some (.int (2 ^ i)) ∧ σ₁.Sub σ, rfl, put_same, by omega, h0, by omega, ⟨by walk_at "lk", AS.Sub.put (fun _ _ e => e) hax⟩, ?_, ?_⟩
  · intro i σ cx g hi ⟨j1, j2⟩
    walk_at "ws"
    refine ⟨?_, j2⟩
    rw [set_same, Int.pow_succ]
  · intro σ ⟨j1, j2⟩
    walk_at "ws"
    refine ⟨j2, ?_⟩
    rw [Int.sub_zero]
    exact hq
end
local macro_rules | `(tactic| walk_at "c") => `(tactic| first
  | ((with_reducible refine c_whole (by assumption) ?a ?b ?_); (case a => exact rfl); (case b => exact ⟨fun _ => rfl, fun _ => rfl⟩))
  | ((with_reducible refine c_cell (by assumption) ?a ?b ?_); (case a => exact rfl); (case b => exact ⟨fun _ => rfl, fun _ => rfl⟩))
  | ((with_reducible refine c_doubled (by assumption) ?a ?b ?_); (case a => exact rfl); (case b => exact ⟨fun _ => rfl, fun _ => rfl⟩))
  | (with_reducible refine a_whole ?_)
  | ((with_reducible refine' a_cell ?a ?b ?c ?d ?_); (case a => walk_at "hp"); (case b => with_reducible assumption); (case c => omega); (case d => omega)))

section
variable {w : World} {cx : CX} {sc : Scope} {n : Nat} {σ : AS} {Q : AV → AS → Prop} {QB : Bool → AS → Prop} {QF : AF → AS → Prop} {E : Value → AS → Prop} {pos : Pos} {prog : Program}
theorem c_issize (g : Fx prog (hd.heap_39 w.params) cx sc (n + 1)) {args : List Expr} {px : Pos} (hx : sc.names.lookup (Str.ofString "is_size") = some .globalImplicit) (hp : Plain (Str.ofString "is_size") px args pos)
    (h : WAr prog w cx pos args σ (A_issize Q) E) : WEv prog w cx (.Call (.Name (Str.ofString "is_size") px) args [] pos) σ Q E := by
  refine v_callf g.ok hx (by k_is) (by k_is) (by decide) hp (h.imp (fun l σ₁ ⟨v, hl, h1, h2⟩ => ?_) fun _ _ e => e)
  subst hl
  refine call_pure (ps := [Str.ofString "number"]) g (fn_of (by k_is) (by k_is) (by k_is) (len1 rfl fun _ => rfl) (by decide) rfl rfl rfl (by decide)) rfl fun cx g => ?_
  walk_at "ws"
  · exact ⟨fun _ _ e => e, h1 (.inl (by omega))⟩
  · exact ⟨fun _ _ e => e, h1 (.inr (by omega))⟩
  · refine x_while g (Dbl (Str.ofString "size") (Str.ofString "number") v σ₁) 61 ⟨0, rfl, by decide, by walk_at "lk", by walk_at "lk", by omega, fun _ _ e => e⟩ ?_
    rintro k σ ⟨i, hk, hi, j1, j2, j3, j4⟩
    walk_at "ws"
    · have : i ≠ 60 := fun q => by subst q; omega
      refine ⟨k - 1, by omega, i + 1, by omega, by omega, ?_, by walk_at "lk", fun j hj => ?_, j4⟩
      · rw [set_same, Int.pow_succ]
      · rcases Nat.lt_succ_iff_lt_or_eq.mp hj with q | q
        · exact j3 j q
        · subst q; assumption
    · exact ⟨j4, h2 (by omega) (by omega) i ⟨hi, by omega, j3⟩⟩
theorem c_sizefor (g : Fx prog (hd.heap_39 w.params) cx sc (n + 1)) {args : List Expr} {px : Pos} (hx : sc.names.lookup (Str.ofString "size_for") = some .globalImplicit) (hp : Plain (Str.ofString "size_for") px args pos)
    (h : WAr prog w cx pos args σ (A_sizefor (hd.heap_39 w.params) E Q) E) : WEv prog w cx (.Call (.Name (Str.ofString "size_for") px) args [] pos) σ Q E := by
  refine v_callf g.ok hx (by k_is) (by k_is) (by decide) hp (h.imp (fun l σ₁ ⟨v, hl, h1, h2⟩ => ?_) fun _ _ e => e)
  subst hl
  refine call_pure (ps := [Str.ofString "want"]) g (fn_of (by k_is) (by k_is) (by k_is) (len1 rfl fun _ => rfl) (by decide) rfl rfl rfl (by decide)) rfl fun cx g => ?_
  walk_at "ws"
  · exact ⟨fun _ _ e => e, h1 (.inl (by omega)) _ (by k_is)⟩
  · exact ⟨fun _ _ e => e, h1 (.inr (by omega)) _ (by k_is)⟩
  · refine x_while g (Dbl (Str.ofString "size") (Str.ofString "want") v σ₁) 61 ⟨0, rfl, by decide, by walk_at "lk", by walk_at "lk", by omega, fun _ _ e => e⟩ ?_
    rintro k σ ⟨i, hk, hi, j1, j2, j3, j4⟩
    walk_at "ws"
    · have : i ≠ 60 := fun q => by subst q; omega
      refine ⟨k - 1, by omega, i + 1, by omega, by omega, ?_, by walk_at "lk", fun j hj => ?_, j4⟩
      · rw [set_same, Int.pow_succ]
      · rcases Nat.lt_succ_iff_lt_or_eq.mp hj with q | q
        · exact j3 j q
        · subst q; assumption
    · exact ⟨j4, h2 (by omega) (by omega) i ⟨hi, by omega, j3⟩⟩
end
local macro_rules | `(tactic| walk_at "c") => `(tactic| first
  | ((with_reducible refine c_issize (by assumption) ?a ?b ?_); (case a => exact rfl); (case b => exact ⟨fun _ => rfl, fun _ => rfl⟩))
  | ((with_reducible refine c_sizefor (by assumption) ?a ?b ?_); (case a => exact rfl); (case b => exact ⟨fun _ => rfl, fun _ => rfl⟩)))

section
variable {w : World} {cx : CX} {sc : Scope} {n : Nat} {σ : AS} {Q : AV → AS → Prop} {QB : Bool → AS → Prop} {QF : AF → AS → Prop} {E : Value → AS → Prop} {pos : Pos} {prog : Program}
def A_want (Q : AV → AS → Prop) (l : List AV) (σ : AS) : Prop := ∃ (x : Addr) (ns : List Int), l = [.ref x] ∧ σ.hp x = some (.ro (ns.map AV.int)) ∧ ns.length ≤ 63 ∧ ∀ v, Q (.int v) σ
theorem c_want (g : Fx prog (hd.heap_39 w.params) cx sc (n + 2)) {args : List Expr} {px : Pos} (hx : sc.names.lookup (Str.ofString "_law_want") = some .globalImplicit) (hp : Plain (Str.ofString "_law_want") px args pos)
    (h : WAr prog w cx pos args σ (A_want Q) E) : WEv prog w cx (.Call (.Name (Str.ofString "_law_want") px) args [] pos) σ Q E := by
  refine v_callf g.ok hx (by k_is) (by k_is) (by decide) hp (h.imp (fun l σ₁ ⟨x, ns, hl, hx, hn, hq⟩ => ?_) fun _ _ e => e)
  subst hl
  refine call_fn (ps := [Str.ofString "_law_script"]) g (fn_of (by k_is) (by k_is) (by k_is) (len1 rfl fun _ => rfl) (by decide) rfl rfl rfl (by decide)) rfl fun cx g => ?_
  have hx' : (σ₁.enter [Str.ofString "_law_script"] [.ref x]).hp x = some (.ro (ns.map AV.int)) := hx
  walk_at "ws"
  · refine a_doubled (by omega) (by omega) ?_
    walk_at "ws"
    exact hq _
  all_goals exact hq _
def A_refused (Q : AV → AS → Prop) (l : List AV) (σ : AS) : Prop := ∃ v : Int, l = [.int v] ∧ (v < 1 ∨ 2 ^ 60 < v) ∧ Q (.bool true) σ
theorem c_refused (g : Fx prog (hd.heap_39 w.params) cx sc (n + 2)) {args : List Expr} {px : Pos} (hx : sc.names.lookup (Str.ofString "_law_refused") = some .globalImplicit) (hp : Plain (Str.ofString "_law_refused") px args pos)
    (h : WAr prog w cx pos args σ (A_refused Q) E) : WEv prog w cx (.Call (.Name (Str.ofString "_law_refused") px) args [] pos) σ Q E := by
  refine v_callf g.ok hx (by k_is) (by k_is) (by decide) hp (h.imp (fun l σ₁ ⟨v, hl, hv, hq⟩ => ?_) fun _ _ e => e)
  subst hl
  refine call_fn (ps := [Str.ofString "_law_want_here"]) g (fn_of (by k_is) (by k_is) (by k_is) (len1 rfl fun _ => rfl) (by decide) rfl rfl rfl (by decide)) rfl fun cx g => ?_
  walk_at "ws"
  refine a_sizefor (fun _ C hC => ?_) (fun _ _ => by omega)
  obtain rfl := nsEq hC (by k_is)
  refine hd_plain g.ok rfl (by k_is) (by kts_exm) (by decide) fun cx ok => ?_
  walk_at "ws"
  exact hq
theorem c_refusedby (g : Fx prog (hd.heap_39 w.params) cx sc (n + 2)) {args : List Expr} {px : Pos} (hx : sc.names.lookup (Str.ofString "_law_refused_by_any") = some .globalImplicit) (hp : Plain (Str.ofString "_law_refused_by_any") px args pos)
    (h : WAr prog w cx pos args σ (A_refused Q) E) : WEv prog w cx (.Call (.Name (Str.ofString "_law_refused_by_any") px) args [] pos) σ Q E := by
  refine v_callf g.ok hx (by k_is) (by k_is) (by decide) hp (h.imp (fun l σ₁ ⟨v, hl, hv, hq⟩ => ?_) fun _ _ e => e)
  subst hl
  refine call_pure (ps := [Str.ofString "_law_want_here"]) g (fn_of (by k_is) (by k_is) (by k_is) (len1 rfl fun _ => rfl) (by decide) rfl rfl rfl (by decide)) rfl fun cx g => ?_
  walk_at "ws"
  refine a_sizefor (fun _ C hC => ?_) (fun _ _ => by omega)
  obtain rfl := nsEq hC (by k_is)
  refine hd_as g.ok rfl (by k_is) (by kts_exm) (by decide) rfl fun cx ex ok hex => ?_
  walk_at "ws"
  exact ⟨AS.Sub.put (fun _ _ e => e) hex, hq⟩
def A_halved (Q : AV → AS → Prop) (l : List AV) (σ : AS) : Prop := ∃ e : Nat, l = [.int (2 ^ e)] ∧ Q (.int 1) σ
theorem c_halved (g : Fx prog (hd.heap_39 w.params) cx sc (n + 1)) {args : List Expr} {px : Pos} (hx : sc.names.lookup (Str.ofString "_law_halved") = some .globalImplicit) (hp : Plain (Str.ofString "_law_halved") px args pos)
    (h : WAr prog w cx pos args σ (A_halved Q) E) : WEv prog w cx (.Call (.Name (Str.ofString "_law_halved") px) args [] pos) σ Q E := by
  refine v_callf g.ok hx (by k_is) (by k_is) (by decide) hp (h.imp (fun l σ₁ ⟨e, hl, hq⟩ => ?_) fun _ _ e => e)
  subst hl
  refine call_pure (ps := [Str.ofString "_law_size"]) g (fn_of (by k_is) (by k_is) (by k_is) (len1 rfl fun _ => rfl) (by decide) rfl rfl rfl (by decide)) rfl fun cx g => ?_
  walk_at "ws"
  refine x_while g (fun k σ => σ.loc (Str.ofString "_law_size") = some (.int (2 ^ k)) ∧ σ₁.Sub σ) e ⟨by walk_at "lk", fun _ _ e => e⟩ ?_
  rintro k σ ⟨j1, j2⟩
  have odd : k = 0 ∨ ∃ m, k = m + 1 ∧ (2 : Int) ^ k = 2 ^ m * 2 := by
    cases k with
    | zero => exact .inl rfl
    | succ m => exact .inr ⟨m, rfl, Int.pow_succ ..⟩
  walk_at "ws"
  · rcases odd with q | ⟨m, q, e1⟩
    · subst q; rename_i hgt _; exact absurd hgt (by decide)
    · refine ⟨m, by omega, ?_, j2⟩
      rw [set_same, e1, Int.mul_ediv_cancel _ (by decide)]
  · rcases odd with q | ⟨m, q, e1⟩
    · subst q; rename_i hgt _; exact absurd hgt (by decide)
    · rename_i hne; exact absurd (by rw [e1]; exact Int.mul_emod_left ..) hne
  · rcases odd with q | ⟨m, q, e1⟩
    · subst q; exact ⟨j2, hq⟩
    · rename_i hgt
      have := pow_pos' m
      rw [e1] at hgt
      omega
end
local macro_rules | `(tactic| walk_at "c") => `(tactic| first
  | ((with_reducible refine c_want (by assumption) ?a ?b ?_); (case a => exact rfl); (case b => exact ⟨fun _ => rfl, fun _ => rfl⟩))
  | ((with_reducible refine c_refused (by assumption) ?a ?b ?_); (case a => exact rfl); (case b => exact ⟨fun _ => rfl, fun _ => rfl⟩))
  | ((with_reducible refine c_refusedby (by assumption) ?a ?b ?_); (case a => exact rfl); (case b => exact ⟨fun _ => rfl, fun _ => rfl⟩))
  | ((with_reducible refine c_halved (by assumption) ?a ?b ?_); (case a => exact rfl); (case b => exact ⟨fun _ => rfl, fun _ => rfl⟩)))
theorem law_holds : PySem.Challenge.rw_uf060009_01.Holds := hd (by
    k_go0
    rename Frag.In _ _ => KX
    rename Top _ _ _ _ _ _ => T
    rename Heap.IsList _ _ _ => hL
    rename IntsAre _ _ => hI
    rename Fr _ _ _ _ => F
    rename _ = #[] => hg
    refine law_top (glo_of T KX (by decide +kernel) rfl) hL hI F rfl rfl rfl rfl rfl (fun f s' h k ho hg' => good_end (fun _ => rfl) (by wrow_post) hg k ho hg' h) (fun cx σ g hloc hhp => ?_)
    rename List Int => ns
    have hns : ns.length ≤ 63 := by omega
    rename Below _ _ _ _ => K0
    rename Heap.CodeRec _ _ _ => hcd
    rename Dflts _ _ _ _ _ _ => hD
    rename Ground _ _ _ _ _ _ _ _ _ => G
    clear K0 hD hcd F hL hI hg T KX G
    show WExs _ _ _ (_ :: _) _ _ _
    walk_at "ws"
    refine ⟨_, _, rfl, by walk_at "hp", hns, fun v => ?_⟩
    walk_at "ws"
    · refine ⟨v, rfl, .inl (by assumption), ?_⟩
      walk_at "ws"
      refine ⟨v, rfl, .inl (by assumption), ?_⟩
      walk_at "ws"
      rfl
    · refine ⟨v, rfl, .inr (by assumption), ?_⟩
      walk_at "ws"
      refine ⟨v, rfl, .inr (by assumption), ?_⟩
      walk_at "ws"
      rfl
    · rename_i hv1 hv2
      rw [show Int.toNat 60 = 60 from rfl] at hv2
      refine a_sizefor (fun q => by omega) fun h1 h2 e he => ?_
      walk_at "ws"
      · have := he.2.1; omega
      · have := fit_half he h1; omega
      · refine ⟨e, rfl, ?_⟩
        walk_at "ws"
        have e1 := pow_pos' e
        have e2 := pow_le_60 he.1
        · refine a_issize (fun q => by omega) fun _ _ e' he' => ?_
          walk_at "ws"
          have q := fit_unique he'
          subst q
          refine ite_pos' (by simp) ?_
          walk_at "ws"
          rfl
        · exact absurd rfl (by assumption))
end Mine
theorem PySem.Challenge.cw_uf060009_01_holds : PySem.Challenge.rw_uf060009_01.Holds :=
  Mine.law_holds

