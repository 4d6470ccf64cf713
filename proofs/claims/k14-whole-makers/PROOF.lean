import PyProof.Rows.All
import Wide.All
import OpenK.AllK
import Wide.FinOn
import HandS.ForExc
import HandS.Defaults
import HandS.ForMost
import HandS.Zip
import HandS.IsInst
import HandS.Flow
import HandS.Style
import HandS.TupAny
import HandS.Walk
import OpenK.KOps
import PyProof.InstEq
import HandS.HotCalls
import HandS.ExcOwn
import HandS.Wide
import HandS.TupMul
import KE.GoesEnum
import KE.GoesZip
import KE.GoesMore
import HandS.ExcField
import HandS.Dict
import HandS.OwnEq
import HandS.List
import HandS.TryOnly
import HandS.WordsExc
import HandS.ExcInit
import HandS.NestedK
import KE.KExcSuper
import KE.KStateDown
import HandS.Codes
import HandS.Head0
import HandS.Head1
import HandS.Head2
import HandS.HeadEnd
import HandS.HeadHook1
import HandS.HeadHook2
import HandS.EndBits
import PySem.Challenge.RW_picturescales_k14_whole_makers
set_option Elab.async false
set_option linter.all false
set_option maxRecDepth 100000
set_option maxHeartbeats 4000000
/-! Dp1: data D, how the abstract heap bears it, outcomes. -/
noncomputable section SDp1
namespace Dp
open PySem PySem.Spec PyProof.Rows L2

inductive D where
  | non | bl (b : Bool) | int (i : Int) | str (s : List Nat) | tup (xs : List D) | lst (xs : List D)
  | obj (c : String) (fs : List D) | ref (n : Nat) | fn (f : String) | frz (xs : List D)

/-- what stands in the store at a place: a list, an instance -/
inductive SO where
  | lst (xs : List D) | ins (c : String) (fs : List (String × D))
abbrev Sto := List SO

/-- outcomes -/
inductive Res (α : Type) where
  | ok (a : α) (st : Sto) | exc (c : String) (fs : List D) (st : Sto) | stuck

def Res.bind {α β : Type} (r : Res α) (k : α → Sto → Res β) : Res β := match r with
  | .ok a st => k a st
  | .exc c fs st => .exc c fs st
  | .stuck => .stuck
@[simp] theorem Res.bind_ok {α β : Type} (a : α) (st : Sto) (k : α → Sto → Res β) : (Res.ok a st).bind k = k a st := rfl
@[simp] theorem Res.bind_exc {α β : Type} (c : String) (fs : List D) (st : Sto) (k : α → Sto → Res β) : (Res.exc c fs st : Res α).bind k = .exc c fs st := rfl
@[simp] theorem Res.bind_stuck {α β : Type} (k : α → Sto → Res β) : (Res.stuck : Res α).bind k = .stuck := rfl

/-- a slot: nothing, a value, an object of the frame's own -/
inductive Sl where
  | no | val (d : D) | own (o : SO) | exn (c : String) (fs : List D)
abbrev Ev := List Sl

/-- what the text tells: classes by name and their fields, functions by name -/
structure Glob where
  K : PySem.W.Frag
  mg : Str → Option Value
  cls : String → Addr
  fields : String → List String
  xfields : String → List String
  fnAt : String → Option Addr
  isC : String → Bool
  isX : String → Bool
  /-- the exception that is being handled -/
  exn : Option (Addr × Option (Value × Option Addr))

def cut (M : Addr → Prop) (H : Hp) : Hp := fun a => open Classical in if M a then none else H a
theorem cut_some {M : Addr → Prop} {H : Hp} {a : Addr} {o : HO} : cut M H a = some o ↔ ¬ M a ∧ H a = some o := by
  unfold cut
  by_cases h : M a
  · rw [if_pos h]; exact ⟨fun z => (by cases z), fun z => absurd h z.1⟩
  · rw [if_neg h]; exact ⟨fun z => ⟨h, z⟩, fun z => z.2⟩
/-- I' holds what I holds -/
def Le (I I' : Hp) : Prop := ∀ a o, I a = some o → I' a = some o
theorem Le.refl {I : Hp} : Le I I := fun _ _ h => h
theorem Le.trans {I I' I'' : Hp} (h : Le I I') (h' : Le I' I'') : Le I I'' := fun a o e => h' a o (h a o e)
theorem Le.rd {I I' : Hp} (h : Le I I') {a : Addr} {u : HO} (r : Rd I a u) : Rd I' a u := by
  rcases r with r | ⟨o, r⟩
  · exact .inl (h _ _ r)
  · exact .inr ⟨o, h _ _ r⟩
theorem Le.sqL {I I' : Hp} (h : Le I I') {K : PySem.W.Frag} {a : Addr} {xs : List V} (r : SqL K I a xs) : SqL K I' a xs := by
  rcases r with r | r
  · exact .inl (h.rd r)
  · exact .inr r
theorem Le.sqT {I I' : Hp} (h : Le I I') {K : PySem.W.Frag} {a : Addr} {xs : List V} (r : SqT K I a xs) : SqT K I' a xs := by
  rcases r with r | r
  · exact .inl (h.rd r)
  · exact .inr r
theorem cut_le (M : Addr → Prop) (H : Hp) : Le (cut M H) H := fun _ _ e => (cut_some.mp e).2

section
variable (Γ : Glob) (κ : List Addr) (I : Hp)
mutual
inductive Rep : V → D → Prop where
  | non : Rep .non .non
  | bl (b : Bool) : Rep (.bl b) (.bl b)
  | int (i : Int) : Rep (.int i) (.int i)
  | str (s : List Nat) : Rep (.str ⟨s.toArray⟩) (.str s)
  | tup {a : Addr} {vs : List V} {ds : List D} : SqT Γ.K I a vs → Reps vs ds → Rep (.ref a) (.tup ds)
  | lst {a : Addr} {vs : List V} {ds : List D} : I a = some (.lst vs) → Reps vs ds → Rep (.ref a) (.lst ds)
  | frz {a : Addr} {vs : List V} {ds : List D} : SqL Γ.K I a vs → Reps vs ds → Rep (.ref a) (.frz ds)
  | obj {a dx : Addr} {c : String} {fvs : List (Str × V)} {vs : List V} {ds : List D} : Γ.isC c = true → I a = some (.ins (Γ.cls c) dx fvs) →
      (Γ.fields c).map (fun f => fvs.lookup (Str.ofString f)) = vs.map some → (∀ g v, fvs.lookup g = some v → ∃ f ∈ Γ.fields c, g = Str.ofString f) → Reps vs ds → Rep (.ref a) (.obj c ds)
  | ref {a : Addr} {n : Nat} : κ[n]? = some a → Rep (.ref a) (.ref n)
  | fn {a : Addr} {f : String} : Γ.fnAt f = some a → Rep (.ref a) (.fn f)
inductive Reps : List V → List D → Prop where
  | nil : Reps [] []
  | cons {v : V} {d : D} {vs : List V} {ds : List D} : Rep v d → Reps vs ds → Reps (v :: vs) (d :: ds)
end
/-- the attributes of an instance that may change -/
def FRep (fvs : List (Str × V)) (fs : List (String × D)) : Prop :=
  (∀ f d, fs.lookup f = some d → ∃ v, fvs.lookup (Str.ofString f) = some v ∧ Rep Γ κ I v d) ∧ ∀ g v, fvs.lookup g = some v → ∃ f d, fs.lookup f = some d ∧ g = Str.ofString f
/-- what stands at a, that may change -/
def SRep (H : Hp) (a : Addr) : SO → Prop
  | .lst ds => ∃ vs, H a = some (.lst vs) ∧ Reps Γ κ I vs ds
  | .ins c fs => ∃ dx fvs, H a = some (.ins (Γ.cls c) dx fvs) ∧ FRep Γ κ I fvs fs ∧ fvs.length ≤ fs.length ∧ ∀ f d, fs.lookup f = some d → f ∈ Γ.fields c
/-- an exception: its class, its dict -/
def XRep (cls : Value) (dd : Option Addr) (c : String) (ds : List D) : Prop :=
  Γ.isX c = true ∧ cls = .ref (Γ.cls c) ∧ ((Γ.xfields c = [] ∧ ds = [] ∧ dd = none) ∨ ∃ d fvs vs, dd = some d ∧ I d = some (.xd fvs) ∧ (Γ.xfields c).map (fun f => fvs.lookup (Str.ofString f)) = vs.map some ∧ Reps Γ κ I vs ds)
end

section
variable {Γ : Glob} {κ κ' : List Addr} {I I' H H' : Hp}
theorem pre_get {κ κ' : List Addr} (h : κ <+: κ') {n : Nat} {a : Addr} (e : κ[n]? = some a) : κ'[n]? = some a := by
  obtain ⟨t, rfl⟩ := h
  rw [List.getElem?_append_left (List.getElem?_eq_some_iff.mp e).1]
  exact e
mutual
theorem Rep.mono (hk : κ <+: κ') (hi : Le I I') : ∀ {v : V} {d : D}, Rep Γ κ I v d → Rep Γ κ' I' v d
  | _, _, .non => .non
  | _, _, .bl b => .bl b
  | _, _, .int i => .int i
  | _, _, .str s => .str s
  | _, _, .tup h r => .tup (hi.sqT h) (Reps.mono hk hi r)
  | _, _, .lst h r => .lst (hi _ _ h) (Reps.mono hk hi r)
  | _, _, .frz h r => .frz (hi.sqL h) (Reps.mono hk hi r)
  | _, _, .obj b h e k r => .obj b (hi _ _ h) e k (Reps.mono hk hi r)
  | _, _, .ref e => .ref (pre_get hk e)
  | _, _, .fn e => .fn e
theorem Reps.mono (hk : κ <+: κ') (hi : Le I I') : ∀ {vs : List V} {ds : List D}, Reps Γ κ I vs ds → Reps Γ κ' I' vs ds
  | _, _, .nil => .nil
  | _, _, .cons r t => .cons (Rep.mono hk hi r) (Reps.mono hk hi t)
end
theorem FRep.mono (hk : κ <+: κ') (hi : Le I I') {fvs : List (Str × V)} {fs : List (String × D)} (h : FRep Γ κ I fvs fs) : FRep Γ κ' I' fvs fs :=
  ⟨fun f d e => let ⟨v, a, r⟩ := h.1 f d e; ⟨v, a, r.mono hk hi⟩, h.2⟩
theorem SRep.mono (hk : κ <+: κ') (hi : Le I I') {a : Addr} (e : H' a = H a) : ∀ {o : SO}, SRep Γ κ I H a o → SRep Γ κ' I' H' a o
  | .lst ds, ⟨vs, h, r⟩ => ⟨vs, e.trans h, r.mono hk hi⟩
  | .ins c fs, ⟨dx, fvs, h, r, l⟩ => ⟨dx, fvs, e.trans h, r.mono hk hi, l⟩
theorem XRep.mono (hk : κ <+: κ') (hi : Le I I') {cls : Value} {dd : Option Addr} {c : String} {ds : List D} (h : XRep Γ κ I cls dd c ds) : XRep Γ κ' I' cls dd c ds := by
  obtain ⟨h0, h1, h2⟩ := h
  refine ⟨h0, h1, ?_⟩
  rcases h2 with h2 | ⟨d, fvs, vs, e1, e2, e3, e4⟩
  · exact .inl h2
  · exact .inr ⟨d, fvs, vs, e1, hi _ _ e2, e3, e4.mono hk hi⟩
theorem SRep.some {a : Addr} : ∀ {o : SO}, SRep Γ κ I H a o → ∃ u, H a = some u
  | .lst _, ⟨_, h, _⟩ => ⟨_, h⟩
  | .ins _ _, ⟨_, _, h, _⟩ => ⟨_, h⟩
theorem Reps.length {vs : List V} {ds : List D} (h : Reps Γ κ I vs ds) : vs.length = ds.length := by
  induction vs generalizing ds with
  | nil => cases h; rfl
  | cons v vs ih => cases h with | cons _ t => simp [ih t]
theorem Reps.append {vs ws : List V} {ds es : List D} (h : Reps Γ κ I vs ds) (h' : Reps Γ κ I ws es) : Reps Γ κ I (vs ++ ws) (ds ++ es) := by
  induction vs generalizing ds with
  | nil => cases h; exact h'
  | cons v vs ih => cases h with | cons r t => exact .cons r (ih t)
theorem Reps.get {vs : List V} {ds : List D} (h : Reps Γ κ I vs ds) {i : Nat} {v : V} (e : vs[i]? = Option.some v) : ∃ d, ds[i]? = Option.some d ∧ Rep Γ κ I v d := by
  induction vs generalizing ds i with
  | nil => simp at e
  | cons w vs ih => cases h with
    | cons r t => cases i with
      | zero => simp at e; subst e; exact ⟨_, rfl, r⟩
      | succ i => simpa using ih t (by simpa using e)
theorem Reps.get' {vs : List V} {ds : List D} (h : Reps Γ κ I vs ds) {i : Nat} {d : D} (e : ds[i]? = Option.some d) : ∃ v, vs[i]? = Option.some v ∧ Rep Γ κ I v d := by
  induction vs generalizing ds i with
  | nil => cases h; simp at e
  | cons w vs ih => cases h with
    | cons r t => cases i with
      | zero => simp at e; subst e; exact ⟨_, rfl, r⟩
      | succ i => simpa using ih t (by simpa using e)
theorem Reps.take {vs : List V} {ds : List D} (h : Reps Γ κ I vs ds) : ∀ n : Nat, Reps Γ κ I (vs.take n) (ds.take n) := by
  induction vs generalizing ds with
  | nil => cases h; intro n; simp; exact .nil
  | cons v vs ih => cases h with
    | cons r t => intro n; cases n with
      | zero => exact .nil
      | succ n => exact .cons r (ih t n)
theorem Reps.drop {vs : List V} {ds : List D} (h : Reps Γ κ I vs ds) : ∀ n : Nat, Reps Γ κ I (vs.drop n) (ds.drop n) := by
  induction vs generalizing ds with
  | nil => cases h; intro n; simp; exact .nil
  | cons v vs ih => cases h with
    | cons r t => intro n; cases n with
      | zero => exact .cons r t
      | succ n => exact ih t n
theorem Reps.rev {vs : List V} {ds : List D} (h : Reps Γ κ I vs ds) : Reps Γ κ I vs.reverse ds.reverse := by
  induction vs generalizing ds with
  | nil => cases h; exact .nil
  | cons v vs ih => cases h with
    | cons r t => rw [List.reverse_cons, List.reverse_cons]; exact (ih t).append (.cons r .nil)
theorem Reps.set {vs : List V} {ds : List D} {v : V} {d : D} (h : Reps Γ κ I vs ds) (r : Rep Γ κ I v d) : ∀ n : Nat, Reps Γ κ I (vs.set n v) (ds.set n d) := by
  induction vs generalizing ds with
  | nil => cases h; intro n; exact .nil
  | cons w vs ih => cases h with
    | cons q t => intro n; cases n with
      | zero => exact .cons r t
      | succ n => exact .cons q (ih t n)
end

/-! ### the state -/
/-- what may change: others' objects, the store's, the frame's own -/
def Mb (O : Addr → Prop) (κ : List Addr) (L : List (Nat × Addr)) : Addr → Prop := fun a => O a ∨ a ∈ κ ∨ a ∈ L.map (·.2)
abbrev imm (O : Addr → Prop) (κ : List Addr) (L : List (Nat × Addr)) (H : Hp) : Hp := cut (Mb O κ L) H

structure Ok (Γ : Glob) (O : Addr → Prop) (κ : List Addr) (L : List (Nat × Addr)) (H : Hp) (st : Sto) : Prop where
  nd : (κ ++ L.map (·.2)).Nodup
  ap : ∀ a ∈ κ ++ L.map (·.2), ¬ O a
  oth : ∀ a, O a → ∃ u, H a = some u
  len : κ.length = st.length
  st : ∀ (n : Nat) (a : Addr) (o : SO), κ[n]? = some a → st[n]? = some o → SRep Γ κ (imm O κ L H) H a o
  own : ∀ p ∈ L, ∃ u, H p.2 = some u

/-- a slot that holds the exception being handled -/
def SlX (Γ : Glob) (κ : List Addr) (I : Hp) (σ : L2.St) (i : Nat) (c : String) (fs : List D) : Prop := match Γ.exn with
  | none => True
  | some t => σ[i]? = some (some (.ref t.1)) ∧ ∀ y, t.2 = some y → XRep Γ κ I y.1 y.2 c fs
theorem SlX.mono {Γ : Glob} {κ κ' : List Addr} {I I' : Hp} {σ σ' : L2.St} {i : Nat} {c : String} {fs : List D} (hk : κ <+: κ') (hi : Le I I') (hσ : σ'[i]? = σ[i]?) (h : SlX Γ κ I σ i c fs) : SlX Γ κ' I' σ' i c fs := by
  unfold SlX at h ⊢
  cases e : Γ.exn with
  | none => trivial
  | some t =>
    rw [e] at h
    exact ⟨hσ.trans h.1, fun y hy => (h.2 y hy).mono hk hi⟩
/-- a slot's value -/
def SlR (Γ : Glob) (O : Addr → Prop) (κ : List Addr) (L : List (Nat × Addr)) (H : Hp) (σ : L2.St) (i : Nat) : Sl → Prop
  | .no => True
  | .val d => ∃ v, σ[i]? = some (some v) ∧ Rep Γ κ (imm O κ L H) v d
  | .own o => ∃ a, (i, a) ∈ L ∧ σ[i]? = some (some (.ref a)) ∧ SRep Γ κ (imm O κ L H) H a o
  | .exn c fs => SlX Γ κ (imm O κ L H) σ i c fs
structure EnvR (Γ : Glob) (O : Addr → Prop) (κ : List Addr) (L : List (Nat × Addr)) (H : Hp) (σ : L2.St) (ρ : Ev) : Prop where
  len : σ.length = ρ.length
  sl : ∀ i s, ρ[i]? = some s → SlR Γ O κ L H σ i s
  lk : (L.map (·.1)).Nodup

/-- onward, within an expression -/
structure Nx (O : Addr → Prop) (κ : List Addr) (L : List (Nat × Addr)) (H : Hp) (κ' : List Addr) (H' : Hp) : Prop where
  pre : κ <+: κ'
  imm : ∀ a o, H a = some o → ¬ Mb O κ L a → H' a = some o
  oth : ∀ a, O a → H' a = H a
  own : ∀ a ∈ L.map (·.2), H' a = H a
  new : ∀ a ∈ κ', a ∉ κ → H a = none
theorem Nx.refl {O : Addr → Prop} {κ : List Addr} {L : List (Nat × Addr)} {H : Hp} : Nx O κ L H κ H :=
  ⟨List.prefix_rfl, fun _ _ e _ => e, fun _ _ => rfl, fun _ _ => rfl, fun a h n => absurd h n⟩
theorem Nx.not {O : Addr → Prop} {κ κ' : List Addr} {L : List (Nat × Addr)} {H H' : Hp} (n : Nx O κ L H κ' H') {a : Addr} {o : HO} (e : H a = some o) (h : ¬ Mb O κ L a) : ¬ Mb O κ' L a := by
  rintro (z | z | z)
  · exact h (.inl z)
  · by_cases hk : a ∈ κ
    · exact h (.inr (.inl hk))
    · rw [n.new a z hk] at e; cases e
  · exact h (.inr (.inr z))
theorem Nx.le {O : Addr → Prop} {κ κ' : List Addr} {L : List (Nat × Addr)} {H H' : Hp} (n : Nx O κ L H κ' H') : Le (Dp.imm O κ L H) (Dp.imm O κ' L H') := fun a o e => by
  obtain ⟨h, e⟩ := cut_some.mp e
  exact cut_some.mpr ⟨n.not e h, n.imm a o e h⟩
theorem Nx.trans {O : Addr → Prop} {κ κ' κ'' : List Addr} {L : List (Nat × Addr)} {H H' H'' : Hp} (n : Nx O κ L H κ' H') (m : Nx O κ' L H' κ'' H'') (own : ∀ a ∈ L.map (·.2), ∃ u, H a = some u) (oth : ∀ a, O a → ∃ u, H a = some u) : Nx O κ L H κ'' H'' where
  pre := n.pre.trans m.pre
  imm := fun a o e h => m.imm a o (n.imm a o e h) (n.not e h)
  oth := fun a h => (m.oth a h).trans (n.oth a h)
  own := fun a h => (m.own a h).trans (n.own a h)
  new := fun a h hk => by
    by_cases h' : a ∈ κ'
    · exact n.new a h' hk
    · have e := m.new a h h'
      cases q : H a with
      | none => rfl
      | some u =>
        by_cases hm : Mb O κ L a
        · rcases hm with z | z | z
          · obtain ⟨v, hv⟩ := oth a z
            rw [n.oth a z, hv] at e; cases e
          · exact absurd z hk
          · obtain ⟨v, hv⟩ := own a z
            rw [n.own a z, hv] at e; cases e
        · rw [n.imm a u q hm] at e; cases e

section
variable {Γ : Glob} {O : Addr → Prop} {κ κ' : List Addr} {L : List (Nat × Addr)} {H H' : Hp} {σ : L2.St} {ρ : Ev} {st st' : Sto}
theorem Ok.ownS (h : Ok Γ O κ L H st) : ∀ a ∈ L.map (·.2), ∃ u, H a = some u := fun a ha => by
  obtain ⟨p, hp, rfl⟩ := List.mem_map.mp ha
  exact h.own p hp
theorem SlR.next {i : Nat} (n : Nx O κ L H κ' H') : ∀ {s : Sl}, SlR Γ O κ L H σ i s → SlR Γ O κ' L H' σ i s
  | .no, _ => trivial
  | .val d, ⟨v, e, r⟩ => ⟨v, e, r.mono n.pre n.le⟩
  | .own o, ⟨a, m, e, r⟩ => ⟨a, m, e, r.mono n.pre n.le (n.own a (List.mem_map.mpr ⟨_, m, rfl⟩))⟩
  | .exn _ _, h => SlX.mono n.pre n.le rfl h
theorem EnvR.next (e : EnvR Γ O κ L H σ ρ) (n : Nx O κ L H κ' H') : EnvR Γ O κ' L H' σ ρ := ⟨e.len, fun i s h => (e.sl i s h).next n, e.lk⟩
/-- a new immutable object -/
theorem Ok.laid (h : Ok Γ O κ L H st) {p : Addr} {o : HO} (hp : H p = none) : Nx O κ L H κ (upd H p o) ∧ Ok Γ O κ L (upd H p o) st ∧ ¬ Mb O κ L p := by
  have ne : ∀ {a : Addr} {u : HO}, H a = some u → a ≠ p := fun e z => by rw [z, hp] at e; cases e
  have nm : ¬ Mb O κ L p := by
    rintro (z | z | z)
    · obtain ⟨u, e⟩ := h.oth p z; rw [hp] at e; cases e
    · obtain ⟨n, hn⟩ := List.mem_iff_getElem?.mp z
      have hl : n < st.length := by rw [← h.len]; exact (List.getElem?_eq_some_iff.mp hn).1
      obtain ⟨u, e⟩ := (h.st n p st[n] hn (by simp [hl])).some
      rw [hp] at e; cases e
    · obtain ⟨u, e⟩ := h.ownS p z; rw [hp] at e; cases e
  have nx : Nx O κ L H κ (upd H p o) := ⟨List.prefix_rfl, fun a u e _ => by rw [upd_ne (ne e)]; exact e, fun a z => by obtain ⟨u, e⟩ := h.oth a z; rw [upd_ne (ne e)],
    fun a z => by obtain ⟨u, e⟩ := h.ownS a z; rw [upd_ne (ne e)], fun a z k => absurd z k⟩
  refine ⟨nx, ⟨h.nd, h.ap, fun a z => ?_, h.len, fun n a u e1 e2 => ?_, fun q z => ?_⟩, nm⟩
  · obtain ⟨u, e⟩ := h.oth a z; exact ⟨u, by rw [upd_ne (ne e)]; exact e⟩
  · have q := h.st n a u e1 e2
    obtain ⟨w, e⟩ := q.some
    exact q.mono List.prefix_rfl nx.le (upd_ne (ne e))
  · obtain ⟨u, e⟩ := h.own q z; exact ⟨u, by rw [upd_ne (ne e)]; exact e⟩
end

/-! ### an outcome is met -/
/-- W: what is wanted of an exception (its class, its dict, the heap) -/
def fin {α : Type} (Γ : Glob) (W : XK) (O : Addr → Prop) (κ : List Addr) (L : List (Nat × Addr)) (H : Hp) (r : Res α) (P : α → Sto → List Addr → Hp → Prop) : Prop := match r with
  | .ok a st' => ∀ κ' H', Nx O κ L H κ' H' → Ok Γ O κ' L H' st' → P a st' κ' H'
  | .exc c fs st' => ∀ κ' H' cls dd, Nx O κ L H κ' H' → Ok Γ O κ' L H' st' → XRep Γ κ' (imm O κ' L H') cls dd c fs → W cls dd H'
  | .stuck => False
section
variable {α β : Type} {Γ : Glob} {W : XK} {O : Addr → Prop} {κ κ' : List Addr} {L : List (Nat × Addr)} {H H' : Hp} {st : Sto} {r : Res α} {P Q : α → Sto → List Addr → Hp → Prop}
theorem fin.step (o : Ok Γ O κ L H st) (n : Nx O κ L H κ' H') (h : fin Γ W O κ L H r P) : fin Γ W O κ' L H' r P := by
  cases r with
  | ok a st' => exact fun κ2 H2 n2 o2 => h κ2 H2 (n.trans n2 o.ownS o.oth) o2
  | exc c fs st' => exact fun κ2 H2 cls dd n2 o2 x => h κ2 H2 cls dd (n.trans n2 o.ownS o.oth) o2 x
  | stuck => exact h
theorem fin.imp (h : fin Γ W O κ L H r P) (k : ∀ a st κ' H', Nx O κ L H κ' H' → Ok Γ O κ' L H' st → P a st κ' H' → Q a st κ' H') : fin Γ W O κ L H r Q := by
  cases r with
  | ok a st' => exact fun κ2 H2 n2 o2 => k _ _ _ _ n2 o2 (h κ2 H2 n2 o2)
  | exc c fs st' => exact h
  | stuck => exact h
theorem fin.bind {k : α → Sto → Res β} {R : β → Sto → List Addr → Hp → Prop} (o : Ok Γ O κ L H st) (h : fin Γ W O κ L H (r.bind k) R) :
    fin Γ W O κ L H r (fun a st' κ' H' => fin Γ W O κ' L H' (k a st') R) := by
  cases r with
  | ok a st' => exact fun κ2 H2 n2 o2 => fin.step o n2 h
  | exc c fs st' => exact h
  | stuck => exact h
end
end Dp
end SDp1
set_option maxHeartbeats 4000000
/-! DpNe: != of an instance that has its own ==. -/
noncomputable section SDpNe
namespace Dp
open PySem PySem.Spec PyProof.Rows L2 PySem.W

section
variable {prog : Program} {w : World} {A : Around} {E : Value → Shared → Prop} {s : Shared} {K : Frag} {x C f : Addr} {ox : Obj} {od : Option Obj} {b tb : Value}
theorem try_ne {Q : Option Value → Shared → Prop} (hu : A.units + 3 < cLine) (X : K.In s.heap) (I : InstAt s.heap x ox C od)
    (hs : findIn K (.ref C) "__eq__" = some (some (.ref f))) (hf : isFn K (.ref f) = true) (hne : findIn K (.ref C) "__ne__" = some (some (.builtin "object.__ne__"))) (ho : mroIn K C (.type "object") = some true)
    (h : wpAny (model prog w) A.in1 (call (.ref f) [.ref x, b]) (fun v s' => ∃ r, v = .bool r ∧ Q (some (.bool (!r))) s') E s) : wpAny (model prog w) A (tryCompare (.ref x) "__ne__" b) Q E s := by
  unfold tryCompare
  have body : wpAny (model prog w) A (call (.builtin "object.__ne__") [.ref x, b]) (fun v s' => ∃ r, v = .bool r ∧ Q (some (.bool r)) s') E s := by
    have sub : Looks (model prog w) s.heap (isInstance (.ref x) (.type "object")) true := I.type.andThen (looks_mroIn X ho)
    refine wpAny_call (codeAny_call_builtin (by decide +kernel) F.cmpEntry_ne (check_slot F.cmpKind_ne F.cmpSplit_ne sub (F.cmpArgs_ne _ _) ?_))
    show wpAny (model prog w) A.in1 (Builtin.«object.__ne__» ⟨[.ref x, b], []⟩) _ _ _
    unfold Builtin.«object.__ne__»
    refine wpAny_bind (m := slotArgs "__ne__" 1 _) (wpAny_pure ?_)
    dsimp only
    refine wpAny_bind (wpAny_cRoomFor (by show A.units + 1 < cLine; omega) ?_)
    refine wpAny_bind (ifBound_K X I hs hf (wpAny_mono h (fun v s' hv => ?_) fun _ _ e => e))
    obtain ⟨r, rfl, hq⟩ := hv
    dsimp only
    refine wpAny_bind (wpAny_truthy_bool (wpAny_pure ⟨_, rfl, ?_⟩))
    exact hq
  have bnd : ∀ {Q : Value × List Value → Shared → Prop} {E' : Value → Shared → Prop}, Q (.builtin "object.__ne__", [.ref x]) s → wpAny (model prog w) A (bindSpecial (.builtin "object.__ne__") (.ref x)) Q E' s := fun q => wpAny_of_eq (PySem.F.slot_tuple_iterator_ne.bind _) q
  have one : wpAny (model prog w) A (callSpecialIfBound? (.ref x) "__ne__" [b]) (fun v s' => ∃ r, v = some (.bool r) ∧ Q (some (.bool r)) s') E s := by
    simp only [callSpecialIfBound?, bindSpecialIfBound?]
    refine wpAny_holding (wpAny_bind (wpAny_bind (wpAny_bind (I.type.here ((looks_findIn X hne).here ?_)))))
    refine wpAny_bind (wpAny_askSetting (wpAny_ite ?_))
    have fin : wpAny (model prog w) A (call (.builtin "object.__ne__") ([.ref x] ++ [b]) >>= fun v => pure (some v)) (fun v s' => ∃ r, v = some (.bool r) ∧ Q (some (.bool r)) s') E s := wpAny_bind (wpAny_mono body (fun v s' ⟨r, e, q⟩ => wpAny_pure ⟨r, by rw [e], q⟩) fun _ _ h' => h')
    split
    · exact wpAny_bind (bnd (wpAny_pure (by exact fin)))
    · exact wpAny_tryCatch (wpAny_bind (bnd (wpAny_pure (by exact fin))))
  refine wpAny_bind (wpAny_mono one (fun v s' ⟨r, e, q⟩ => ?_) fun _ _ h' => h')
  subst e
  exact wpAny_pure q
theorem ne_K {Q : Value → Shared → Prop} (hu : A.units + 3 < cLine) (X : K.In s.heap) (I : InstAt s.heap x ox C od) (hb : Looks (model prog w) s.heap (typeOf b) tb) (hn : notFirst K C tb = true)
    (hs : findIn K (.ref C) "__eq__" = some (some (.ref f))) (hf : isFn K (.ref f) = true) (hne : findIn K (.ref C) "__ne__" = some (some (.builtin "object.__ne__"))) (ho : mroIn K C (.type "object") = some true)
    (h : wpAny (model prog w) A.in1 (call (.ref f) [.ref x, b]) (fun v s' => ∃ r, v = .bool r ∧ Q (.bool (!r)) s') E s) : wpAny (model prog w) A (richCompare .NotEq (.ref x) b) Q E s := by
  have one : wpAny (model prog w) A (tryCompare (.ref x) (cmpInfo .NotEq).2.1 b) (fun r s' => ∃ v, r = some v ∧ Q v s') E s :=
    try_ne (Q := fun r s' => ∃ v, r = some v ∧ Q v s') hu X I hs hf hne ho (wpAny_mono h (fun v s' ⟨r, e, q⟩ => ⟨r, e, _, rfl, q⟩) fun _ _ e => e)
  unfold richCompare
  simp only [oneThing_ref]
  refine wpAny_holding (wpAny_bind (wpAny_cRoomFor (by omega) ?_))
  refine wpAny_bind (I.type.here (wpAny_bind (hb.here ?_)))
  split
  · rename_i q
    have e : subIn K tb (.ref C) = some false := by
      rcases Bool.or_eq_true_iff.mp hn with e | e
      · rw [beq_iff_eq.mp e] at q; simp at q
      · exact beq_iff_eq.mp e
    refine wpAny_bind ((looks_subIn X e).here ?_)
    simp only [Bool.false_eq_true, if_false]
    refine wpAny_bind (wpAny_mono one (fun r s' z => ?_) fun _ _ e => e)
    obtain ⟨v, rfl, hq⟩ := z
    exact wpAny_pure hq
  · refine wpAny_bind (wpAny_pure ?_)
    simp only [Bool.false_eq_true, if_false]
    refine wpAny_bind (wpAny_mono one (fun r s' z => ?_) fun _ _ e => e)
    obtain ⟨v, rfl, hq⟩ := z
    exact wpAny_pure hq
end
end Dp
end SDpNe
set_option maxHeartbeats 4000000
/-! DpQ: defs that may be called while an exception is being handled: they let none out of their own. -/
noncomputable section SDpQ
namespace Dp
open PySem PySem.Spec PyProof.Rows L2

/-- such a def's promise: nothing is asked of the exception that is being handled -/
structure FnQ (P : Program) (w : World) (K : PySem.W.Frag) (mg : Str → Option Value) (base : Heap) (CX : CXT) (k : Nat) (f : Addr) (fd : FuncData) (ps : List Str) (sp : Sp) : Prop where
  len : ∀ vs H Q E, sp vs H Q E → vs.length = ps.length
  run : ∀ (A : Around) (outer : List Env) (s : Shared) (H : Hp) (args : Args) (us : List Value) (vs : List V) (Q : VK) (E : XK),
    L2H.RoomH k A → Env0 P w K mg base A outer s H → BindsTo s fd args (ps.zip us) → Vals vs us → sp vs H Q E → codeAny (model P w) A (.call (.ref f) args) (CR CX outer P w H s Q E) s
theorem FnQ.imp {P : Program} {w : World} {K : PySem.W.Frag} {mg : Str → Option Value} {base : Heap} {CX : CXT} {k : Nat} {f : Addr} {fd : FuncData} {ps : List Str} {sp sp' : Sp} (F : FnQ P w K mg base CX k f fd ps sp) (h : ∀ vs H Q E, sp' vs H Q E → sp vs H Q E) : FnQ P w K mg base CX k f fd ps sp' where
  len := fun vs H Q E q => F.len vs H Q E (h _ _ _ _ q)
  run := fun A outer s H args us vs Q E hr e0 hb r q => F.run A outer s H args us vs Q E hr e0 hb r (h _ _ _ _ q)
/-- the def's code object: an object of the text, held in the place of an exception -/
theorem pinQ {P : Program} {w : World} {K : PySem.W.Frag} {mg : Str → Option Value} {base : Heap} {A : Around} {outer : List Env} {s : Shared} {H : Hp} {cdv : Value} {qual : Str} (e0 : Env0 P w K mg base A outer s H) (hcd : PySem.W.codeIn K cdv qual = true) :
    ∃ p : Addr × Obj, L2H.PinOk outer H s p := by
  unfold PySem.W.codeIn at hcd
  split at hcd
  · rename_i c
    split at hcd
    · rename_i x1 x2 vs x3 hc
      have hb := e0.mod.kin c _ hc
      obtain ⟨h1, h2⟩ := e0.bs c _ hb
      refine ⟨(c, _), h1, h2, fun hm => ?_, fun v z => nomatch z⟩
      rw [(e0.funs.mem hm).1] at hb
      cases hb
    · cases hcd
  · cases hcd
theorem takesQ {P : Program} {w : World} {K : PySem.W.Frag} {mg : Str → Option Value} {base : Heap} {N : List Str} {qual : Str} {scope : Scope} {f : Addr} {cd : Value} {A : Around} {outer : List Env} {s : Shared} {H : Hp} {E : XK} {p : Addr × Obj} :
    Takes (L2H.cxH (L2.CX P w) P w K mg base N qual scope f cd A outer s H E p) (fun cls d _ H' => E cls d H') := takes_of rfl rfl rfl rfl
section
variable {CX : CXT} {P : Program} {w : World} {K : PySem.W.Frag} {mg : Str → Option Value} {base : Heap} {k : Nat} {f : Addr} {x qual : Str} {params : Arguments} {body : List Stmt} {scope : Scope} {fd : FuncData} {N ps : List Str} {sp : Sp}
/-- a def whose body is read in such a context -/
theorem FunD.okQ (F : FunD K x qual params body scope [] [] f fd) (S : FnScope N ps scope) (len : ∀ vs H Q E, sp vs H Q E → vs.length = ps.length)
    (hbody : ∀ (cdv : Value) (A : Around) (outer : List Env) (s : Shared) (H : Hp) (vs : List V) (Q : VK) (E : XK) (p : Addr × Obj), L2H.RoomH k (A.deeper (envOfC qual scope s.heap.objs.size f cdv)) → sp vs H Q E →
      ∃ t, PSs (L2H.cxH CX P w K mg base N qual scope f cdv A outer s H E p) body t ∧ t { nx := fun _ H' => Q .non H', rt := Q } (L2.start N vs) H) : FnQ P w K mg base CX (k + 1) f fd ps sp := by
  obtain ⟨oc, od, dV, kV, doc, pm, an, cdv, ct, osl, rfl, lk, hcd, _, _⟩ := F.ex
  refine ⟨len, fun A outer s H args us vs Q E hr e0 hb r hsp => ?_⟩
  obtain ⟨p, hpin⟩ := pinQ e0 hcd
  have KX : K.In s.heap := e0.mod.kin.keeps (fun a o e => And.left (e0.bs a o e))
  refine codeAny_call_function hr.depth (KX _ _ lk) rfl S.co S.gen rfl (PySem.W.codeRec_of KX hcd) (hb _ _ _ _ (wpAny_newFunctionEnv_cells S.kind (fun ⟨n, v⟩ hy => ?_) fun env he s1 xc => ?_))
  · rcases S.par n (List.of_mem_zip hy).1 with q | q
    · exact Or.inl q
    · exact Or.inr (And.intro q (PySem.W.cellsFrom_some _ _ _ (Or.inl q)))
  · subst he
    refine And.intro ((e0.mod.nolimit.keeps (fun a o e => And.left (e0.bs a o e))).keeps xc.toInCall.keep) (codeAny_func ?_)
    obtain ⟨t, ht, hq⟩ := hbody cdv A outer s H vs Q E p (hr.deeper _) hsp
    have I := L2H.inv_startH (CX := CX) (E := E) S hpin e0 (len _ _ _ _ hsp) r xc
    refine wpAny_mono (ht.run [] s1 _ H _ I hq) (fun fl s' hs => ?_) fun _ _ z => z
    cases fl with
    | ret u => obtain ⟨v, σ', H', J, rv, q⟩ := hs; exact ⟨v, H', J.os, J.bare, J.base, J.hok, rv, q⟩
    | next => obtain ⟨σ', H', J, q⟩ := hs; exact ⟨.non, H', J.os, J.bare, J.base, J.hok, rfl, q⟩
    | brk => exact False.elim hs.choose_spec.choose_spec.2
    | cont => exact False.elim hs.choose_spec.choose_spec.2
end
end Dp
end SDpQ
set_option maxHeartbeats 4000000
/-! Dp0: small terms for expressions and statements, and what they come to. -/
noncomputable section SDp0
namespace Dp
open PySem PySem.Spec PyProof.Rows L2

/-! ### data -/
mutual
/-- plain data of at most that depth: no objects -/
def D.flat : Nat → D → Bool
  | _, .non => true
  | _, .bl _ => true
  | _, .int _ => true
  | _, .str s => s.all (· < 0x110000)
  | 0, .tup _ => false
  | 0, .lst _ => false
  | n + 1, .tup xs => D.flats n xs
  | n + 1, .lst xs => D.flats n xs
  | _, .obj _ _ => false
  | _, .ref _ => false
  | _, .fn _ => false
  | _, .frz _ => false
def D.flats : Nat → List D → Bool
  | _, [] => true
  | n, x :: xs => D.flat n x && D.flats n xs
end
mutual
/-- == of plain data -/
def D.eqv : D → D → Bool
  | .non, .non => true
  | .bl a, .bl b => a == b
  | .bl a, .int j => (if a then 1 else 0) == j
  | .int i, .bl b => i == (if b then 1 else 0)
  | .int i, .int j => i == j
  | .str x, .str y => x == y
  | .lst xs, .lst ys => D.eqvs xs ys
  | .tup xs, .tup ys => D.eqvs xs ys
  | _, _ => false
def D.eqvs : List D → List D → Bool
  | [], [] => true
  | x :: xs, y :: ys => D.eqv x y && D.eqvs xs ys
  | _, _ => false
end

mutual
/-- made of what does not change -/
def D.im : D → Bool
  | .non => true
  | .bl _ => true
  | .int _ => true
  | .str _ => true
  | .tup xs => D.ims xs
  | .obj _ fs => D.ims fs
  | _ => false
def D.ims : List D → Bool
  | [] => true
  | x :: xs => D.im x && D.ims xs
end

inductive Bop where
  | add | sub | mul | fdiv | mod | pow
  deriving DecidableEq
inductive Cop where
  | eq | ne | lt | le | gt | ge | isN | notN | isin | notin
  deriving DecidableEq
inductive Bi where
  | len | int | str | abs | max | min | all | any | tuple | list
  deriving DecidableEq
inductive Ty where
  | int | bool | str | list | tuple | cls (c : String)
  deriving DecidableEq
inductive Tg where
  | one (i : Nat) | many (is : List Nat)
  deriving DecidableEq

inductive Tm where
  | var (i : Nat) | con (d : D) | glo (x : String) | fnv (f : String)
  | bin (op : Bop) (a b : Tm) | neg (a : Tm) | not (a : Tm)
  | cmp (op : Cop) (a b : Tm) | chain (o1 o2 : Cop) (a b c : Tm)
  | and (a b : Tm) | or (a b : Tm) | ite (c a b : Tm)
  | tup (xs : List Tm) | lst (xs : List Tm)
  | idx (a b : Tm) | slc (a : Tm) (lo hi : Option Tm) | rev (a : Tm)
  | fld (a : Tm) (f : String)
  | call (f : String) (args : List Tm) | callv (i : Nat) (args : List Tm)
  | make (c : String) (args : List Tm) | meth (o : Tm) (m : String) (args : List Tm)
  | bi (f : Bi) (args : List Tm) | isi (a : Tm) (cs : List Ty)
  | comp (tg : Tg) (it : Tm) (cond : Option Tm) (e : Tm)
  | range (args : List Tm) | enum (a : Tm) | zip (as : List Tm) | seq (a : Tm)
  | olen (i : Nat) | oix (i : Nat) (e : Tm) | xfld (i : Nat) (f : String)
  | ocmp (op : Cop) (a b : Tm) | lenm (a : Tm) | dic (a : Tm) (i : Nat) | tcmp (op : Cop) (a b : Tm)

inductive Sm where
  | asg (i : Nat) (e : Tm) | asgT (is : List Nat) (e : Tm) | par (is : List Nat) (es : List Tm) | parO (is : List Nat) (os : List Bool) (es : List Tm)
  | own (i : Nat) (e : Tm) | frz (i : Nat) | shr (i : Nat) | kill (is : List Nat)
  | app (i : Nat) (e : Tm) | ext (i : Nat) (e : Tm) | seti (i : Nat) (e v : Tm)
  | setf (i : Nat) (f : String) (e : Tm)
  | aug (i : Nat) (op : Bop) (e : Tm)
  | ex (e : Tm) | pass
  | cond (c : Tm) (a b : List Sm) | whil (c : Tm) (b : List Sm) | loop (tg : Tg) (it : Tm) (b : List Sm)
  | ret (e : Tm) | retN
  | raise (c : String) (args : List Tm)
  | tryx (b : List Sm) (c : String) (i : Option Nat) (h : List Sm)

/-! ### operations on data -/
def mulOk (i j : Int) : Bool := decide (i.natAbs.log2 + j.natAbs.log2 < 1000000)
def lenOk (n : Nat) : Bool := decide (n ≤ 16777216)
def dBin : Bop → D → D → Option D
  | .add, .int i, .int j => some (.int (i + j))
  | .add, .str x, .str y => if lenOk (x.length + y.length) then some (.str (x ++ y)) else none
  | .add, .lst x, .lst y => if lenOk (x.length + y.length) then some (.lst (x ++ y)) else none
  | .add, .tup x, .tup y => if lenOk (x.length + y.length) then some (.tup (x ++ y)) else none
  | .sub, .int i, .int j => some (.int (i - j))
  | .mul, .int i, .int j => if mulOk i j then some (.int (i * j)) else none
  | .mul, .lst x, .int k => if decide (0 ≤ k) && decide (k ≤ 1000) && decide (x.length ≤ 1000) then some (.lst (List.replicate k.toNat x).flatten) else none
  | .mul, .tup x, .int k => if decide (0 ≤ k) && decide (k ≤ 1000) && decide (x.length ≤ 1000) && !x.isEmpty then some (.tup (List.replicate k.toNat x).flatten) else none
  | .fdiv, .int i, .int j => if j ≠ 0 ∧ j.natAbs.log2 < 9000 then some (.int (i.fdiv j)) else none
  | .mod, .int i, .int j => if j ≠ 0 then some (.int (i.fmod j)) else none
  | .pow, .int i, .int j => if decide (0 ≤ j) && decide (j ≤ 1000) && decide (i.natAbs < 2 ^ 64) then some (.int (i ^ j.toNat)) else none
  | _, _, _ => none
def dNeg : D → Option D
  | .int i => some (.int (-i))
  | _ => none
def dEq (x y : D) : Option Bool := if D.flat 60 x && D.flat 60 y then some (D.eqv x y) else none
def isNon : D → Bool
  | .non => true
  | _ => false
def dIn (x : D) : D → Option Bool
  | .lst ys => if D.flat 59 x && D.flats 59 ys then some (ys.any fun y => D.eqv y x) else none
  | .tup ys => if D.flat 59 x && D.flats 59 ys then some (ys.any fun y => D.eqv y x) else none
  | .str s => (match x with
    | .str [c] => some (s.contains c)
    | _ => none)
  | _ => none
def dCmp : Cop → D → D → Option Bool
  | .eq, x, y => dEq x y
  | .ne, x, y => (dEq x y).map not
  | .lt, .int i, .int j => some (decide (i < j))
  | .le, .int i, .int j => some (decide (i ≤ j))
  | .gt, .int i, .int j => some (decide (j < i))
  | .ge, .int i, .int j => some (decide (j ≤ i))
  | .isN, x, .non => some (isNon x)
  | .notN, x, .non => some (!isNon x)
  | .isin, x, y => dIn x y
  | .notin, x, y => (dIn x y).map not
  | _, _, _ => none
def dTru : D → Option Bool
  | .non => some false
  | .bl b => some b
  | .int i => some (i != 0)
  | .lst xs => some (!xs.isEmpty)
  | .tup xs => some (!xs.isEmpty)
  | _ => none
/-- x[i] -/
def dIdx (st : Sto) : D → D → Option D
  | .lst xs, .int i => atI xs i
  | .tup xs, .int i => atI xs i
  | .frz xs, .int i => atI xs i
  | .str s, .int i => if lenOk s.length then (atI s i).map fun c => .str [c] else none
  | .ref n, .int i => (match st[n]? with
    | some (.lst xs) => atI xs i
    | _ => none)
  | _, _ => none
def cutD {α : Type} (xs : List α) (lo hi : Option Int) : List α := (xs.drop (HT.sIx xs.length 0 lo)).take (HT.sIx xs.length xs.length hi - HT.sIx xs.length 0 lo)
def dSlc (x : D) (lo hi : Option Int) : Option D := match x with
  | .lst xs => some (.lst (cutD xs lo hi))
  | .tup xs => some (.tup (cutD xs lo hi))
  | _ => none
def dRev : D → Option D
  | .lst xs => some (.lst xs.reverse)
  | .tup xs => some (.tup xs.reverse)
  | _ => none
def dFld (P : String → List String) (st : Sto) (f : String) : D → Option D
  | .obj c ds => ((P c).zip ds).lookup f
  | .ref n => (match st[n]? with
    | some (.ins c fs) => if (P c).contains f then fs.lookup f else none
    | _ => none)
  | _ => none
/-- the class of an instance -/
def mcls (st : Sto) : D → Option String
  | .obj c _ => some c
  | .ref n => (match st[n]? with
    | some (.ins c _) => some c
    | _ => none)
  | _ => none
def isInt1 : Ty → Bool
  | .int => true
  | _ => false
def dIsi (st : Sto) (x : D) (c : Ty) : Option Bool := match x with
  | .non => some false
  | .bl _ => some (c == .int || c == .bool)
  | .int _ => some (c == .int)
  | .str _ => some (c == .str)
  | .tup _ => some (c == .tuple)
  | .lst _ => some (c == .list)
  | .obj k _ => some (c == .cls k)
  | _ => none
def dIsis (st : Sto) (x : D) : List Ty → Option Bool
  | [] => some false
  | c :: cs => (dIsi st x c).bind fun b => if b then some true else dIsis st x cs
def allB : List D → Option Bool
  | [] => some true
  | .bl b :: xs => (allB xs).map fun c => b && c
  | _ => none
def anyB : List D → Option Bool
  | [] => some false
  | .bl b :: xs => (anyB xs).map fun c => b || c
  | _ => none
def dBi (st : Sto) : Bi → List D → Option D
  | .len, [.lst xs] => some (.int xs.length)
  | .len, [.tup xs] => some (.int xs.length)
  | .len, [.frz xs] => some (.int xs.length)
  | .len, [.str s] => if lenOk s.length then some (.int s.length) else none
  | .int, [.int i] => some (.int i)
  | .int, [.bl b] => some (.int (if b then 1 else 0))
  | .abs, [.int i] => some (.int (if i < 0 then -i else i))
  | .max, [.int i, .int j] => some (.int (if j > i then j else i))
  | .min, [.int i, .int j] => some (.int (if j < i then j else i))
  | .all, [.lst xs] => (allB xs).map .bl
  | .any, [.lst xs] => (anyB xs).map .bl
  | .tuple, [.lst xs] => some (.tup xs)
  | .tuple, [.tup xs] => some (.tup xs)
  | .list, [.lst xs] => some (.lst xs)
  | .list, [.tup xs] => some (.lst xs)
  | _, _ => none

/-! ### outcomes -/
def lift (o : Option D) (st : Sto) : Res D := match o with
  | some d => .ok d st
  | none => .stuck
def liftB (o : Option Bool) (st : Sto) : Res D := match o with
  | some b => .ok (.bl b) st
  | none => .stuck
def asBool (d : D) (st : Sto) : Res Bool := match d with
  | .bl b => .ok b st
  | _ => .stuck
def asTru (d : D) (st : Sto) : Res Bool := match dTru d with
  | some b => .ok b st
  | none => .stuck
@[simp] theorem lift_some (d : D) (st : Sto) : lift (some d) st = .ok d st := rfl
@[simp] theorem liftB_some (d : Bool) (st : Sto) : liftB (some d) st = .ok (.bl d) st := rfl
@[simp] theorem asBool_bl (d : Bool) (st : Sto) : asBool (.bl d) st = .ok d st := rfl
/-- what a loop walks, of a value -/
def items : D → Option (List D)
  | .lst xs => some xs
  | .tup xs => some xs
  | .frz xs => some xs
  | _ => none
def rangeD (lo : Int) (n : Nat) : List D := (List.range n).map fun (k : Nat) => .int (lo + (k : Int))
def smallI (i : Int) : Bool := decide (-1000000 ≤ i) && decide (i ≤ 1000000)
def rng : List D → Option (List D)
  | [.int j] => if smallI j then some (rangeD 0 j.toNat) else none
  | [.int i, .int j] => if smallI i && smallI j then some (rangeD i (j - i).toNat) else none
  | _ => none
def enumD (xs : List D) : List D := (List.range xs.length).zipWith (fun (k : Nat) x => .tup [.int (k : Int), x]) xs
def zipD (xs ys : List D) : List D := xs.zipWith (fun x y => .tup [x, y]) ys
def bindT : Tg → D → Ev → Option Ev
  | .one i, d, ρ => some (ρ.set i (.val d))
  | .many is, .tup ds, ρ => if is.length = ds.length then some ((is.zip ds).foldl (fun ρ p => ρ.set p.1 (.val p.2)) ρ) else none
  | _, _, _ => none
def wipeT : Tg → Ev → Ev
  | .one i, ρ => ρ.set i .no
  | .many is, ρ => is.foldl (fun ρ i => ρ.set i .no) ρ
/-- a comprehension -/
def compR (f : D → Sto → Res (Option D)) : List D → Sto → Res (List D)
  | [], st => .ok [] st
  | x :: xs, st => match f x st with
    | .ok o st1 => (match compR f xs st1 with
      | .ok ys st2 => .ok (o.toList ++ ys) st2
      | _ => .stuck)
    | _ => .stuck

inductive Out where
  | nx (ρ : Ev) (st : Sto) | ret (d : D) (st : Sto) | exc (c : String) (fs : List D) (ρ : Ev) (st : Sto) | stuck
def Out.bind (r : Out) (k : Ev → Sto → Out) : Out := match r with
  | .nx ρ st => k ρ st
  | .ret d st => .ret d st
  | .exc c fs ρ st => .exc c fs ρ st
  | .stuck => .stuck
@[simp] theorem Out.bind_nx (ρ : Ev) (st : Sto) (k : Ev → Sto → Out) : (Out.nx ρ st).bind k = k ρ st := rfl
@[simp] theorem Out.bind_ret (d : D) (st : Sto) (k : Ev → Sto → Out) : (Out.ret d st).bind k = .ret d st := rfl
@[simp] theorem Out.bind_exc (c : String) (fs : List D) (ρ : Ev) (st : Sto) (k : Ev → Sto → Out) : (Out.exc c fs ρ st).bind k = .exc c fs ρ st := rfl
@[simp] theorem Out.bind_stuck (k : Ev → Sto → Out) : (Out.stuck).bind k = .stuck := rfl
/-- no exception leaves it -/
def Out.quiet : Out → Out
  | .exc _ _ _ _ => .stuck
  | r => r
/-- an expression within a statement -/
def Res.out {α : Type} (r : Res α) (ρ : Ev) (k : α → Sto → Out) : Out := match r with
  | .ok a st => k a st
  | .exc c fs st => .exc c fs ρ st
  | .stuck => .stuck
@[simp] theorem Res.out_ok {α : Type} (a : α) (st : Sto) (ρ : Ev) (k : α → Sto → Out) : (Res.ok a st).out ρ k = k a st := rfl
@[simp] theorem Res.out_exc {α : Type} (c : String) (fs : List D) (st : Sto) (ρ : Ev) (k : α → Sto → Out) : (Res.exc c fs st : Res α).out ρ k = .exc c fs ρ st := rfl
@[simp] theorem Res.out_stuck {α : Type} (ρ : Ev) (k : α → Sto → Out) : (Res.stuck : Res α).out ρ k = .stuck := rfl
def forR (f : D → Ev → Sto → Out) : List D → Ev → Sto → Out
  | [], ρ, st => .nx ρ st
  | x :: xs, ρ, st => (f x ρ st).bind fun ρ' st' => forR f xs ρ' st'
inductive WRun (c : Ev → Sto → Res Bool) (b : Ev → Sto → Out) : Ev → Sto → Out → Prop where
  | done {ρ : Ev} {st st' : Sto} : c ρ st = .ok false st' → WRun c b ρ st (.nx ρ st')
  | step {ρ ρ2 : Ev} {st st1 st2 : Sto} {r : Out} : c ρ st = .ok true st1 → b ρ st1 = .nx ρ2 st2 → WRun c b ρ2 st2 r → WRun c b ρ st r
  | ret {ρ : Ev} {st st1 st2 : Sto} {d : D} : c ρ st = .ok true st1 → b ρ st1 = .ret d st2 → WRun c b ρ st (.ret d st2)
theorem WRun.det {c : Ev → Sto → Res Bool} {b : Ev → Sto → Out} {ρ : Ev} {st : Sto} {r r' : Out} (h : WRun c b ρ st r) (h' : WRun c b ρ st r') : r = r' := by
  induction h with
  | done e => cases h' with
    | done e' => rw [e] at e'; cases e'; rfl
    | step e' => rw [e] at e'; cases e'
    | ret e' => rw [e] at e'; cases e'
  | step e q _ ih => cases h' with
    | done e' => rw [e] at e'; cases e'
    | step e' q' r' => rw [e] at e'; cases e'; rw [q] at q'; cases q'; exact ih r'
    | ret e' q' => rw [e] at e'; cases e'; rw [q] at q'; cases q'
  | ret e q => cases h' with
    | done e' => rw [e] at e'; cases e'
    | step e' q' _ => rw [e] at e'; cases e'; rw [q] at q'; cases q'
    | ret e' q' => rw [e] at e'; cases e'; rw [q] at q'; cases q'; rfl
open Classical in
def whileR (c : Ev → Sto → Res Bool) (b : Ev → Sto → Out) (ρ : Ev) (st : Sto) : Out := if h : ∃ r, WRun c b ρ st r then h.choose else .stuck
theorem whileR_of {c : Ev → Sto → Res Bool} {b : Ev → Sto → Out} {ρ : Ev} {st : Sto} {r : Out} (h : WRun c b ρ st r) : whileR c b ρ st = r := by
  unfold whileR
  rw [dif_pos ⟨r, h⟩]
  exact (Exists.choose_spec (⟨r, h⟩ : ∃ r, WRun c b ρ st r)).det h
theorem whileR_run {c : Ev → Sto → Res Bool} {b : Ev → Sto → Out} {ρ : Ev} {st : Sto} (h : whileR c b ρ st ≠ .stuck) : WRun c b ρ st (whileR c b ρ st) := by
  unfold whileR at h ⊢
  by_cases q : ∃ r, WRun c b ρ st r
  · rw [dif_pos q]; exact q.choose_spec
  · rw [dif_neg q] at h; exact absurd rfl h
theorem whileR_eq {c : Ev → Sto → Res Bool} {b : Ev → Sto → Out} {ρ : Ev} {st st1 : Sto} (h : c ρ st = .ok true st1) {ρ2 : Ev} {st2 : Sto} (h2 : b ρ st1 = .nx ρ2 st2) : whileR c b ρ st = whileR c b ρ2 st2 := by
  by_cases q : ∃ r, WRun c b ρ2 st2 r
  · obtain ⟨r, q⟩ := q
    rw [whileR_of q, whileR_of (.step h h2 q)]
  · have q' : ¬ ∃ r, WRun c b ρ st r := by
      rintro ⟨r, z⟩
      cases z with
      | done e => rw [h] at e; cases e
      | step e e2 z => rw [h] at e; cases e; rw [h2] at e2; cases e2; exact q ⟨_, z⟩
      | ret e e2 => rw [h] at e; cases e; rw [h2] at e2; cases e2
    unfold whileR
    rw [dif_neg q, dif_neg q']
theorem whileR_end {c : Ev → Sto → Res Bool} {b : Ev → Sto → Out} {ρ : Ev} {st st1 : Sto} (h : c ρ st = .ok false st1) : whileR c b ρ st = .nx ρ st1 := whileR_of (.done h)

def dPairs : List D → Option (List (List Nat × D))
  | [] => some []
  | .tup [.str k, v] :: r => (dPairs r).map ((k, v) :: ·)
  | _ => none
/-- dict(pairs)[key], keys texts that differ -/
def dDic (x : D) (k : Option D) : Option D := match x, k with
  | .lst xs, some (.str s) => (dPairs xs).bind fun kvs => if (kvs.map (·.1)).Nodup then kvs.lookup s else none
  | _, _ => none
def slotD (ρ : Ev) (i : Nat) : Option D := match ρ[i]? with
  | some (.val d) => some d
  | _ => none
def ownL (ρ : Ev) (i : Nat) : Option (List D) := match ρ[i]? with
  | some (.own (.lst xs)) => some xs
  | _ => none
def putA (f : String) (d : D) : List (String × D) → List (String × D)
  | [] => [(f, d)]
  | (g, x) :: r => if g = f then (g, d) :: r else (g, x) :: putA f d r
def setD (xs : List D) (i : Int) (d : D) : Option (List D) := (ixN xs.length i).map fun j => xs.set j d

/-- the list that a slot holds or names -/
def listAt (ρ : Ev) (st : Sto) (i : Nat) : Option (List D) := match ρ[i]? with
  | some (.own (.lst xs)) => some xs
  | some (.val (.ref n)) => (match st[n]? with
    | some (.lst xs) => some xs
    | _ => none)
  | _ => none
def putL (ρ : Ev) (st : Sto) (i : Nat) (ys : List D) : Out := match ρ[i]? with
  | some (.own (.lst _)) => .nx (ρ.set i (.own (.lst ys))) st
  | some (.val (.ref n)) => .nx ρ (st.set n (.lst ys))
  | _ => .stuck

/-- no slot holds an exception -/
def noX (ρ : Ev) : Ev := ρ.map fun s => match s with
  | .exn _ _ => .no
  | s => s

/-- stores of a row of values, some of them new lists of the frame's own -/
def setsO : List Nat → List Bool → List D → Ev → Option Ev
  | [], [], [], ρ => some ρ
  | i :: is, false :: os, d :: ds, ρ => setsO is os ds (ρ.set i (.val d))
  | i :: is, true :: os, .lst xs :: ds, ρ => setsO is os ds (ρ.set i (.own (.lst xs)))
  | _, _, _, _ => none
/-- the slots that will hold them are given up ahead -/
def killO : List Nat → List Bool → Ev → Ev
  | i :: is, true :: os, ρ => killO is os (ρ.set i .no)
  | _ :: is, false :: os, ρ => killO is os ρ
  | _, _, ρ => ρ
structure Def where
  np : Nat
  nl : Nat
  body : List Sm
  inits : List (String × Tm)
structure Prog where
  defs : String → Option Def
  fields : String → List String
  xfields : String → List String
  subx : String → String → Bool
  consts : String → Option D
  isMeth : String → String → Bool
  muta : String → Bool
def startD (n : Nat) (ds : List D) : Ev := ds.map Sl.val ++ List.replicate (n - ds.length) .no

section
variable (P : Prog) (R : String → List D → Sto → Res D)
def optI : Option D → Option (Option Int)
  | none => some none
  | some (.int i) => some (some i)
  | _ => none
/-- the class of an instance that has its own == -/
def ocls (st : Sto) (op : Cop) (x : D) : Option String := if op == .eq || op == .ne then (match mcls st x with
  | some c => if P.isMeth c "__eq__" then some c else none
  | none => none) else none
def okRhs : D → Bool
  | .non => true
  | .bl _ => true
  | .int _ => true
  | .str _ => true
  | .tup _ => true
  | .lst _ => true
  | .obj _ _ => true
  | _ => false
/-- ==, != where the left may be an instance -/
def ocmpR (op : Cop) (x y : D) (st : Sto) : Res D := match ocls P st op x with
  | some c => if okRhs y then (R (c ++ "." ++ "__eq__") [x, y] st).bind fun d st3 => (match d with
    | .bl r => .ok (.bl (if op == .ne then !r else r)) st3
    | _ => .stuck) else .stuck
  | none => liftB (dCmp op x y) st
/-- len(x), x may be an instance -/
def lenR (x : D) (st : Sto) : Res D := match mcls st x with
  | some c => if P.isMeth c "__len__" then (R (c ++ "." ++ "__len__") [x] st).bind fun d st2 => (match d with
    | .int n => if decide (0 ≤ n) && decide (n < 1000000) then .ok (.int n) st2 else .stuck
    | _ => .stuck) else .stuck
  | none => lift (dBi st .len [x]) st
/-- == item by item -/
def eqNs (f : D → D → Sto → Res Bool) : List D → List D → Sto → Res Bool
  | [], ys, st => .ok ys.isEmpty st
  | _ :: _, [], st => .ok false st
  | x :: xs, y :: ys, st => (f x y st).bind fun b st1 => if b then eqNs f xs ys st1 else .ok false st1
open Classical in
/-- an own ==: the same instance is equal to itself, and nothing changes then -/
def objEq (x y : D) (st : Sto) (r : Res D) : Res Bool := match r with
  | .ok (.bl b) st1 => if x = y ∧ ¬ (b = true ∧ st1 = st) then .stuck else .ok b st1
  | _ => .stuck
def eqMix (P : Prog) (R : String → List D → Sto → Res D) (f : D → D → Sto → Res Bool) (x y : D) (st : Sto) : Res Bool := match x, y with
  | .tup xs, .tup ys => if D.im (.tup xs) && D.im (.tup ys) then eqNs f xs ys st else .stuck
  | .obj c fs, .obj c' fs' => if (D.im (.obj c fs) && D.im (.obj c' fs')) && P.isMeth c "__eq__" then objEq (.obj c fs) (.obj c' fs') st (R (c ++ "." ++ "__eq__") [.obj c fs, .obj c' fs'] st) else .stuck
  | _, _ => .stuck
def eqN (P : Prog) (R : String → List D → Sto → Res D) : Nat → D → D → Sto → Res Bool
  | 0, _, _, _ => .stuck
  | n + 1, x, y, st => match dEq x y with
    | some b => .ok b st
    | none => eqMix P R (eqN P R n) x y st
/-- ==, != of tuples that may hold instances -/
def tcmpR (P : Prog) (R : String → List D → Sto → Res D) (op : Cop) (x y : D) (st : Sto) : Res D := match x, y with
  | .tup xs, .tup ys => (eqN P R 8 (.tup xs) (.tup ys) st).bind fun b st' => .ok (.bl (if op == .ne then !b else b)) st'
  | _, _ => .stuck
/-- an instance that has been made: its fields, by the class's list -/
def doneObj (c : String) (fs : List (String × D)) : Option D := ((P.fields c).mapM fun f => fs.lookup f).map (.obj c)
mutual
def evE : Tm → Ev → Sto → Res D
  | .var i, ρ, st => lift (slotD ρ i) st
  | .con d, _, st => .ok d st
  | .glo x, _, st => lift (P.consts x) st
  | .fnv f, _, st => .ok (.fn f) st
  | .bin op a b, ρ, st => (evE a ρ st).bind fun x st1 => (evE b ρ st1).bind fun y st2 => lift (dBin op x y) st2
  | .neg a, ρ, st => (evE a ρ st).bind fun x st1 => lift (dNeg x) st1
  | .not a, ρ, st => (evE a ρ st).bind fun x st1 => (asTru x st1).bind fun c st2 => .ok (.bl (!c)) st2
  | .cmp op a b, ρ, st => (evE a ρ st).bind fun x st1 => (evE b ρ st1).bind fun y st2 => liftB (dCmp op x y) st2
  | .chain o1 o2 a b c, ρ, st => (evE a ρ st).bind fun x st1 => (evE b ρ st1).bind fun y st2 => match dCmp o1 x y with
    | some true => (evE c ρ st2).bind fun z st3 => liftB (dCmp o2 y z) st3
    | some false => .ok (.bl false) st2
    | none => .stuck
  | .and a b, ρ, st => (evE a ρ st).bind fun x st1 => (asBool x st1).bind fun c st2 => if c then evE b ρ st2 else .ok (.bl false) st2
  | .or a b, ρ, st => (evE a ρ st).bind fun x st1 => (asBool x st1).bind fun c st2 => if c then .ok (.bl true) st2 else evE b ρ st2
  | .ite c a b, ρ, st => ((evE c ρ st).bind asTru).bind fun t st1 => if t then evE a ρ st1 else evE b ρ st1
  | .tup xs, ρ, st => (evL xs ρ st).bind fun ds st1 => .ok (.tup ds) st1
  | .lst xs, ρ, st => (evL xs ρ st).bind fun ds st1 => .ok (.lst ds) st1
  | .idx a b, ρ, st => (evE a ρ st).bind fun x st1 => (evE b ρ st1).bind fun y st2 => lift (dIdx st2 x y) st2
  | .slc a lo hi, ρ, st => (evE a ρ st).bind fun x st1 => (evO lo ρ st1).bind fun l st2 => (evO hi ρ st2).bind fun h st3 => lift (dSlc x l h) st3
  | .rev a, ρ, st => (evE a ρ st).bind fun x st1 => lift (dRev x) st1
  | .fld a f, ρ, st => (evE a ρ st).bind fun x st1 => lift (dFld P.fields st1 f x) st1
  | .call f args, ρ, st => (evL args ρ st).bind fun ds st1 => R f ds st1
  | .callv i args, ρ, st => match slotD ρ i with
    | some (.fn f) => (evL args ρ st).bind fun ds st1 => R f ds st1
    | _ => .stuck
  | .make c args, ρ, st => (evL args ρ st).bind fun ds st1 => R c ds st1
  | .meth o m args, ρ, st => (evE o ρ st).bind fun x st1 => match mcls st1 x with
    | some c => if P.isMeth c m then (evL args ρ st1).bind fun ds st2 => R (c ++ "." ++ m) (x :: ds) st2 else .stuck
    | none => .stuck
  | .bi f args, ρ, st => (evL args ρ st).bind fun ds st1 => lift (dBi st1 f ds) st1
  | .isi a cs, ρ, st => (evE a ρ st).bind fun x st1 => liftB (dIsis st1 x cs) st1
  | .comp tg it cond e, ρ, st => (evI it ρ st).bind fun xs st1 => (compR (fun x s => match bindT tg x (wipeT tg ρ) with
    | some ρ' => (evC cond ρ' s).bind fun c s1 => if c then (evE e ρ' s1).bind fun y s2 => .ok (some y) s2 else .ok none s1
    | none => .stuck) xs st1).bind fun ys st2 => .ok (.lst ys) st2
  | .olen i, ρ, st => (match ownL ρ i with
    | some xs => .ok (.int xs.length) st
    | none => .stuck)
  | .oix i e, ρ, st => (match ownL ρ i with
    | some xs => (evE e ρ st).bind fun y st1 => lift (dIdx st1 (.lst xs) y) st1
    | none => .stuck)
  | .xfld i f, ρ, st => (match ρ[i]? with
    | some (.exn c fs) => lift (((P.xfields c).zip fs).lookup f) st
    | _ => .stuck)
  | .ocmp op a b, ρ, st => (evE a ρ st).bind fun x st1 => (evE b ρ st1).bind fun y st2 => ocmpR P R op x y st2
  | .lenm a, ρ, st => (evE a ρ st).bind fun x st1 => lenR P R x st1
  | .dic a i, ρ, st => (evE a ρ st).bind fun x st1 => lift (dDic x (slotD ρ i)) st1
  | .tcmp op a b, ρ, st => (evE a ρ st).bind fun x st1 => (evE b ρ st1).bind fun y st2 => tcmpR P R op x y st2
  | .range _, _, _ => .stuck
  | .enum _, _, _ => .stuck
  | .zip _, _, _ => .stuck
  | .seq _, _, _ => .stuck
def evL : List Tm → Ev → Sto → Res (List D)
  | [], _, st => .ok [] st
  | t :: ts, ρ, st => (evE t ρ st).bind fun x st1 => (evL ts ρ st1).bind fun xs st2 => .ok (x :: xs) st2
def evO : Option Tm → Ev → Sto → Res (Option Int)
  | none, _, st => .ok none st
  | some t, ρ, st => (evE t ρ st).bind fun x st1 => match x with
    | .int i => .ok (some i) st1
    | _ => .stuck
def evC : Option Tm → Ev → Sto → Res Bool
  | none, _, st => .ok true st
  | some t, ρ, st => (evE t ρ st).bind asTru
/-- what a loop walks -/
def evI : Tm → Ev → Sto → Res (List D)
  | .range args, ρ, st => (evL args ρ st).bind fun ds st1 => match rng ds with
    | some xs => .ok xs st1
    | none => .stuck
  | .enum a, ρ, st => (evE a ρ st).bind fun x st1 => match items x with
    | some xs => .ok (enumD xs) st1
    | none => .stuck
  | .zip as, ρ, st => (evL as ρ st).bind fun ds st1 => match ds with
    | [a, b] => (match items a, items b with
      | some xs, some ys => .ok (zipD xs ys) st1
      | _, _ => .stuck)
    | _ => .stuck
  | .seq a, ρ, st => (evE a ρ st).bind fun x st1 => match items x with
    | some xs => .ok xs st1
    | none => .stuck
  | _, _, _ => .stuck
end
def evT (t : Tm) (ρ : Ev) (st : Sto) : Res Bool := (evE P R t ρ st).bind asTru

/-! ### statements -/
mutual
def evS : Sm → Ev → Sto → Out
  | .asg i e, ρ, st => (evE P R e ρ st).out ρ fun d st1 => .nx (ρ.set i (.val d)) st1
  | .asgT is e, ρ, st => (evE P R e ρ st).out ρ fun d st1 => match bindT (.many is) d ρ with
    | some ρ' => .nx ρ' st1
    | none => .stuck
  | .par is es, ρ, st => (evL P R es ρ st).out ρ fun ds st1 => match bindT (.many is) (.tup ds) ρ with
    | some ρ' => .nx ρ' st1
    | none => .stuck
  | .parO is os es, ρ, st => (evL P R es (killO is os ρ) st).out (killO is os ρ) fun ds st1 => match setsO is os ds (killO is os ρ) with
    | some ρ' => .nx ρ' st1
    | none => .stuck
  | .own i e, ρ, st => (evE P R e ρ st).out ρ fun d st1 => match d with
    | .lst xs => .nx (ρ.set i (.own (.lst xs))) st1
    | _ => .stuck
  | .frz i, ρ, st => (match ownL ρ i with
    | some xs => .nx (ρ.set i (.val (.lst xs))) st
    | none => .stuck)
  | .shr i, ρ, st => (match ownL ρ i with
    | some xs => .nx (ρ.set i (.val (.ref st.length))) (st ++ [.lst xs])
    | none => .stuck)
  | .kill is, ρ, st => .nx (is.foldl (fun ρ i => ρ.set i .no) ρ) st
  | .app i e, ρ, st => (match listAt ρ st i with
    | some _ => (evE P R e ρ st).out ρ fun d st1 => (match listAt ρ st1 i with
      | some xs => if lenOk (xs.length + 1) then putL ρ st1 i (xs ++ [d]) else .stuck
      | none => .stuck)
    | none => .stuck)
  | .ext i e, ρ, st => (match listAt ρ st i with
    | some _ => (evE P R e ρ st).out ρ fun d st1 => (match listAt ρ st1 i, d with
      | some xs, .lst ys => if lenOk (xs.length + ys.length) then putL ρ st1 i (xs ++ ys) else .stuck
      | _, _ => .stuck)
    | none => .stuck)
  | .seti i e v, ρ, st => (evE P R v ρ st).out ρ fun d st1 => (match listAt ρ st1 i with
    | some _ => (evE P R e ρ st1).out ρ fun k st2 => (match k, listAt ρ st2 i with
      | .int k, some xs => (match setD xs k d with
        | some ys => putL ρ st2 i ys
        | none => .stuck)
      | _, _ => .stuck)
    | none => .stuck)
  | .setf i f e, ρ, st => (evE P R e ρ st).out ρ fun d st1 => (match ρ[i]? with
    | some (.own (.ins c fs)) => if (P.fields c).contains f && decide (fs.length ≤ 90) then .nx (ρ.set i (.own (.ins c (putA f d fs)))) st1 else .stuck
    | some (.val (.ref n)) => (match st1[n]? with
      | some (.ins c fs) => if (P.fields c).contains f && decide (fs.length ≤ 90) then .nx ρ (st1.set n (.ins c (putA f d fs))) else .stuck
      | _ => .stuck)
    | _ => .stuck)
  | .aug i op e, ρ, st => (match slotD ρ i with
    | some (.int x) => (evE P R e ρ st).out ρ fun y st1 => (match op, y with
      | .add, .int z => .nx (ρ.set i (.val (.int (x + z)))) st1
      | .sub, .int z => .nx (ρ.set i (.val (.int (x - z)))) st1
      | _, _ => .stuck)
    | _ => .stuck)
  | .ex e, ρ, st => (evE P R e ρ st).out ρ fun _ st1 => .nx ρ st1
  | .pass, ρ, st => .nx ρ st
  | .cond c a b, ρ, st => (evT P R c ρ st).out ρ fun t st1 => if t then evSs a ρ st1 else evSs b ρ st1
  | .whil c b, ρ, st => whileR (fun ρ st => evT P R c ρ st) (fun ρ st => evSs b ρ st) ρ st
  | .loop tg it b, ρ, st => (evI P R it ρ st).out ρ fun xs st1 => forR (fun x ρ st => match bindT tg x ρ with
    | some ρ' => evSs b ρ' st
    | none => .stuck) xs ρ st1
  | .ret e, ρ, st => (evE P R e ρ st).out ρ fun d st1 => .ret d st1
  | .retN, _, st => .ret .non st
  | .raise c args, ρ, st => (evL P R args ρ st).out ρ fun ds st1 => if ds.length = (P.xfields c).length then .exc c ds ρ st1 else .stuck
  | .tryx b c i h, ρ, st => (match evSs b ρ st with
    | .exc c' fs ρ1 st1 => if P.subx c' c then (match i with
        | some i => (evSs h ((noX ρ1).set i (.exn c' fs)) st1).quiet.bind fun ρ2 st2 => .nx (ρ2.set i .no) st2
        | none => (evSs h (noX ρ1) st1).quiet) else .exc c' fs ρ1 st1
    | r => r)
def evSs : List Sm → Ev → Sto → Out
  | [], ρ, st => .nx ρ st
  | s :: ss, ρ, st => (evS s ρ st).bind fun ρ' st' => evSs ss ρ' st'
end
end

/-- the def f, called: n calls deep at most -/
def callB (P : Prog) (R : String → List D → Sto → Res D) (d : Def) (ds : List D) (st : Sto) : Res D := match evSs P R d.body (startD d.nl ds) st with
  | .nx _ st' => .ok .non st'
  | .ret v st' => .ok v st'
  | .exc c fs _ st' => .exc c fs st'
  | .stuck => .stuck
/-- C(..): what __init__ does ahead, the fields that it sets then -/
def makeB (P : Prog) (R : String → List D → Sto → Res D) (c : String) (d : Def) (ds : List D) (st : Sto) : Res D := match evSs P R d.body (.exn "" [] :: startD (d.nl - 1) ds) st with
  | .nx (.exn c0 f0 :: ρ) st' => (evL P R (d.inits.map (·.2)) (.exn c0 f0 :: ρ) st').bind fun vs st2 => .ok (.obj c vs) st2
  | .exc c fs _ st' => .exc c fs st'
  | _ => .stuck
/-- .. of a class whose instances change -/
def makeM (P : Prog) (R : String → List D → Sto → Res D) (c : String) (d : Def) (ds : List D) (st : Sto) : Res D := match evSs P R d.body (.val (.ref st.length) :: startD (d.nl - 1) ds) (st ++ [.ins c []]) with
  | .nx _ st' => .ok (.ref st.length) st'
  | .exc c fs _ st' => .exc c fs st'
  | _ => .stuck
def run (P : Prog) : Nat → String → List D → Sto → Res D
  | 0, _, _, _ => .stuck
  | n + 1, f, ds, st => (match P.defs f with
    | some d => if ds.length = d.np then callB P (run P n) d ds st else .stuck
    | none => (match P.defs (f ++ ".__init__") with
      | some d => if ds.length + 1 = d.np then (if P.muta f then makeM P (run P n) f d ds st else makeB P (run P n) f d ds st) else .stuck
      | none => .stuck))
end Dp
end SDp0
set_option maxHeartbeats 4000000
/-! Dp2: readings over data; expressions. -/
noncomputable section SDp2
namespace Dp
open PySem PySem.Spec PyProof.Rows L2

theorem _root_.L2.PE.weak {X : Cx} {e : Expr} {t t' : TE} (h : PE X e t) (k : ∀ σ H Q, t' σ H Q → t σ H Q) : PE X e t' := ⟨fun pins s σ H Q I q => h.run pins s σ H Q I (k σ H Q q)⟩
theorem _root_.L2.PT.weak {X : Cx} {e : Expr} {t t' : TT} (h : PT X e t) (k : ∀ σ H Q, t' σ H Q → t σ H Q) : PT X e t' := ⟨fun pins s σ H Q I q => h.run pins s σ H Q I (k σ H Q q)⟩
theorem _root_.L2.PW.weak {X : Cx} {e : Expr} {t t' : TT} (h : PW X e t) (k : ∀ σ H Q, t' σ H Q → t σ H Q) : PW X e t' := ⟨fun wh pins s σ H Q I q => h.run wh pins s σ H Q I (k σ H Q q)⟩
theorem _root_.L2.PA.weak {X : Cx} {e : List Expr} {t t' : TA} (h : PA X e t) (k : ∀ σ H Q, t' σ H Q → t σ H Q) : PA X e t' := ⟨fun pos pins s σ H Q I q => h.run pos pins s σ H Q I (k σ H Q q)⟩
theorem _root_.L2.PS.weak {X : Cx} {e : Stmt} {t t' : TS} (h : PS X e t) (k : ∀ D σ H, t' D σ H → t D σ H) : PS X e t' := ⟨fun pins s σ H D I q => h.run pins s σ H D I (k D σ H q)⟩
theorem _root_.L2.PSs.weak {X : Cx} {e : List Stmt} {t t' : TS} (h : PSs X e t) (k : ∀ D σ H, t' D σ H → t D σ H) : PSs X e t' := ⟨fun pins s σ H D I q => h.run pins s σ H D I (k D σ H q)⟩

section
variable (Γ : Glob) (W : WX)
def dE (f : Ev → Sto → Res D) : TE := fun σ H Q => ∃ O κ L ρ st, Ok Γ O κ L H st ∧ EnvR Γ O κ L H σ ρ ∧ fin Γ (fun c d H' => W c d σ H') O κ L H (f ρ st) fun d _ κ' H' => ∀ v, Rep Γ κ' (imm O κ' L H') v d → Q v H'
def dT (f : Ev → Sto → Res Bool) : TT := fun σ H Q => ∃ O κ L ρ st, Ok Γ O κ L H st ∧ EnvR Γ O κ L H σ ρ ∧ fin Γ (fun c d H' => W c d σ H') O κ L H (f ρ st) fun b _ κ' H' => Q b H'
def dA (f : Ev → Sto → Res (List D)) : TA := fun σ H Q => ∃ O κ L ρ st, Ok Γ O κ L H st ∧ EnvR Γ O κ L H σ ρ ∧ fin Γ (fun c d H' => W c d σ H') O κ L H (f ρ st) fun ds _ κ' H' => ∀ vs, Reps Γ κ' (imm O κ' L H') vs ds → Q vs H'
end

section
variable {X : Cx} {Γ : Glob} {W : WX} {f fa fb : Ev → Sto → Res D}
/-- a way from one reading to the next: the state and what is left to be done -/
theorem dE.one {g : D → Sto → Res D} {σ : L2.St} {H : Hp} {Q : VK} (h : dE Γ W (fun ρ st => (fa ρ st).bind g) σ H Q) :
    dE Γ W fa σ H fun v H1 => ∃ O κ L ρ st x, Ok Γ O κ L H1 st ∧ EnvR Γ O κ L H1 σ ρ ∧ Rep Γ κ (imm O κ L H1) v x ∧
      fin Γ (fun c d H' => W c d σ H') O κ L H1 (g x st) fun d _ κ' H' => ∀ v, Rep Γ κ' (imm O κ' L H') v d → Q v H' := by
  obtain ⟨O, κ, L, ρ, st, o, e, h⟩ := h
  refine ⟨O, κ, L, ρ, st, o, e, (fin.bind o h).imp fun x st' κ' H' n o' q v r => ?_⟩
  exact ⟨O, κ', L, ρ, st', x, o', e.next n, r, q⟩
theorem dE.imp {σ : L2.St} {H : Hp} {Q Q' : VK} (h : dE Γ W f σ H Q) (k : ∀ v H', Q v H' → Q' v H') : dE Γ W f σ H Q' := by
  obtain ⟨O, κ, L, ρ, st, o, e, h⟩ := h
  exact ⟨O, κ, L, ρ, st, o, e, h.imp fun x st' κ' H' n o' q v r => k _ _ (q v r)⟩
theorem dE.two {g : D → D → Sto → Res D} {σ : L2.St} {H : Hp} {Q : VK} (h : dE Γ W (fun ρ st => (fa ρ st).bind fun x st1 => (fb ρ st1).bind fun y st2 => g x y st2) σ H Q) :
    dE Γ W fa σ H fun v H1 => dE Γ W fb σ H1 fun u H2 => ∃ O κ L ρ st x y, Ok Γ O κ L H2 st ∧ EnvR Γ O κ L H2 σ ρ ∧ Rep Γ κ (imm O κ L H2) v x ∧ Rep Γ κ (imm O κ L H2) u y ∧
      fin Γ (fun c d H' => W c d σ H') O κ L H2 (g x y st) fun d _ κ' H' => ∀ v, Rep Γ κ' (imm O κ' L H') v d → Q v H' := by
  obtain ⟨O, κ, L, ρ, st, o, e, h⟩ := h
  refine ⟨O, κ, L, ρ, st, o, e, (fin.bind o h).imp fun x st' κ' H' n o' q v r => ?_⟩
  refine ⟨O, κ', L, ρ, st', o', e.next n, (fin.bind o' q).imp fun y st2 κ2 H2 n2 o2 q2 u r2 => ?_⟩
  exact ⟨O, κ2, L, ρ, st2, x, y, o2, (e.next n).next n2, r.mono n2.pre n2.le, r2, q2⟩

/-- what a pure operation is to reach -/
def After (Γ : Glob) (O : Addr → Prop) (κ : List Addr) (L : List (Nat × Addr)) (H : Hp) (st : Sto) (d : D) (Q : VK) : Prop :=
  ∀ H', Nx O κ L H κ H' → Ok Γ O κ L H' st → ∀ v, Rep Γ κ (imm O κ L H') v d → Q v H'
section
variable {O : Addr → Prop} {κ : List Addr} {L : List (Nat × Addr)} {H : Hp} {st : Sto} {d : D} {Q : VK} {v : V} {p : Addr} {vs : List V} {ds : List D}
theorem After.now (h : After Γ O κ L H st d Q) (o : Ok Γ O κ L H st) (r : Rep Γ κ (imm O κ L H) v d) : Q v H := h H .refl o v r
theorem After.tup (h : After Γ O κ L H st (.tup ds) Q) (o : Ok Γ O κ L H st) (r : Reps Γ κ (imm O κ L H) vs ds) (hp : H p = none) : Q (.ref p) (upd H p (.tup vs)) := by
  obtain ⟨n, o', m⟩ := o.laid (o := .tup vs) hp
  exact h _ n o' _ (.tup (.of (cut_some.mpr ⟨m, upd_same⟩)) (r.mono n.pre n.le))
theorem After.lst (h : After Γ O κ L H st (.lst ds) Q) (o : Ok Γ O κ L H st) (r : Reps Γ κ (imm O κ L H) vs ds) (hp : H p = none) : Q (.ref p) (upd H p (.lst vs)) := by
  obtain ⟨n, o', m⟩ := o.laid (o := .lst vs) hp
  exact h _ n o' _ (.lst (cut_some.mpr ⟨m, upd_same⟩) (r.mono n.pre n.le))
theorem fin.after {o : Option D} {W : XK} (h : fin Γ W O κ L H (lift o st) fun d _ κ' H' => ∀ v, Rep Γ κ' (imm O κ' L H') v d → Q v H') : ∃ d, o = some d ∧ After Γ O κ L H st d Q := by
  cases o with
  | none => exact h.elim
  | some d => exact ⟨d, rfl, fun H' n ok v r => h κ H' n ok v r⟩
theorem fin.afterB {o : Option Bool} {W : XK} (h : fin Γ W O κ L H (liftB o st) fun d _ κ' H' => ∀ v, Rep Γ κ' (imm O κ' L H') v d → Q v H') : ∃ d, o = some d ∧ After Γ O κ L H st (.bl d) Q := by
  cases o with
  | none => exact h.elim
  | some d => exact ⟨d, rfl, fun H' n ok v r => h κ H' n ok v r⟩
end

/-- an operation on two values, pure -/
def rD2 (Γ : Glob) (g : D → D → Option D) : R2 := fun v u H Q => ∃ O κ L st x y d, Ok Γ O κ L H st ∧ Rep Γ κ (imm O κ L H) v x ∧ Rep Γ κ (imm O κ L H) u y ∧ g x y = some d ∧ After Γ O κ L H st d Q
theorem dE_op {g : D → D → Option D} {σ : L2.St} {H : Hp} {Q : VK} (h : dE Γ W (fun ρ st => (fa ρ st).bind fun x st1 => (fb ρ st1).bind fun y st2 => lift (g x y) st2) σ H Q) :
    tOp (rD2 Γ g) (dE Γ W fa) (dE Γ W fb) σ H Q := by
  refine (dE.two h).imp fun v H1 h => h.imp fun u H2 h => ?_
  obtain ⟨O, κ, L, ρ, st, x, y, o, e, r1, r2, h⟩ := h
  obtain ⟨d, e, a⟩ := h.after
  exact ⟨O, κ, L, st, x, y, d, o, r1, r2, e, a⟩
theorem dE_opB {g : D → D → Option Bool} {σ : L2.St} {H : Hp} {Q : VK} (h : dE Γ W (fun ρ st => (fa ρ st).bind fun x st1 => (fb ρ st1).bind fun y st2 => liftB (g x y) st2) σ H Q) :
    tOp (rD2 Γ fun x y => (g x y).map .bl) (dE Γ W fa) (dE Γ W fb) σ H Q := by
  refine (dE.two h).imp fun v H1 h => h.imp fun u H2 h => ?_
  obtain ⟨O, κ, L, ρ, st, x, y, o, e, r1, r2, h⟩ := h
  obtain ⟨d, e, a⟩ := h.afterB
  exact ⟨O, κ, L, st, x, y, .bl d, o, r1, r2, by show (g x y).map _ = _; rw [e]; rfl, a⟩
/-- an operation on one value, pure -/
def rD1 (Γ : Glob) (g : D → Option D) : V → Hp → VK → Prop := fun v H Q => ∃ O κ L st x d, Ok Γ O κ L H st ∧ Rep Γ κ (imm O κ L H) v x ∧ g x = some d ∧ After Γ O κ L H st d Q
theorem dE_un {g : D → Option D} {σ : L2.St} {H : Hp} {Q : VK} (h : dE Γ W (fun ρ st => (fa ρ st).bind fun x st1 => lift (g x) st1) σ H Q) :
    tUn (rD1 Γ g) (dE Γ W fa) σ H Q := by
  refine (dE.one h).imp fun v H1 h => ?_
  obtain ⟨O, κ, L, ρ, st, x, o, e, r1, h⟩ := h
  obtain ⟨d, e, a⟩ := h.after
  exact ⟨O, κ, L, st, x, d, o, r1, e, a⟩
end

/-! ### names, constants -/
section
variable {X : Cx} {Γ : Glob} {W : WX}
theorem slotD_some {ρ : Ev} {i : Nat} {d : D} (h : slotD ρ i = some d) : ρ[i]? = some (.val d) := by
  unfold slotD at h
  split at h
  · rename_i e; cases h; exact e
  · cases h
theorem pe_varD {i : Nat} {x : Str} {pos : Pos} (hN : X.N[i]? = some x) (hv : Vis X.env.scope x) (hd : (x == ("__debug__" : Str)) = false) (hcd : (x == ("__classdict__" : Str)) = false) : PE X (.Name x pos) (dE Γ W fun ρ st => lift (slotD ρ i) st) := by
  refine (pe_var hN hv hd hcd).weak fun σ H Q h => ?_
  obtain ⟨O, κ, L, ρ, st, o, e, h⟩ := h
  obtain ⟨d, hd, a⟩ := h.after
  obtain ⟨v, hv, r⟩ := e.sl i _ (slotD_some hd)
  exact ⟨v, hv, a.now o r⟩
theorem dC {v : V} {d : D} (hr : ∀ O κ L H st, Ok Γ O κ L H st → Rep Γ κ (imm O κ L H) v d) (σ : L2.St) (H : Hp) (Q : VK) (h : dE Γ W (fun _ st => .ok d st) σ H Q) : tC v σ H Q := by
  obtain ⟨O, κ, L, ρ, st, o, e, h⟩ := h
  exact h κ H .refl o v (hr _ _ _ _ _ o)
end
end Dp
end SDp2
set_option maxHeartbeats 4000000
/-! Dp3: operations on data. -/
noncomputable section SDp3
namespace Dp
open PySem PySem.Spec PyProof.Rows L2

section
variable {X : Cx} {Γ : Glob}
variable {κ : List Addr} {I : Hp} {v : V}
theorem Rep.int_inv {i : Int} (h : Rep Γ κ I v (.int i)) : v = .int i := by cases h; rfl
theorem Rep.str_inv {s : List Nat} (h : Rep Γ κ I v (.str s)) : v = .str ⟨s.toArray⟩ := by cases h; rfl
theorem Rep.bl_inv {b : Bool} (h : Rep Γ κ I v (.bl b)) : v = .bl b := by cases h; rfl
theorem Rep.non_inv (h : Rep Γ κ I v .non) : v = .non := by cases h; rfl
theorem Rep.tup_inv {ds : List D} (h : Rep Γ κ I v (.tup ds)) : ∃ a vs, v = .ref a ∧ SqT Γ.K I a vs ∧ Reps Γ κ I vs ds := by cases h with | tup a b => exact ⟨_, _, rfl, a, b⟩
theorem Rep.lst_inv {ds : List D} (h : Rep Γ κ I v (.lst ds)) : ∃ a vs, v = .ref a ∧ I a = some (.lst vs) ∧ Reps Γ κ I vs ds := by cases h with | lst a b => exact ⟨_, _, rfl, a, b⟩
theorem Rep.frz_inv {ds : List D} (h : Rep Γ κ I v (.frz ds)) : ∃ a vs, v = .ref a ∧ SqL Γ.K I a vs ∧ Reps Γ κ I vs ds := by cases h with | frz a b => exact ⟨_, _, rfl, a, b⟩
theorem Rep.ref_inv {n : Nat} (h : Rep Γ κ I v (.ref n)) : ∃ a, v = .ref a ∧ κ[n]? = some a := by cases h with | ref a => exact ⟨_, rfl, a⟩
theorem Rep.obj_inv {c : String} {ds : List D} (h : Rep Γ κ I v (.obj c ds)) : Γ.isC c = true ∧ ∃ a dx fvs vs, v = .ref a ∧ I a = some (.ins (Γ.cls c) dx fvs) ∧
    (Γ.fields c).map (fun f => fvs.lookup (Str.ofString f)) = vs.map some ∧ (∀ g v, fvs.lookup g = some v → ∃ f ∈ Γ.fields c, g = Str.ofString f) ∧ Reps Γ κ I vs ds := by
  cases h with | obj z a b c d => exact ⟨z, _, _, _, _, rfl, a, b, c, d⟩
theorem Str.app (x y : List Nat) : (⟨x.toArray⟩ : Str) ++ (⟨y.toArray⟩ : Str) = ⟨(x ++ y).toArray⟩ := by
  show (⟨x.toArray ++ y.toArray⟩ : Str) = _
  simp
theorem Str.len (x : List Nat) : (⟨x.toArray⟩ : Str).length = x.length := by show x.toArray.size = _; simp


/-! ### plain data and the library's data -/
mutual
def D.py : D → PyData
  | .non => .none
  | .bl b => .bool b
  | .int i => .int i
  | .str s => .str ⟨s.toArray⟩
  | .tup xs => .tuple (D.pys xs)
  | .lst xs => .list (D.pys xs)
  | .obj _ _ => .none
  | .ref _ => .none
  | .fn _ => .none
  | .frz _ => .none
def D.pys : List D → List PyData
  | [] => []
  | x :: xs => D.py x :: D.pys xs
end
mutual
theorem flat_lay : ∀ (n : Nat) (d : D), D.flat n d = true → (D.py d).canLay0 = true ∧ (D.py d).depth ≤ n
  | n, .non, _ => by constructor <;> simp [D.py, PyData.canLay0, PyData.depth]
  | n, .bl b, _ => by constructor <;> simp [D.py, PyData.canLay0, PyData.depth]
  | n, .int i, _ => by constructor <;> simp [D.py, PyData.canLay0, PyData.depth]
  | n, .str s, h => by
    simp only [D.flat] at h
    constructor
    · simp only [D.py, PyData.canLay0, PyData.strOk]
      simpa using h
    · simp [D.py, PyData.depth]
  | 0, .tup xs, h => by simp [D.flat] at h
  | 0, .lst xs, h => by simp [D.flat] at h
  | n + 1, .tup xs, h => by
    simp only [D.flat] at h
    have := flats_lay n xs h
    constructor
    · simp only [D.py, PyData.canLay0]; exact this.1
    · simp only [D.py, PyData.depth]; omega
  | n + 1, .lst xs, h => by
    simp only [D.flat] at h
    have := flats_lay n xs h
    constructor
    · simp only [D.py, PyData.canLay0]; exact this.1
    · simp only [D.py, PyData.depth]; omega
  | n, .obj _ _, h => by simp [D.flat] at h
  | n, .ref _, h => by simp [D.flat] at h
  | n, .fn _, h => by simp [D.flat] at h
  | n, .frz _, h => by simp [D.flat] at h
theorem flats_lay : ∀ (n : Nat) (ds : List D), D.flats n ds = true → PyData.canLayAll0 (D.pys ds) = true ∧ PyData.depthAll (D.pys ds) ≤ n
  | n, [], _ => by constructor <;> simp [D.pys, PyData.canLayAll0, PyData.depthAll]
  | n, x :: xs, h => by
    simp only [D.flats, Bool.and_eq_true] at h
    have h1 := flat_lay n x h.1
    have h2 := flats_lay n xs h.2
    constructor
    · simp only [D.pys, PyData.canLayAll0, Bool.and_eq_true]; exact ⟨h1.1, h2.1⟩
    · simp only [D.pys, PyData.depthAll]; omega
end
mutual
theorem eqv_py : ∀ (n m : Nat) (x y : D), D.flat n x = true → D.flat m y = true → PyData.eqv (D.py x) (D.py y) = D.eqv x y
  | n, m, .non, y, _, h => by cases y <;> simp_all [D.py, PyData.eqv, D.eqv, D.flat]
  | n, m, .bl b, y, _, h => by cases y <;> simp_all [D.py, PyData.eqv, D.eqv, D.flat]
  | n, m, .int b, y, _, h => by cases y <;> simp_all [D.py, PyData.eqv, D.eqv, D.flat]
  | n, m, .str b, y, _, h => by
    cases y <;> simp_all [D.py, PyData.eqv, D.eqv, D.flat]
    rename_i c
    rw [Bool.eq_iff_iff]; simp
  | 0, m, .tup xs, y, h, _ => by simp [D.flat] at h
  | 0, m, .lst xs, y, h, _ => by simp [D.flat] at h
  | n + 1, m, .tup xs, y, h, h' => by
    cases y <;> try (simp_all [D.py, PyData.eqv, D.eqv, D.flat]; done)
    rename_i ys
    cases m with
    | zero => simp [D.flat] at h'
    | succ m =>
      simp only [D.flat] at h h'
      simp only [D.py, PyData.eqv, D.eqv]
      exact eqvs_py n m xs ys h h'
  | n + 1, m, .lst xs, y, h, h' => by
    cases y <;> try (simp_all [D.py, PyData.eqv, D.eqv, D.flat]; done)
    rename_i ys
    cases m with
    | zero => simp [D.flat] at h'
    | succ m =>
      simp only [D.flat] at h h'
      simp only [D.py, PyData.eqv, D.eqv]
      exact eqvs_py n m xs ys h h'
  | n, m, .obj _ _, y, h, _ => by simp [D.flat] at h
  | n, m, .ref _, y, h, _ => by simp [D.flat] at h
  | n, m, .fn _, y, h, _ => by simp [D.flat] at h
  | n, m, .frz _, y, h, _ => by simp [D.flat] at h
theorem eqvs_py : ∀ (n m : Nat) (xs ys : List D), D.flats n xs = true → D.flats m ys = true → PyData.eqvAll (D.pys xs) (D.pys ys) = D.eqvs xs ys
  | _, _, [], [], _, _ => by simp [D.pys, PyData.eqvAll, D.eqvs]
  | _, _, [], _ :: _, _, _ => by simp [D.pys, PyData.eqvAll, D.eqvs]
  | _, _, _ :: _, [], _, _ => by simp [D.pys, PyData.eqvAll, D.eqvs]
  | n, m, x :: xs, y :: ys, h, h' => by
    simp only [D.flats, Bool.and_eq_true] at h h'
    simp only [D.pys, PyData.eqvAll, D.eqvs]
    rw [eqv_py n m x y h.1 h'.1, eqvs_py n m xs ys h.2 h'.2]
end
theorem any_py (n : Nat) (x : D) (hx : D.flat n x = true) : ∀ ys : List D, D.flats n ys = true → ((D.pys ys).any fun z => PyData.eqv z (D.py x)) = ys.any fun y => D.eqv y x
  | [], _ => rfl
  | y :: ys, h => by
    simp only [D.flats, Bool.and_eq_true] at h
    simp only [D.pys, List.any_cons]
    rw [any_py n x hx ys h.2, eqv_py n n y x h.1 hx]
theorem flat_shaped {n : Nat} {d : D} (hn : n ≤ 64) (h : D.flat n d = true) : SeqAt.shaped (D.py d) = true := by
  obtain ⟨a, b⟩ := flat_lay n d h
  unfold SeqAt.shaped
  rw [a, decide_eq_true (by omega)]
  rfl
end
mutual
theorem Rep.dp {Γ : Glob} {κ : List Addr} {I H : Hp} (hi : Le I H) : ∀ {v : V} {d : D} {n : Nat}, Rep Γ κ I v d → D.flat n d = true → L2.Dp Γ.K H v (D.py d)
  | _, _, _, .non, _ => by rw [D.py]; exact .non
  | _, _, _, .bl b, _ => by rw [D.py]; exact .bl b
  | _, _, _, .int i, _ => by rw [D.py]; exact .int i
  | _, _, _, .str s, _ => by rw [D.py]; exact .str _
  | _, _, 0, .tup h r, f => by simp [D.flat] at f
  | _, _, 0, .lst h r, f => by simp [D.flat] at f
  | _, _, n + 1, .tup h r, f => by
    rw [D.py]
    simp only [D.flat] at f
    exact .tup (hi.sqT h) (Reps.dp hi r f)
  | _, _, n + 1, .lst h r, f => by
    rw [D.py]
    simp only [D.flat] at f
    exact .lst (.of (hi _ _ h)) (Reps.dp hi r f)
  | _, _, _, .frz _ _, f => by simp [D.flat] at f
  | _, _, _, .obj _ _ _ _ _, f => by simp [D.flat] at f
  | _, _, _, .ref _, f => by simp [D.flat] at f
  | _, _, _, .fn _, f => by simp [D.flat] at f
theorem Reps.dp {Γ : Glob} {κ : List Addr} {I H : Hp} (hi : Le I H) : ∀ {vs : List V} {ds : List D} {n : Nat}, Reps Γ κ I vs ds → D.flats n ds = true → L2.DpAll Γ.K H vs (D.pys ds)
  | _, _, _, .nil, _ => by rw [D.pys]; exact .nil
  | _, _, n, .cons r t, f => by
    simp only [D.flats, Bool.and_eq_true] at f
    rw [D.pys]
    exact .cons (Rep.dp hi r f.1) (Reps.dp hi t f.2)
end

section
variable {X : Cx} {Γ : Glob}
theorem opEqD (hK : X.K = Γ.K) (hu : X.A.units + 70 < cLine) : OpR X (compareOp .Eq) (rD2 Γ fun x y => (dEq x y).map .bl) := by
  intro pins s σ H x y v u Q I rx ry h
  obtain ⟨O, κ, L, st, a, b, d, o, ra, rb, e, k⟩ := h
  unfold dEq at e
  dsimp only at e
  by_cases hf : (D.flat 60 a && D.flat 60 b) = true
  · rw [if_pos hf] at e
    cases e
    rw [Bool.and_eq_true] at hf
    refine op_eqD (by omega) pins s σ H x y v u Q I rx ry ⟨D.py a, D.py b, ?_, ?_, flat_shaped (by decide) hf.1, flat_shaped (by decide) hf.2, ?_⟩
    · rw [hK]; exact ra.dp (cut_le _ _) hf.1
    · rw [hK]; exact rb.dp (cut_le _ _) hf.2
    · rw [eqv_py 60 60 a b hf.1 hf.2]; exact k.now o (.bl _)
  · rw [if_neg hf] at e; cases e
theorem opNeD (hK : X.K = Γ.K) (hu : X.A.units + 70 < cLine) : OpR X (compareOp .NotEq) (rD2 Γ fun x y => ((dEq x y).map not).map .bl) := by
  intro pins s σ H x y v u Q I rx ry h
  obtain ⟨O, κ, L, st, a, b, d, o, ra, rb, e, k⟩ := h
  unfold dEq at e
  dsimp only at e
  by_cases hf : (D.flat 60 a && D.flat 60 b) = true
  · rw [if_pos hf] at e
    cases e
    rw [Bool.and_eq_true] at hf
    refine op_neD (by omega) pins s σ H x y v u Q I rx ry ⟨D.py a, D.py b, ?_, ?_, flat_shaped (by decide) hf.1, flat_shaped (by decide) hf.2, ?_⟩
    · rw [hK]; exact ra.dp (cut_le _ _) hf.1
    · rw [hK]; exact rb.dp (cut_le _ _) hf.2
    · rw [eqv_py 60 60 a b hf.1 hf.2]; exact k.now o (.bl _)
  · rw [if_neg hf] at e; cases e
/-- x in y, by the library's rules -/
theorem in_data {neg : Bool} (hK : X.K = Γ.K) (hu : X.A.units + 70 < cLine) {pins : List (Addr × Obj)} {s : Shared} {σ : L2.St} {H : Hp} {x y : V} {v u : Value} {Q : VK} {a : D} {κ : List Addr} {I0 : Hp} {ys : List D} (lt : Bool)
    (I : Inv X pins σ H s) (rx : RelV x v) (ry : RelV y u) (hi : Le I0 H) (ra : Rep Γ κ I0 x a) (rb : Rep Γ κ I0 y (if lt then .lst ys else .tup ys)) (fa : D.flat 59 a = true) (fb : D.flats 59 ys = true)
    (q : Q (.bl (if neg then !(ys.any fun y => D.eqv y a) else ys.any fun y => D.eqv y a)) H) : wpAny (model X.prog X.w) X.A (compareOp (if neg then .NotIn else .In) v u) (EP X pins σ Q) X.xe s := by
  have da := ra.dp hi fa
  rw [← hK] at da
  obtain ⟨as, r1⟩ := L2.Dp.reads I (D.py a) x v da rx
  obtain ⟨l1, l2⟩ := flat_lay 59 a fa
  obtain ⟨m1, m2⟩ := flats_lay 59 ys fb
  have hr : X.A.units + 1 + min (PyData.depthAll (D.pys ys)) (D.py a).depth < cLine := by
    have := Nat.min_le_right (PyData.depthAll (D.pys ys)) (D.py a).depth
    omega
  cases lt with
  | true =>
    have db : L2.Dp Γ.K H y (D.py (.lst ys)) := rb.dp (n := 60) hi (by simp only [D.flat, if_true]; exact fb)
    rw [← hK, D.py] at db
    obtain ⟨bs, r2⟩ := L2.Dp.reads I _ y u db ry
    cases neg with
    | false => exact SeqAt.in_list_reads r2 r1 m1 l1 hr ⟨.bl _, H, I, rfl, by rw [any_py 59 a fa ys fb]; exact q⟩
    | true => exact SeqAt.notIn_list_reads r2 r1 m1 l1 hr ⟨.bl _, H, I, rfl, by rw [any_py 59 a fa ys fb]; exact q⟩
  | false =>
    have db : L2.Dp Γ.K H y (D.py (.tup ys)) := rb.dp (n := 60) hi (by simp only [D.flat]; exact fb)
    rw [← hK, D.py] at db
    obtain ⟨bs, r2⟩ := L2.Dp.reads I _ y u db ry
    cases neg with
    | false => exact SeqAt.in_tuple_reads r2 r1 m1 l1 hr ⟨.bl _, H, I, rfl, by rw [any_py 59 a fa ys fb]; exact q⟩
    | true => exact SeqAt.notIn_tuple_reads r2 r1 m1 l1 hr ⟨.bl _, H, I, rfl, by rw [any_py 59 a fa ys fb]; exact q⟩
end
end Dp
end SDp3
set_option maxHeartbeats 4000000
/-! Dp4: operators, comparisons, subscripts over data. -/
noncomputable section SDp4
namespace Dp
open PySem PySem.Spec PyProof.Rows L2

theorem lenOk_le {n : Nat} (h : lenOk n = true) : n ≤ sizeLine := by
  rw [sizeLine_eq]; exact of_decide_eq_true h
section
variable {X : Cx} {Γ : Glob}
theorem Rep.fd {κ : List Addr} {I : Hp} {v : V} {d : D} (h : Rep Γ κ I v d) : True := trivial
theorem opAdd (hK : X.K = Γ.K) : OpR X (binaryOp .Add) (rD2 Γ (dBin .add)) := by
  intro pins s σ H x y v u Q I rx ry h
  obtain ⟨O, κ, L, st, a, b, d, o, ra, rb, e, k⟩ := h
  cases a <;> cases b <;> try (simp [dBin] at e; done)
  case int.int i j =>
    simp only [dBin] at e; cases e
    cases ra; cases rb
    exact op_add pins s σ H _ _ v u Q I rx ry ⟨i, j, rfl, rfl, k.now o (.int _)⟩
  case str.str i j =>
    simp only [dBin] at e
    split at e
    · rename_i hl
      cases e
      cases ra; cases rb
      refine op_add_str pins s σ H _ _ v u Q I rx ry ⟨_, _, rfl, rfl, ?_, ?_⟩
      · rw [Str.len, Str.len]; exact lenOk_le hl
      · rw [Str.app]; exact k.now o (.str _)
    · cases e
  case lst.lst i j =>
    simp only [dBin] at e
    split at e
    · rename_i hl
      cases e
      obtain ⟨p, vs, rfl, h1, r1⟩ := ra.lst_inv
      obtain ⟨q, ws, rfl, h2, r2⟩ := rb.lst_inv
      refine op_cat pins s σ H _ _ v u Q I rx ry ⟨p, q, vs, ws, rfl, rfl, cut_le _ _ _ _ h1, cut_le _ _ _ _ h2, ?_, fun z hz => k.lst o (r1.append r2) hz⟩
      rw [r1.length, r2.length]; exact lenOk_le hl
    · cases e
  case tup.tup i j =>
    simp only [dBin] at e
    split at e
    · rename_i hl
      cases e
      obtain ⟨p, vs, rfl, h1, r1⟩ := ra.tup_inv
      obtain ⟨q, ws, rfl, h2, r2⟩ := rb.tup_inv
      refine op_catA pins s σ H _ _ v u Q I rx ry ⟨p, q, vs, ws, rfl, rfl, by rw [hK]; exact (cut_le _ _).sqT h1, by rw [hK]; exact (cut_le _ _).sqT h2, ?_, fun z => ?_, fun z w => ?_, fun z w p hp => k.tup o (r1.append r2) hp⟩
      · rw [r1.length, r2.length]; exact lenOk_le hl
      · subst z; cases r1; exact k.now o rb
      · subst w; cases r2; rw [List.append_nil] at k; exact k.now o ra
    · cases e
theorem opSub : OpR X (binaryOp .Sub) (rD2 Γ (dBin .sub)) := by
  intro pins s σ H x y v u Q I rx ry h
  obtain ⟨O, κ, L, st, a, b, d, o, ra, rb, e, k⟩ := h
  cases a <;> cases b <;> try (simp [dBin] at e; done)
  case int.int i j =>
    simp only [dBin] at e; cases e
    cases ra; cases rb
    exact op_sub pins s σ H _ _ v u Q I rx ry ⟨i, j, rfl, rfl, k.now o (.int _)⟩
theorem opDiv : OpR X (binaryOp .FloorDiv) (rD2 Γ (dBin .fdiv)) := by
  intro pins s σ H x y v u Q I rx ry h
  obtain ⟨O, κ, L, st, a, b, d, o, ra, rb, e, k⟩ := h
  cases a <;> cases b <;> try (simp [dBin] at e; done)
  case int.int i j =>
    simp only [dBin] at e
    split at e
    · rename_i hj
      cases e
      cases ra; cases rb
      obtain ⟨t, rfl⟩ := rx
      obtain ⟨t', rfl⟩ := ry
      exact floordiv_int hj.1 ⟨.int _, H, I.tok _, ⟨_, rfl⟩, k.now o (.int _)⟩ (.inl (PyProof.noPylong_of_log2 hj.2))
    · cases e
theorem opMod : OpR X (binaryOp .Mod) (rD2 Γ (dBin .mod)) := by
  intro pins s σ H x y v u Q I rx ry h
  obtain ⟨O, κ, L, st, a, b, d, o, ra, rb, e, k⟩ := h
  cases a <;> cases b <;> try (simp [dBin] at e; done)
  case int.int i j =>
    simp only [dBin] at e
    split at e
    · rename_i hj
      cases e
      cases ra; cases rb
      exact op_modN pins s σ H _ _ v u Q I rx ry ⟨i, j, rfl, rfl, hj, k.now o (.int _)⟩
    · cases e
theorem opPow : OpR X (binaryOp .Pow) (rD2 Γ (dBin .pow)) := by
  intro pins s σ H x y v u Q I rx ry h
  obtain ⟨O, κ, L, st, a, b, d, o, ra, rb, e, k⟩ := h
  cases a <;> cases b <;> try (simp [dBin] at e; done)
  case int.int i j =>
    simp only [dBin] at e
    split at e
    · rename_i hj
      cases e
      simp only [Bool.and_eq_true, decide_eq_true_eq] at hj
      cases ra; cases rb
      exact op_pow pins s σ H _ _ v u Q I rx ry ⟨i, j, rfl, rfl, ⟨hj.1.1, by omega, hj.2⟩, k.now o (.int _)⟩
    · cases e
theorem Reps.rep {κ : List Addr} {I : Hp} {vs : List V} {ds : List D} (h : Reps Γ κ I vs ds) : ∀ n : Nat, Reps Γ κ I (List.replicate n vs).flatten (List.replicate n ds).flatten
  | 0 => .nil
  | n + 1 => by
    rw [List.replicate_succ, List.replicate_succ, List.flatten_cons, List.flatten_cons]
    exact h.append (Reps.rep h n)
theorem tuple_mul1 (l : Addr) (items : Array Value) (n : Nat) (dd : Option Addr) (sl : Array (Option Value)) (u : Tok) :
    Meets (Builtin.«tuple.__mul__» ⟨[.ref l, .int 1 u], []⟩) (fun _ R s => s.heap.get? l = some { cls := .type "tuple", dict := dd, data := .seq items n, slots := sl } ∧
      R (.ok (.ret (Value.ref l))) s) :=
  .of_wp fun prog w A R s h => by
    obtain ⟨hp, g, d, tk, os⟩ := s
    obtain ⟨hl, h⟩ := h
    have f1 := AutoSeq1.idx_int
    have c1 : (items.isEmpty || (1 : Int) == 1) = true := by simp
    wp_walk using wpAny_loadPart' hl
    repeat (first
      | (refine wpAny_ite_false (by decide) ?_; wp_walk using wpAny_loadPart' hl)
      | (rw [if_pos (by simp)]; wp_walk using wpAny_loadPart' hl))
    all_goals exact ⟨_, rfl, h⟩
theorem tuple_mul0 (l : Addr) (items : Array Value) (n : Nat) (dd : Option Addr) (sl : Array (Option Value)) (u : Tok) (c : items.isEmpty = false) :
    Meets (Builtin.«tuple.__mul__» ⟨[.ref l, .int 0 u], []⟩) (fun _ R s => s.heap.get? l = some { cls := .type "tuple", dict := dd, data := .seq items n, slots := sl } ∧
      R (.ok (.ret (Value.ref s.heap.objs.size))) { s with heap := s.heap.push { cls := Value.type "tuple", data := Data.seq #[] }, toks := s.toks }) :=
  .of_wp fun prog w A R s h => by
    obtain ⟨hp, g, d, tk, os⟩ := s
    obtain ⟨hl, h⟩ := h
    have f1 := AutoSeq1.idx_int
    have c1 : (items.isEmpty || (0 : Int) == 1) = false := by rw [c]; rfl
    have c2 : (decide ((0 : Int) ≤ 0) || items.isEmpty) = true := rfl
    wp_walk using wpAny_loadPart' hl
    repeat (first
      | (refine wpAny_ite_false (by decide) ?_; wp_walk using wpAny_loadPart' hl)
      | (refine wpAny_ite_false (decide_eq_false (by rw [c1]; exact Bool.false_ne_true)) ?_; wp_walk using wpAny_loadPart' hl)
      | (rw [if_pos (by simp)]; wp_walk using wpAny_loadPart' hl))
    all_goals exact ⟨_, rfl, h⟩
theorem opMul (hK : X.K = Γ.K) : OpR X (binaryOp .Mult) (rD2 Γ (dBin .mul)) := by
  intro pins s σ H x y v u Q I rx ry h
  obtain ⟨O, κ, L, st, a, b, d, o, ra, rb, e, k⟩ := h
  cases a <;> cases b <;> try (simp [dBin] at e; done)
  case int.int i j =>
    simp only [dBin] at e
    split at e
    · rename_i hj
      cases e
      cases ra; cases rb
      refine op_mulW pins s σ H _ _ v u Q I rx ry ⟨i, j, rfl, rfl, ?_, k.now o (.int _)⟩
      simpa [mulOk, CMulW] using hj
    · cases e
  case lst.int i j =>
    simp only [dBin] at e
    split at e
    · rename_i hj
      cases e
      simp only [Bool.and_eq_true, decide_eq_true_eq] at hj
      obtain ⟨p, vs, rfl, h1, r1⟩ := ra.lst_inv
      cases rb
      have hl := r1.length
      refine op_rep pins s σ H _ _ v u Q I rx ry ⟨p, j, vs, rfl, rfl, cut_le _ _ _ _ h1, by omega, by omega, ?_, fun z hz => k.lst o (r1.rep _) hz⟩
      have a1 : vs.length * j.toNat ≤ 1000 * 1000 := Nat.mul_le_mul (by omega) (by omega)
      rw [sizeLine_eq]; omega
    · cases e
  case tup.int i j =>
    simp only [dBin] at e
    split at e
    · rename_i hj
      cases e
      simp only [Bool.and_eq_true, decide_eq_true_eq] at hj
      obtain ⟨p, vs, rfl, h1, r1⟩ := ra.tup_inv
      cases rb
      have hl := r1.length
      by_cases h1k : j = 1
      · subst h1k
        cases rx
        obtain ⟨t, rfl⟩ := ry
        obtain ⟨its, r, ⟨⟨cls, dd, data, sl⟩, ho, hc, n, hd⟩, hs⟩ := I.tuple (xs := vs) (by rw [hK]; exact (cut_le _ _).sqT h1)
        simp only at hc hd
        subst hc hd
        have hQ : Q (.ref p) H := k.now o (by simpa using ra)
        exact wpAny_binaryOp_repeat_ref (T := "tuple") (U := "int") (by decide) ⟨_, ho, rfl⟩ (fun s' => typeIs_int s' 1 t) noFill_tuple_mul F.fills_int_mul F.slot_int_rmul repeat_tuple F.slot_int_index.lookup
          (call_meets F.slot_int_rmul (typeIs_int s 1 t) F.entry_int_rmul (F.args_int_rmul_2 _ _) (int_rmul_tuple 1 t p its.toArray n dd sl)
            ⟨ho, rfl, ⟨_, ho, rfl⟩, call_meets F.slot_tuple_mul ⟨_, ho, rfl⟩ F.entry_tuple_mul (F.args_tuple_mul_2 _ _) (tuple_mul1 p its.toArray n dd sl t) ⟨ho, ⟨.ref p, H, I, rfl, hQ⟩⟩⟩)
      by_cases h0k : j = 0
      · subst h0k
        cases rx
        obtain ⟨t, rfl⟩ := ry
        obtain ⟨its, r, ⟨⟨cls, dd, data, sl⟩, ho, hc, n, hd⟩, hs⟩ := I.tuple (xs := vs) (by rw [hK]; exact (cut_le _ _).sqT h1)
        simp only at hc hd
        subst hc hd
        have hvs : vs ≠ [] := fun z => by
          rw [z] at hl
          have hl' := hl.symm
          rw [List.length_nil, List.length_eq_zero_iff] at hl'
          simp [hl'] at hj
        have hi : its.toArray.isEmpty = false := by
          cases its with
          | nil => exact absurd (List.eq_nil_of_length_eq_zero r.length) hvs
          | cons a b => rfl
        refine wpAny_binaryOp_repeat_ref (T := "tuple") (U := "int") (by decide) ⟨_, ho, rfl⟩ (fun s' => typeIs_int s' 0 t) noFill_tuple_mul F.fills_int_mul F.slot_int_rmul repeat_tuple F.slot_int_index.lookup
          (call_meets F.slot_int_rmul (typeIs_int s 0 t) F.entry_int_rmul (F.args_int_rmul_2 _ _) (int_rmul_tuple 0 t p its.toArray n dd sl)
            ⟨ho, rfl, ⟨_, ho, rfl⟩, call_meets F.slot_tuple_mul ⟨_, ho, rfl⟩ F.entry_tuple_mul (F.args_tuple_mul_2 _ _) (tuple_mul0 p its.toArray n dd sl t hi) ⟨ho, ?_⟩⟩)
        refine ⟨.ref s.heap.objs.size, _, I.laid (t' := s.toks) (o := .tup []) (fun b ob q => Heap.get?_push_of_some _ q) (Nat.le_refl _) ?_, rfl, k.tup o (r1.rep 0) (I.hok.fresh (Nat.le_refl _))⟩
        exact ⟨by rw [sizeLine_eq]; simp, _, .nil, IsTup.new _ _⟩
      refine op_repT pins s σ H _ _ v u Q I rx ry ⟨p, j, vs, rfl, rfl, by rw [hK]; exact (cut_le _ _).sqT h1, ?_, by omega, by omega, by omega, fun z hz => k.tup o (r1.rep _) hz⟩
      intro z
      rw [z] at hl
      have hl' := hl.symm
      rw [List.length_nil, List.length_eq_zero_iff] at hl'
      simp [hl'] at hj
    · cases e
theorem unNeg : UnR X (unaryOp .USub) (rD1 Γ dNeg) := by
  intro pins s σ H x v Q I rx h
  obtain ⟨O, κ, L, st, a, d, o, ra, e, k⟩ := h
  cases a <;> try (simp [dNeg] at e; done)
  case int i =>
    simp only [dNeg] at e; cases e
    cases ra
    exact un_neg pins s σ H _ v Q I rx ⟨i, rfl, k.now o (.int _)⟩

/-! ### comparisons -/
def cop : Cop → CmpOp
  | .eq => .Eq | .ne => .NotEq | .lt => .Lt | .le => .LtE | .gt => .Gt | .ge => .GtE | .isN => .Is | .notN => .IsNot | .isin => .In | .notin => .NotIn
theorem isNon_dec {κ : List Addr} {I : Hp} {v : V} {d : D} (r : Rep Γ κ I v d) : decide (v = .non) = isNon d := by
  cases r <;> simp [isNon]
theorem opInD {neg : Bool} (hK : X.K = Γ.K) (hu : X.A.units + 70 < cLine) : OpR X (compareOp (if neg then .NotIn else .In)) (rD2 Γ fun x y => ((dIn x y).map fun b => if neg then !b else b).map .bl) := by
  intro pins s σ H x y v u Q I rx ry h
  obtain ⟨O, κ, L, st, a, b, d, o, ra, rb, e, k⟩ := h
  cases b <;> try (simp [dIn] at e; done)
  case lst ys =>
    dsimp only [dIn] at e
    by_cases hf : (D.flat 59 a && D.flats 59 ys) = true
    · rw [if_pos hf] at e
      rw [Bool.and_eq_true] at hf
      cases e
      exact in_data (neg := neg) hK hu true I rx ry (cut_le _ _) ra rb hf.1 hf.2 (k.now o (.bl _))
    · rw [if_neg hf] at e; cases e
  case tup ys =>
    dsimp only [dIn] at e
    by_cases hf : (D.flat 59 a && D.flats 59 ys) = true
    · rw [if_pos hf] at e
      rw [Bool.and_eq_true] at hf
      cases e
      exact in_data (neg := neg) hK hu false I rx ry (cut_le _ _) ra rb hf.1 hf.2 (k.now o (.bl _))
    · rw [if_neg hf] at e; cases e
  case str ys =>
    cases a <;> try (simp [dIn] at e; done)
    case str zs =>
      cases zs with
      | nil => simp [dIn] at e
      | cons c r => cases r with
        | cons _ _ => simp [dIn] at e
        | nil =>
          dsimp only [dIn] at e
          cases e
          cases ra; cases rb
          have hc : decide (c ∈ (⟨ys.toArray⟩ : Str).cps.toList) = ys.contains c := by simp
          cases neg with
          | false => exact op_in_sign pins s σ H _ _ v u Q I rx ry ⟨c, _, rfl, rfl, by rw [hc]; exact k.now o (.bl _)⟩
          | true => exact op_notIn_sign pins s σ H _ _ v u Q I rx ry ⟨c, _, rfl, rfl, by rw [hc]; exact k.now o (.bl _)⟩
theorem opCmp (hK : X.K = Γ.K) (hu : X.A.units + 70 < cLine) : ∀ c : Cop, OpR X (compareOp (cop c)) (rD2 Γ fun x y => (dCmp c x y).map .bl)
  | .eq => opEqD hK hu
  | .ne => opNeD hK hu
  | .isin => fun pins s σ H x y v u Q I rx ry h => opInD (neg := false) hK hu pins s σ H x y v u Q I rx ry (by
      obtain ⟨O, κ, L, st, a, b, d, o, ra, rb, e, k⟩ := h
      refine ⟨O, κ, L, st, a, b, d, o, ra, rb, ?_, k⟩
      simpa [dCmp] using e)
  | .notin => fun pins s σ H x y v u Q I rx ry h => opInD (neg := true) hK hu pins s σ H x y v u Q I rx ry (by
      obtain ⟨O, κ, L, st, a, b, d, o, ra, rb, e, k⟩ := h
      refine ⟨O, κ, L, st, a, b, d, o, ra, rb, ?_, k⟩
      simpa [dCmp] using e)
  | .lt => by
    intro pins s σ H x y v u Q I rx ry h
    obtain ⟨O, κ, L, st, a, b, d, o, ra, rb, e, k⟩ := h
    cases a <;> cases b <;> try (simp [dCmp] at e; done)
    case int.int i j =>
      simp only [dCmp] at e; cases e; cases ra; cases rb
      exact op_lt pins s σ H _ _ v u Q I rx ry ⟨i, j, rfl, rfl, k.now o (.bl _)⟩
  | .le => by
    intro pins s σ H x y v u Q I rx ry h
    obtain ⟨O, κ, L, st, a, b, d, o, ra, rb, e, k⟩ := h
    cases a <;> cases b <;> try (simp [dCmp] at e; done)
    case int.int i j =>
      simp only [dCmp] at e; cases e; cases ra; cases rb
      exact op_le pins s σ H _ _ v u Q I rx ry ⟨i, j, rfl, rfl, k.now o (.bl _)⟩
  | .gt => by
    intro pins s σ H x y v u Q I rx ry h
    obtain ⟨O, κ, L, st, a, b, d, o, ra, rb, e, k⟩ := h
    cases a <;> cases b <;> try (simp [dCmp] at e; done)
    case int.int i j =>
      simp only [dCmp] at e; cases e; cases ra; cases rb
      exact op_gt pins s σ H _ _ v u Q I rx ry ⟨i, j, rfl, rfl, k.now o (.bl _)⟩
  | .ge => by
    intro pins s σ H x y v u Q I rx ry h
    obtain ⟨O, κ, L, st, a, b, d, o, ra, rb, e, k⟩ := h
    cases a <;> cases b <;> try (simp [dCmp] at e; done)
    case int.int i j =>
      simp only [dCmp] at e; cases e; cases ra; cases rb
      exact op_ge pins s σ H _ _ v u Q I rx ry ⟨i, j, rfl, rfl, k.now o (.bl _)⟩
  | .isN => by
    intro pins s σ H x y v u Q I rx ry h
    obtain ⟨O, κ, L, st, a, b, d, o, ra, rb, e, k⟩ := h
    cases b <;> try (simp [dCmp] at e; done)
    case non =>
      simp only [dCmp] at e; cases e; cases rb
      exact op_isN pins s σ H _ _ v u Q I rx ry ⟨rfl, by rw [isNon_dec ra]; exact k.now o (.bl _)⟩
  | .notN => by
    intro pins s σ H x y v u Q I rx ry h
    obtain ⟨O, κ, L, st, a, b, d, o, ra, rb, e, k⟩ := h
    cases b <;> try (simp [dCmp] at e; done)
    case non =>
      simp only [dCmp] at e; cases e; cases rb
      exact op_notN pins s σ H _ _ v u Q I rx ry ⟨rfl, by rw [isNon_dec ra]; exact k.now o (.bl _)⟩

/-! ### truth, items -/
theorem tru_of {κ : List Addr} {I H : Hp} (hK : X.K = Γ.K) (hi : Le I H) {v : V} {d : D} {b : Bool} (r : Rep Γ κ I v d) (e : dTru d = some b) : TruV X.K v H b := by
  cases r <;> try (simp [dTru] at e; done)
  case non => simp only [dTru] at e; cases e; rfl
  case bl => simp only [dTru] at e; cases e; rfl
  case int => simp only [dTru] at e; cases e; rfl
  case tup h r =>
    simp only [dTru] at e; cases e
    refine .inr (.inl ⟨_, by rw [hK]; exact hi.sqT h, ?_⟩)
    have := r.length
    cases r <;> rfl
  case lst h r =>
    simp only [dTru] at e; cases e
    refine .inl ⟨_, .of (hi _ _ h), ?_⟩
    cases r <;> rfl
theorem atI_reps {κ : List Addr} {I : Hp} {vs : List V} {ds : List D} (r : Reps Γ κ I vs ds) {i : Int} {d : D} (e : atI ds i = some d) : ∃ v, atI vs i = some v ∧ Rep Γ κ I v d := by
  unfold atI at e ⊢
  rw [r.length]
  cases h : ixN ds.length i with
  | none => rw [h] at e; cases e
  | some j =>
    rw [h] at e
    exact r.get' (show ds[j]? = some d from e)
/-- x[i] -/
def rIxD (Γ : Glob) : R2 := fun v u H Q => ∃ O κ L st x y d, Ok Γ O κ L H st ∧ Rep Γ κ (imm O κ L H) v x ∧ Rep Γ κ (imm O κ L H) u y ∧ dIdx st x y = some d ∧ After Γ O κ L H st d Q
theorem ixD (hK : X.K = Γ.K) : IxR X (rIxD Γ) := by
  intro value slice pins s σ H x y v u Q I rx ry h hs
  obtain ⟨O, κ, L, st, a, b, d, o, ra, rb, e, k⟩ := h
  cases a <;> cases b <;> try (simp [dIdx] at e; done)
  case lst.int xs i =>
    simp only [dIdx] at e
    obtain ⟨p, vs, rfl, h1, r1⟩ := ra.lst_inv
    cases rb
    obtain ⟨w, e', r⟩ := atI_reps r1 e
    exact ix_list value slice pins s σ H _ _ v u Q I rx ry ⟨p, vs, i, w, rfl, rfl, .of (cut_le _ _ _ _ h1), e', k.now o r⟩ hs
  case tup.int xs i =>
    simp only [dIdx] at e
    obtain ⟨p, vs, rfl, h1, r1⟩ := ra.tup_inv
    cases rb
    obtain ⟨w, e', r⟩ := atI_reps r1 e
    exact ix_tup value slice pins s σ H _ _ v u Q I rx ry ⟨p, vs, i, w, rfl, rfl, by rw [hK]; exact (cut_le _ _).sqT h1, e', k.now o r⟩ hs
  case frz.int xs i =>
    simp only [dIdx] at e
    obtain ⟨p, vs, rfl, h1, r1⟩ := ra.frz_inv
    cases rb
    obtain ⟨w, e', r⟩ := atI_reps r1 e
    exact ix_list value slice pins s σ H _ _ v u Q I rx ry ⟨p, vs, i, w, rfl, rfl, by rw [hK]; exact (cut_le _ _).sqL h1, e', k.now o r⟩ hs
  case ref.int n i =>
    simp only [dIdx] at e
    split at e
    · rename_i xs hn
      obtain ⟨p, rfl, hp⟩ := ra.ref_inv
      cases rb
      obtain ⟨vs, h1, r1⟩ := o.st n p _ hp hn
      obtain ⟨w, e', r⟩ := atI_reps r1 e
      exact ix_list value slice pins s σ H _ _ v u Q I rx ry ⟨p, vs, i, w, rfl, rfl, .of h1, e', k.now o r⟩ hs
    · cases e
  case str.int xs i =>
    simp only [dIdx] at e
    split at e
    · rename_i hl
      cases h : atI xs i with
      | none => rw [h] at e; cases e
      | some c =>
        rw [h] at e
        cases e
        cases ra; cases rb
        refine ix_str value slice pins s σ H _ _ v u Q I rx ry ⟨_, i, c, rfl, rfl, by rw [Str.len]; exact lenOk_le hl, ?_, k.now o (.str [c])⟩ hs
        simpa using h
    · cases e
end
end Dp
end SDp4
set_option maxHeartbeats 4000000
/-! Dp5: expressions checked against their small terms; what they do. -/
noncomputable section SDp5
namespace Dp
open PySem PySem.Spec PyProof.Rows L2

/-- what of the module's names the text leans on -/
structure Stat where
  funs : List String
  clss : List String
  excs : List String
  frees : List String
  consts : List String
  catches : List String
  ini : Bool
  hlen : Bool
/-- where an expression stands -/
structure SC where
  N : List Str
  sc : Scope
  fn : Str → Bool
  calm : Bool
def okVis (c : SC) (x : Str) : Bool := match c.sc.names.lookup x with
  | some .local => true | some .cell => true | some .free => true | _ => false
def okLoc (c : SC) (x : Str) : Bool := match c.sc.names.lookup x with
  | some .local => true | some .cell => c.fn x | _ => false
def okGl (c : SC) (x : Str) : Bool := match c.sc.names.lookup x with
  | some .globalImplicit => !(x == ("__debug__" : Str)) && !(x == ("__name__" : Str)) | _ => false
def okVar (c : SC) (i : Nat) (x : Str) : Bool := decide (c.N[i]? = some x) && okVis c x && !(x == ("__debug__" : Str)) && !(x == ("__classdict__" : Str))
def okSlot (c : SC) (i : Nat) (x : Str) : Bool := decide (c.N[i]? = some x) && okLoc c x
def okCon : D → Const → Bool
  | .int i, .int j => i == j
  | .str s, .str x => decide (x = ⟨s.toArray⟩)
  | .bl b, .bool c => b == c
  | .non, .none => true
  | _, _ => false
def notStar : Expr → Bool
  | .Starred _ _ => false
  | _ => true
def opOf : Bop → Operator
  | .add => .Add | .sub => .Sub | .mul => .Mult | .fdiv => .FloorDiv | .mod => .Mod | .pow => .Pow
def okOp : Bop → Operator → Bool
  | .add, .Add => true | .sub, .Sub => true | .mul, .Mult => true | .fdiv, .FloorDiv => true | .mod, .Mod => true | .pow, .Pow => true
  | _, _ => false
def okCop : Cop → CmpOp → Bool
  | .eq, .Eq => true | .ne, .NotEq => true | .lt, .Lt => true | .le, .LtE => true | .gt, .Gt => true | .ge, .GtE => true | .isN, .Is => true | .notN, .IsNot => true | .isin, .In => true | .notin, .NotIn => true
  | _, _ => false
def tyName : Ty → String
  | .int => "int" | .bool => "bool" | .str => "str" | .list => "list" | .tuple => "tuple" | .cls c => c
def biName : Bi → String
  | .len => "len" | .int => "int" | .str => "str" | .abs => "abs" | .max => "max" | .min => "min" | .all => "all" | .any => "any" | .tuple => "tuple" | .list => "list"
def isPlainSlice : Expr → Bool
  | .Slice _ _ _ _ => false
  | _ => true
/-- in, not in: no display on the right that the compiler folds -/
def okIn (op : CmpOp) (b : Expr) : Bool := !(behindInMarks op b)
def notSuper : Expr → Bool
  | .Call (.Name _ _) [] [] _ => false
  | _ => true
section
variable (S : Stat)
def okFree (c : SC) (x : Str) (n : String) : Bool := decide (x = Str.ofString n) && okGl c x && S.frees.contains n
def okTy (c : SC) (t : Ty) : Expr → Bool
  | .Name x _ => (match t with
    | .cls n => decide (x = Str.ofString n) && okGl c x && S.clss.contains n
    | t => okFree S c x (tyName t))
  | _ => false
def okTys (c : SC) : List Ty → List Expr → Bool
  | [], [] => true
  | t :: ts, e :: es => okTy S c t e && notStar e && okTys c ts es
  | _, _ => false
def okIsi (c : SC) (ts : List Ty) (z : Expr) : Bool := match z with
  | .Tuple es _ _ => okTys S c ts es
  | z => (match ts with
    | [t] => okTy S c t z
    | _ => false)
def slotsOf : Tg → List Nat
  | .one i => [i]
  | .many is => is
def okNames (c : SC) : List Nat → List Expr → Bool
  | [], [] => true
  | i :: is, .Name x _ :: es => okSlot c i x && okNames c is es
  | _, _ => false
def okTg (c : SC) : Tg → Expr → Bool
  | .one i, .Name x _ => okSlot c i x
  | .many is, .Tuple es _ _ => c.calm && okNames c is es && decide (is.Nodup)
  | _, _ => false
def ownOf (c : SC) (tg : Tg) : List (Str × Nat) := (slotsOf tg).filterMap fun i => (c.N[i]?).map fun x => (x, i)
def blkSC (c : SC) (scope : Scope) : SC := ⟨c.N, relS scope c.sc, fun x => scope.names.lookup x == some .cell, c.calm⟩
def tgOk : Tg → Tm → Bool
  | .one _, .enum _ => false
  | .one _, .zip _ => false
  | _, _ => true
def notSetE : Expr → Bool
  | .Set _ _ _ => false
  | _ => true
mutual
def okE (c : SC) : Tm → Expr → Bool
  | .var i, e => (match e with
    | .Name x _ => okVar c i x
    | _ => false)
  | .con d, e => (match e with
    | .Constant k _ _ => okCon d k
    | _ => false)
  | .glo n, e => (match e with
    | .Name x _ => decide (x = Str.ofString n) && okGl c x && S.consts.contains n
    | _ => false)
  | .fnv n, e => (match e with
    | .Name x _ => decide (x = Str.ofString n) && okGl c x && S.funs.contains n
    | _ => false)
  | .bin op a b, e => (match e with
    | .BinOp x o y _ => okOp op o && okE c a x && okE c b y
    | _ => false)
  | .neg a, e => (match e with
    | .UnaryOp .USub x _ => okE c a x
    | _ => false)
  | .not a, e => (match e with
    | .UnaryOp .Not x _ => okE c a x
    | _ => false)
  | .cmp op a b, e => (match e with
    | .Compare x [o] [y] _ => okCop op o && okE c a x && okE c b y && okIn o y
    | _ => false)
  | .chain o1 o2 a b d, e => (match e with
    | .Compare x [p1, p2] [y, z] _ => okCop o1 p1 && okCop o2 p2 && okE c a x && okE c b y && okE c d z && !(lastMarks [p1, p2] [y, z])
    | _ => false)
  | .and a b, e => (match e with
    | .BoolOp .And (x :: y :: r) p => okE c a x && (match r with
      | [] => okE c b y
      | z :: r' => okE c b (.BoolOp .And (y :: z :: r') p))
    | _ => false)
  | .or a b, e => (match e with
    | .BoolOp .Or (x :: y :: r) p => okE c a x && (match r with
      | [] => okE c b y
      | z :: r' => okE c b (.BoolOp .Or (y :: z :: r') p))
    | _ => false)
  | .ite t a b, e => (match e with
    | .IfExp z x y _ => okE c t z && okE c a x && okE c b y
    | _ => false)
  | .tup xs, e => (match e with
    | .Tuple es _ _ => okL c xs es && decide (xs.length ≤ 1000)
    | _ => false)
  | .lst xs, e => (match e with
    | .List es _ => okL c xs es && decide (xs.length ≤ 1000)
    | _ => false)
  | .idx a b, e => (match e with
    | .Subscript x y _ => okE c a x && okE c b y && isPlainSlice y
    | _ => false)
  | .slc a lo hi, e => (match e with
    | .Subscript x (.Slice l h none _) _ => okE c a x && okO c lo l && okO c hi h
    | _ => false)
  | .rev a, e => (match e with
    | .Subscript x (.Slice none none (some (.UnaryOp .USub (.Constant (.int 1) _ _) _)) _) _ => okE c a x
    | _ => false)
  | .fld a f, e => (match e with
    | .Attribute x g _ => decide (g = Str.ofString f) && notSuper x && okE c a x
    | _ => false)
  | .call f args, e => (match e with
    | .Call (.Name x _) es [] _ => c.calm && decide (x = Str.ofString f) && okGl c x && S.funs.contains f && okL c args es
    | _ => false)
  | .callv i args, e => (match e with
    | .Call (.Name x _) es [] _ => c.calm && okVar c i x && okL c args es
    | _ => false)
  | .make f args, e => (match e with
    | .Call (.Name x _) es [] _ => c.calm && decide (x = Str.ofString f) && okGl c x && S.clss.contains f && okL c args es
    | _ => false)
  | .meth o m args, e => (match e with
    | .Call (.Attribute x g ap) es [] p => c.calm && decide (g = Str.ofString m) && notSuper x && okE c o x && okL c args es && decide (ap.endLine = p.line) && decide (es.length < 30)
    | _ => false)
  | .bi f args, e => (match e with
    | .Call (.Name x _) es [] _ => (c.calm || !(f == .max || f == .min || f == .all || f == .any)) && okFree S c x (biName f) && okL c args es && !es.isEmpty
    | _ => false)
  | .isi a ts, e => (match e with
    | .Call (.Name x _) [y, z] [] _ => okFree S c x "isinstance" && decide (ts.length ≤ 1000) && !ts.isEmpty && okE c a y && notStar y && notStar z && okIsi S c ts z
    | _ => false)
  | .comp tg it cond el, e => (match e with
    | .ListComp x [⟨t, i, ifs, 0⟩] scope _ => c.calm && tgOk tg it && okI c it i && notSetE i && blkC c.N c.sc scope (ownOf c tg) && decide ((ownOf c tg).map (·.2) = slotsOf tg) && okTg (blkSC c scope) tg t && okE (blkSC c scope) el x && (match ifs with
      | [] => cond.isNone
      | [z] => okC (blkSC c scope) cond z
      | _ => false)
    | _ => false)
  | .olen i, e => (match e with
    | .Call (.Name x _) [.Name y _] [] _ => c.calm && okFree S c x "len" && okVar c i y
    | _ => false)
  | .oix i t, e => (match e with
    | .Subscript (.Name x _) y _ => okVar c i x && okE c t y && isPlainSlice y
    | _ => false)
  | .xfld i f, e => (match e with
    | .Attribute (.Name y _) g _ => decide (g = Str.ofString f) && okVar c i y && !c.calm
    | _ => false)
  | .ocmp op a b, e => (match e with
    | .Compare x [o] [y] _ => c.calm && (op == .eq || op == .ne) && okCop op o && okE c a x && okE c b y
    | _ => false)
  | .lenm a, e => (match e with
    | .Call (.Name x _) [y] [] _ => (c.calm || S.hlen) && okFree S c x "len" && okE c a y && notStar y
    | _ => false)
  | .dic a i, e => (match e with
    | .Subscript (.Call (.Name x _) [y] [] _) (.Name z _) _ => c.calm && okFree S c x "dict" && okVar c i z && okE c a y && notStar y
    | _ => false)
  | .tcmp op a b, e => (match e with
    | .Compare x [o] [y] _ => c.calm && (op == .eq || op == .ne) && okCop op o && okE c a x && okE c b y
    | _ => false)
  | .range _, _ => false
  | .enum _, _ => false
  | .zip _, _ => false
  | .seq _, _ => false
def okL (c : SC) : List Tm → List Expr → Bool
  | [], es => es.isEmpty
  | t :: ts, es => (match es with
    | e :: es => okE c t e && notStar e && okL c ts es
    | [] => false)
def okO (c : SC) : Option Tm → Option Expr → Bool
  | none, e => e.isNone
  | some t, e => (match e with
    | some e => okE c t e
    | none => false)
def okC (c : SC) : Option Tm → Expr → Bool
  | none, _ => false
  | some t, e => okE c t e
def okI (c : SC) : Tm → Expr → Bool
  | .range args, e => (match e with
    | .Call (.Name x _) es [] _ => okFree S c x "range" && okL c args es && decide (es.length ≤ 2) && !es.isEmpty
    | _ => false)
  | .enum a, e => (match e with
    | .Call (.Name x _) [y] [] _ => okFree S c x "enumerate" && okE c a y && notStar y
    | _ => false)
  | .zip as, e => (match e with
    | .Call (.Name x _) es [] _ => okFree S c x "zip" && okL c as es && decide (es.length = 2)
    | _ => false)
  | .seq a, e => okE c a e
  | _, _ => false
end
end
end Dp
end SDp5
set_option maxHeartbeats 4000000
/-! Dp6: what loops walk. -/
noncomputable section SDp6
namespace Dp
open PySem PySem.Spec PyProof.Rows L2

/-- a list (true) | a tuple (false) that is read -/
def Sq (k : Bool) (K : PySem.W.Frag) (H : Hp) (a : Addr) (xs : List V) : Prop := if k then SqL K H a xs else SqT K H a xs
def isIt (k : Bool) (h : Heap) (it a : Addr) (i : Nat) : Prop := if k then h.IsListIter it a i else h.IsTupleIter it a i
def isSq (k : Bool) (h : Heap) (a : Addr) (items : Array Value) : Prop := if k then h.IsList a items else h.IsTuple a items
def itObj (k : Bool) (a : Addr) : Obj := if k then { cls := .type "list_iterator", data := .fields #[.ref a, .int 0 0] } else { cls := .type "tuple_iterator", data := .fields #[.ref a, .int 0 0] }
theorem draws_sq {prog : Program} {w : World} {A : Around} (k : Bool) (hh : A.handled = none) (it l : Addr) (hne : l ≠ it) (items : Array Value) :
    Draws prog w A it [it, l] items.size (fun i v => items[i]? = some v) (fun i h => isIt k h it l i ∧ isSq k h l items) := by
  cases k with
  | true => exact Draws.list hh it l hne items
  | false => exact Draws.tuple hh it l hne items
theorem begins_sq (k : Bool) (l : Addr) (items : Array Value) : Begins (.ref l) (itObj k l) fun h => isSq k h l items := by
  cases k with
  | true => exact begins_list l items
  | false => exact begins_tuple l items
theorem isIt_at {k : Bool} {h h' : Heap} {it a : Addr} {i : Nat} (x : isIt k h it a i) (e : ∀ o, h.get? it = some o → h'.get? it = some o) : isIt k h' it a i := by
  cases k with
  | true => exact Heap.IsListIter.at (show h.IsListIter it a i from x) e
  | false => exact Heap.IsTupleIter.at (show h.IsTupleIter it a i from x) e
theorem isIt_obj {k : Bool} {h : Heap} {it a : Addr} {i : Nat} (x : isIt k h it a i) : ∃ o, h.get? it = some o ∧ ∀ v, o.data ≠ .cell v := by
  cases k with
  | true =>
    obtain ⟨o, e, c, d⟩ := (show h.IsListIter it a i from x)
    exact ⟨o, e, fun v z => by rw [d] at z; cases z⟩
  | false =>
    obtain ⟨o, e, c, d⟩ := (show h.IsTupleIter it a i from x)
    exact ⟨o, e, fun v z => by rw [d] at z; cases z⟩
theorem isIt_new {k : Bool} {h : Heap} {it a : Addr} (e : h.get? it = some (itObj k a)) : isIt k h it a 0 := by
  cases k with
  | true => exact (show h.IsListIter it a 0 from ⟨_, e, rfl, rfl⟩)
  | false => exact (show h.IsTupleIter it a 0 from ⟨_, e, rfl, rfl⟩)
section
variable {X : Cx} {pins : List (Addr × Obj)} {σ : L2.St} {H : Hp} {s : Shared}
theorem inv_sq {k : Bool} (I : Inv X pins σ H s) {a : Addr} {xs : List V} (h : Sq k X.K H a xs) : ∃ its : List Value, Vals xs its ∧ isSq k s.heap a its.toArray ∧ xs.length ≤ sizeLine := by
  cases k with
  | true =>
    obtain ⟨its, r, p, z⟩ := I.list (show SqL X.K H a xs from h)
    exact ⟨its, r, p.isList, z⟩
  | false =>
    obtain ⟨its, r, p, z⟩ := I.tuple (show SqT X.K H a xs from h)
    exact ⟨its, r, p, z⟩
theorem sq_inj {k : Bool} (I : Inv X pins σ H s) {a : Addr} {xs ys : List V} (h : Sq k X.K H a xs) (h' : Sq k X.K H a ys) : xs = ys := by
  cases k with
  | true => exact I.list_inj (show SqL X.K H a xs from h) h'
  | false => exact I.tuple_inj (show SqT X.K H a xs from h) h'
end

/-- Turn from the library's walk over tuples -/
theorem turn_walk {P : Program} {w : World} {K : PySem.W.Frag} {elts : List Expr} {kk : Nat} {tpos : Pos} {J : It} {fp : List Addr} {e : Addr} {tn : Nat → Heap → Prop} (mem : e ∈ fp)
    (obj : ∀ i h, tn i h → ∀ b ∈ fp, ∃ o, h.get? b = some o ∧ ∀ v, o.data ≠ .cell v)
    (keep : ∀ i h h', tn i h → (∀ b ∈ fp, ∀ o, h.get? b = some o → h'.get? b = some o) → tn i h')
    (mk : ∀ (X : Cx), X.prog = P → X.w = w → X.K = K → X.calm = true → ∀ (i : Nat) (pins : List (Addr × Obj)) (s : Shared) (σ : L2.St) (H : Hp), Inv X pins σ H s → (∀ b ∈ fp, FpOk X pins H b) → tn i s.heap → (J.go i H ∨ J.stop i H) →
      ∃ fp' wr n Pt St Mid, WalksT P w X.A e fp' wr n Pt St Mid ∧ St i s.heap ∧ (∀ b ∈ wr, b ∈ fp) ∧ (∀ h, St (i + 1) h → tn (i + 1) h) ∧ (J.go i H → i < n) ∧ (J.stop i H → St n s.heap) ∧
        (J.go i H → ∀ vals, Pt i vals → ∃ vs, Vals vs vals.toList ∧ vs.length ≤ sizeLine ∧ ∀ T, H T = none → J.yld i H (.ref T) (upd H T (.tup vs))))
    (self : ∀ (A : Around) (i : Nat) (s : Shared) (Q : Value → Shared → Prop) (E : Value → Shared → Prop), tn i s.heap → Q (.ref e) s → wpAny (model P w) A (pyIter (.ref e)) Q E s) :
    Turn P w K (.Tuple elts kk tpos) J fp e tn where
  mem := mem
  obj := obj
  keep := keep
  item := by
    intro X hP hw hK hc i pins s σ H E I hf st hg
    obtain ⟨fp', wr, n, Pt, St, Mid, W, h0, hwr, h1, hn, _, hy⟩ := mk X hP hw hK hc i pins s σ H I hf st (.inl hg)
    subst hP hw
    refine W.item i s _ _ (hn hg) h0 fun T vals h' tk hPt hT hTup hM hk => ?_
    refine ⟨_, rfl, W.go elts kk tpos i T { s with heap := h', toks := tk } _ _ hM fun h'' hS hk' => ?_⟩
    obtain ⟨vs, rv, hl, hy⟩ := hy hg vals hPt
    have hn' : H T = none := I.hok.fresh hT
    have hTup2 : h''.IsTuple T vals := hTup.at fun o q => hk' T o (W.apart i T h' hM) q
    have new : ObjOk X.prog X.w (upd H T (.tup vs)) h'' T (.tup vs) := ⟨hl, vals.toList, rv, by rw [Array.toArray_toList]; exact hTup2⟩
    have I1 : Inv X pins σ (upd H T (.tup vs)) { s with heap := h'', toks := tk } :=
      I.turnedNew (ch := fp) (fun c o hb q => hk' c o (fun z => hb (hwr c z)) (hk c o (fun z => hb (hwr c z)) q)) hf hT new
    refine ⟨.ref T, _, I1, rfl, hy T hn', h1 _ hS, fun b hb => ?_⟩
    obtain ⟨o, eo, _⟩ := obj i _ st b hb
    have : b < s.heap.objs.size := Heap.lt_size eo
    rw [upd_ne (Nat.ne_of_lt (Nat.lt_of_lt_of_le this hT))]
    exact (hf b hb).1
  done := by
    intro X hP hw hK hc i pins s σ H E I hf st hg
    obtain ⟨fp', wr, n, Pt, St, Mid, W, h0, hwr, h1, _, hn, _⟩ := mk X hP hw hK hc i pins s σ H I hf st (.inr hg)
    subst hP hw
    exact W.done s _ _ (hn hg) fun h' tk hk => ⟨rfl, I.turnedL (ch := fp) (fun c o hb q => hk c o (fun z => hb (hwr c z)) q) hf⟩
  self := self
/-! ### enumerate -/
theorem IsEnum_obj {h : Heap} {e it : Addr} {i : Int} {old : Value} (x : IsEnum h e it i old) : ∃ o, h.get? e = some o ∧ ∀ v, o.data ≠ .cell v := ⟨_, x, fun v z => nomatch z⟩
def ItE (k : Bool) (K : PySem.W.Frag) (a : Addr) : It :=
  ⟨fun i H => ∃ (xs : List V) (x : V), Sq k K H a xs ∧ xs[i]? = some x, fun i H v H' => ∃ T x, v = .ref T ∧ H T = none ∧ H' = upd H T (.tup [.int (i : Nat), x]) ∧ ∀ xs, Sq k K H a xs → xs[i]? = some x, fun i H => ∃ xs : List V, Sq k K H a xs ∧ xs.length = i⟩
theorem turn_enumD {P : Program} {w : World} {K : PySem.W.Frag} {elts : List Expr} {kk : Nat} {tpos : Pos} (k : Bool) (a e it : Addr) (hei : e ≠ it) (hne : a ≠ it) (hae : a ≠ e) :
    Turn P w K (.Tuple elts kk tpos) (ItE k K a) [e, it] e (fun i h => (∃ old, IsEnum h e it ((i : Nat) : Int) old) ∧ isIt k h it a i) := by
  refine turn_walk (by simp) (fun i h st b hb => ?_) (fun i h h' st q => ?_) (fun X hP hw hK hc i pins s σ H I hf st hg => ?_) (fun A i s Q E st h => let ⟨⟨_, he⟩, _⟩ := st; wpAny_pyIter_enum he h)
  · obtain ⟨⟨old, he⟩, hi⟩ := st
    have e' : b = e ∨ b = it := by simpa using hb
    rcases e' with z | z
    · rw [z]; exact IsEnum_obj he
    · rw [z]; exact isIt_obj hi
  · obtain ⟨⟨old, he⟩, hi⟩ := st
    exact ⟨⟨old, q e (by simp) _ he⟩, isIt_at hi fun o z => q it (by simp) o z⟩
  · subst hP hw hK
    obtain ⟨⟨old, he⟩, hi⟩ := st
    obtain ⟨xs, hq⟩ : ∃ xs, Sq k X.K H a xs := by
      rcases hg with ⟨xs, x, hq, _⟩ | ⟨xs, hq, _⟩
      · exact ⟨xs, hq⟩
      · exact ⟨xs, hq⟩
    obtain ⟨its, rv, p, hz⟩ := inv_sq I hq
    have hh : X.A.in1.handled = none := I.ok.hd hc
    have hl := rv.length
    refine ⟨_, _, _, _, _, _, WalksT.enumFrom 0 (draws_sq (prog := X.prog) (w := X.w) k hh it a hne its.toArray) e hei (by simp [hei, Ne.symm hae]) (by simp), ⟨⟨old, by rw [Int.zero_add]; exact he⟩, hi, p⟩, fun b hb => hb,
      fun h st => ⟨?_, st.2.1⟩, fun ⟨ys, x, hy, hx⟩ => ?_, fun ⟨ys, hy, hx⟩ => ⟨⟨old, ?_⟩, ?_, p⟩, fun ⟨ys, x, hy, hx⟩ vals hv => ?_⟩
    · obtain ⟨old, q⟩ := st.1
      rw [Int.zero_add] at q
      exact ⟨old, q⟩
    · rw [sq_inj I hy hq] at hx
      have := (List.getElem?_eq_some_iff.mp hx).1
      rw [List.size_toArray]; omega
    · have : its.toArray.size = i := by rw [List.size_toArray, ← hl, ← hx, sq_inj I hy hq]
      rw [this, Int.zero_add]; exact he
    · have : its.toArray.size = i := by rw [List.size_toArray, ← hl, ← hx, sq_inj I hy hq]
      rw [this]; exact hi
    · obtain ⟨t, u, hu, rfl⟩ := hv
      rw [sq_inj I hy hq] at hx
      obtain ⟨u', hu', ru⟩ := rv.get hx
      have : u = u' := by
        have hu2 : its[i]? = some u := by simpa using hu
        rw [hu2] at hu'; exact Option.some.inj hu'
      subst this
      refine ⟨[.int (i : Nat), x], .cons ⟨t, by rw [Int.zero_add]⟩ (.cons ru .nil), by rw [sizeLine_eq]; simp, fun T hT => ⟨T, x, rfl, hT, rfl, fun zs hz => by rw [sq_inj I hz hq]; exact hx⟩⟩
def iEnumD (K : PySem.W.Frag) (ta : TA) : TI := fun σ H R => ta σ H fun vs H1 => ∃ k a xs, vs = [.ref a] ∧ Sq k K H1 a xs ∧ (xs.length ≤ sizeLine → R (ItE k K a) H1)
theorem meets_enumerate_newB1 {v : Value} {o : Obj} {H : Heap → Prop} (B : Begins v o H) :
    Meets (Builtin.«enumerate.__new__» ⟨[.type "enumerate", v], []⟩) (fun _ R s => H s.heap ∧
      R (.ok (.ret (.ref (s.heap.push o).objs.size))) { s with heap := (s.heap.push o).push { cls := .type "enumerate", data := .fields #[.none, .bool false, .ref s.heap.objs.size, rawInt 0, .none, .none] } }) :=
  .of_wp fun prog w A R s h => by
    obtain ⟨hp, g, d, tk, os⟩ := s; obtain ⟨h1, h⟩ := h
    have hsub := sub_enumerate
    have q1 : ∀ {A' : Around} {E : Value → Shared → Prop} {Q : Value → Shared → Prop}, Q (.ref hp.objs.size) ⟨hp.push o, g, d, tk, os⟩ → wpAny (model prog w) A' (pyIter v) Q E ⟨hp, g, d, tk, os⟩ :=
      fun q => B.iter prog w _ _ ⟨hp, g, d, tk, os⟩ _ h1 q
    wp_walk using q1
    refine wpAny_stack_any fun st => wpAny_pure ?_
    split
    · rename_i c _ _ _ _ _
      cases (c == Value.type "enumerate")
      · wp_walk using q1
        exact ⟨_, rfl, h⟩
      · wp_walk using q1
        exact ⟨_, rfl, h⟩
    · wp_walk using q1
      exact ⟨_, rfl, h⟩
theorem enum_begins1 {prog : Program} {w : World} {A : Around} {E : Value → Shared → Prop} {s : Shared} {v : Value} {o : Obj} {H : Heap → Prop} {Q : Value → Shared → Prop} (B : Begins v o H) (h1 : H s.heap)
    (h : ∀ h', IsEnum h' (s.heap.objs.size + 1) s.heap.objs.size 0 .none → h'.get? s.heap.objs.size = some o → h'.objs.size = s.heap.objs.size + 2 →
      (∀ b o, s.heap.get? b = some o → h'.get? b = some o) → Q (.ref (s.heap.objs.size + 1)) { s with heap := h' }) :
    wpAny (model prog w) A (call (.type "enumerate") [v]) Q E s := by
  refine callType_new F.called_enumerate (by decide) (F.typeCall_enumerate_1 _) (F.newCall_enumerate_1 _) (fun obj => F.args_object_init_2 obj _) F.entry_enumerate_new
    (meets_enumerate_newB1 B) ⟨h1, ?_⟩
  have hz : (s.heap.push o).objs.size = s.heap.objs.size + 1 := Heap.size_push ..
  show _ ∧ _
  rw [hz]
  have he : IsEnum ((s.heap.push o).push { cls := .type "enumerate", data := .fields #[.none, .bool false, .ref s.heap.objs.size, rawInt 0, .none, .none] }) (s.heap.objs.size + 1) s.heap.objs.size 0 .none := by
    have := Heap.get?_push_size (s.heap.push o) (o := { cls := .type "enumerate", data := .fields #[.none, .bool false, .ref s.heap.objs.size, rawInt 0, .none, .none] }) rfl
    rw [hz] at this; exact this
  refine ⟨⟨_, he, rfl⟩, h _ he (Heap.get?_push_of_some _ (Heap.get?_push_size _ B.free)) (by rw [Heap.size_push, hz]) fun b o x => Heap.get?_push_of_some _ (Heap.get?_push_of_some _ x)⟩
theorem pi_enumD {X : Cx} {e : Expr} {ta : TA} {p pos tpos : Pos} {elts : List Expr} {kk : Nat} (hg : Gl X "enumerate") (hm : X.mg "enumerate" = none) (ha : PA X [e] ta) (hs : starEach [e] X.env = [(false, eval e X.env)]) :
    PI X (.Tuple elts kk tpos) (.Call (.Name "enumerate" p) [e] [] pos) (iEnumD X.K ta) := by
  refine ⟨fun pins s σ H R I h => ?_⟩
  refine Call_ (ld_blt I hg hm PyProof.Rows.boot_enumerate (PyProof.Rows.callWith_type1 (thn (ha.run pos pins s σ H _ I h) fun us s1 ⟨vs, H1, I1, r1, q1⟩ => ?_) hs rfl))
  obtain ⟨k, a, xs, ex, hq, q⟩ := q1
  subst ex
  cases r1 with
  | cons r rr =>
    cases rr
    cases r
    obtain ⟨its, rv, p', hz⟩ := inv_sq I1 hq
    have hal : a < s1.heap.objs.size := by
      cases k with
      | true => obtain ⟨o, e, _⟩ := (show s1.heap.IsList a its.toArray from p'); exact Heap.lt_size e
      | false => obtain ⟨o, e, _⟩ := (show s1.heap.IsTuple a its.toArray from p'); exact Heap.lt_size e
    refine enum_begins1 (begins_sq k a its.toArray) p' fun h' he hit hsz hk => wpAny_pyIter_enum he ?_
    have I2 : Inv X pins σ H1 { s1 with heap := h' } := I1.kept (t' := s1.toks) hk
    refine ⟨s1.heap.objs.size + 1, [s1.heap.objs.size + 1, s1.heap.objs.size], _, _, H1, rfl, I2, turn_enumD k a (s1.heap.objs.size + 1) s1.heap.objs.size (Nat.succ_ne_self _) (Nat.ne_of_lt hal) (Nat.ne_of_lt (Nat.lt_succ_of_lt hal)), ⟨⟨.none, he⟩, isIt_new hit⟩, fun b hb => ?_, q hz⟩
    have e' : b = s1.heap.objs.size + 1 ∨ b = s1.heap.objs.size := by simpa using hb
    have hle : s1.heap.objs.size ≤ b := by
      rcases e' with z | z
      · rw [z]; exact Nat.le_add_right _ _
      · rw [z]; exact Nat.le_refl _
    exact I1.fpOk hle (I1.hok.fresh hle)

/-! ### zip of two -/
def ItZ (k1 k2 : Bool) (K : PySem.W.Frag) (a b : Addr) : It :=
  ⟨fun i H => ∃ (xs ys : List V) (x y : V), Sq k1 K H a xs ∧ Sq k2 K H b ys ∧ xs[i]? = some x ∧ ys[i]? = some y,
    fun i H v H' => ∃ T x y, v = .ref T ∧ H T = none ∧ H' = upd H T (.tup [x, y]) ∧ (∀ xs, Sq k1 K H a xs → xs[i]? = some x) ∧ ∀ ys, Sq k2 K H b ys → ys[i]? = some y,
    fun i H => ∃ xs ys : List V, Sq k1 K H a xs ∧ Sq k2 K H b ys ∧ min xs.length ys.length = i⟩
theorem turn_zipD {P : Program} {w : World} {K : PySem.W.Frag} {elts : List Expr} {kk : Nat} {tpos : Pos} (k1 k2 : Bool) {a b z TI TO i1 i2 : Addr} (S : ZipSep2 z TI TO i1 i2 [i1, a] [i2, b]) (n1 : a ≠ i1) (n2 : b ≠ i2) :
    Turn P w K (.Tuple elts kk tpos) (ItZ k1 k2 K a b) [z, TI, TO, i1, i2] z (fun i h => IsZip h z TI TO .none ∧ IsTupOf2 h TI (.ref i1) (.ref i2) ∧ (∃ x y, IsTupOf2 h TO x y) ∧ isIt k1 h i1 a i ∧ isIt k2 h i2 b i) := by
  refine turn_walk (by simp) (fun i h st c hc => ?_) (fun i h h' st q => ?_) (fun X hP hw hK hc i pins s σ H I hf st hg => ?_) (fun A i s Q E st h => wpAny_pyIter_zip st.1 h)
  · obtain ⟨hz, hTI, ⟨x, y, hTO⟩, h1, h2⟩ := st
    have e' : c = z ∨ c = TI ∨ c = TO ∨ c = i1 ∨ c = i2 := by simpa using hc
    rcases e' with q | q | q | q | q
    · rw [q]; exact ⟨_, hz, fun v q => nomatch q⟩
    · rw [q]; exact ⟨_, hTI, fun v q => nomatch q⟩
    · rw [q]; exact ⟨_, hTO, fun v q => nomatch q⟩
    · rw [q]; exact isIt_obj h1
    · rw [q]; exact isIt_obj h2
  · obtain ⟨hz, hTI, ⟨x, y, hTO⟩, h1, h2⟩ := st
    exact ⟨q z (by simp) _ hz, q TI (by simp) _ hTI, ⟨x, y, q TO (by simp) _ hTO⟩, isIt_at h1 fun o y => q i1 (by simp) o y, isIt_at h2 fun o y => q i2 (by simp) o y⟩
  · subst hP hw hK
    obtain ⟨hz, hTI, hTO, h1, h2⟩ := st
    obtain ⟨xs, ys, hqx, hqy⟩ : ∃ xs ys, Sq k1 X.K H a xs ∧ Sq k2 X.K H b ys := by
      rcases hg with ⟨xs, ys, _, _, hx, hy, _⟩ | ⟨xs, ys, hx, hy, _⟩
      · exact ⟨xs, ys, hx, hy⟩
      · exact ⟨xs, ys, hx, hy⟩
    obtain ⟨its, rv, p, _⟩ := inv_sq I hqx
    obtain ⟨its2, rv2, p2, _⟩ := inv_sq I hqy
    have hh : X.A.in1.handled = none := I.ok.hd hc
    have hl := rv.length
    have hl2 := rv2.length
    refine ⟨_, _, _, _, _, _, WalksT.zipD2 S (draws_sq (prog := X.prog) (w := X.w) k1 hh i1 a n1 its.toArray) (draws_sq (prog := X.prog) (w := X.w) k2 hh i2 b n2 its2.toArray), ⟨hz, hTI, hTO, ⟨h1, p⟩, ⟨h2, p2⟩⟩, fun c hc => ?_,
      fun h st => ⟨st.1, st.2.1, st.2.2.1, st.2.2.2.1.1, st.2.2.2.2.1⟩, fun ⟨us, ws, x, y, hx, hy, ex, ey⟩ => ?_, fun ⟨us, ws, hx, hy, e⟩ => ?_, fun ⟨us, ws, x, y, hx, hy, ex, ey⟩ vals hv => ?_⟩
    · have e' : c = z ∨ c = TO ∨ c = i1 ∨ c = i2 := by simpa using hc
      rcases e' with q | q | q | q <;> simp [q]
    · rw [sq_inj I hx hqx] at ex
      rw [sq_inj I hy hqy] at ey
      have := (List.getElem?_eq_some_iff.mp ex).1
      have := (List.getElem?_eq_some_iff.mp ey).1
      rw [List.size_toArray, List.size_toArray]; omega
    · have : min its.toArray.size its2.toArray.size = i := by rw [List.size_toArray, List.size_toArray, ← hl, ← hl2, ← e, sq_inj I hx hqx, sq_inj I hy hqy]
      rw [this]
      exact ⟨hz, hTI, hTO, ⟨h1, p⟩, ⟨h2, p2⟩⟩
    · obtain ⟨u, u2, hu, hu2, rfl⟩ := hv
      rw [sq_inj I hx hqx] at ex
      rw [sq_inj I hy hqy] at ey
      obtain ⟨u', hu', ru⟩ := rv.get ex
      obtain ⟨u2', hu2', ru2⟩ := rv2.get ey
      have e1 : u = u' := by
        have hu2 : its[i]? = some u := by simpa using hu
        rw [hu2] at hu'; exact Option.some.inj hu'
      have e2 : u2 = u2' := by
        have hu2 : its2[i]? = some u2 := by simpa using hu2
        rw [hu2] at hu2'; exact Option.some.inj hu2'
      subst e1 e2
      exact ⟨[x, y], .cons ru (.cons ru2 .nil), by rw [sizeLine_eq]; simp, fun T hT => ⟨T, x, y, rfl, hT, rfl, fun zs hz => by rw [sq_inj I hz hqx]; exact ex, fun zs hz => by rw [sq_inj I hz hqy]; exact ey⟩⟩
def iZipD (K : PySem.W.Frag) (ta : TA) : TI := fun σ H R => ta σ H fun vs H1 => ∃ k1 k2 a b xs ys, vs = [.ref a, .ref b] ∧ Sq k1 K H1 a xs ∧ Sq k2 K H1 b ys ∧ (xs.length ≤ sizeLine → R (ItZ k1 k2 K a b) H1)
theorem isSq_lt {k : Bool} {h : Heap} {a : Addr} {its : Array Value} (p : isSq k h a its) : a < h.objs.size := by
  cases k with
  | true => obtain ⟨o, e, _⟩ := (show h.IsList a its from p); exact Heap.lt_size e
  | false => obtain ⟨o, e, _⟩ := (show h.IsTuple a its from p); exact Heap.lt_size e
theorem pi_zipD {X : Cx} {e e2 : Expr} {ta : TA} {p pos tpos : Pos} {elts : List Expr} {kk : Nat} (hg : Gl X "zip") (hm : X.mg "zip" = none) (ha : PA X [e, e2] ta)
    (hs : starEach [e, e2] X.env = (false, eval e X.env) :: starEach [e2] X.env) (hpl : (backTo pos (starEach [e2] X.env)).any (·.1) = false) :
    PI X (.Tuple elts kk tpos) (.Call (.Name "zip" p) [e, e2] [] pos) (iZipD X.K ta) := by
  refine ⟨fun pins s σ H R I h => ?_⟩
  refine Call_ (ld_blt I hg hm PyProof.Rows.boot_zip (PyProof.Rows.callWith_type1 (thn (ha.run pos pins s σ H _ I h) fun us s1 ⟨vs, H1, I1, r1, q1⟩ => ?_) hs hpl))
  obtain ⟨k1, k2, a, b, xs, ys, ex, hqx, hqy, q⟩ := q1
  subst ex
  cases r1 with
  | cons r rr =>
    cases rr with
    | cons r' rr =>
      cases rr
      cases r
      cases r'
      obtain ⟨its, rv, p1, hz⟩ := inv_sq I1 hqx
      obtain ⟨its2, rv2, p2, _⟩ := inv_sq I1 hqy
      have hal := isSq_lt p1
      have hbl := isSq_lt p2
      refine zip_begins2 (begins_sq k1 a its.toArray) (begins_sq k2 b its2.toArray) p1 p2 fun h' hzz hTI hTO g1 g2 hsz hk => wpAny_pyIter_zip hzz ?_
      have I2 : Inv X pins σ H1 { s1 with heap := h' } := I1.kept (t' := s1.toks) hk
      have S := zip_sep2 (N := s1.heap.objs.size) (fp1 := [a]) (fp2 := [b]) (by simpa using hal) (by simpa using hbl)
      refine ⟨s1.heap.objs.size + 4, [s1.heap.objs.size + 4, s1.heap.objs.size + 2, s1.heap.objs.size + 3, s1.heap.objs.size, s1.heap.objs.size + 1], _, _, H1, rfl, I2, turn_zipD k1 k2 S (Nat.ne_of_lt hal) (Nat.ne_of_lt (Nat.lt_succ_of_lt hbl)), ⟨hzz, hTI, ⟨_, _, hTO⟩, isIt_new g1, isIt_new g2⟩, fun c hcm => ?_, q hz⟩
      have e' : c = s1.heap.objs.size + 4 ∨ c = s1.heap.objs.size + 2 ∨ c = s1.heap.objs.size + 3 ∨ c = s1.heap.objs.size ∨ c = s1.heap.objs.size + 1 := by simpa using hcm
      have hle : s1.heap.objs.size ≤ c := by
        rcases e' with z | z | z | z | z
        · rw [z]; exact Nat.le_add_right _ _
        · rw [z]; exact Nat.le_add_right _ _
        · rw [z]; exact Nat.le_add_right _ _
        · rw [z]; exact Nat.le_refl _
        · rw [z]; exact Nat.le_add_right _ _
      exact I1.fpOk hle (I1.hok.fresh hle)
end Dp
end SDp6
set_option maxHeartbeats 4000000
/-! Dp7: calls; what the text's defs and classes are. -/
noncomputable section SDp7
namespace Dp
open PySem PySem.Spec PyProof.Rows L2

/-! ### the frame's own objects seen from a callee -/
def oadd (O : Addr → Prop) (L : List (Nat × Addr)) : Addr → Prop := fun a => O a ∨ a ∈ L.map (·.2)
theorem Mb_add (O : Addr → Prop) (κ : List Addr) (L : List (Nat × Addr)) : Mb (oadd O L) κ [] = Mb O κ L := by
  funext a
  apply propext
  unfold Mb oadd
  simp only [List.map_nil, List.not_mem_nil, or_false]
  constructor
  · rintro ((h | h) | h)
    · exact .inl h
    · exact .inr (.inr h)
    · exact .inr (.inl h)
  · rintro (h | h | h)
    · exact .inl (.inl h)
    · exact .inr h
    · exact .inl (.inr h)
theorem imm_add (O : Addr → Prop) (κ : List Addr) (L : List (Nat × Addr)) (H : Hp) : imm (oadd O L) κ [] H = imm O κ L H := by unfold imm; rw [Mb_add]
section
variable {Γ : Glob} {W : XK} {O : Addr → Prop} {κ κ' : List Addr} {L : List (Nat × Addr)} {H H' : Hp} {st st' : Sto}
theorem Ok.give (o : Ok Γ O κ L H st) : Ok Γ (oadd O L) κ [] H st := by
  have nd := List.nodup_append.mp o.nd
  refine ⟨by simpa using nd.1, fun a ha => ?_, fun a ha => ?_, o.len, fun n a s h1 h2 => ?_, fun p hp => nomatch hp⟩
  · have ha' : a ∈ κ := by simpa using ha
    rintro (z | z)
    · exact o.ap a (List.mem_append_left _ ha') z
    · exact nd.2.2 a ha' a z rfl
  · rcases ha with z | z
    · exact o.oth a z
    · exact o.ownS a z
  · rw [imm_add]; exact o.st n a s h1 h2
theorem Nx.back (n : Nx (oadd O L) κ [] H κ' H') : Nx O κ L H κ' H' :=
  ⟨n.pre, fun a o e h => n.imm a o e (by rw [Mb_add]; exact h), fun a h => n.oth a (.inl h), fun a h => n.oth a (.inr h), n.new⟩
theorem Ok.back (o : Ok Γ O κ L H st) (n : Nx (oadd O L) κ [] H κ' H') (o' : Ok Γ (oadd O L) κ' [] H' st') : Ok Γ O κ' L H' st' := by
  have nd := List.nodup_append.mp o.nd
  refine ⟨List.nodup_append.mpr ⟨by simpa using o'.nd, nd.2.1, fun a ha b hb e => ?_⟩, fun a ha => ?_, fun a h => o'.oth a (.inl h), o'.len, fun k a s h1 h2 => ?_, fun p hp => o'.oth p.2 (.inr (List.mem_map.mpr ⟨p, hp, rfl⟩))⟩
  · subst e
    exact o'.ap a (by simpa using ha) (.inr hb)
  · rcases List.mem_append.mp ha with z | z
    · exact fun q => o'.ap a (by simpa using z) (.inl q)
    · exact o.ap a (List.mem_append_right _ z)
  · rw [← imm_add]; exact o'.st k a s h1 h2
theorem fin.give {α : Type} {r : Res α} {P : α → Sto → List Addr → Hp → Prop} (o : Ok Γ O κ L H st) (h : fin Γ W O κ L H r P) : fin Γ W (oadd O L) κ [] H r P := by
  cases r with
  | ok a st' => exact fun κ2 H2 n2 o2 => h κ2 H2 n2.back (o.back n2 o2)
  | exc c fs st' => exact fun κ2 H2 cls dd n2 o2 x => h κ2 H2 cls dd n2.back (o.back n2 o2) (by rw [imm_add] at x; exact x)
  | stuck => exact h
end

/-- what a def of the text promises: it does F -/
def spD (Γ : Glob) (F : List D → Sto → Res D) (np : Nat) : Sp := fun vs H Q E => vs.length = np ∧ ∃ O κ ds st, Ok Γ O κ [] H st ∧ Reps Γ κ (imm O κ [] H) vs ds ∧
  fin Γ E O κ [] H (F ds st) fun d _ κ' H' => ∀ v, Rep Γ κ' (imm O κ' [] H') v d → Q v H'
/-- what a class's __init__ promises: the object is made -/
def spM (Γ : Glob) (c : String) (F : List D → Sto → Res D) (np : Nat) : Sp := fun vs H Q E => vs.length = np ∧ ∃ x dx rest H0 O κ ds st, vs = .ref x :: rest ∧ H = upd (upd H0 dx (.own x)) x (.ins (Γ.cls c) dx []) ∧ H0 x = none ∧ H0 dx = none ∧ dx ≠ x ∧
  Ok Γ O κ [] H0 st ∧ Reps Γ κ (imm O κ [] H0) rest ds ∧ fin Γ E O κ [] H0 (F ds st) fun d _ κ' H' => Rep Γ κ' (imm O κ' [] H') (.ref x) d → Q .non H'

/-- a def at a -/
def FnAt (X : Cx) (k : Nat) (a : Addr) (sp : Sp) : Prop := ∃ fd ps, PySem.W.keepIn X.K (.ref a) = true ∧ Binds X.K fd ps [] ∧ FnOk X.prog X.w X.K X.mg X.base (CX X.prog X.w) k a fd ps sp
/-- a def at a, also while an exception is being handled -/
def FnQt (X : Cx) (k : Nat) (a : Addr) (sp : Sp) : Prop := ∃ fd ps, Binds X.K fd ps [] ∧ FnQ X.prog X.w X.K X.mg X.base (CX X.prog X.w) k a fd ps sp
/-- what the text tells, where X stands -/
structure Uni (Γ : Glob) (S : Stat) (P : Prog) (R : String → List D → Sto → Res D) (k : Nat) (X : Cx) : Prop where
  K : X.K = Γ.K
  hu : X.A.units + 70 < cLine
  room : X.calm = true → Room (k + 1) X.A
  pf : P.fields = Γ.fields
  px : P.xfields = Γ.xfields
  free : ∀ n, S.frees.contains n = true → X.mg (Str.ofString n) = none
  con : ∀ n, S.consts.contains n = true → ∃ d u v, P.consts n = some d ∧ X.mg (Str.ofString n) = some u ∧ RelV v u ∧ ∀ κ I, Rep Γ κ I v d
  fn : ∀ f, S.funs.contains f = true → ∃ a, X.mg (Str.ofString f) = some (.ref a) ∧ Γ.fnAt f = some a
  fnAt : X.calm = true → ∀ f a, Γ.fnAt f = some a → ∃ np, FnAt X k a (spD Γ (R f) np) ∧ ∀ ds st, R f ds st ≠ .stuck → ds.length = np
  clsV : ∀ C, S.clss.contains C = true → X.mg (Str.ofString C) = some (.ref (Γ.cls C))
  cls : X.calm = true → ∀ C, S.clss.contains C = true → ∃ fI np, Mk X.K (Γ.cls C) fI ∧ FnAt X k fI (spM Γ C (R C) np) ∧ ∀ ds st, R C ds st ≠ .stuck → ds.length + 1 = np
  meth : X.calm = true → ∀ C m, P.isMeth C m = true → Cls X.K (Γ.cls C) ∧ (∀ f ∈ Γ.fields C, Str.ofString f ≠ Str.ofString m) ∧ ∃ g np, Meth X.K (Γ.cls C) (Str.ofString m) g ∧ FnAt X k g (spD Γ (R (C ++ "." ++ m)) np) ∧ ∀ ds st, R (C ++ "." ++ m) ds st ≠ .stuck → ds.length = np
  fld : ∀ C f, f ∈ Γ.fields C → Cls X.K (Γ.cls C) ∧ NoAttr X.K (Γ.cls C) (Str.ofString f)
  isi : ∀ C, S.clss.contains C = true → (∀ H (a dx : Addr) fs, H a = some (.ins (Γ.cls C) dx fs) → TyX X.K H (.ref a) (.ref (Γ.cls C))) ∧
    (∀ T, T ∈ ["NoneType", "bool", "int", "str", "list", "tuple"] → PySem.W.kitOne X.K (.type T) (.ref (Γ.cls C)) = some false ∧ PySem.W.kitOne X.K (.ref (Γ.cls C)) (.type T) = some false) ∧
    ∀ C', S.clss.contains C' = true → PySem.W.kitOne X.K (.ref (Γ.cls C)) (.ref (Γ.cls C')) = some (C == C')
  objs : ∀ C, Γ.isC C = true → S.clss.contains C = true
  exn : X.calm = false → ∃ a y, Γ.exn = some (a, some y) ∧ ∀ (C f : String) (e : Expr) (te : TE) (pos : Pos), y.1 = .ref (Γ.cls C) → Γ.isX C = true → f ∈ Γ.xfields C → notSuper e = true → PE X e te → PE X (.Attribute e (Str.ofString f) pos) (tXf a y.1 y.2 (Γ.cls C) (Str.ofString f) te)
  exn0 : X.calm = true → S.ini = false → Γ.exn = none
  eqm : ∀ C, P.isMeth C "__eq__" = true → PySem.W.findIn X.K (.ref (Γ.cls C)) "__ne__" = some (some (.builtin "object.__ne__")) ∧ PySem.W.mroIn X.K (Γ.cls C) (.type "object") = some true ∧
    ∀ tb, ((∃ T ∈ ["NoneType", "bool", "int", "str", "list", "tuple"], tb = .type T) ∨ ∃ C', S.clss.contains C' = true ∧ tb = .ref (Γ.cls C')) → PySem.W.notFirst X.K (Γ.cls C) tb = true
  finj : ∀ C f g, f ∈ Γ.fields C → g ∈ Γ.fields C → Str.ofString f = Str.ofString g → f = g
  hrm : X.calm = false → S.hlen = true → L2H.RoomH (k + 1) X.A
  hln : S.hlen = true → ∀ C, P.isMeth C "__len__" = true → ∃ g np, Meth X.K (Γ.cls C) "__len__" g ∧ FnQt X k g (spD Γ (R (C ++ "." ++ "__len__")) np) ∧ ∀ ds st, R (C ++ "." ++ "__len__") ds st ≠ .stuck → ds.length = np
structure CxOk (c : SC) (X : Cx) : Prop where
  N : X.N = c.N
  sc : X.env.scope = c.sc
  fn : X.fn = c.fn
  calm : X.calm = c.calm
  nd : c.N.Nodup

/-! ### argument lists -/
theorem star_cons {e : Expr} {es : List Expr} {env : Env} (h : notStar e = true) : starEach (e :: es) env = (false, eval e env) :: starEach es env := by
  cases e <;> first | rfl | exact absurd (show false = true from h) Bool.false_ne_true
theorem star_any {env : Env} {pos : Pos} : ∀ {es : List Expr}, (∀ e ∈ es, notStar e = true) → (backTo pos (starEach es env)).any (·.1) = false
  | [], _ => rfl
  | e :: es, h => by
    rw [star_cons (h e List.mem_cons_self)]
    show (false || (backTo pos (starEach es env)).any (·.1)) = false
    rw [star_any fun x hx => h x (List.mem_cons_of_mem _ hx)]
    rfl
theorem star_len {env : Env} : ∀ {es : List Expr}, (starEach es env).length = es.length
  | [] => rfl
  | e :: es => by
    cases e <;> (simp only [starEach, List.length_cons]; rw [star_len])

/-! ### calls -/
section
variable {X : Cx} {W : WX} {k : Nat} {f C : Addr} {fd : FuncData} {ps : List Str} {sp : Sp} {x m : Str} {p pos apos : Pos} {e o : Expr} {es : List Expr} {ta : TE} {t : TA}
theorem run_fnW {pins : List (Addr × Obj)} {σ : L2.St} {H : Hp} {s : Shared} {Q : VK} {us : List Value} {vs : List V} (F : FnOk X.prog X.w X.K X.mg X.base (CX X.prog X.w) k f fd ps sp) (hr : Room k X.A) (hb : Binds X.K fd ps []) (tk : Takes X W)
    (I : Inv X pins σ H s) (r : Vals vs us) (h : sp vs H Q fun c d H' => W c d σ H') : wpAny (model X.prog X.w) X.A (call (.ref f) us) (EP X pins σ Q) X.xe s := by
  have hl : (us ++ ([] : List Value)).length = ps.length := by rw [List.append_nil, ← r.length]; exact F.len _ _ _ _ h
  refine wpAny_call (codeAny_mono (F.run X.A X.stack s H ⟨us, []⟩ us vs Q _ hr I.env0 (by have := hb s us I.kIn hl; rwa [List.append_nil] at this) r h) fun r s' hq => ?_)
  cases r with
  | error e => exact tk e s' (XE.of_call I (fun _ _ _ z => z) hq)
  | ok fl =>
    cases fl with
    | ret u => exact I.after hq
    | next => exact False.elim hq
    | brk => exact False.elim hq
    | cont => exact False.elim hq
theorem run_makeW {pins : List (Addr × Obj)} {σ : L2.St} {H : Hp} {s : Shared} {Q : VK} {us : List Value} {vs : List V} (M : Mk X.K C f) (F : FnOk X.prog X.w X.K X.mg X.base (CX X.prog X.w) k f fd ps sp) (hr : Room (k + 1) X.A) (hb : Binds X.K fd ps [])
    (tk : Takes X W) (I : Inv X pins σ H s) (r : Vals vs us)
    (h : ∀ x dx, H x = none → H dx = none → dx ≠ x → sp (.ref x :: vs) (upd (upd H dx (.own x)) x (.ins C dx [])) (fun v H2 => v = .non ∧ Q (.ref x) H2) fun c d H' => W c d σ H') :
    wpAny (model X.prog X.w) X.A (call (.ref C) us) (EP X pins σ Q) X.xe s := by
  have hq := h (s.heap.objs.size + 1) s.heap.objs.size (I.hok.fresh (Nat.le_succ _)) (I.hok.fresh (Nat.le_refl _)) (Nat.ne_of_lt (Nat.lt_succ_self _))
  have I2 := Inv.made (C := C) I
  have r2 : Vals (V.ref (s.heap.objs.size + 1) :: vs) (Value.ref (s.heap.objs.size + 1) :: us) := .cons rfl r
  have hl : (Value.ref (s.heap.objs.size + 1) :: us ++ ([] : List Value)).length = ps.length := by
    rw [List.append_nil, ← r2.length, F.len _ _ _ _ hq]
  refine wpAny_call (make_map (f := f) I.kIn M.makes M.init (beq_iff_eq.mp M.fn) (codeAny_mono (F.run _ X.stack _ _ ⟨Value.ref (s.heap.objs.size + 1) :: us, []⟩ (Value.ref (s.heap.objs.size + 1) :: us) _ _ _ (hr.make C us [])
    (I2.env0.make C us []) (by have := hb { s with heap := (s.heap.push PySem.W.emptyDict).push (PySem.W.instObj C s.heap.objs.size) } (Value.ref (s.heap.objs.size + 1) :: us) I2.kIn hl; rwa [List.append_nil] at this) r2 hq) fun r s' hq' => ?_))
  cases r with
  | error e => exact tk e s' (XE.of_call I2 (fun _ _ _ z => z) hq')
  | ok fl =>
    cases fl with
    | ret u =>
      obtain ⟨v, H', I3, rv, ev, q3⟩ := I2.after hq'
      subst ev
      exact ⟨rv, ⟨V.ref (s.heap.objs.size + 1), H', I3, rfl, q3⟩⟩
    | next => exact False.elim hq'
    | brk => exact False.elim hq'
    | cont => exact False.elim hq'

/-- the arguments, then the callee -/
def tCallW (W : WX) (sp : Sp) (t : TA) : TE := fun σ H Q => t σ H fun vs H1 => sp vs H1 Q fun c d H' => W c d σ H'
def tMakeW (W : WX) (C : Addr) (sp : Sp) (t : TA) : TE := fun σ H Q => t σ H fun vs H1 => ∀ x dx, H1 x = none → H1 dx = none → dx ≠ x →
  sp (.ref x :: vs) (upd (upd H1 dx (.own x)) x (.ins C dx [])) (fun v H2 => v = .non ∧ Q (.ref x) H2) fun c d H' => W c d σ H'
/-- callWith a value of the text -/
theorem callWithD {pins : List (Addr × Obj)} {s : Shared} {σ : L2.St} {H : Hp} {Q : Value → Shared → Prop} {R : List V → Hp → Prop} {f : Value} {first : List Value} (I : Inv X pins σ H s) (hk : PySem.W.keepIn X.K f = true) (hst : ∀ e ∈ es, notStar e = true) (ha : PA X es t) (h : t σ H R)
    (hc : ∀ vs us H1 s1, Inv X pins σ H1 s1 → Vals vs us → R vs H1 → wpAny (model X.prog X.w) X.A (call f (first ++ us)) Q X.xe s1) :
    wpAny (model X.prog X.w) X.A (callWith pos f first (backTo pos (starEach es X.env)) (backToKw pos (keywordEach [] X.env))) Q X.xe s := by
  cases es with
  | nil =>
    -- no argument: the list is read off an empty one
    have h0 := ha.run pos pins s σ H R I h
    have e1 : starEach ([] : List Expr) X.env = [] := by rw [starEach]
    rw [e1] at h0 ⊢
    refine PySem.W.callWith_K0 (first := first) (env := X.env) I.kIn hk ?_
    have h1 : wpAny (model X.prog X.w) X.A (pure ([] : List Value) : Sem (List Value)) (AP X pins σ R) X.xe s := by
      have e2 : (spliced (backTo pos []) : Sem (List Value)) = pure [] := by rfl
      rw [e2] at h0
      exact h0
    have h2 : wpAny (model X.prog X.w) X.A ((pure ([] : List Value) : Sem (List Value)) >>= fun us => call f (first ++ us)) Q X.xe s :=
      wpAny_bind (thn h1 fun us s1 ⟨vs, H1, I1, r, q⟩ => hc vs us H1 s1 I1 r q)
    rw [pure_bind] at h2
    exact h2
  | cons e es =>
    exact PySem.W.callWith_K (h₀ := X.base) I.ok.mod.kin hk (thn (ha.run pos pins s σ H _ I h) fun us s1 ⟨vs, H1, I1, r, q⟩ => ⟨I1.kIn, hc vs us H1 s1 I1 r q⟩) (star_cons (hst e List.mem_cons_self)) (star_any fun x hx => hst x (List.mem_cons_of_mem _ hx))
theorem pe_callW (F : FnAt X k f sp) (hr : Room k X.A) (hg : Gl X x) (hm : X.mg x = some (.ref f)) (tk : Takes X W) (hst : ∀ e ∈ es, notStar e = true) (ha : PA X es t) (hdb : (x == ("__debug__" : Str)) = false) :
    PE X (.Call (.Name x p) es [] pos) (tCallW W sp t) := by
  obtain ⟨fd, ps, hk, hb, F⟩ := F
  refine ⟨fun pins s σ H Q I h => ?_⟩
  refine wpAny_Call_Name_kw (ld_glob I hg hm ?_ hdb)
  exact callWithD (first := []) I hk hst ha h fun vs us H1 s1 I1 r q => run_fnW F hr hb tk I1 r q
theorem pe_makeW (M : Mk X.K C f) (F : FnAt X k f sp) (hr : Room (k + 1) X.A) (hg : Gl X x) (hm : X.mg x = some (.ref C)) (tk : Takes X W) (hst : ∀ e ∈ es, notStar e = true) (ha : PA X es t) (hdb : (x == ("__debug__" : Str)) = false) :
    PE X (.Call (.Name x p) es [] pos) (tMakeW W C sp t) := by
  obtain ⟨fd, ps, hk, hb, F⟩ := F
  refine ⟨fun pins s σ H Q I h => ?_⟩
  refine wpAny_Call_Name_kw (ld_glob I hg hm ?_ hdb)
  exact callWithD (first := []) I M.kp hst ha h fun vs us H1 s1 I1 r q => run_makeW M F hr hb tk I1 r q
/-- a call of a name of the frame that holds a def -/
theorem pe_callvW {te : TE} (he : PE X (.Name x p) te) (hst : ∀ e ∈ es, notStar e = true) (ha : PA X es t) (hr : Room k X.A) (tk : Takes X W) :
    PE X (.Call (.Name x p) es [] pos) (fun σ H Q => te σ H fun v H1 => ∃ f sp, v = .ref f ∧ FnAt X k f sp ∧ tCallW W sp t σ H1 Q) := by
  refine ⟨fun pins s σ H Q I h => ?_⟩
  refine wpAny_Call_Name_kw (thn (he.run pins s σ H _ I h) fun u s1 ⟨v, H1, I1, r1, f, sp, ev, ⟨fd, ps, hk, hb, F⟩, q⟩ => ?_)
  subst ev
  cases r1
  exact callWithD (first := []) I1 hk hst ha q fun vs us H1 s1 I1 r q => run_fnW F hr hb tk I1 r q
/-- the tree of a method call -/
theorem attr_base {o : Expr} {m : Str} {env : Env} {wh : Sem Value} (h : notSuper o = true) : attributeBase o m env wh = wh := by
  unfold attributeBase
  cases o with
  | Call fn as kws p =>
    cases fn with
    | Name i q =>
      cases as with
      | nil =>
        cases kws with
        | nil => exact absurd (show false = true from h) Bool.false_ne_true
        | cons _ _ => rfl
      | cons _ _ => rfl
    | _ => rfl
  | _ => rfl
theorem meth_tree {o : Expr} {m : Str} {apos pos : Pos} {es : List Expr} {env : Env} (h : notSuper o = true) (hst : ∀ e ∈ es, notStar e = true) (hl : es.length < 30) (hp : apos.endLine = pos.line) :
    ∃ pl : Sem Bool, eval (.Call (.Attribute o m apos) es [] pos) env = (do
      let ov ← eval o env
      standAt apos.atName
      let (f, first) ← holding [ov] (getMethod ov m pl)
      callWith pos f first (backTo pos (starEach es env)) (backToKw pos (keywordEach [] env))) := by
  have hform : methodCallForm (es.length + ([] : List Keyword).length) (backTo pos (starEach es env)) (backToKw pos (keywordEach [] env)) = true := by
    unfold methodCallForm
    have h1 : (backTo pos (starEach es env)).all (fun x => !x.1) = true := by
      have := star_any (pos := pos) (env := env) hst
      rw [List.any_eq_false] at this
      rw [List.all_eq_true]
      intro y hy
      have := this y hy
      simpa using this
    rw [h1]
    simp [backToKw, keywordEach]
    omega
  refine ⟨(do return (← importBound o env).getD true), ?_⟩
  rw [arm_eval_Call, attr_base h]
  unfold methodCall
  rw [hform]
  have hcal : ∀ ov, calleeOf true o env ov m = getMethod ov m (do return (← importBound o env).getD true) := fun _ => rfl
  have hpos : methodCallPos true o env apos pos = pure pos := by
    unfold methodCallPos
    rw [if_pos (by simp [hp])]
  simp only [hcal, hpos, pure_bind]
end
end Dp
end SDp7
set_option maxHeartbeats 4000000
/-! Dp8: readings of calls, displays, tests, fields, over data. -/
noncomputable section SDp8
namespace Dp
open PySem PySem.Spec PyProof.Rows L2

section
variable {X : Cx} {Γ : Glob} {W : WX} {S : Stat} {P : Prog} {R : String → List D → Sto → Res D} {k : Nat} {c : SC}
/-! ### the checker's words -/
theorem vis_of {x : Str} (C : CxOk c X) (h : okVis c x = true) : Vis X.env.scope x := by
  unfold okVis at h
  rw [← C.sc] at h
  unfold Vis
  split at h <;> first | (left; assumption) | (right; left; assumption) | (right; right; assumption) | cases h
theorem loc_of {x : Str} (C : CxOk c X) (h : okLoc c x = true) : L2.Loc X.env.scope x ∧ (X.fn x = true ∨ X.env.scope.names.lookup x = some .local) := by
  unfold okLoc at h
  rw [← C.sc] at h
  unfold L2.Loc
  split at h
  · rename_i e; exact ⟨.inl e, .inr e⟩
  · rename_i e; exact ⟨.inr e, .inl (by rw [C.fn]; exact h)⟩
  · cases h
theorem gl_of {x : Str} (C : CxOk c X) (h : okGl c x = true) : Gl X x ∧ (x == ("__debug__" : Str)) = false ∧ x ≠ "__name__" := by
  unfold okGl at h
  rw [← C.sc] at h
  split at h
  · rename_i e
    simp only [Bool.and_eq_true, Bool.not_eq_true'] at h
    exact ⟨e, h.1, beq_eq_false_iff_ne.mp h.2⟩
  · cases h
theorem var_of {i : Nat} {x : Str} (C : CxOk c X) (h : okVar c i x = true) : X.N[i]? = some x ∧ Vis X.env.scope x ∧ (x == ("__debug__" : Str)) = false ∧ (x == ("__classdict__" : Str)) = false := by
  unfold okVar at h
  simp only [Bool.and_eq_true, decide_eq_true_eq, Bool.not_eq_true'] at h
  exact ⟨by rw [C.N]; exact h.1.1.1, vis_of C h.1.1.2, h.1.2, h.2⟩
theorem slot_of {i : Nat} {x : Str} (C : CxOk c X) (h : okSlot c i x = true) : X.N[i]? = some x ∧ L2.Loc X.env.scope x ∧ (X.fn x = true ∨ X.env.scope.names.lookup x = some .local) := by
  unfold okSlot at h
  simp only [Bool.and_eq_true, decide_eq_true_eq] at h
  obtain ⟨a, b⟩ := loc_of C h.2
  exact ⟨by rw [C.N]; exact h.1, a, b⟩
theorem free_of {n : String} {x : Str} (C : CxOk c X) (U : Uni Γ S P R k X) (h : okFree S c x n = true) : x = Str.ofString n ∧ Gl X x ∧ (x == ("__debug__" : Str)) = false ∧ x ≠ "__name__" ∧ X.mg x = none := by
  unfold okFree at h
  simp only [Bool.and_eq_true, decide_eq_true_eq] at h
  obtain ⟨g1, g2, g3⟩ := gl_of C h.1.2
  exact ⟨h.1.1, g1, g2, g3, by rw [h.1.1]; exact U.free n h.2⟩
theorem okOp_eq {a : Bop} {b : Operator} (h : okOp a b = true) : b = opOf a := by cases a <;> cases b <;> first | rfl | exact absurd (show false = true from h) Bool.false_ne_true
theorem okCop_eq {a : Cop} {b : CmpOp} (h : okCop a b = true) : b = cop a := by cases a <;> cases b <;> first | rfl | exact absurd (show false = true from h) Bool.false_ne_true
theorem opBin (hK : X.K = Γ.K) : ∀ a : Bop, OpR X (binaryOp (opOf a)) (rD2 Γ (dBin a))
  | .add => opAdd hK
  | .sub => opSub
  | .mul => opMul hK
  | .fdiv => opDiv
  | .mod => opMod
  | .pow => opPow
theorem plain_of {b : Expr} (h : isPlainSlice b = true) : PlainIx b := by
  intro o i
  cases b <;> first | rfl | exact absurd (show false = true from h) Bool.false_ne_true

/-! ### lengths -/
mutual
theorem evL_len : ∀ (ts : List Tm) (ρ : Ev) (st st' : Sto) (ds : List D), evL P R ts ρ st = .ok ds st' → ds.length = ts.length
  | [], ρ, st, st', ds, h => by rw [evL] at h; cases h; rfl
  | t :: ts, ρ, st, st', ds, h => by
    rw [evL] at h
    cases e : evE P R t ρ st with
    | ok x st1 =>
      rw [e, Res.bind_ok] at h
      cases e2 : evL P R ts ρ st1 with
      | ok xs st2 =>
        rw [e2, Res.bind_ok] at h
        cases h
        rw [List.length_cons, List.length_cons, evL_len ts ρ st1 _ xs e2]
      | exc a b cc => rw [e2] at h; cases h
      | stuck => rw [e2] at h; cases h
    | exc a b cc => rw [e] at h; cases h
    | stuck => rw [e] at h; cases h
end
theorem okL_len : ∀ {ts : List Tm} {es : List Expr}, okL S c ts es = true → ts.length = es.length ∧ ∀ e ∈ es, notStar e = true
  | [], es, h => by
    rw [okL] at h
    rw [List.isEmpty_iff.mp h]
    exact ⟨rfl, fun e he => nomatch he⟩
  | t :: ts, [], h => by rw [okL] at h; cases h
  | t :: ts, e :: es, h => by
    rw [okL] at h
    simp only [Bool.and_eq_true] at h
    obtain ⟨a, b⟩ := okL_len h.2
    refine ⟨by simp [a], fun x hx => ?_⟩
    rcases List.mem_cons.mp hx with z | z
    · rw [z]; exact h.1.2
    · exact b x z
/-- an outcome, with its equation -/
theorem fin.eqn {α : Type} {WK : XK} {O : Addr → Prop} {κ : List Addr} {L : List (Nat × Addr)} {H : Hp} {r : Res α} {A B : α → Sto → List Addr → Hp → Prop} (h : fin Γ WK O κ L H r A)
    (hk : ∀ a st', r = .ok a st' → ∀ κ' H', Nx O κ L H κ' H' → Ok Γ O κ' L H' st' → A a st' κ' H' → B a st' κ' H') : fin Γ WK O κ L H r B := by
  cases r with
  | ok a st' => exact fun κ2 H2 n2 o2 => hk a st' rfl κ2 H2 n2 o2 (h κ2 H2 n2 o2)
  | exc c fs st' => exact h
  | stuck => exact h

/-! ### argument lists, displays -/
theorem dA_nil (σ : L2.St) (H : Hp) (Q : List V → Hp → Prop) (h : dA Γ W (evL P R []) σ H Q) : tNil σ H Q := by
  obtain ⟨O, κ, L, ρ, st, o, e, h⟩ := h
  rw [evL] at h
  exact h κ H .refl o [] .nil
theorem dA_cons {t : Tm} {ts : List Tm} (σ : L2.St) (H : Hp) (Q : List V → Hp → Prop) (h : dA Γ W (evL P R (t :: ts)) σ H Q) : tCons (dE Γ W (evE P R t)) (dA Γ W (evL P R ts)) σ H Q := by
  obtain ⟨O, κ, L, ρ, st, o, e, h⟩ := h
  rw [evL] at h
  refine ⟨O, κ, L, ρ, st, o, e, (fin.bind o h).imp fun x st1 κ1 H1 n1 o1 q1 v r => ?_⟩
  refine ⟨O, κ1, L, ρ, st1, o1, e.next n1, (fin.bind o1 q1).imp fun xs st2 κ2 H2 n2 o2 q2 vs rs => ?_⟩
  exact q2 κ2 H2 .refl o2 (v :: vs) (.cons (r.mono n2.pre n2.le) rs)
theorem dA_bind {ts : List Tm} {g : List D → Sto → Res D} {σ : L2.St} {H : Hp} {Q : VK} (h : dE Γ W (fun ρ st => (evL P R ts ρ st).bind g) σ H Q) :
    dA Γ W (evL P R ts) σ H fun vs H1 => ∃ O κ L ρ st ds, Ok Γ O κ L H1 st ∧ EnvR Γ O κ L H1 σ ρ ∧ Reps Γ κ (imm O κ L H1) vs ds ∧ ds.length = ts.length ∧
      fin Γ (fun c d H' => W c d σ H') O κ L H1 (g ds st) fun d _ κ' H' => ∀ v, Rep Γ κ' (imm O κ' L H') v d → Q v H' := by
  obtain ⟨O, κ, L, ρ, st, o, e, h⟩ := h
  refine ⟨O, κ, L, ρ, st, o, e, (fin.bind o h).eqn fun ds st' he κ' H' n o' q vs r => ?_⟩
  exact ⟨O, κ', L, ρ, st', ds, o', e.next n, r, evL_len ts ρ st st' ds he, q⟩
theorem dE_tup {ts : List Tm} (hl : ts.length ≤ 1000) (σ : L2.St) (H : Hp) (Q : VK) (h : dE Γ W (evE P R (.tup ts)) σ H Q) : tTup (dA Γ W (evL P R ts)) σ H Q := by
  have h' : dE Γ W (fun ρ st => (evL P R ts ρ st).bind fun ds st1 => .ok (.tup ds) st1) σ H Q := by simpa only [evE] using h
  obtain ⟨O, κ, L, ρ, st, o, e, h2⟩ := dA_bind h'
  refine ⟨O, κ, L, ρ, st, o, e, h2.imp fun ds st' κ' H' n o' q vs r => ?_⟩
  obtain ⟨O2, κ2, L2', ρ2, st2, ds2, o2, e2, r2, hd, q2⟩ := q vs r
  refine ⟨by rw [r2.length, hd, sizeLine_eq]; omega, fun p hp => ?_⟩
  obtain ⟨n3, o3, m3⟩ := o2.laid (o := .tup vs) hp
  exact q2 κ2 _ n3 o3 _ (.tup (.of (cut_some.mpr ⟨m3, upd_same⟩)) (r2.mono n3.pre n3.le))
theorem dE_lst {ts : List Tm} (hl : ts.length ≤ 1000) (σ : L2.St) (H : Hp) (Q : VK) (h : dE Γ W (evE P R (.lst ts)) σ H Q) : tLst (dA Γ W (evL P R ts)) σ H Q := by
  have h' : dE Γ W (fun ρ st => (evL P R ts ρ st).bind fun ds st1 => .ok (.lst ds) st1) σ H Q := by simpa only [evE] using h
  obtain ⟨O, κ, L, ρ, st, o, e, h2⟩ := dA_bind h'
  refine ⟨O, κ, L, ρ, st, o, e, h2.imp fun ds st' κ' H' n o' q vs r => ?_⟩
  obtain ⟨O2, κ2, L2', ρ2, st2, ds2, o2, e2, r2, hd, q2⟩ := q vs r
  refine ⟨by rw [r2.length, hd, sizeLine_eq]; omega, fun p hp => ?_⟩
  obtain ⟨n3, o3, m3⟩ := o2.laid (o := .lst vs) hp
  exact q2 κ2 _ n3 o3 _ (.lst (cut_some.mpr ⟨m3, upd_same⟩) (r2.mono n3.pre n3.le))

/-! ### calls -/
theorem dE_call {ts : List Tm} {f : String} {np : Nat} (hn : ∀ ds st, R f ds st ≠ .stuck → ds.length = np) (σ : L2.St) (H : Hp) (Q : VK) (h : dE Γ W (fun ρ st => (evL P R ts ρ st).bind fun ds st1 => R f ds st1) σ H Q) : tCallW W (spD Γ (R f) np) (dA Γ W (evL P R ts)) σ H Q := by
  obtain ⟨O, κ, L, ρ, st, o, e, h2⟩ := dA_bind h
  refine ⟨O, κ, L, ρ, st, o, e, h2.imp fun ds st' κ' H' n o' q vs r => ?_⟩
  obtain ⟨O2, κ2, L2', ρ2, st2, ds2, o2, e2, r2, hd, q2⟩ := q vs r
  have ns : R f ds2 st2 ≠ .stuck := fun z => by rw [z] at q2; exact q2
  refine ⟨by rw [r2.length]; exact hn _ _ ns, oadd O2 L2', κ2, ds2, st2, o2.give, by rw [imm_add]; exact r2, (fin.give o2 q2).imp fun d st3 κ3 H3 n3 o3 q3 v rv => q3 v (by rw [← imm_add]; exact rv)⟩
theorem dE_make {ts : List Tm} {C : String} {np : Nat} (hn : ∀ ds st, R C ds st ≠ .stuck → ds.length + 1 = np) (σ : L2.St) (H : Hp) (Q : VK) (h : dE Γ W (fun ρ st => (evL P R ts ρ st).bind fun ds st1 => R C ds st1) σ H Q) : tMakeW W (Γ.cls C) (spM Γ C (R C) np) (dA Γ W (evL P R ts)) σ H Q := by
  obtain ⟨O, κ, L, ρ, st, o, e, h2⟩ := dA_bind h
  refine ⟨O, κ, L, ρ, st, o, e, h2.imp fun ds st' κ' H' n o' q vs r => fun x dx hx hdx hne => ?_⟩
  obtain ⟨O2, κ2, L2', ρ2, st2, ds2, o2, e2, r2, hd, q2⟩ := q vs r
  have ns : R C ds2 st2 ≠ .stuck := fun z => by rw [z] at q2; exact q2
  refine ⟨by rw [List.length_cons, r2.length]; exact hn _ _ ns, x, dx, vs, H', oadd O2 L2', κ2, ds2, st2, rfl, rfl, hx, hdx, hne, o2.give, by rw [imm_add]; exact r2, (fin.give o2 q2).imp fun d st3 κ3 H3 n3 o3 q3 rv => ⟨rfl, q3 _ (by rw [← imm_add]; exact rv)⟩⟩
theorem dE_callv {ts : List Tm} {i : Nat} (U : Uni Γ S P R k X) (hc : X.calm = true) (σ : L2.St) (H : Hp) (Q : VK) (h : dE Γ W (evE P R (.callv i ts)) σ H Q) :
    dE Γ W (fun ρ st => lift (slotD ρ i) st) σ H fun v H1 => ∃ f sp, v = .ref f ∧ FnAt X k f sp ∧ tCallW W sp (dA Γ W (evL P R ts)) σ H1 Q := by
  obtain ⟨O, κ, L, ρ, st, o, e, h⟩ := h
  rw [evE] at h
  cases hs : slotD ρ i with
  | none => rw [hs] at h; exact h.elim
  | some d =>
    rw [hs] at h
    cases d with
    | fn f =>
      dsimp only at h
      refine ⟨O, κ, L, ρ, st, o, e, ?_⟩
      dsimp only
      rw [hs]
      refine fun κ1 H1 n1 o1 v r => ?_
      cases r with
      | fn ha =>
        obtain ⟨np, F, hn⟩ := U.fnAt hc _ _ ha
        exact ⟨_, _, rfl, F, dE_call hn σ H1 Q ⟨O, κ1, L, ρ, st, o1, e.next n1, fin.step o n1 h⟩⟩
    | _ => exact h.elim

/-! ### fields -/
theorem zip_lookup {fs : List String} {ds : List D} {vs : List V} {fvs : List (Str × V)} {κ : List Addr} {I : Hp} (hm : fs.map (fun f => fvs.lookup (Str.ofString f)) = vs.map some) (r : Reps Γ κ I vs ds) {f : String} {d : D} (h : (fs.zip ds).lookup f = some d) :
    f ∈ fs ∧ ∃ v, fvs.lookup (Str.ofString f) = some v ∧ Rep Γ κ I v d := by
  induction fs generalizing ds vs with
  | nil => simp at h
  | cons g gs ih =>
    cases vs with
    | nil => simp at hm
    | cons v vs =>
      cases r with
      | cons r1 r2 =>
        simp only [List.map_cons, List.cons.injEq] at hm
        rw [List.zip_cons_cons, List.lookup_cons] at h
        by_cases e : f = g
        · subst e
          simp at h
          subst h
          exact ⟨List.mem_cons_self, v, hm.1, r1⟩
        · have e' : (f == g) = false := beq_eq_false_iff_ne.mpr e
          rw [e'] at h
          obtain ⟨a, b⟩ := ih hm.2 r2 h
          exact ⟨List.mem_cons_of_mem _ a, b⟩
theorem dE_fld {a : Tm} {f : String} (U : Uni Γ S P R k X) (σ : L2.St) (H : Hp) (Q : VK) (h : dE Γ W (evE P R (.fld a f)) σ H Q) : tFld X.K (dE Γ W (evE P R a)) (Str.ofString f) σ H Q := by
  have h' : dE Γ W (fun ρ st => (evE P R a ρ st).bind fun x st1 => lift (dFld P.fields st1 f x) st1) σ H Q := by simpa only [evE] using h
  refine (dE.one h').imp fun v H1 q => ?_
  obtain ⟨O, κ, L, ρ, st, x, o, e, r, h⟩ := q
  obtain ⟨d, e, A⟩ := h.after
  cases x <;> try (simp [dFld] at e; done)
  case obj C ds =>
    simp only [dFld] at e
    obtain ⟨_, p, dx, fvs, vs, rfl, h1, h2, h3, h4⟩ := r.obj_inv
    rw [U.pf] at e
    obtain ⟨hf, w, hw, rw'⟩ := zip_lookup h2 h4 e
    obtain ⟨c1, c2⟩ := U.fld C f hf
    exact ⟨p, Γ.cls C, dx, fvs, w, rfl, cut_le _ _ _ _ h1, c1, c2, hw, A.now o rw'⟩
  case ref n =>
    simp only [dFld] at e
    split at e
    · rename_i C fs hn
      split at e
      · rename_i hc
        obtain ⟨p, rfl, hp⟩ := r.ref_inv
        obtain ⟨dx, fvs, h1, h2, h3, _⟩ := o.st n p _ hp hn
        obtain ⟨w, hw, rw'⟩ := h2.1 f d e
        rw [U.pf] at hc
        obtain ⟨c1, c2⟩ := U.fld C f (by simpa using hc)
        exact ⟨p, Γ.cls C, dx, fvs, w, rfl, h1, c1, c2, hw, A.now o rw'⟩
      · cases e
    · cases e
end
end Dp
end SDp8
set_option maxHeartbeats 4000000
/-! Dp9: methods, built-ins, isinstance, tests, slices. -/
noncomputable section SDp9
namespace Dp
open PySem PySem.Spec PyProof.Rows L2

section
variable {X : Cx} {Γ : Glob} {W : WX} {S : Stat} {P : Prog} {R : String → List D → Sto → Res D} {k : Nat} {c : SC}
/-! ### o.m(..) -/
theorem mem_fields {c : String} {fvs : List (Str × V)} {m : String} (h3 : ∀ g v, fvs.lookup g = some v → ∃ f ∈ Γ.fields c, g = Str.ofString f) (hm : ∀ f ∈ Γ.fields c, Str.ofString f ≠ Str.ofString m) : fvs.lookup (Str.ofString m) = none := by
  cases e : fvs.lookup (Str.ofString m) with
  | none => rfl
  | some v =>
    obtain ⟨f, hf, z⟩ := h3 _ _ e
    exact absurd z.symm (hm f hf)
theorem pe_methW {o : Expr} {m : String} {apos pos : Pos} {es : List Expr} {to : Tm} {ts : List Tm} (U : Uni Γ S P R k X) (hc : X.calm = true) (tk : Takes X W) (ho : PE X o (dE Γ W (evE P R to))) (ha : PA X es (dA Γ W (evL P R ts)))
    (hs : notSuper o = true) (hst : ∀ e ∈ es, notStar e = true) (hl : es.length < 30) (hp : apos.endLine = pos.line) : PE X (.Call (.Attribute o (Str.ofString m) apos) es [] pos) (dE Γ W (evE P R (.meth to m ts))) := by
  obtain ⟨pl, ht⟩ := meth_tree (m := Str.ofString m) (env := X.env) hs hst hl hp
  refine ⟨fun pins s σ H Q I h => ?_⟩
  obtain ⟨O, κ, L, ρ, st, o0, e0, h1⟩ := h
  rw [evE] at h1
  refine PySem.W.methodCall_KW (pl := pl) (thn (ho.run pins s σ H (fun v H1 => ∃ O κ L ρ st x, Ok Γ O κ L H1 st ∧ EnvR Γ O κ L H1 σ ρ ∧ Rep Γ κ (imm O κ L H1) v x ∧
      fin Γ (fun c d H' => W c d σ H') O κ L H1 (match mcls st x with
        | some c => if P.isMeth c m then (evL P R ts ρ st).bind fun ds st2 => R (c ++ "." ++ m) (x :: ds) st2 else .stuck
        | none => .stuck) fun d _ κ' H' => ∀ v, Rep Γ κ' (imm O κ' L H') v d → Q v H') I ⟨O, κ, L, ρ, st, o0, e0, (fin.bind o0 h1).imp fun x st' κ' H' n o' q v r => ⟨O, κ', L, ρ, st', x, o', e0.next n, r, q⟩⟩) fun u s1 ⟨v, H1, I1, rv, O, κ, L, ρ, st, x, o, e, r, q⟩ => ?_) ht
  -- the callee, by the object's class
  have callee : ∀ (C : String) (a dx : Addr) (fvs : List (Str × V)), P.isMeth C m = true → v = .ref a → H1 a = some (.ins (Γ.cls C) dx fvs) → fvs.lookup (Str.ofString m) = none →
      fin Γ (fun c d H' => W c d σ H') O κ L H1 ((evL P R ts ρ st).bind fun ds st2 => R (C ++ "." ++ m) (x :: ds) st2) (fun d _ κ' H' => ∀ v, Rep Γ κ' (imm O κ' L H') v d → Q v H') →
      wpAny (model X.prog X.w) X.A (getMethod u (Str.ofString m) pl) (fun fx s₂ => wpAny (model X.prog X.w) X.A (callWith pos fx.1 fx.2 (backTo pos (starEach es X.env)) (backToKw pos (keywordEach [] X.env))) (EP X pins σ Q) X.xe s₂) X.xe s1 := by
    intro C a dx fvs hm ev ea hl2 q2
    subst ev
    obtain rfl : u = Value.ref a := rv
    obtain ⟨c1, _, g, np, c3, ⟨fd, ps, hk, hb, F⟩, hn⟩ := U.meth hc C m hm
    refine getmeth_ok I1 ea c1 c3 hl2 ?_
    refine callWithD (first := [.ref a]) (t := dA Γ W (evL P R ts)) (R := fun vs H2 => spD Γ (R (C ++ "." ++ m)) np (.ref a :: vs) H2 Q fun c d H' => W c d σ H') I1 hk hst ha ?_ fun vs us H2 s2 I2 r2 q3 =>
      run_fnW F ((U.room hc).mono (Nat.le_succ _)) hb tk I2 (us := [Value.ref a] ++ us) (vs := V.ref a :: vs) (Paired.cons (show L2.RelV (.ref a) (Value.ref a) from rfl) r2) q3
    refine ⟨O, κ, L, ρ, st, o, e, (fin.bind o q2).imp fun ds st2 κ2 H2 n2 o2 q3 vs rs => ?_⟩
    have ns : R (C ++ "." ++ m) (x :: ds) st2 ≠ .stuck := fun z => by rw [z] at q3; exact q3
    have hlen := hn _ _ ns
    refine ⟨by rw [List.length_cons, rs.length]; exact hlen, oadd O L, κ2, x :: ds, st2, o2.give, .cons (by rw [imm_add]; exact r.mono n2.pre n2.le) (by rw [imm_add]; exact rs), (fin.give o2 q3).imp fun d st3 κ3 H3 n3 o3 q4 w rw' => q4 w (by rw [← imm_add]; exact rw')⟩
  cases hx : mcls st x with
  | none => rw [hx] at q; exact q.elim
  | some C =>
    rw [hx] at q
    dsimp only at q
    by_cases hm : P.isMeth C m = true
    · rw [if_pos hm] at q
      obtain ⟨_, hm2, _⟩ := U.meth hc C m hm
      cases x <;> try (simp [mcls] at hx; done)
      case obj C' ds =>
        simp only [mcls] at hx
        cases hx
        obtain ⟨_, a, dx, fvs, vs, ev, h1, h2, h3, h4⟩ := r.obj_inv
        exact callee C a dx fvs hm ev (cut_le _ _ _ _ h1) (mem_fields h3 hm2) q
      case ref n =>
        simp only [mcls] at hx
        split at hx
        · rename_i C' fs hn
          cases hx
          obtain ⟨a, ev, hp⟩ := r.ref_inv
          obtain ⟨dx, fvs, h1, h2, h3, h4⟩ := o.st n a _ hp hn
          refine callee C a dx fvs hm ev h1 (mem_fields (Γ := Γ) (c := C) (fun g v hg => ?_) hm2) q
          obtain ⟨f, d, hf, eg⟩ := h2.2 g v hg
          exact ⟨f, h4 f d hf, eg⟩
        · cases hx
    · rw [if_neg hm] at q; exact q.elim
/-! ### built-ins by name -/
def biCall (X : Cx) (Γ : Glob) (b : Bi) : List V → Hp → VK → Prop := fun vs H Q => ∃ O κ L st ds d, Ok Γ O κ L H st ∧ Reps Γ κ (imm O κ L H) vs ds ∧ dBi st b ds = some d ∧ After Γ O κ L H st d Q
theorem dE_bi {b : Bi} {ts : List Tm} (σ : L2.St) (H : Hp) (Q : VK) (h : dE Γ W (evE P R (.bi b ts)) σ H Q) : tCB (biCall X Γ b) (dA Γ W (evL P R ts)) σ H Q := by
  have h' : dE Γ W (fun ρ st => (evL P R ts ρ st).bind fun ds st1 => lift (dBi st1 b ds) st1) σ H Q := by simpa only [evE] using h
  obtain ⟨O, κ, L, ρ, st, o, e, h2⟩ := dA_bind h'
  refine ⟨O, κ, L, ρ, st, o, e, h2.imp fun ds st' κ' H' n o' q vs r => ?_⟩
  obtain ⟨O2, κ2, L2', ρ2, st2, ds2, o2, e2, r2, hd, q2⟩ := q vs r
  obtain ⟨d, e3, A⟩ := q2.after
  exact ⟨O2, κ2, L2', st2, ds2, d, o2, r2, e3, A⟩
theorem reps1 {κ : List Addr} {I : Hp} {vs : List V} {d : D} (h : Reps Γ κ I vs [d]) : ∃ v, vs = [v] ∧ Rep Γ κ I v d := by
  cases h with | cons a b => cases b; exact ⟨_, rfl, a⟩
theorem reps2 {κ : List Addr} {I : Hp} {vs : List V} {d e : D} (h : Reps Γ κ I vs [d, e]) : ∃ v w, vs = [v, w] ∧ Rep Γ κ I v d ∧ Rep Γ κ I w e := by
  cases h with | cons a b => cases b with | cons c d => cases d; exact ⟨_, _, rfl, a, c⟩
theorem allB_of {κ : List Addr} {I : Hp} : ∀ {ds : List D} {vs : List V} {b : Bool}, Reps Γ κ I vs ds → allB ds = some b → ∃ bs : List Bool, vs = bs.map V.bl ∧ bs.all id = b
  | [], _, b, r, h => by cases r; simp only [allB] at h; cases h; exact ⟨[], rfl, rfl⟩
  | d :: ds, _, b, r, h => by
    cases r with
    | cons r1 r2 =>
      cases d <;> try (simp [allB] at h; done)
      case bl x =>
        simp only [allB] at h
        cases e : allB ds with
        | none => rw [e] at h; cases h
        | some y =>
          rw [e] at h
          cases h
          obtain ⟨bs, rfl, rfl⟩ := allB_of r2 e
          cases r1
          exact ⟨x :: bs, rfl, rfl⟩
theorem anyB_of {κ : List Addr} {I : Hp} : ∀ {ds : List D} {vs : List V} {b : Bool}, Reps Γ κ I vs ds → anyB ds = some b → ∃ bs : List Bool, vs = bs.map V.bl ∧ bs.any id = b
  | [], _, b, r, h => by cases r; simp only [anyB] at h; cases h; exact ⟨[], rfl, rfl⟩
  | d :: ds, _, b, r, h => by
    cases r with
    | cons r1 r2 =>
      cases d <;> try (simp [anyB] at h; done)
      case bl x =>
        simp only [anyB] at h
        cases e : anyB ds with
        | none => rw [e] at h; cases h
        | some y =>
          rw [e] at h
          cases h
          obtain ⟨bs, rfl, rfl⟩ := anyB_of r2 e
          cases r1
          exact ⟨x :: bs, rfl, rfl⟩
theorem biLen (hK : X.K = Γ.K) : CallR X (.builtin "len") (biCall X Γ .len) := by
  intro pins s σ H xs us Q I r h
  obtain ⟨O, κ, L, st, ds, d, o, rs, e, A⟩ := h
  cases ds with
  | nil => simp [dBi] at e
  | cons x r2 => cases r2 with
    | cons _ _ => cases x <;> simp [dBi] at e
    | nil =>
      obtain ⟨v, rfl, rv⟩ := reps1 rs
      cases x <;> try (simp [dBi] at e; done)
      case lst ys =>
        simp only [dBi] at e; cases e
        obtain ⟨p, ws, rfl, h1, h2⟩ := rv.lst_inv
        exact call_len pins s σ H _ us Q I r ⟨_, ws.length, rfl, .inl ⟨ws, .of (cut_le _ _ _ _ h1), rfl⟩, by rw [h2.length]; exact A.now o (.int _)⟩
      case tup ys =>
        simp only [dBi] at e; cases e
        obtain ⟨p, ws, rfl, h1, h2⟩ := rv.tup_inv
        exact call_len pins s σ H _ us Q I r ⟨_, ws.length, rfl, .inr ⟨ws, by rw [hK]; exact (cut_le _ _).sqT h1, rfl⟩, by rw [h2.length]; exact A.now o (.int _)⟩
      case frz ys =>
        simp only [dBi] at e; cases e
        obtain ⟨p, ws, rfl, h1, h2⟩ := rv.frz_inv
        exact call_len pins s σ H _ us Q I r ⟨_, ws.length, rfl, .inl ⟨ws, by rw [hK]; exact (cut_le _ _).sqL h1, rfl⟩, by rw [h2.length]; exact A.now o (.int _)⟩
      case str ys =>
        simp only [dBi] at e
        split at e
        · rename_i hl
          cases e
          cases rv
          exact call_len pins s σ H _ us Q I r ⟨_, ys.length, rfl, ⟨by rw [Str.len]; exact lenOk_le hl, by rw [Str.len]⟩, A.now o (.int _)⟩
        · cases e
theorem biInt : CallR X (.type "int") (biCall X Γ .int) := by
  intro pins s σ H xs us Q I r h
  obtain ⟨O, κ, L, st, ds, d, o, rs, e, A⟩ := h
  cases ds with
  | nil => simp [dBi] at e
  | cons x r2 => cases r2 with
    | cons _ _ => cases x <;> simp [dBi] at e
    | nil =>
      obtain ⟨v, rfl, rv⟩ := reps1 rs
      cases x <;> try (simp [dBi] at e; done)
      case int i =>
        simp only [dBi] at e; cases e; cases rv
        exact call_int1 pins s σ H _ us Q I r (.inl ⟨i, rfl, A.now o (.int _)⟩)
      case bl b =>
        simp only [dBi] at e; cases e; cases rv
        exact call_int1 pins s σ H _ us Q I r (.inr ⟨b, rfl, A.now o (.int _)⟩)
theorem biAbs : CallR X (.builtin "abs") (biCall X Γ .abs) := by
  intro pins s σ H xs us Q I r h
  obtain ⟨O, κ, L, st, ds, d, o, rs, e, A⟩ := h
  cases ds with
  | nil => simp [dBi] at e
  | cons x r2 => cases r2 with
    | cons _ _ => cases x <;> simp [dBi] at e
    | nil =>
      obtain ⟨v, rfl, rv⟩ := reps1 rs
      cases x <;> try (simp [dBi] at e; done)
      case int i =>
        simp only [dBi] at e; cases e; cases rv
        exact call_abs pins s σ H _ us Q I r ⟨i, rfl, A.now o (.int _)⟩
theorem two_ints {b : Bi} {st : Sto} {ds : List D} {d : D} (hb : b = .max ∨ b = .min) (e : dBi st b ds = some d) : ∃ i j, ds = [.int i, .int j] := by
  rcases hb with rfl | rfl
  all_goals
    cases ds with
    | nil => simp [dBi] at e
    | cons x r => cases r with
      | nil => cases x <;> simp [dBi] at e
      | cons y r => cases r with
        | nil => cases x <;> cases y <;> simp [dBi] at e; exact ⟨_, _, rfl⟩
        | cons _ _ => cases x <;> cases y <;> simp [dBi] at e
theorem biMax (hc : X.calm = true) : CallR X (.builtin "max") (biCall X Γ .max) := by
  intro pins s σ H xs us Q I r h
  obtain ⟨O, κ, L, st, ds, d, o, rs, e, A⟩ := h
  obtain ⟨i, j, rfl⟩ := two_ints (.inl rfl) e
  simp only [dBi] at e; cases e
  obtain ⟨v, w, rfl, rv, rw'⟩ := reps2 rs
  cases rv; cases rw'
  exact call_max2 hc pins s σ H _ us Q I r ⟨i, j, rfl, A.now o (.int _)⟩
theorem biMin (hc : X.calm = true) : CallR X (.builtin "min") (biCall X Γ .min) := by
  intro pins s σ H xs us Q I r h
  obtain ⟨O, κ, L, st, ds, d, o, rs, e, A⟩ := h
  obtain ⟨i, j, rfl⟩ := two_ints (.inr rfl) e
  simp only [dBi] at e; cases e
  obtain ⟨v, w, rfl, rv, rw'⟩ := reps2 rs
  cases rv; cases rw'
  exact call_min2 hc pins s σ H _ us Q I r ⟨i, j, rfl, A.now o (.int _)⟩
theorem one_lst {b : Bi} {st : Sto} {ds : List D} {d : D} (hb : b = .all ∨ b = .any) (e : dBi st b ds = some d) : ∃ xs, ds = [.lst xs] := by
  rcases hb with rfl | rfl
  all_goals
    cases ds with
    | nil => simp [dBi] at e
    | cons x r => cases r with
      | nil => cases x <;> simp [dBi] at e; exact ⟨_, rfl⟩
      | cons y r => cases x <;> simp [dBi] at e
theorem biAll (hK : X.K = Γ.K) (hc : X.calm = true) : CallR X (.builtin "all") (biCall X Γ .all) := by
  intro pins s σ H xs us Q I r h
  obtain ⟨O, κ, L, st, ds, d, o, rs, e, A⟩ := h
  obtain ⟨ys, rfl⟩ := one_lst (.inl rfl) e
  simp only [dBi] at e
  cases h : allB ys with
  | none => rw [h] at e; cases e
  | some b =>
    rw [h] at e; cases e
    obtain ⟨v, rfl, rv⟩ := reps1 rs
    obtain ⟨p, ws, rfl, h1, h2⟩ := rv.lst_inv
    obtain ⟨bs, rfl, hb⟩ := allB_of h2 h
    exact cr_all hc pins s σ H _ us Q I r ⟨p, bs, rfl, .of (cut_le _ _ _ _ h1), by rw [hb]; exact A.now o (.bl _)⟩
theorem biAny (hK : X.K = Γ.K) (hc : X.calm = true) : CallR X (.builtin "any") (biCall X Γ .any) := by
  intro pins s σ H xs us Q I r h
  obtain ⟨O, κ, L, st, ds, d, o, rs, e, A⟩ := h
  obtain ⟨ys, rfl⟩ := one_lst (.inr rfl) e
  simp only [dBi] at e
  cases h : anyB ys with
  | none => rw [h] at e; cases e
  | some b =>
    rw [h] at e; cases e
    obtain ⟨v, rfl, rv⟩ := reps1 rs
    obtain ⟨p, ws, rfl, h1, h2⟩ := rv.lst_inv
    obtain ⟨bs, rfl, hb⟩ := anyB_of h2 h
    exact cr_any hc pins s σ H _ us Q I r ⟨p, bs, rfl, .of (cut_le _ _ _ _ h1), by rw [hb]; exact A.now o (.bl _)⟩
theorem biTuple (hK : X.K = Γ.K) : CallR X (.type "tuple") (biCall X Γ .tuple) := by
  intro pins s σ H xs us Q I r h
  obtain ⟨O, κ, L, st, ds, d, o, rs, e, A⟩ := h
  cases ds with
  | nil => simp [dBi] at e
  | cons x r2 => cases r2 with
    | cons _ _ => cases x <;> simp [dBi] at e
    | nil =>
      obtain ⟨v, rfl, rv⟩ := reps1 rs
      cases x <;> try (simp [dBi] at e; done)
      case lst ys =>
        simp only [dBi] at e; cases e
        obtain ⟨p, ws, rfl, h1, h2⟩ := rv.lst_inv
        exact call_tuple_of pins s σ H _ us Q I r ⟨p, ws, rfl, .inl ⟨.of (cut_le _ _ _ _ h1), fun q hq => A.tup o h2 hq⟩⟩
      case tup ys =>
        simp only [dBi] at e; cases e
        obtain ⟨p, ws, rfl, h1, h2⟩ := rv.tup_inv
        exact call_tuple_of pins s σ H _ us Q I r ⟨p, ws, rfl, .inr ⟨by rw [hK]; exact (cut_le _ _).sqT h1, A.now o rv⟩⟩
theorem biList (hK : X.K = Γ.K) : CallR X (.type "list") (biCall X Γ .list) := by
  intro pins s σ H xs us Q I r h
  obtain ⟨O, κ, L, st, ds, d, o, rs, e, A⟩ := h
  cases ds with
  | nil => simp [dBi] at e
  | cons x r2 => cases r2 with
    | cons _ _ => cases x <;> simp [dBi] at e
    | nil =>
      obtain ⟨v, rfl, rv⟩ := reps1 rs
      cases x <;> try (simp [dBi] at e; done)
      case lst ys =>
        simp only [dBi] at e; cases e
        obtain ⟨p, ws, rfl, h1, h2⟩ := rv.lst_inv
        exact call_list_of pins s σ H _ us Q I r ⟨p, ws, rfl, .inl (.of (cut_le _ _ _ _ h1)), fun q hq => A.lst o h2 hq⟩
      case tup ys =>
        simp only [dBi] at e; cases e
        obtain ⟨p, ws, rfl, h1, h2⟩ := rv.tup_inv
        exact call_list_of pins s σ H _ us Q I r ⟨p, ws, rfl, .inr (by rw [hK]; exact (cut_le _ _).sqT h1), fun q hq => A.lst o h2 hq⟩
end
end Dp
end SDp9
set_option maxHeartbeats 4000000
/-! Dp10: isinstance, truth, slices. -/
noncomputable section SDp10
namespace Dp
open PySem PySem.Spec PyProof.Rows L2

section
variable {X : Cx} {Γ : Glob} {W : WX} {S : Stat} {P : Prog} {R : String → List D → Sto → Res D} {k : Nat} {c : SC}
/-! ### isinstance -/
def tyVal (Γ : Glob) : Ty → V
  | .cls n => .ref (Γ.cls n)
  | t => .ty (tyName t)
def tyU (Γ : Glob) : Ty → Value
  | .cls n => .ref (Γ.cls n)
  | t => .type (tyName t)
theorem ty_cls (t : Ty) : ClsV (tyVal Γ t) (tyU Γ t) := by cases t <;> first | exact .ty _ | exact .own _
theorem pe_ty {t : Ty} {e : Expr} (C : CxOk c X) (U : Uni Γ S P R k X) (h : okTy S c t e = true) : PE X e (tC (tyVal Γ t)) := by
  unfold okTy at h
  split at h
  · rename_i x p
    cases t with
    | cls n =>
      simp only [Bool.and_eq_true, decide_eq_true_eq] at h
      obtain ⟨g1, g2, g3⟩ := gl_of C h.1.2
      exact pe_glob g1 (by rw [h.1.1]; exact U.clsV n h.2) rfl g2
    | int => obtain ⟨rfl, g1, g2, g3, g4⟩ := free_of C U h; exact pe_bltn g1 g4 (show bootBuiltins (Str.ofString "int") = some (.type "int") by decide +kernel) rfl g3 g2
    | bool => obtain ⟨rfl, g1, g2, g3, g4⟩ := free_of C U h; exact pe_bltn g1 g4 (show bootBuiltins (Str.ofString "bool") = some (.type "bool") by decide +kernel) rfl g3 g2
    | str => obtain ⟨rfl, g1, g2, g3, g4⟩ := free_of C U h; exact pe_bltn g1 g4 (show bootBuiltins (Str.ofString "str") = some (.type "str") by decide +kernel) rfl g3 g2
    | list => obtain ⟨rfl, g1, g2, g3, g4⟩ := free_of C U h; exact pe_bltn g1 g4 (show bootBuiltins (Str.ofString "list") = some (.type "list") by decide +kernel) rfl g3 g2
    | tuple => obtain ⟨rfl, g1, g2, g3, g4⟩ := free_of C U h; exact pe_bltn g1 g4 (show bootBuiltins (Str.ofString "tuple") = some (.type "tuple") by decide +kernel) rfl g3 g2
  · cases h
/-- the classes of a display -/
def tTys (vs : List V) : TA := fun _ H Q => Q vs H
theorem pa_tys : ∀ {ts : List Ty} {es : List Expr} (C : CxOk c X) (U : Uni Γ S P R k X) (h : okTys S c ts es = true), PA X es (tTys (ts.map (tyVal Γ)))
  | [], [], _, _, _ => pa_nil.weak fun _ _ _ q => q
  | [], _ :: _, _, _, h => by cases h
  | _ :: _, [], _, _, h => by cases h
  | t :: ts, e :: es, C, U, h => by
    unfold okTys at h
    simp only [Bool.and_eq_true] at h
    exact (pa_cons (pe_ty C U h.1.1) (pa_tys C U h.2) (star_cons h.1.2)).weak fun _ _ _ q => q
/-- the type of a value -/
def dType : D → Option Value
  | .non => some (.type "NoneType")
  | .bl _ => some (.type "bool")
  | .int _ => some (.type "int")
  | .str _ => some (.type "str")
  | .tup _ => some (.type "tuple")
  | .lst _ => some (.type "list")
  | _ => none
theorem tyx_of {κ : List Addr} {I H : Hp} (U : Uni Γ S P R k X) (hi : Le I H) {v : V} {d : D} (st : Sto) (r : Rep Γ κ I v d) (hd : (dIsi st d .int).isSome = true) :
    ∃ tv, TyX X.K H v tv ∧ ∀ (t : Ty) (b : Bool), (∀ n, t = .cls n → S.clss.contains n = true) → dIsi st d t = some b → PySem.W.kitOne X.K tv (tyU Γ t) = some b := by
  have base : ∀ {T : String} {q : Bool} (t : Ty), (∀ n, t = .cls n → S.clss.contains n = true) → T ∈ ["NoneType", "bool", "int", "str", "list", "tuple"] → (match t with
      | .cls _ => q = false
      | t => kitB T (tyName t) = some q) → PySem.W.kitOne X.K (.type T) (tyU Γ t) = some q := by
    intro T q t hcl hT hq
    cases t with
    | cls n =>
      dsimp only at hq
      subst hq
      exact ((U.isi n (hcl n rfl)).2.1 T hT).1
    | _ => exact kit_ty hq
  cases r <;> simp only [dIsi] at hd <;> try (cases hd; done)
  case non => exact ⟨_, .base .non, fun t b hcl e => by cases e; exact base t hcl (by simp) (by cases t <;> first | rfl | decide +kernel)⟩
  case bl x => exact ⟨_, .base (.bl x), fun t b hcl e => by cases e; exact base t hcl (by simp) (by cases t <;> first | rfl | decide +kernel)⟩
  case int x => exact ⟨_, .base (.int x), fun t b hcl e => by cases e; exact base t hcl (by simp) (by cases t <;> first | rfl | decide +kernel)⟩
  case str x => exact ⟨_, .base (.str _), fun t b hcl e => by cases e; exact base t hcl (by simp) (by cases t <;> first | rfl | decide +kernel)⟩
  case tup h r =>
    have hk : ∀ (t : Ty) (b : Bool), (∀ n, t = .cls n → S.clss.contains n = true) → some (t == .tuple) = some b → PySem.W.kitOne X.K (.type "tuple") (tyU Γ t) = some b := fun t b hcl e => by
      cases e; exact base t hcl (by simp) (by cases t <;> first | rfl | decide +kernel)
    rcases h with h | ⟨o, its, n, h1, h2, _⟩
    · rcases h with h | ⟨o, h⟩
      · exact ⟨_, .base (.tup (hi _ _ h)), hk⟩
      · exact ⟨_, .fTuple (hi _ _ h), hk⟩
    · exact ⟨_, .kTuple (by rw [U.K]; exact h1) h2, hk⟩
  case lst h r => exact ⟨_, .base (.lst (hi _ _ h)), fun t b hcl e => by cases e; exact base t hcl (by simp) (by cases t <;> first | rfl | decide +kernel)⟩
  case obj a dx C fvs vs ds h0 h1 h2 h3 h4 =>
    have hC := U.objs C h0
    obtain ⟨i1, i2, i3⟩ := U.isi C hC
    refine ⟨_, i1 H _ dx fvs (hi _ _ h1), fun t b hcl e => ?_⟩
    cases e
    cases t with
    | cls n =>
      have := i3 n (hcl n rfl)
      show PySem.W.kitOne X.K (.ref (Γ.cls C)) (.ref (Γ.cls n)) = _
      rw [this]
      congr 1
      rw [Bool.eq_iff_iff]
      simp
      exact eq_comm
    | int => exact (i2 "int" (by simp)).2
    | bool => exact (i2 "bool" (by simp)).2
    | str => exact (i2 "str" (by simp)).2
    | list => exact (i2 "list" (by simp)).2
    | tuple => exact (i2 "tuple" (by simp)).2
theorem dIsi_some {st : Sto} {d : D} {t : Ty} {b : Bool} (h : dIsi st d t = some b) : (dIsi st d .int).isSome = true := by
  cases d <;> simp_all [dIsi]
theorem kitAny_of {tv : Value} {d : D} (st : Sto) (hk : ∀ (t : Ty) (b : Bool), (∀ n, t = .cls n → S.clss.contains n = true) → dIsi st d t = some b → PySem.W.kitOne X.K tv (tyU Γ t) = some b) :
    ∀ {ts : List Ty} {b : Bool} (hcl : ∀ n, .cls n ∈ ts → S.clss.contains n = true) (e : dIsis st d ts = some b), PySem.W.kitAny X.K tv (ts.map (tyU Γ)) = some b
  | [], b, _, e => by cases e; rfl
  | t :: ts, b, hcl, e => by
    unfold dIsis at e
    cases h : dIsi st d t with
    | none => rw [h] at e; cases e
    | some q =>
      rw [h] at e
      have a2 := hk t q (fun n hn => hcl n (by rw [← hn]; simp)) h
      cases q with
      | true =>
        simp at e; subst e
        exact kitAny_cons a2 (fun z => nomatch z) fun _ => rfl
      | false =>
        have e' : dIsis st d ts = some b := by simpa using e
        exact kitAny_cons a2 (fun _ => kitAny_of st hk (fun n hn => hcl n (List.mem_cons_of_mem _ hn)) e') fun z => nomatch z
theorem okTy_cls {t : Ty} {e : Expr} (h : okTy S c t e = true) : ∀ n, t = .cls n → S.clss.contains n = true := by
  intro n hn
  subst hn
  unfold okTy at h
  split at h
  · simp only [Bool.and_eq_true] at h; exact h.2
  · cases h
theorem okTys_cls : ∀ {ts : List Ty} {es : List Expr} (h : okTys S c ts es = true), ∀ n, .cls n ∈ ts → S.clss.contains n = true
  | [], [], _, n, hn => nomatch hn
  | [], _ :: _, h, _, _ => by cases h
  | _ :: _, [], h, _, _ => by cases h
  | t :: ts, e :: es, h, n, hn => by
    unfold okTys at h
    simp only [Bool.and_eq_true] at h
    rcases List.mem_cons.mp hn with z | z
    · exact okTy_cls h.1.1 n z.symm
    · exact okTys_cls h.2 n z
theorem paired_cls : ∀ ts : List Ty, Paired ClsV (ts.map (tyVal Γ)) (ts.map (tyU Γ))
  | [] => .nil
  | t :: ts => .cons (ty_cls t) (paired_cls ts)
theorem pe_isi {a : Tm} {ts : List Ty} {x : Str} {p pos : Pos} {y z : Expr} (C : CxOk c X) (U : Uni Γ S P R k X) (hx : okFree S c x "isinstance" = true) (ha : PE X y (dE Γ W (evE P R a))) (n1 : notStar y = true) (n2 : notStar z = true) (hl : ts.length ≤ 1000) (hne : ts ≠ [])
    (h : okIsi S c ts z = true) : PE X (.Call (.Name x p) [y, z] [] pos) (dE Γ W (evE P R (.isi a ts))) := by
  obtain ⟨ex, g1, g2, g3, g4⟩ := free_of C U hx
  have hv : bootBuiltins x = some (.builtin "isinstance") := by rw [ex]; decide +kernel
  have one : ∀ (t : Ty), okTy S c t z = true → PE X (.Call (.Name x p) [y, z] [] pos) (dE Γ W (evE P R (.isi a [t]))) := fun t ht => by
    refine (pe_callB call_isi g1 g4 hv (pa_cons ha (pa_cons (pe_ty C U ht) pa_nil (star_cons n2)) (star_cons n1)) g3 g2 (star_cons n1) (star_any fun e he => by rw [List.mem_singleton.mp he]; exact n2)).weak fun σ H Q h => ?_
    have h' : dE Γ W (fun ρ st => (evE P R a ρ st).bind fun x st1 => liftB (dIsis st1 x [t]) st1) σ H Q := by simpa only [evE] using h
    refine (dE.one h').imp fun v H1 q => ?_
    obtain ⟨O, κ, L, ρ, st, d, o, e, r, h⟩ := q
    obtain ⟨b, eb, A⟩ := h.afterB
    have eb' : dIsi st d t = some b := by
      unfold dIsis at eb
      cases hq : dIsi st d t with
      | none => rw [hq] at eb; cases eb
      | some q => rw [hq] at eb; cases q <;> simpa [dIsis] using eb
    obtain ⟨tv, a1, a2⟩ := tyx_of U (cut_le _ _) st r (dIsi_some eb')
    exact ⟨v, tyVal Γ t, tv, tyU Γ t, b, rfl, ty_cls t, a1, a2 t b (okTy_cls ht) eb', A.now o (.bl _)⟩
  have many : ∀ (es : List Expr) (kk : Nat) (tp : Pos), z = .Tuple es kk tp → okTys S c ts es = true → PE X (.Call (.Name x p) [y, z] [] pos) (dE Γ W (evE P R (.isi a ts))) := fun es kk tp hz ht => by
    subst hz
    refine (pe_callB call_isiT g1 g4 hv (pa_cons ha (pa_cons (pe_tup (pa_tys C U ht)) pa_nil (star_cons n2)) (star_cons n1)) g3 g2 (star_cons n1) (star_any fun e he => by rw [List.mem_singleton.mp he]; exact n2)).weak fun σ H Q h => ?_
    have h' : dE Γ W (fun ρ st => (evE P R a ρ st).bind fun x st1 => liftB (dIsis st1 x ts) st1) σ H Q := by simpa only [evE] using h
    refine (dE.one h').imp fun v H1 q => ?_
    obtain ⟨O, κ, L, ρ, st, d, o, e, r, h⟩ := q
    obtain ⟨b, eb, A⟩ := h.afterB
    refine ⟨by rw [List.length_map, sizeLine_eq]; omega, fun p hp => ?_⟩
    obtain ⟨n3, o3, m3⟩ := o.laid (o := .tup (ts.map (tyVal Γ))) hp
    cases ts with
    | nil => exact absurd rfl hne
    | cons t0 ts0 =>
      have e0 : (dIsi st d t0).isSome = true := by
        cases hq : dIsi st d t0 with
        | none => unfold dIsis at eb; rw [hq] at eb; cases eb
        | some q => rfl
      obtain ⟨q0, e0⟩ := Option.isSome_iff_exists.mp e0
      obtain ⟨tv, a1, a2⟩ := tyx_of U (n3.le.trans (cut_le _ _)) st r (dIsi_some e0)
      refine ⟨v, p, _, tv, (t0 :: ts0).map (tyU Γ), b, rfl, upd_same, ?_, a1, kitAny_of st a2 (okTys_cls ht) eb, A _ n3 o3 _ (.bl _)⟩
      exact paired_cls _
  unfold okIsi at h
  split at h
  · exact many _ _ _ rfl h
  · split at h
    · exact one _ h
    · cases h
end
end Dp
end SDp10
set_option maxHeartbeats 4000000
/-! Dp11: slices, x[::-1], and, or, not, if as values. -/
noncomputable section SDp11
namespace Dp
open PySem PySem.Spec PyProof.Rows L2

section
open HT
variable {prog : Program} {w : World} {A : Around} {E : Value → Shared → Prop} {s : Shared}
theorem sliceApplied_rev {sl : Addr} {vl vu vs : Value} {n : Nat} {Q : Int × Int × Nat → Shared → Prop} (hs : s.heap.IsSliceOf sl vl vu vs) (pl : IsPart vl none) (pu : IsPart vu none) (ps : IsPart vs (some (-1)))
    (h : Q ((n : Int) - 1, -1, n) s) : wpAny (model prog w) A (Builtin.Slice.sliceApplied (.ref sl) (pure (n : Int))) Q E s := by
  obtain ⟨os, hos, hcs, hds⟩ := id hs
  unfold Builtin.Slice.sliceApplied Builtin.Slice.sliceFields
  refine wpAny_bind (wpAny_bind (wpAny_field hos hds (x := vl) rfl (wpAny_bind (wpAny_field hos hds (x := vu) rfl (wpAny_bind (wpAny_field hos hds (x := vs) rfl (wpAny_pure ?_)))))))
  refine wpAny_bind (slicePart_ ps ?_)
  show wpAny _ _ (if ((-1 : Int) == 0) = true then _ else _) _ _ s
  rw [if_neg (by decide)]
  refine wpAny_bind (slicePart_ pl (wpAny_bind (slicePart_ pu (wpAny_bind (wpAny_pure ?_)))))
  have e1 : Builtin.Slice.sliceAdjust none none (-1) (n : Int) = ((n : Int) - 1, -1) := by
    unfold Builtin.Slice.sliceAdjust
    simp
  have e2 : Builtin.Slice.slicePlaces ((n : Int) - 1) (-1) (-1) = n := by
    unfold Builtin.Slice.slicePlaces
    simp only [show ¬ ((-1 : Int) > 0) by decide, if_false, show (- -1 : Int) = 1 by decide, Int.ediv_one]
    split <;> omega
  show wpAny _ _ (match Builtin.Slice.sliceAdjust none none (-1) (n : Int) with | (lo, hi) => pure (lo, (-1 : Int), Builtin.Slice.slicePlaces lo hi (-1))) _ _ s
  rw [e1]
  show wpAny _ _ (pure ((n : Int) - 1, (-1 : Int), Builtin.Slice.slicePlaces ((n : Int) - 1) (-1) (-1))) _ _ s
  rw [e2]
  exact wpAny_pure h
theorem pick_rev (xs : Array Value) : ((List.range xs.size).filterMap fun (m : Nat) => xs[(((xs.size : Int) - 1) + (m : Int) * -1).toNat]?).toArray = xs.toList.reverse.toArray := by
  congr 1
  apply List.ext_getElem?
  intro i
  have e : (List.range xs.size).filterMap (fun (m : Nat) => xs[(((xs.size : Int) - 1) + (m : Int) * -1).toNat]?) = (List.range xs.size).map (fun m => xs.toList.getD (xs.size - 1 - m) .none) := by
    have : ∀ l : List Nat, (∀ m ∈ l, m < xs.size) → l.filterMap (fun (m : Nat) => xs[(((xs.size : Int) - 1) + (m : Int) * -1).toNat]?) = l.map (fun m => xs.toList.getD (xs.size - 1 - m) .none) := by
      intro l
      induction l with
      | nil => intro _; rfl
      | cons m l ih =>
        intro h
        have hm := h m List.mem_cons_self
        have e0 : (((xs.size : Int) - 1) + (m : Int) * -1).toNat = xs.size - 1 - m := by omega
        rw [List.filterMap_cons, e0, List.map_cons, ih fun k hk => h k (List.mem_cons_of_mem _ hk)]
        have hlt : xs.size - 1 - m < xs.size := by omega
        simp [hlt]
    exact this _ fun m hm => List.mem_range.mp hm
  rw [e]
  by_cases hi : i < xs.size
  · have h1 : xs.size - 1 - i < xs.size := by omega
    have h2 : xs.toList.length - 1 - i < xs.size := by rw [Array.length_toList]; exact h1
    rw [List.getElem?_reverse (by simpa using hi)]
    simp [hi, h1]
  · rw [List.getElem?_eq_none (by simpa using hi), List.getElem?_eq_none (by simpa using hi)]
theorem getItem_tuple_rev {t sl : Addr} {items : Array Value} {vl vu vs : Value} {Q : Value → Shared → Prop} (ht : IsTup s.heap t items) (hs : s.heap.IsSliceOf sl vl vu vs) (pl : IsPart vl none) (pu : IsPart vu none) (ps : IsPart vs (some (-1)))
    (h : Q (.ref s.heap.objs.size) { s with heap := s.heap.push { cls := .type "tuple", data := .seq items.toList.reverse.toArray } })
    (hsz : items.size ≤ sizeLine) : wpAny (model prog w) A (getItem (.ref t) (.ref sl)) Q E s := by
  have htake : sizeOk (.seq items.toList.reverse.toArray) := by
    show items.toList.reverse.toArray.size ≤ sizeLine
    rw [List.size_toArray, List.length_reverse, Array.length_toList]
    exact hsz
  obtain ⟨os, hos, hcs, hds⟩ := id hs
  have hTs : s.TypeIs (.ref sl) "slice" := ⟨os, hos, hcs⟩
  unfold getItem
  try with_reducible refine wpAny_holding ?_
  first | refine wpAny_bind (wpAny_pure ?_) | skip
  refine wpAny_bind (wpAny_sequenceKey ht.typeIs (by decide) ?_)
  refine wpAny_bind (wpAny_callSpecial?_slot (name := Str.ofString "__getitem__") ht.typeIs PyProof.Rows.slot_tuple_getitem
    (wpAny_call_entry PyProof.Rows.slot_tuple_getitem ht.typeIs entry_tuple_getitem ?_ (args_tuple_getitem _ _)))
  show wpAny _ _ (Builtin.Tuple.tupleItemsOf (.ref t) >>= _) _ _ s
  refine wpAny_bind (tupleItemsOf_ ht ?_)
  refine wpAny_bind (wpAny_typeOf hTs ?_)
  rw [if_pos (by decide)]
  refine wpAny_bind (sliceApplied_rev hs pl pu ps ?_)
  have hno : ¬ ((((items.size : Int) - 1) == 0 && (-1 : Int) == 1 && items.size == items.size) = true) := by simp
  show wpAny _ _ (if (((items.size : Int) - 1) == 0 && (-1 : Int) == 1 && items.size == items.size) = true then _ else _) _ _ s
  rw [if_neg hno, pick_rev]
  first
    | exact wpAny_bind (m := Builtin.Tuple.tupleExact _) (wpAny_newObj_type (wpAny_pure ⟨_, rfl, wpAny_pure h⟩) htake)
    | exact wpAny_bind (m := Builtin.Tuple.tupleExact _) (wpAny_newObj_type (wpAny_bind (wpAny_pure (wpAny_pure ⟨_, rfl, wpAny_pure h⟩))) htake)
    | exact wpAny_bind (wpAny_bind (m := Builtin.Tuple.tupleExact _) (wpAny_newObj_type (wpAny_pure (wpAny_pure ⟨_, rfl, wpAny_pure h⟩)) htake))
    | exact wpAny_bind (wpAny_bind (m := Builtin.Tuple.tupleExact _) (wpAny_newObj_type (wpAny_pure ⟨_, rfl, wpAny_pure h⟩) htake))
end

section
variable {X : Cx} {Γ : Glob} {W : WX} {S : Stat} {P : Prog} {R : String → List D → Sto → Res D} {k : Nat} {c : SC}
def rRevD (Γ : Glob) : V → Hp → VK → Prop := rD1 Γ dRev
theorem pe_revD {e : Expr} {te : TE} {k : Nat} {p1 p2 p3 pos : Pos} (hK : X.K = Γ.K) (he : PE X e te) : PE X (.Subscript e (.Slice none none (some (.UnaryOp .USub (.Constant (.int 1) k p1) p2)) p3) pos) (tUn (rD1 Γ dRev) te) := by
  refine ⟨fun pins s σ H Q I h => ?_⟩
  refine Subscript_ (thn (he.run pins s σ H _ I h) fun v s1 ⟨x, H1, I1, r1, q1⟩ => ?_)
  obtain ⟨O, κ, L, st, y, d, o, r, ed, A⟩ := q1
  have hst : PO X (some (.UnaryOp .USub (.Constant (.int 1) k p1) p2)) (tPart (tUn (rU fun i => .int (-i)) (tC (.int 1)))) := po_some (pe_un un_neg pe_int)
  refine wpAny_Slice (thn (po_none.run pins s1 σ H1 (fun o H2 => o = none ∧ H2 = H1) I1 ⟨rfl, rfl⟩) fun vl s2 ⟨l, H2, I2, pl, el, e2⟩ => ?_)
  subst el e2
  refine thn (po_none.run pins s2 σ H2 (fun o H3 => o = none ∧ H3 = H2) I2 ⟨rfl, rfl⟩) fun vu s3 ⟨u, H3, I3, pu, eu, e3⟩ => ?_
  subst eu e3
  refine thn (hst.run pins s3 σ H3 (fun o H4 => o = some (-1) ∧ H4 = H3) I3 ⟨1, rfl, -1, rfl, rfl, rfl⟩) fun vs s4 ⟨ov, H4, I4, ps, eo, e4⟩ => ?_
  subst eo e4
  have I5 : Inv X pins σ H4 { s4 with heap := s4.heap.push { cls := .type "slice", data := .fields #[vl, vu, vs] } } := I4.kept (t' := s4.toks) fun b ob q => Heap.get?_push_of_some _ q
  show wpAny (model X.prog X.w) X.A (subscriptTail e (.Slice none none (some (.UnaryOp .USub (.Constant (.int 1) k p1) p2)) p3) v (.ref s4.heap.objs.size)) (EP X pins σ Q) X.xe { s4 with heap := s4.heap.push { cls := .type "slice", data := .fields #[vl, vu, vs] } }
  cases y <;> try (simp [dRev] at ed; done)
  case lst ds =>
    simp only [dRev, Option.some.injEq] at ed
    subst ed
    obtain ⟨a, xs, rfl, hx, rs⟩ := r.lst_inv
    cases r1
    have hx2 := cut_le _ _ _ _ hx
    obtain ⟨its, r, ht, hz⟩ := I5.list (SqL.of hx2)
    have hlen := r.length
    refine tail_any (ops := [.ref a, .ref s4.heap.objs.size]) ht.isList.typeIs (PySem.slot_list_getitem.lookup) ?_ (by with_unfolding_all rfl)
    refine wpAny_getItem_list_slice ht.isList (Heap.IsSliceOf.new _ vl vu vs) pl pu ps (by decide) ?_ (by rw [List.size_toArray]; omega)
    rw [PySem.W.krv_pick]
    refine ⟨.ref _, _, I5.laid (t' := s4.toks) (o := .lst xs.reverse) (fun b ob q => Heap.get?_push_of_some _ q) (Nat.le_refl _) ?_, rfl, A.lst o rs.rev (I5.hok.fresh (Nat.le_refl _))⟩
    exact ⟨by rw [List.length_reverse]; exact hz, _, 0, r.reverse, Heap.get?_push_size _ rfl⟩
  case tup ds =>
    simp only [dRev, Option.some.injEq] at ed
    subst ed
    obtain ⟨a, xs, rfl, hx, rs⟩ := r.tup_inv
    cases r1
    have hx2 := (cut_le _ _ : Le (imm O κ L H4) H4).sqT hx
    rw [← hK] at hx2
    obtain ⟨its, r, ht, hz⟩ := I5.tuple hx2
    have hlen := r.length
    refine tail_any (ops := [.ref a, .ref s4.heap.objs.size]) ht.typeIs (PyProof.Rows.slot_tuple_getitem.lookup) ?_ (by with_unfolding_all rfl)
    refine getItem_tuple_rev ht (Heap.IsSliceOf.new _ vl vu vs) pl pu ps ?_ (by rw [List.size_toArray]; omega)
    refine ⟨.ref _, _, I5.laid (t' := s4.toks) (o := .tup xs.reverse) (fun b ob q => Heap.get?_push_of_some _ q) (Nat.le_refl _) ?_, rfl, A.tup o rs.rev (I5.hok.fresh (Nat.le_refl _))⟩
    exact ⟨by rw [List.length_reverse]; exact hz, _, r.reverse, IsTup.new _ _⟩

/-! ### slices -/
def dO (Γ : Glob) (W : WX) (f : Ev → Sto → Res (Option Int)) : TO := fun σ H Q => ∃ O κ L ρ st, Ok Γ O κ L H st ∧ EnvR Γ O κ L H σ ρ ∧ fin Γ (fun c d H' => W c d σ H') O κ L H (f ρ st) fun l _ κ' H' => Q l H'
theorem po_noneD : PO X none (dO Γ W (evO P R none)) := ⟨fun pins s σ H Q I h => po_none.run pins s σ H Q I (by
  obtain ⟨O, κ, L, ρ, st, o, e, h⟩ := h
  rw [evO] at h
  exact h κ H .refl o)⟩
theorem po_someD {t : Tm} {e : Expr} (he : PE X e (dE Γ W (evE P R t))) : PO X (some e) (dO Γ W (evO P R (some t))) := ⟨fun pins s σ H Q I h => (po_some he).run pins s σ H Q I (by
  obtain ⟨O, κ, L, ρ, st, o, e, h⟩ := h
  rw [evO] at h
  refine ⟨O, κ, L, ρ, st, o, e, (fin.bind o h).imp fun x st' κ' H' n o' q v r => ?_⟩
  cases x <;> try exact q.elim
  case int i =>
    cases r
    exact ⟨i, rfl, q κ' H' .refl o'⟩)⟩
def rSlD (Γ : Glob) : V → Option Int → Option Int → Hp → VK → Prop := fun v lo hi H Q => ∃ O κ L st x d, Ok Γ O κ L H st ∧ Rep Γ κ (imm O κ L H) v x ∧ dSlc x lo hi = some d ∧ After Γ O κ L H st d Q
theorem Reps.cut {κ : List Addr} {I : Hp} {vs : List V} {ds : List D} (r : Reps Γ κ I vs ds) (lo hi : Option Int) : Reps Γ κ I (cutV vs lo hi) (cutD ds lo hi) := by
  unfold cutV cutD
  rw [r.length]
  exact (r.drop _).take _
theorem sl_D (hK : X.K = Γ.K) : L2.SlR X (rSlD Γ) := by
  intro pins s σ H x v vl vu lo hi sl Q I rx hs pl pu h
  obtain ⟨O, κ, L, st, y, d, o, r, ed, A⟩ := h
  cases y <;> try (simp [dSlc] at ed; done)
  case lst ds =>
    simp only [dSlc, Option.some.injEq] at ed
    subst ed
    obtain ⟨a, xs, rfl, hx, rs⟩ := r.lst_inv
    exact sl_list pins s σ H _ v vl vu lo hi sl Q I rx hs pl pu ⟨a, xs, rfl, SqL.of (cut_le _ _ _ _ hx), fun p hp => A.lst o (rs.cut lo hi) hp⟩
  case tup ds =>
    simp only [dSlc, Option.some.injEq] at ed
    subst ed
    obtain ⟨a, xs, rfl, hx, rs⟩ := r.tup_inv
    have hx2 := (cut_le _ _ : Le (imm O κ L H) H).sqT hx
    rw [← hK] at hx2
    refine sl_tupA pins s σ H _ v vl vu lo hi sl Q I rx hs pl pu ⟨a, xs, rfl, hx2, fun hw => ?_, fun _ p hp => A.tup o (rs.cut lo hi) hp⟩
    have e : cutD ds lo hi = ds := by
      unfold cutD
      rw [← rs.length, hw.1, hw.2]
      simp [rs.length]
    rw [e] at A
    exact A.now o (.tup hx rs)
theorem pe_slcD {a : Tm} {lo hi : Option Tm} {e : Expr} {l h : Option Expr} {p2 pos : Pos} (hK : X.K = Γ.K) (he : PE X e (dE Γ W (evE P R a))) (hl : PO X l (dO Γ W (evO P R lo))) (hh : PO X h (dO Γ W (evO P R hi))) : PE X (.Subscript e (.Slice l h none p2) pos) (dE Γ W (evE P R (.slc a lo hi))) := by
  refine (pe_slice (sl_D hK) he hl hh).weak fun σ H Q h => ?_
  obtain ⟨O, κ, L, ρ, st, o, e, h⟩ := h
  rw [evE] at h
  refine ⟨O, κ, L, ρ, st, o, e, (fin.bind o h).imp fun x st1 κ1 H1 n1 o1 q1 v r => ?_⟩
  refine ⟨O, κ1, L, ρ, st1, o1, e.next n1, (fin.bind o1 q1).imp fun l st2 κ2 H2 n2 o2 q2 => ?_⟩
  refine ⟨O, κ2, L, ρ, st2, o2, (e.next n1).next n2, (fin.bind o2 q2).imp fun u st3 κ3 H3 n3 o3 q3 => ?_⟩
  obtain ⟨d, ed, A⟩ := q3.after
  exact ⟨O, κ3, L, st3, x, d, o3, (r.mono n2.pre n2.le).mono n3.pre n3.le, ed, A⟩

/-! ### and, or, not, if -/
theorem pe_notD {a : Tm} {e : Expr} {pos : Pos} (hK : X.K = Γ.K) (he : PE X e (dE Γ W (evE P R a))) : PE X (.UnaryOp .Not e pos) (dE Γ W (evE P R (.not a))) := by
  refine (pe_notT he).weak fun σ H Q h => ?_
  have h' : dE Γ W (fun ρ st => (evE P R a ρ st).bind fun x st1 => (asTru x st1).bind fun c st2 => .ok (.bl (!c)) st2) σ H Q := by simpa only [evE] using h
  refine (dE.one h').imp fun v H1 q => ?_
  obtain ⟨O, κ, L, ρ, st, x, o, e, r, h⟩ := q
  unfold asTru at h
  cases ed : dTru x with
  | none => rw [ed] at h; exact h.elim
  | some b =>
    rw [ed] at h
    exact ⟨b, tru_of hK (cut_le _ _) r ed, h κ H1 .refl o _ (.bl _)⟩
theorem pe_andD {a b : Tm} {x y : Expr} {rest : List Expr} {pos : Pos} (ha : PE X x (dE Γ W (evE P R a))) (hb : PE X (.BoolOp .And (y :: rest) pos) (dE Γ W (evE P R b))) : PE X (.BoolOp .And (x :: y :: rest) pos) (dE Γ W (evE P R (.and a b))) := by
  refine (pe_and ha hb).weak fun σ H Q h => ?_
  obtain ⟨O, κ, L, ρ, st, o, e, h⟩ := h
  rw [evE] at h
  refine ⟨O, κ, L, ρ, st, o, e, (fin.bind o h).imp fun x st1 κ1 H1 n1 o1 q1 v r => ?_⟩
  cases x <;> try exact q1.elim
  case bl c =>
    cases r
    cases c with
    | true => exact ⟨true, rfl, ⟨O, κ1, L, ρ, st1, o1, e.next n1, q1⟩⟩
    | false => exact ⟨false, rfl, q1 κ1 H1 .refl o1 _ (.bl _)⟩
theorem pe_orD {a b : Tm} {x y : Expr} {rest : List Expr} {pos : Pos} (ha : PE X x (dE Γ W (evE P R a))) (hb : PE X (.BoolOp .Or (y :: rest) pos) (dE Γ W (evE P R b))) : PE X (.BoolOp .Or (x :: y :: rest) pos) (dE Γ W (evE P R (.or a b))) := by
  refine (pe_or ha hb).weak fun σ H Q h => ?_
  obtain ⟨O, κ, L, ρ, st, o, e, h⟩ := h
  rw [evE] at h
  refine ⟨O, κ, L, ρ, st, o, e, (fin.bind o h).imp fun x st1 κ1 H1 n1 o1 q1 v r => ?_⟩
  cases x <;> try exact q1.elim
  case bl c =>
    cases r
    cases c with
    | false => exact ⟨false, rfl, ⟨O, κ1, L, ρ, st1, o1, e.next n1, q1⟩⟩
    | true => exact ⟨true, rfl, q1 κ1 H1 .refl o1 _ (.bl _)⟩
theorem pe_iteD {c a b : Tm} {x y z : Expr} {pos : Pos} (hc : PT X x (dT Γ W (evT P R c))) (ha : PE X y (dE Γ W (evE P R a))) (hb : PE X z (dE Γ W (evE P R b))) : PE X (.IfExp x y z pos) (dE Γ W (evE P R (.ite c a b))) := by
  refine (pe_ifExp hc ha hb).weak fun σ H Q h => ?_
  obtain ⟨O, κ, L, ρ, st, o, e, h⟩ := h
  rw [evE] at h
  refine ⟨O, κ, L, ρ, st, o, e, (fin.bind o h).imp fun t st1 κ1 H1 n1 o1 q1 => ?_⟩
  cases t with
  | true => exact ⟨O, κ1, L, ρ, st1, o1, e.next n1, q1⟩
  | false => exact ⟨O, κ1, L, ρ, st1, o1, e.next n1, q1⟩
/-! ### tests -/
theorem pt_truD {a : Tm} {e : Expr} (hK : X.K = Γ.K) (he : PE X e (dE Γ W (evE P R a))) (hp : ∀ whole, isTrue e X.env whole = (do let v ← whole; standAt e.pos; holding [v] (truthy v))) : PT X e (dT Γ W (evT P R a)) := by
  refine (pt_truth he hp).weak fun σ H Q h => ?_
  obtain ⟨O, κ, L, ρ, st, o, e, h⟩ := h
  unfold evT at h
  refine ⟨O, κ, L, ρ, st, o, e, (fin.bind o h).imp fun x st1 κ1 H1 n1 o1 q1 v r => ?_⟩
  unfold asTru at q1
  cases ed : dTru x with
  | none => rw [ed] at q1; exact q1.elim
  | some b =>
    rw [ed] at q1
    exact ⟨b, tru_of hK (cut_le _ _) r ed, q1 κ1 H1 .refl o1⟩
/-- a reading of a bool as a test -/
theorem dT_bl {a : Tm} {σ : L2.St} {H : Hp} {Q : Bool → Hp → Prop} (hb : ∀ ρ st d st', evE P R a ρ st = .ok d st' → ∃ b, d = .bl b) (h : dT Γ W (evT P R a) σ H Q) : dE Γ W (evE P R a) σ H fun v H' => ∃ b, v = .bl b ∧ Q b H' := by
  obtain ⟨O, κ, L, ρ, st, o, e, h⟩ := h
  unfold evT at h
  refine ⟨O, κ, L, ρ, st, o, e, (fin.bind o h).eqn fun x st1 he κ1 H1 n1 o1 q1 v r => ?_⟩
  obtain ⟨b, rfl⟩ := hb _ _ _ _ he
  cases r
  exact ⟨b, rfl, q1 κ1 H1 .refl o1⟩
theorem pt_notD {a : Tm} {e : Expr} {pos : Pos} (he : PT X e (dT Γ W (evT P R a))) : PT X (.UnaryOp .Not e pos) (dT Γ W (evT P R (.not a))) := by
  refine (pt_not he).weak fun σ H Q h => ?_
  obtain ⟨O, κ, L, ρ, st, o, e, h⟩ := h
  unfold evT at h
  rw [evE] at h
  refine ⟨O, κ, L, ρ, st, o, e, ?_⟩
  unfold evT
  cases hv : evE P R a ρ st with
  | ok x st1 =>
    rw [hv, Res.bind_ok] at h
    rw [Res.bind_ok]
    cases ed : dTru x with
    | none => unfold asTru at h; rw [ed] at h; exact h.elim
    | some b => unfold asTru at h ⊢; rw [ed] at h ⊢; exact h
  | exc c fs st1 => rw [hv] at h; exact h
  | stuck => rw [hv] at h; exact h
theorem pt_of_pw {e : Expr} {t : TT} (h : PW X e t) : PT X e t := ⟨fun pins s σ H Q I q => h.run _ pins s σ H Q I q⟩
theorem pw_andD {a b : Tm} {x y : Expr} {rest : List Expr} {pos : Pos} (ha : PT X x (dT Γ W (evT P R a))) (hb : PW X (.BoolOp .And (y :: rest) pos) (dT Γ W (evT P R b))) : PW X (.BoolOp .And (x :: y :: rest) pos) (dT Γ W (evT P R (.and a b))) := by
  refine (pw_and ha hb).weak fun σ H Q h => ?_
  obtain ⟨O, κ, L, ρ, st, o, e, h⟩ := h
  unfold evT at h
  rw [evE] at h
  refine ⟨O, κ, L, ρ, st, o, e, ?_⟩
  unfold evT
  cases hv : evE P R a ρ st with
  | ok x st1 =>
    rw [hv, Res.bind_ok] at h
    rw [Res.bind_ok]
    cases x <;> try exact h.elim
    case bl c =>
      cases c with
      | true => exact fun κ1 H1 n1 o1 => ⟨O, κ1, L, ρ, st1, o1, e.next n1, fin.step o n1 h⟩
      | false => exact fun κ1 H1 n1 o1 => h κ1 H1 n1 o1
  | exc c fs st1 => rw [hv] at h; exact h
  | stuck => rw [hv] at h; exact h
theorem pw_orD {a b : Tm} {x y : Expr} {rest : List Expr} {pos : Pos} (ha : PT X x (dT Γ W (evT P R a))) (hb : PW X (.BoolOp .Or (y :: rest) pos) (dT Γ W (evT P R b))) : PW X (.BoolOp .Or (x :: y :: rest) pos) (dT Γ W (evT P R (.or a b))) := by
  refine (pw_or ha hb).weak fun σ H Q h => ?_
  obtain ⟨O, κ, L, ρ, st, o, e, h⟩ := h
  unfold evT at h
  rw [evE] at h
  refine ⟨O, κ, L, ρ, st, o, e, ?_⟩
  unfold evT
  cases hv : evE P R a ρ st with
  | ok x st1 =>
    rw [hv, Res.bind_ok] at h
    rw [Res.bind_ok]
    cases x <;> try exact h.elim
    case bl c =>
      cases c with
      | false => exact fun κ1 H1 n1 o1 => ⟨O, κ1, L, ρ, st1, o1, e.next n1, fin.step o n1 h⟩
      | true => exact fun κ1 H1 n1 o1 => h κ1 H1 n1 o1
  | exc c fs st1 => rw [hv] at h; exact h
  | stuck => rw [hv] at h; exact h
end
end Dp
end SDp11
set_option maxHeartbeats 4000000
/-! Dp12: what loops walk, over data; targets; comprehensions. -/
noncomputable section SDp12
namespace Dp
open PySem PySem.Spec PyProof.Rows L2

/-- J walks ds, whatever is laid behind I -/
structure WkD (Γ : Glob) (κ : List Addr) (I : Hp) (J : It) (ds : List D) : Prop where
  go : ∀ i H, Le I H → i < ds.length → J.go i H
  stop : ∀ H, Le I H → J.stop ds.length H
  yld : ∀ i H x H' d, Le I H → ds[i]? = some d → J.yld i H x H' → (H' = H ∧ Rep Γ κ I x d) ∨ ∃ T vs es, H' = upd H T (.tup vs) ∧ H T = none ∧ x = .ref T ∧ d = .tup es ∧ Reps Γ κ I vs es
def dI (Γ : Glob) (W : WX) (f : Ev → Sto → Res (List D)) : TI := fun σ H R => ∃ O κ L ρ st, Ok Γ O κ L H st ∧ EnvR Γ O κ L H σ ρ ∧ fin Γ (fun c d H' => W c d σ H') O κ L H (f ρ st) fun ds _ κ' H' => ∀ J, WkD Γ κ' (imm O κ' L H') J ds → ds.length ≤ sizeLine → R J H'
theorem _root_.L2.PI.weak {X : Cx} {tg e : Expr} {t t' : TI} (h : PI X tg e t) (k : ∀ σ H R, t' σ H R → t σ H R) : PI X tg e t' := ⟨fun pins s σ H R I q => h.run pins s σ H R I (k σ H R q)⟩

section
variable {X : Cx} {Γ : Glob} {W : WX} {S : Stat} {P : Prog} {R : String → List D → Sto → Res D} {k : Nat} {c : SC}
/-! ### lists, tuples -/
def ItS (k : Bool) (K : PySem.W.Frag) (a : Addr) : It := if k then Itl K a else Itt K a
def iSeqD (K : PySem.W.Frag) (te : TE) : TI := fun σ H R => te σ H fun x H1 => ∃ k a xs, x = .ref a ∧ Sq k K H1 a xs ∧ (xs.length ≤ sizeLine → R (ItS k K a) H1)
theorem pi_seqD {tg l : Expr} {tl : TE} (hl : PE X l tl) : PI X tg l (iSeqD X.K tl) := by
  refine ⟨fun pins s σ H R I h => ?_⟩
  refine thn (hl.run pins s σ H _ I h) fun v s1 ⟨x, H1, I1, r1, q1⟩ => ?_
  obtain ⟨k, a, xs, e, hq, q⟩ := q1
  subst e
  cases r1
  cases k with
  | true =>
    obtain ⟨its, rv, p, hz⟩ := I1.list (show SqL X.K H1 a xs from hq)
    refine wpAny_pyIter_list p.isList ?_
    refine ⟨s1.heap.objs.size, [s1.heap.objs.size], _, _, H1, rfl, I1.kept (t' := s1.toks) fun b o e => Heap.get?_push_of_some _ e, turn_list a _, ⟨_, Heap.get?_push_size _ rfl, rfl, rfl⟩, fun b hb => ?_, q hz⟩
    have e : b = s1.heap.objs.size := by simpa using hb
    subst e
    exact I1.fpOk (Nat.le_refl _) (I1.hok.fresh (Nat.le_refl _))
  | false =>
    obtain ⟨its, rv, p, hz⟩ := I1.tuple (show SqT X.K H1 a xs from hq)
    refine wpAny_pyIter_tuple (show s1.heap.IsTuple a its.toArray from p) ?_
    refine ⟨s1.heap.objs.size, [s1.heap.objs.size], _, _, H1, rfl, I1.kept (t' := s1.toks) fun b o e => Heap.get?_push_of_some _ e, turn_tuple a _, ⟨_, Heap.get?_push_size _ rfl, rfl, rfl⟩, fun b hb => ?_, q hz⟩
    have e : b = s1.heap.objs.size := by simpa using hb
    subst e
    exact I1.fpOk (Nat.le_refl _) (I1.hok.fresh (Nat.le_refl _))
/-- a value that a loop walks -/
theorem items_sq {κ : List Addr} {I : Hp} {v : V} {d : D} {ds : List D} (r : Rep Γ κ I v d) (e : items d = some ds) : ∃ k a xs, v = .ref a ∧ (∀ I', Le I I' → Sq k Γ.K I' a xs) ∧ Reps Γ κ I xs ds := by
  cases d <;> try (simp [items] at e; done)
  case lst ys =>
    simp only [items, Option.some.injEq] at e; subst e
    obtain ⟨a, xs, rfl, h, rs⟩ := r.lst_inv
    exact ⟨true, a, xs, rfl, fun I' hi => SqL.of (hi _ _ h), rs⟩
  case tup ys =>
    simp only [items, Option.some.injEq] at e; subst e
    obtain ⟨a, xs, rfl, h, rs⟩ := r.tup_inv
    exact ⟨false, a, xs, rfl, fun I' hi => hi.sqT h, rs⟩
  case frz ys =>
    simp only [items, Option.some.injEq] at e; subst e
    obtain ⟨a, xs, rfl, h, rs⟩ := r.frz_inv
    exact ⟨true, a, xs, rfl, fun I' hi => hi.sqL h, rs⟩
theorem wk_seq {κ : List Addr} {I : Hp} {a : Addr} {k : Bool} {K : PySem.W.Frag} {xs : List V} {ds : List D} (h : ∀ I', Le I I' → Sq k K I' a xs) (rs : Reps Γ κ I xs ds) : WkD Γ κ I (ItS k K a) ds := by
  cases k with
  | true =>
    refine ⟨fun i H hi hl => ?_, fun H hi => ⟨xs, h H hi, by rw [rs.length]; exact Nat.le_refl _⟩, fun i H x H' d hi hd y => ?_⟩
    · have hl' : i < xs.length := by rw [rs.length]; exact hl
      exact ⟨xs, xs[i], h H hi, by simp [hl']⟩
    · obtain ⟨e, y⟩ := y
      obtain ⟨w, hw, r⟩ := rs.get' hd
      rw [y xs (h H hi)] at hw
      cases hw
      exact .inl ⟨e, r⟩
  | false =>
    refine ⟨fun i H hi hl => ?_, fun H hi => ⟨xs, h H hi, by rw [rs.length]; exact Nat.le_refl _⟩, fun i H x H' d hi hd y => ?_⟩
    · have hl' : i < xs.length := by rw [rs.length]; exact hl
      exact ⟨xs, xs[i], h H hi, by simp [hl']⟩
    · obtain ⟨e, y⟩ := y
      obtain ⟨w, hw, r⟩ := rs.get' hd
      rw [y xs (h H hi)] at hw
      cases hw
      exact .inl ⟨e, r⟩
theorem dI_seq {a : Tm} {tg e : Expr} (hK : X.K = Γ.K) (he : PE X e (dE Γ W (evE P R a))) : PI X tg e (dI Γ W (evI P R (.seq a))) := by
  refine (pi_seqD he).weak fun σ H Q h => ?_
  obtain ⟨O, κ, L, ρ, st, o, e, h⟩ := h
  rw [evI] at h
  refine ⟨O, κ, L, ρ, st, o, e, (fin.bind o h).imp fun x st1 κ1 H1 n1 o1 q1 v r => ?_⟩
  cases ei : items x with
  | none => rw [ei] at q1; exact q1.elim
  | some ds =>
    rw [ei] at q1
    obtain ⟨k, a, xs, rfl, h, rs⟩ := items_sq r ei
    rw [← hK] at h
    exact ⟨k, a, xs, rfl, h _ (cut_le _ _), fun hz => q1 κ1 H1 .refl o1 _ (wk_seq h rs) (by rw [← rs.length]; exact hz)⟩
/-! ### range -/
theorem wk_range {κ : List Addr} {I : Hp} {lo : Int} {n : Nat} : WkD Γ κ I (Itr lo n) (rangeD lo n) := by
  have hl : (rangeD lo n).length = n := by simp [rangeD]
  refine ⟨fun i H hi h => by rw [hl] at h; exact h, fun H hi => by rw [hl]; exact Nat.le_refl _, fun i H x H' d hi hd y => ?_⟩
  obtain ⟨e, y⟩ := y
  subst y
  have hlt : i < n := by rw [← hl]; exact (List.getElem?_eq_some_iff.mp hd).1
  have : d = .int (lo + (i : Int)) := by
    unfold rangeD at hd
    rw [List.getElem?_map, List.getElem?_range hlt] at hd
    simpa using hd.symm
  subst this
  exact .inl ⟨e, .int _⟩
theorem dI_range {ts : List Tm} {tg : Expr} {x : Str} {p pos : Pos} {es : List Expr} (C : CxOk c X) (U : Uni Γ S P R k X) (hx : okFree S c x "range" = true) (hl : okL S c ts es = true) (h2 : es.length ≤ 2) (h0 : es.isEmpty = false) (ha : PA X es (dA Γ W (evL P R ts))) :
    PI X tg (.Call (.Name x p) es [] pos) (dI Γ W (evI P R (.range ts))) := by
  obtain ⟨ex, g1, g2, g3, g4⟩ := free_of C U hx
  have ex' : x = "range" := ex
  subst ex'
  have hn := (okL_len hl).2
  have hl' := (okL_len hl).1
  have key : ∀ (σ : L2.St) (H : Hp) (Q : It → Hp → Prop), dI Γ W (evI P R (.range ts)) σ H Q → dA Γ W (evL P R ts) σ H fun vs H1 => (∃ j : Int, es.length = 1 ∧ vs = [.int j] ∧ -(2 ^ 62) ≤ j ∧ j < 2 ^ 62 ∧ Q (Itr 0 j.toNat) H1) ∨
      ∃ i j : Int, es.length = 2 ∧ vs = [.int i, .int j] ∧ (-(2 ^ 62) ≤ i ∧ i < 2 ^ 62 ∧ -(2 ^ 62) ≤ j ∧ j < 2 ^ 62) ∧ Q (Itr i (j - i).toNat) H1 := by
    intro σ H Q h
    obtain ⟨O, κ, L, ρ, st, o, e, h⟩ := h
    rw [evI] at h
    refine ⟨O, κ, L, ρ, st, o, e, (fin.bind o h).eqn fun ds st1 he κ1 H1 n1 o1 q1 vs r => ?_⟩
    have hd := evL_len ts ρ st st1 ds he
    cases er : rng ds with
    | none => rw [er] at q1; exact q1.elim
    | some xs =>
      rw [er] at q1
      unfold rng at er
      split at er
      · rename_i j
        split at er
        · rename_i hj
          cases er
          obtain ⟨v, rfl, r1⟩ := reps1 r
          obtain rfl := r1.int_inv
          simp only [smallI, Bool.and_eq_true, decide_eq_true_eq] at hj
          exact .inl ⟨j, by rw [← hl', ← hd]; rfl, rfl, by omega, by omega, q1 κ1 H1 .refl o1 _ wk_range (by simp only [rangeD, List.length_map, List.length_range]; rw [sizeLine_eq]; omega)⟩
        · cases er
      · rename_i i j
        split at er
        · rename_i hj
          cases er
          obtain ⟨v, w, rfl, r1, r2⟩ := reps2 r
          obtain rfl := r1.int_inv
          obtain rfl := r2.int_inv
          simp only [smallI, Bool.and_eq_true, decide_eq_true_eq] at hj
          exact .inr ⟨i, j, by rw [← hl', ← hd]; rfl, rfl, by omega, q1 κ1 H1 .refl o1 _ wk_range (by simp only [rangeD, List.length_map, List.length_range]; rw [sizeLine_eq]; omega)⟩
        · cases er
      · cases er
  match es, ha, hn, key, h2, h0 with
  | [e1], ha, hn, key, _, _ =>
    refine (pi_range1 g1 g4 ha (by rw [star_cons (hn _ (by simp))]; rfl)).weak fun σ H Q h => ?_
    obtain ⟨O, κ, L, ρ, st, o, e, h⟩ := key _ _ _ h
    refine ⟨O, κ, L, ρ, st, o, e, h.imp fun ds st1 κ1 H1 n1 o1 q1 vs r => ?_⟩
    rcases q1 vs r with ⟨j, _, q⟩ | ⟨i, j, z, _⟩
    · exact ⟨j, q⟩
    · cases z
  | [e1, e2], ha, hn, key, _, _ =>
    refine (pi_range2 g1 g4 ha (by rw [star_cons (hn _ (by simp)), star_cons (hn _ (by simp))]; rfl) (by rw [star_cons (hn _ (by simp))]; rfl)).weak fun σ H Q h => ?_
    obtain ⟨O, κ, L, ρ, st, o, e, h⟩ := key _ _ _ h
    refine ⟨O, κ, L, ρ, st, o, e, h.imp fun ds st1 κ1 H1 n1 o1 q1 vs r => ?_⟩
    rcases q1 vs r with ⟨j, z, _⟩ | ⟨i, j, _, q⟩
    · cases z
    · exact ⟨i, j, q⟩
  | _ :: _ :: _ :: _, _, _, _, h2, _ => simp at h2
  | [], _, _, _, _, h0 => simp at h0
/-! ### enumerate -/
theorem wk_enum {κ : List Addr} {I : Hp} {a : Addr} {k : Bool} {K : PySem.W.Frag} {xs : List V} {ds : List D} (h : ∀ I', Le I I' → Sq k K I' a xs) (rs : Reps Γ κ I xs ds) : WkD Γ κ I (ItE k K a) (enumD ds) := by
  have hlen : (enumD ds).length = ds.length := by simp [enumD]
  have hl := rs.length
  refine ⟨fun i H hi hlt => ?_, fun H hi => ⟨xs, h H hi, by rw [hlen, hl]⟩, fun i H x H' d hi hd y => ?_⟩
  · have hl' : i < xs.length := by rw [hl, ← hlen]; exact hlt
    exact ⟨xs, xs[i], h H hi, by simp [hl']⟩
  · obtain ⟨T, w, rfl, hT, rfl, hy⟩ := y
    have hw := hy xs (h H hi)
    obtain ⟨e, he, r⟩ := rs.get hw
    have hlt : i < ds.length := (List.getElem?_eq_some_iff.mp he).1
    have : d = .tup [.int (i : Nat), e] := by
      unfold enumD at hd
      rw [List.getElem?_zipWith, List.getElem?_range hlt, he] at hd
      simpa using hd.symm
    exact .inr ⟨T, _, _, rfl, hT, rfl, this, .cons (.int _) (.cons r .nil)⟩
theorem dI_enum {a : Tm} {x : Str} {p pos tpos : Pos} {e : Expr} {elts : List Expr} {kk : Nat} (C : CxOk c X) (U : Uni Γ S P R k X) (hx : okFree S c x "enumerate" = true) (hs : notStar e = true) (he : PE X e (dE Γ W (evE P R a))) :
    PI X (.Tuple elts kk tpos) (.Call (.Name x p) [e] [] pos) (dI Γ W (evI P R (.enum a))) := by
  obtain ⟨ex, g1, g2, g3, g4⟩ := free_of C U hx
  have ex' : x = "enumerate" := ex
  subst ex'
  refine (pi_enumD g1 g4 (pa_cons he pa_nil (star_cons hs)) (by rw [star_cons hs]; rfl)).weak fun σ H Q h => ?_
  obtain ⟨O, κ, L, ρ, st, o, e, h⟩ := h
  rw [evI] at h
  refine ⟨O, κ, L, ρ, st, o, e, (fin.bind o h).imp fun x st1 κ1 H1 n1 o1 q1 v r => ?_⟩
  cases ei : items x with
  | none => rw [ei] at q1; exact q1.elim
  | some ds =>
    rw [ei] at q1
    obtain ⟨k, a, xs, rfl, h, rs⟩ := items_sq r ei
    rw [← U.K] at h
    exact ⟨k, a, xs, rfl, h _ (cut_le _ _), fun hz => q1 κ1 H1 .refl o1 _ (wk_enum h rs) (by simp only [enumD, List.length_zipWith, List.length_range, Nat.min_self]; rw [← rs.length]; exact hz)⟩
/-! ### zip -/
theorem wk_zip {κ : List Addr} {I : Hp} {a b : Addr} {k1 k2 : Bool} {K : PySem.W.Frag} {xs ys : List V} {ds es : List D} (h1 : ∀ I', Le I I' → Sq k1 K I' a xs) (h2 : ∀ I', Le I I' → Sq k2 K I' b ys) (rs : Reps Γ κ I xs ds) (rs2 : Reps Γ κ I ys es) :
    WkD Γ κ I (ItZ k1 k2 K a b) (zipD ds es) := by
  have hlen : (zipD ds es).length = min ds.length es.length := by simp [zipD]
  have hl := rs.length
  have hl2 := rs2.length
  refine ⟨fun i H hi hlt => ?_, fun H hi => ⟨xs, ys, h1 H hi, h2 H hi, by rw [hlen, hl, hl2]⟩, fun i H x H' d hi hd y => ?_⟩
  · have ha : i < xs.length := by omega
    have hb : i < ys.length := by omega
    exact ⟨xs, ys, xs[i], ys[i], h1 H hi, h2 H hi, by simp [ha], by simp [hb]⟩
  · obtain ⟨T, u, w, rfl, hT, rfl, hy1, hy2⟩ := y
    obtain ⟨e1, he1, r1⟩ := rs.get (hy1 xs (h1 H hi))
    obtain ⟨e2, he2, r2⟩ := rs2.get (hy2 ys (h2 H hi))
    have : d = .tup [e1, e2] := by
      unfold zipD at hd
      rw [List.getElem?_zipWith, he1, he2] at hd
      simpa using hd.symm
    exact .inr ⟨T, _, _, rfl, hT, rfl, this, .cons r1 (.cons r2 .nil)⟩
theorem dI_zip {ts : List Tm} {x : Str} {p pos tpos : Pos} {es elts : List Expr} {kk : Nat} (C : CxOk c X) (U : Uni Γ S P R k X) (hx : okFree S c x "zip" = true) (hl : okL S c ts es = true) (h2 : es.length = 2) (ha : PA X es (dA Γ W (evL P R ts))) :
    PI X (.Tuple elts kk tpos) (.Call (.Name x p) es [] pos) (dI Γ W (evI P R (.zip ts))) := by
  obtain ⟨ex, g1, g2, g3, g4⟩ := free_of C U hx
  have ex' : x = "zip" := ex
  subst ex'
  have hn := (okL_len hl).2
  match es, ha, hn, h2 with
  | [e1, e2], ha, hn, _ =>
    refine (pi_zipD g1 g4 ha (star_cons (hn _ (by simp))) (star_any fun e he => hn e (List.mem_cons_of_mem _ he))).weak fun σ H Q h => ?_
    obtain ⟨O, κ, L, ρ, st, o, e, h⟩ := h
    rw [evI] at h
    refine ⟨O, κ, L, ρ, st, o, e, (fin.bind o h).imp fun ds st1 κ1 H1 n1 o1 q1 vs r => ?_⟩
    split at q1
    · rename_i da db
      obtain ⟨v, w, rfl, ra, rb⟩ := reps2 r
      split at q1
      · rename_i xs ys ea eb
        obtain ⟨k1, a1, us, rfl, h1, rs1⟩ := items_sq ra ea
        obtain ⟨k2, a2, ws, rfl, h2, rs2⟩ := items_sq rb eb
        rw [← U.K] at h1 h2
        exact ⟨k1, k2, a1, a2, us, ws, rfl, h1 _ (cut_le _ _), h2 _ (cut_le _ _), fun hz => q1 κ1 H1 .refl o1 _ (wk_zip h1 h2 rs1 rs2) (by simp only [zipD, List.length_zipWith]; have := rs1.length; omega)⟩
      · exact q1.elim
    · exact q1.elim
end
end Dp
end SDp12
set_option maxHeartbeats 4000000
/-! Dp13: targets; comprehensions. -/
noncomputable section SDp13
namespace Dp
open PySem PySem.Spec PyProof.Rows L2

section
variable {X : Cx} {Γ : Glob} {W : WX} {S : Stat} {P : Prog} {R : String → List D → Sto → Res D} {k : Nat} {c : SC}
/-! ### targets -/
theorem EnvR.put {O : Addr → Prop} {κ : List Addr} {L : List (Nat × Addr)} {H : Hp} {σ : L2.St} {ρ : Ev} {v : V} {d : D} (e : EnvR Γ O κ L H σ ρ) (r : Rep Γ κ (imm O κ L H) v d) (i : Nat) : EnvR Γ O κ L H (σ.set i (some v)) (ρ.set i (.val d)) := by
  refine ⟨by simp [e.len], fun j s h => ?_, e.lk⟩
  by_cases hj : i = j
  · subst hj
    have hl : i < (ρ.set i (.val d)).length := (List.getElem?_eq_some_iff.mp h).1
    rw [List.length_set] at hl
    rw [List.getElem?_set_self hl] at h
    cases h
    exact ⟨v, List.getElem?_set_self (by rw [e.len]; exact hl), r⟩
  · rw [List.getElem?_set_ne hj] at h
    have q := e.sl j s h
    cases s with
    | no => trivial
    | val d => obtain ⟨w, hw, r⟩ := q; exact ⟨w, by rw [List.getElem?_set_ne hj]; exact hw, r⟩
    | own o => obtain ⟨a, m, hw, r⟩ := q; exact ⟨a, m, by rw [List.getElem?_set_ne hj]; exact hw, r⟩
    | exn _ _ => exact SlX.mono List.prefix_rfl Le.refl (List.getElem?_set_ne hj) q
def gNames : List Nat → TGs
  | [] => gNil
  | i :: is => gCons (gName i) (gNames is)
def gOf (K : PySem.W.Frag) : Tg → TG
  | .one i => gName i
  | .many is => gTup K is.length (gNames is)
theorem pgs_names : ∀ {is : List Nat} {es : List Expr} (C : CxOk c X) (h : okNames c is es = true), PGs X es (gNames is) ∧ (assignEach es X.env).length = is.length ∧ (assignEach es X.env).findIdx? (·.1) = none
  | [], [], C, h => ⟨pgs_nil, rfl, rfl⟩
  | [], _ :: _, _, h => by cases h
  | _ :: _, [], _, h => by cases h
  | i :: is, e :: es, C, h => by
    cases e <;> try (cases h; done)
    case Name x p =>
      unfold okNames at h
      simp only [Bool.and_eq_true] at h
      obtain ⟨h1, h2, h3⟩ := slot_of C h.1
      obtain ⟨g1, g2, g3⟩ := pgs_names C h.2
      refine ⟨pgs_cons (pg_name (by rw [C.N]; exact C.nd) h1 h2 h3) g1, ?_, ?_⟩
      · show (assignEach es X.env).length + 1 = is.length + 1
        rw [g2]
      · show ((false, assign (.Name x p) X.env) :: assignEach es X.env).findIdx? (·.1) = none
        rw [List.findIdx?_cons, g3]
        rfl
theorem pg_of {tg : Tg} {e : Expr} (C : CxOk c X) (h : okTg c tg e = true) : PG X e (gOf X.K tg) := by
  unfold okTg at h
  split at h
  · obtain ⟨h1, h2, h3⟩ := slot_of C h
    exact pg_name (by rw [C.N]; exact C.nd) h1 h2 h3
  · simp only [Bool.and_eq_true] at h
    obtain ⟨g1, g2, g3⟩ := pgs_names C h.1.2
    exact pg_tup (by rw [C.calm]; exact h.1.1) g1 g2 g3
  · cases h
theorem gNames_of {O : Addr → Prop} {κ : List Addr} {L : List (Nat × Addr)} {H : Hp} {Q : L2.St → Hp → Prop} : ∀ {is : List Nat} {vs : List V} {ds : List D} {σ : L2.St} {ρ : Ev}, Reps Γ κ (imm O κ L H) vs ds → is.length = ds.length → EnvR Γ O κ L H σ ρ →
    (∀ σ', EnvR Γ O κ L H σ' ((is.zip ds).foldl (fun ρ p => ρ.set p.1 (.val p.2)) ρ) → σ'.length = σ.length → (∀ j, j ∉ is → σ'[j]? = σ[j]?) → Q σ' H) → gNames is vs σ H Q
  | [], vs, ds, σ, ρ, r, hl, e, q => by
    cases ds with
    | nil => cases r; exact ⟨rfl, q σ e rfl fun _ _ => rfl⟩
    | cons _ _ => cases hl
  | i :: is, vs, ds, σ, ρ, r, hl, e, q => by
    cases ds with
    | nil => cases hl
    | cons d ds =>
      cases r with
      | @cons v _ vs _ r1 r2 =>
        refine ⟨v, vs, rfl, ?_⟩
        refine gNames_of r2 (by simpa using hl) (e.put r1 i) fun σ' e' l' k' => q σ' ?_ (by rw [l', List.length_set]) fun j hj => ?_
        · rw [List.zip_cons_cons, List.foldl_cons]
          exact e'
        · simp only [List.mem_cons, not_or] at hj
          rw [k' j hj.2, List.getElem?_set_ne (fun z => hj.1 z.symm)]
theorem g_of {O : Addr → Prop} {κ : List Addr} {L : List (Nat × Addr)} {H : Hp} {Q : L2.St → Hp → Prop} {tg : Tg} {v : V} {d : D} {σ : L2.St} {ρ ρ' : Ev} (hK : X.K = Γ.K) (r : Rep Γ κ (imm O κ L H) v d) (hb : bindT tg d ρ = some ρ') (e : EnvR Γ O κ L H σ ρ)
    (q : ∀ σ', EnvR Γ O κ L H σ' ρ' → σ'.length = σ.length → (∀ j, j ∉ slotsOf tg → σ'[j]? = σ[j]?) → Q σ' H) : gOf X.K tg v σ H Q := by
  cases tg with
  | one i =>
    cases hb
    exact q _ (e.put r i) (by rw [List.length_set]) fun j hj => List.getElem?_set_ne fun z => hj (by simp [slotsOf, z])
  | many is =>
    cases d <;> try (cases hb; done)
    case tup ds =>
      have hb' : (if is.length = ds.length then some ((is.zip ds).foldl (fun ρ p => ρ.set p.1 (.val p.2)) ρ) else none) = some ρ' := hb
      split at hb'
      · rename_i hl
        cases hb'
        obtain ⟨a, xs, rfl, h, rs⟩ := r.tup_inv
        refine ⟨a, xs, rfl, by rw [hK]; exact (cut_le _ _).sqT h, by rw [rs.length, hl], ?_⟩
        exact gNames_of rs hl e fun σ' e' l k => q σ' e' l k
      · cases hb'
theorem wipeT_get {tg : Tg} {ρ : Ev} {j : Nat} {s : Sl} (h : (wipeT tg ρ)[j]? = some s) : s = .no ∨ (ρ[j]? = some s ∧ j ∉ slotsOf tg) := by
  have one : ∀ (ρ : Ev) (i : Nat), (ρ.set i .no)[j]? = some s → s = .no ∨ (ρ[j]? = some s ∧ j ≠ i) := by
    intro ρ i h
    by_cases hj : i = j
    · subst hj
      have hl : i < (ρ.set i Sl.no).length := (List.getElem?_eq_some_iff.mp h).1
      rw [List.length_set] at hl
      rw [List.getElem?_set_self hl] at h
      cases h
      exact .inl rfl
    · rw [List.getElem?_set_ne hj] at h
      exact .inr ⟨h, fun z => hj z.symm⟩
  cases tg with
  | one i =>
    rcases one ρ i h with z | ⟨z, z2⟩
    · exact .inl z
    · exact .inr ⟨z, by simpa [slotsOf] using z2⟩
  | many is =>
    replace h : (is.foldl (fun ρ i => ρ.set i Sl.no) ρ)[j]? = some s := h
    show _ ∨ (_ ∧ j ∉ is)
    induction is generalizing ρ with
    | nil => exact .inr ⟨h, by simp⟩
    | cons i is ih =>
      rw [List.foldl_cons] at h
      rcases ih h with z | ⟨z, z2⟩
      · exact .inl z
      · rcases one ρ i z with y | ⟨y, y2⟩
        · exact .inl y
        · exact .inr ⟨y, by simp only [List.mem_cons, not_or]; exact ⟨y2, z2⟩⟩
theorem wipeT_len {tg : Tg} {ρ : Ev} : (wipeT tg ρ).length = ρ.length := by
  cases tg with
  | one i => simp [wipeT]
  | many is =>
    show (is.foldl (fun ρ i => ρ.set i Sl.no) ρ).length = _
    induction is generalizing ρ with
    | nil => rfl
    | cons i is ih => rw [List.foldl_cons, ih]; simp
theorem EnvR.wipe {O : Addr → Prop} {κ : List Addr} {L : List (Nat × Addr)} {H : Hp} {σ : L2.St} {ρ : Ev} (e : EnvR Γ O κ L H σ ρ) (tg : Tg) : EnvR Γ O κ L H (L2.wipe σ (slotsOf tg)) (wipeT tg ρ) := by
  refine ⟨by rw [wipe_length, wipeT_len, e.len], fun j s h => ?_, e.lk⟩
  rcases wipeT_get h with z | ⟨z, z2⟩
  · subst z; trivial
  · have q := e.sl j s z
    have w := wipe_out (σ := σ) z2
    cases s with
    | no => trivial
    | val d => obtain ⟨v, hv, r⟩ := q; exact ⟨v, w.trans hv, r⟩
    | own o => obtain ⟨a, m, hv, r⟩ := q; exact ⟨a, m, w.trans hv, r⟩
    | exn _ _ => exact SlX.mono List.prefix_rfl Le.refl w q
theorem wipe_in {σ : L2.St} {i : Nat} : ∀ {vs : List Nat}, i ∈ vs → i < σ.length → (L2.wipe σ vs)[i]? = some none
  | v :: vs, h, hl => by
    unfold L2.wipe
    by_cases z : v = i
    · subst z; exact List.getElem?_set_self (by rw [wipe_length]; exact hl)
    · rw [List.getElem?_set_ne z]
      rcases List.mem_cons.mp h with y | y
      · exact absurd y.symm z
      · exact wipe_in y hl
theorem wipe_same {σ σ2 : L2.St} {vs : List Nat} (hl : σ2.length = σ.length) (h : ∀ j, j ∉ vs → σ2[j]? = σ[j]?) : L2.wipe σ2 vs = L2.wipe σ vs := by
  apply List.ext_getElem?
  intro j
  by_cases hj : j ∈ vs
  · by_cases hlt : j < σ.length
    · rw [wipe_in hj hlt, wipe_in hj (by rw [hl]; exact hlt)]
    · rw [List.getElem?_eq_none (by rw [wipe_length]; omega), List.getElem?_eq_none (by rw [wipe_length]; omega)]
  · rw [wipe_out hj, wipe_out hj, h j hj]

/-! ### an object of one's own, seen as another's -/
def oD (O : Addr → Prop) (D : Addr) : Addr → Prop := fun a => O a ∨ a = D
section
variable {O : Addr → Prop} {κ κ' κ'' : List Addr} {L : List (Nat × Addr)} {H H' H'' : Hp} {st : Sto} {Dd : Addr} {o : HO}
theorem Ok.fresh (h : Ok Γ O κ L H st) (hD : H Dd = none) : ¬ Mb O κ L Dd := by
  rintro (z | z | z)
  · obtain ⟨u, e⟩ := h.oth Dd z; rw [hD] at e; cases e
  · obtain ⟨n, hn⟩ := List.mem_iff_getElem?.mp z
    have hl : n < st.length := by rw [← h.len]; exact (List.getElem?_eq_some_iff.mp hn).1
    obtain ⟨u, e⟩ := (h.st n Dd st[n] hn (by simp [hl])).some
    rw [hD] at e; cases e
  · obtain ⟨u, e⟩ := h.ownS Dd z; rw [hD] at e; cases e
theorem imm_oD {H : Hp} {v : HO} (hm : ¬ Mb O κ L Dd) : imm (oD O Dd) κ L (upd H Dd v) = imm (oD O Dd) κ L H := by
  funext a
  unfold imm cut
  by_cases z : a = Dd
  · subst z
    have : Mb (oD O a) κ L a := .inl (.inr rfl)
    rw [if_pos this, if_pos this]
  · rw [upd_ne z]
theorem le_oD : Le (imm (oD O Dd) κ L H) (imm O κ L H) := fun a u e => by
  obtain ⟨h, e⟩ := cut_some.mp e
  refine cut_some.mpr ⟨fun z => h ?_, e⟩
  rcases z with z | z
  · exact .inl (.inl z)
  · exact .inr z
/-- the object at D, whatever it is, as another's -/
theorem Ok.toD (h : Ok Γ O κ L H st) (hD : H Dd = none) : Ok Γ (oD O Dd) κ L (upd H Dd o) st ∧ Le (imm O κ L H) (imm (oD O Dd) κ L (upd H Dd o)) := by
  have nm := h.fresh hD
  have ne : ∀ {a : Addr} {u : HO}, H a = some u → a ≠ Dd := fun e z => by rw [z, hD] at e; cases e
  have le : Le (imm O κ L H) (imm (oD O Dd) κ L (upd H Dd o)) := fun a u e => by
    obtain ⟨h1, e1⟩ := cut_some.mp e
    refine cut_some.mpr ⟨?_, by rw [upd_ne (ne e1)]; exact e1⟩
    rintro ((z | z) | z)
    · exact h1 (.inl z)
    · exact ne e1 z
    · exact h1 (.inr z)
  refine ⟨⟨h.nd, fun a ha => ?_, fun a z => ?_, h.len, fun n a s h1 h2 => ?_, fun p z => ?_⟩, le⟩
  · rintro (z | z)
    · exact h.ap a ha z
    · subst z
      rcases List.mem_append.mp ha with z | z
      · exact nm (.inr (.inl z))
      · exact nm (.inr (.inr z))
  · rcases z with z | z
    · obtain ⟨u, e⟩ := h.oth a z; exact ⟨u, by rw [upd_ne (ne e)]; exact e⟩
    · subst z; exact ⟨_, upd_same⟩
  · have q := h.st n a s h1 h2
    obtain ⟨w, e⟩ := q.some
    exact q.mono List.prefix_rfl le (upd_ne (ne e))
  · obtain ⟨u, e⟩ := h.own p z; exact ⟨u, by rw [upd_ne (ne e)]; exact e⟩
/-- it changes -/
theorem Ok.setD (h : Ok Γ (oD O Dd) κ L H st) : Ok Γ (oD O Dd) κ L (upd H Dd o) st := by
  have nk : ∀ a ∈ κ ++ L.map (·.2), a ≠ Dd := fun a ha z => h.ap a ha (.inr z)
  have im : imm (oD O Dd) κ L (upd H Dd o) = imm (oD O Dd) κ L H := by
    funext a
    unfold imm cut
    by_cases z : a = Dd
    · subst z
      have : Mb (oD O a) κ L a := .inl (.inr rfl)
      rw [if_pos this, if_pos this]
    · rw [upd_ne z]
  refine ⟨h.nd, h.ap, fun a z => ?_, h.len, fun n a s h1 h2 => ?_, fun p z => ?_⟩
  · by_cases y : a = Dd
    · subst y; exact ⟨_, upd_same⟩
    · rw [upd_ne y]; exact h.oth a z
  · rw [im]
    exact (h.st n a s h1 h2).mono List.prefix_rfl (fun _ _ e => e) (upd_ne (nk a (List.mem_append_left _ (List.mem_iff_getElem?.mpr ⟨n, h1⟩))))
  · obtain ⟨u, e⟩ := h.own p z
    exact ⟨u, by rw [upd_ne (nk p.2 (List.mem_append_right _ (List.mem_map.mpr ⟨p, z, rfl⟩)))]; exact e⟩
/-- it is done: nobody's any more -/
theorem Ok.ofD (h : Ok Γ (oD O Dd) κ L H st) : Ok Γ O κ L H st :=
  ⟨h.nd, fun a ha z => h.ap a ha (.inl z), fun a z => h.oth a (.inl z), h.len, fun n a s h1 h2 => (h.st n a s h1 h2).mono List.prefix_rfl le_oD rfl, h.own⟩
theorem Ok.notD (h : Ok Γ (oD O Dd) κ L H st) (hO : ¬ O Dd) : ¬ Mb O κ L Dd := by
  rintro (z | z | z)
  · exact hO z
  · exact h.ap Dd (List.mem_append_left _ z) (.inr rfl)
  · exact h.ap Dd (List.mem_append_right _ z) (.inr rfl)
/-- onward, from before D was laid -/
theorem Nx.thenD (n : Nx O κ L H κ' H') (hD : H Dd = none) (m : Nx (oD O Dd) κ' L H' κ'' H'') (own : ∀ a ∈ L.map (·.2), ∃ u, H a = some u) (oth : ∀ a, O a → ∃ u, H a = some u) : Nx O κ L H κ'' H'' where
  pre := n.pre.trans m.pre
  imm := fun a o e h => m.imm a o (n.imm a o e h) (by
    rintro ((z | z) | z)
    · exact h (.inl z)
    · rw [z, hD] at e; cases e
    · exact n.not e h (.inr z))
  oth := fun a h => (m.oth a (.inl h)).trans (n.oth a h)
  own := fun a h => (m.own a h).trans (n.own a h)
  new := fun a h hk => by
    by_cases h' : a ∈ κ'
    · exact n.new a h' hk
    · have e := m.new a h h'
      cases q : H a with
      | none => rfl
      | some u =>
        by_cases hm : Mb O κ L a
        · rcases hm with z | z | z
          · obtain ⟨v, hv⟩ := oth a z
            rw [n.oth a z, hv] at e; cases e
          · exact absurd z hk
          · obtain ⟨v, hv⟩ := own a z
            rw [n.own a z, hv] at e; cases e
        · rw [n.imm a u q hm] at e; cases e
theorem Nx.setD (n : Nx O κ L H κ' H') (hD : H Dd = none) (own : ∀ a ∈ L.map (·.2), ∃ u, H a = some u) (oth : ∀ a, O a → ∃ u, H a = some u) : Nx O κ L H κ' (upd H' Dd o) := by
  have ne : ∀ {a : Addr} {u : HO}, H a = some u → a ≠ Dd := fun e z => by rw [z, hD] at e; cases e
  exact ⟨n.pre, fun a u e h => by rw [upd_ne (ne e)]; exact n.imm a u e h, fun a h => by obtain ⟨u, e⟩ := oth a h; rw [upd_ne (ne e)]; exact n.oth a h,
    fun a h => by obtain ⟨u, e⟩ := own a h; rw [upd_ne (ne e)]; exact n.own a h, n.new⟩
theorem EnvR.mono {L : List (Nat × Addr)} {O' : Addr → Prop} {σ : L2.St} {ρ : Ev} (e : EnvR Γ O κ L H σ ρ) (hk : κ <+: κ') (hi : Le (imm O κ L H) (imm O' κ' L H')) (ho : ∀ a ∈ L.map (·.2), H' a = H a) : EnvR Γ O' κ' L H' σ ρ :=
  ⟨e.len, fun i s h => by
    have q := e.sl i s h
    cases s with
    | no => trivial
    | val d => obtain ⟨w, hw, r⟩ := q; exact ⟨w, hw, r.mono hk hi⟩
    | own o => obtain ⟨a, m, hw, r⟩ := q; exact ⟨a, m, hw, r.mono hk hi (ho a (List.mem_map.mpr ⟨_, m, rfl⟩))⟩
    | exn _ _ => exact SlX.mono hk hi rfl q, e.lk⟩
end
end
end Dp
end SDp13
set_option maxHeartbeats 4000000
/-! Dp14: comprehensions. -/
noncomputable section SDp14
namespace Dp
open PySem PySem.Spec PyProof.Rows L2

section
variable {X : Cx} {Γ : Glob} {W : WX} {S : Stat} {P : Prog} {R : String → List D → Sto → Res D} {k : Nat} {c : SC}
def W0 : WX := fun _ _ _ _ => False
theorem CxOk.blk (C : CxOk c X) (s : Shared) (H : Hp) (a : Addr) (cl : List (Str × Addr)) (fp : List Addr) (scope : Scope) : CxOk (blkSC c scope) (X.blk s H scope (compEnvC scope cl a X.env) fp) :=
  ⟨C.N, by rw [show (blkSC c scope).sc = relS scope c.sc from rfl, ← C.sc]; rfl, rfl, C.calm, C.nd⟩
theorem Uni.blk (U : Uni Γ S P R k X) (hc : X.calm = true) (s : Shared) (H : Hp) (env : Env) (fp : List Addr) (scope : Scope) : Uni Γ S P R k (X.blk s H scope env fp) :=
  ⟨U.K, U.hu, U.room, U.pf, U.px, U.free, U.con, U.fn, U.fnAt, U.clsV, U.cls, U.meth, U.fld, U.isi, U.objs, fun z => absurd (hc.symm.trans z) (by simp), U.exn0, U.eqm, U.finj, fun z => absurd (hc.symm.trans z) (by simp), U.hln⟩
theorem compR_step {f : D → Sto → Res (Option D)} {x : D} {xs : List D} {st stF : Sto} {tot : List D} (h : compR f (x :: xs) st = .ok tot stF) : ∃ o st1 ys, f x st = .ok o st1 ∧ compR f xs st1 = .ok ys stF ∧ tot = o.toList ++ ys := by
  unfold compR at h
  split at h
  · rename_i o st1 e
    split at h
    · rename_i ys st2 e2
      cases h
      exact ⟨o, st1, ys, e, e2, rfl⟩
    · cases h
  · cases h
/-- a comprehension: the new list at D, its items laid -/
def compF (P : Prog) (R : String → List D → Sto → Res D) (tg : Tg) (cond : Option Tm) (el : Tm) (ρ : Ev) : D → Sto → Res (Option D) := fun x s => match bindT tg x (wipeT tg ρ) with
  | some ρ' => (evC P R cond ρ' s).bind fun c s1 => if c then (evE P R el ρ' s1).bind fun y s2 => .ok (some y) s2 else .ok none s1
  | none => .stuck
def tComp (Γ : Glob) (W : WX) (P : Prog) (R : String → List D → Sto → Res D) (tg : Tg) (it : Tm) (cond : Option Tm) (el : Tm) : TE := fun σ H Q => ∃ O κ L ρ st, Ok Γ O κ L H st ∧ EnvR Γ O κ L H σ ρ ∧ fin Γ (fun c d H' => W c d σ H') O κ L H (evI P R it ρ st) fun ds st1 κ1 H1 =>
  ∃ tot stF, compR (compF P R tg cond el ρ) ds st1 = .ok tot stF ∧ ∀ κ' H' D vs, Nx O κ1 L H1 κ' H' → Ok Γ (oD O D) κ' L H' stF → ¬ O D → H1 D = none → H' D = some (.lst vs) → Reps Γ κ' (imm (oD O D) κ' L H') vs tot → Q (.ref D) H'
theorem lcG {tg : Tg} {it el : Tm} {cond : Option Tm} (hK : X.K = Γ.K) {σ : L2.St} {H : Hp} {Q : VK} (h : tComp Γ W P R tg it cond el σ H Q) :
    tLc (dI Γ W (evI P R it)) (gOf X.K tg) (dT Γ W0 (evC P R cond)) (dE Γ W0 (evE P R el)) (slotsOf tg) σ H Q := by
  obtain ⟨O, κ, L, ρ, st, o, e, h⟩ := h
  refine ⟨O, κ, L, ρ, st, o, e, h.imp fun ds st1 κ1 H1 n1 o1 q1 J wk hlen => ?_⟩
  intro D hD
  have e1 := e.next n1
  obtain ⟨tot, stF, hr, q1⟩ := q1
  have hOD : ¬ O D := fun z => by obtain ⟨u, eu⟩ := o1.oth D z; rw [hD] at eu; cases eu
  obtain ⟨oD0, le0⟩ := o1.toD (o := .lst []) hD
  let Pv : Nat → Hp → Prop := fun n H' => ∃ κ' s' vs acc rest, Ok Γ (oD O D) κ' L H' s' ∧ Nx O κ1 L H1 κ' H' ∧ H' D = some (.lst vs) ∧ Reps Γ κ' (imm (oD O D) κ' L H') vs acc ∧ compR (compF P R tg cond el ρ) (ds.drop n) s' = .ok rest stF ∧ acc ++ rest = tot ∧ acc.length ≤ n
  refine ⟨fun n m H' => m = ds.length - n ∧ n ≤ ds.length ∧ Pv n H', ⟨ds.length, by simp, Nat.zero_le _, κ1, st1, [], [], tot, oD0, Nx.refl.setD hD o1.ownS o1.oth, upd_same, .nil, by simpa using hr, rfl, Nat.le_refl _⟩, ?_⟩
  rintro n m H' ⟨rfl, hn, κ', s', vs, acc, rest, ok', nx', hDv, rs, hrest, htot, hal⟩
  have leI : Le (imm O κ1 L H1) H' := fun a u ea => by
    obtain ⟨h1, h2⟩ := cut_some.mp ea
    exact nx'.imm a u h2 h1
  by_cases hlt : n < ds.length
  · refine .inr ⟨wk.go n H' leI hlt, Pv (n + 1), fun H2 p => ⟨ds.length - (n + 1), by omega, rfl, hlt, p⟩, fun xv H2 hy => ?_⟩
    -- the item
    obtain ⟨d, hd⟩ : ∃ d, ds[n]? = some d := ⟨ds[n], by simp [hlt]⟩
    rw [List.drop_eq_getElem_cons hlt] at hrest
    have hdn : ds[n] = d := by rw [List.getElem?_eq_getElem hlt] at hd; exact Option.some.inj hd
    rw [hdn] at hrest
    obtain ⟨ov, s2, ys, hfx, hys, hto⟩ := compR_step hrest
    -- the state with the item laid
    have item : Ok Γ (oD O D) κ' L H2 s' ∧ Nx (oD O D) κ' L H' κ' H2 ∧ Rep Γ κ' (imm (oD O D) κ' L H2) xv d := by
      rcases wk.yld n H' xv H2 d leI hd hy with ⟨e2, r⟩ | ⟨T, ws, es, e2, hT, e3, e4, r⟩
      · subst e2
        refine ⟨ok', .refl, r.mono nx'.pre fun a u ea => ?_⟩
        obtain ⟨h1, h2⟩ := cut_some.mp ea
        refine cut_some.mpr ⟨?_, nx'.imm a u h2 h1⟩
        rintro ((z | z) | z)
        · exact h1 (.inl z)
        · rw [z, hD] at h2; cases h2
        · exact nx'.not h2 h1 (.inr z)
      · subst e2 e3 e4
        obtain ⟨n3, o3, m3⟩ := ok'.laid (o := .tup ws) hT
        refine ⟨o3, n3, .tup (.of (cut_some.mpr ⟨m3, upd_same⟩)) ((r.mono nx'.pre fun a u ea => ?_).mono n3.pre n3.le)⟩
        obtain ⟨h1, h2⟩ := cut_some.mp ea
        refine cut_some.mpr ⟨?_, nx'.imm a u h2 h1⟩
        rintro ((z | z) | z)
        · exact h1 (.inl z)
        · rw [z, hD] at h2; cases h2
        · exact nx'.not h2 h1 (.inr z)
    obtain ⟨ok2, n2, r2⟩ := item
    have nx2 : Nx O κ1 L H1 κ' H2 := nx'.thenD hD n2 o1.ownS o1.oth
    have e2 : EnvR Γ (oD O D) κ' L H2 σ ρ := e1.mono nx2.pre (fun a u ea => by
      obtain ⟨h1, h2⟩ := cut_some.mp ea
      refine cut_some.mpr ⟨?_, nx2.imm a u h2 h1⟩
      rintro ((z | z) | z)
      · exact h1 (.inl z)
      · rw [z, hD] at h2; cases h2
      · exact nx2.not h2 h1 (.inr z)) nx2.own
    unfold compF at hfx
    cases hbd : bindT tg d (wipeT tg ρ) with
    | none => rw [hbd] at hfx; cases hfx
    | some ρ' =>
      rw [hbd] at hfx
      dsimp only at hfx
      refine g_of hK r2 hbd (e2.wipe tg) fun σ2 e3 hl2 hk2 => ⟨wipe_same (hl2.trans (wipe_length _ _)) (fun j hj => (hk2 j hj).trans (wipe_out hj)), ?_⟩
      -- the test
      cases hcv : evC P R cond ρ' s' with
      | exc a b cc => rw [hcv] at hfx; cases hfx
      | stuck => rw [hcv] at hfx; cases hfx
      | ok b s3 =>
        rw [hcv, Res.bind_ok] at hfx
        refine ⟨oD O D, κ', L, ρ', s', ok2, e3, ?_⟩
        rw [hcv]
        intro κ3 H3 n3 o3
        have nx3 : Nx O κ1 L H1 κ3 H3 := nx2.thenD hD n3 o1.ownS o1.oth
        have hD2 : H2 D = some (.lst vs) := by rw [n2.oth D (.inr rfl)]; exact hDv
        have hD3 : H3 D = some (.lst vs) := by rw [n3.oth D (.inr rfl)]; exact hD2
        have rs3 : Reps Γ κ3 (imm (oD O D) κ3 L H3) vs acc := (rs.mono n2.pre n2.le).mono n3.pre n3.le
        cases b with
        | false =>
          simp only [Bool.false_eq_true, if_false] at hfx ⊢
          cases hfx
          exact ⟨κ3, _, vs, acc, ys, o3, nx3, hD3, rs3, hys, by rw [← htot, hto]; rfl, Nat.le_succ_of_le hal⟩
        | true =>
          simp only [if_true] at hfx ⊢
          cases hev : evE P R el ρ' s3 with
          | exc a b cc => rw [hev] at hfx; cases hfx
          | stuck => rw [hev] at hfx; cases hfx
          | ok y s4 =>
            rw [hev, Res.bind_ok] at hfx
            cases hfx
            refine ⟨oD O D, κ3, L, ρ', s3, o3, e3.next n3, ?_⟩
            rw [hev]
            intro κ4 H4 n4 o4 v rv
            have hD4 : H4 D = some (.lst vs) := by rw [n4.oth D (.inr rfl)]; exact hD3
            have rs4 := (rs3.mono n4.pre n4.le).append (.cons rv .nil)
            refine ⟨vs, hD4, by rw [rs.length]; omega, κ4, _, vs ++ [v], acc ++ [y], ys, o4.setD, (nx3.thenD hD n4 o1.ownS o1.oth).setD hD o1.ownS o1.oth, upd_same, ?_, hys, by rw [← htot, hto]; simp, by simp; omega⟩
            have : imm (oD O D) κ4 L (upd H4 D (.lst (vs ++ [v]))) = imm (oD O D) κ4 L H4 := by
              funext a
              unfold imm cut
              by_cases z : a = D
              · subst z
                have : Mb (oD O a) κ4 L a := .inl (.inr rfl)
                rw [if_pos this, if_pos this]
              · rw [upd_ne z]
            rw [this]
            exact rs4
  · have en : n = ds.length := by omega
    subst en
    rw [List.drop_length] at hrest
    unfold compR at hrest
    cases hrest
    refine .inl ⟨wk.stop H' leI, ?_⟩
    rw [List.append_nil] at htot
    subst htot
    exact q1 κ' H' D vs nx' ok' hOD hD hDv rs

theorem pe_compG {tg : Tg} {it el : Tm} {cond : Option Tm} {x t i : Expr} {ifs : List Expr} {scope : Scope} {pos : Pos} (C : CxOk c X) (U : Uni Γ S P R k X) (hc : X.calm = true) (hi : PI X t i (dI Γ W (evI P R it))) (hs : notSetE i = true)
    (hb : blkC c.N c.sc scope (ownOf c tg) = true) (ho : (ownOf c tg).map (·.2) = slotsOf tg) (htg : okTg (blkSC c scope) tg t = true)
    (hel : ∀ X', CxOk (blkSC c scope) X' → Uni Γ S P R k X' → Takes X' W0 → PE X' x (dE Γ W0 (evE P R el)))
    (hcond : ∀ X', CxOk (blkSC c scope) X' → Uni Γ S P R k X' → Takes X' W0 → PTs X' ifs (dT Γ W0 (evC P R cond))) : PE X (.ListComp x [⟨t, i, ifs, 0⟩] scope pos) (tComp Γ W P R tg it cond el) ∧
      ∀ {y : Str} {j : Nat} {py spos : Pos}, X.N[j]? = some y → X.env.scope.names.lookup y = some .local → swapsWith (.ListComp x [⟨t, i, ifs, 0⟩] scope pos) (some (.Name y py)) spos.line X.env = pure true →
        PS X (.Assign [.Name y py] (.ListComp x [⟨t, i, ifs, 0⟩] scope pos) spos) (tAsg (tComp Γ W P R tg it cond el) (gName j)) := by
  have ok : BlkOk X.N X.env.scope scope (ownOf c tg) := by rw [C.N, C.sc]; exact blkOk_by hb
  have hset : ∀ x, foldedSetIterable i X.env x = pure x := by
    intro x
    cases i <;> first | rfl | exact absurd (show false = true from hs) Bool.false_ne_true
  have tk : ∀ (s : Shared) (H : Hp) (env : Env) (fp : List Addr), Takes (X.blk s H scope env fp) W0 := fun s H env fp e s' h => by
    obtain ⟨_, _, _, _, _, _, _, d, _, _, _, _, _, _, _, _, w⟩ := h
    exact w.elim
  refine ⟨(pe_lc hc (by rw [C.N]; exact C.nd) hi ok (g := gOf X.K tg) (fun s H a cl fp => pg_of (C.blk s H a cl fp scope) htg) (fun s H a cl fp => hcond _ (C.blk s H a cl fp scope) (U.blk hc s H _ fp scope) (tk _ _ _ _)) (fun s H a cl fp => hel _ (C.blk s H a cl fp scope) (U.blk hc s H _ fp scope) (tk _ _ _ _)) hset).weak fun σ H Q h => by rw [ho]; exact lcG U.K h,
    fun {y j py spos} hy hyl hsw => (ps_setLc hc (by rw [C.N]; exact C.nd) hy hyl hsw hi ok (g := gOf X.K tg) (fun s H a cl fp => pg_of (C.blk s H a cl fp scope) htg) (fun s H a cl fp => hcond _ (C.blk s H a cl fp scope) (U.blk hc s H _ fp scope) (tk _ _ _ _)) (fun s H a cl fp => hel _ (C.blk s H a cl fp scope) (U.blk hc s H _ fp scope) (tk _ _ _ _)) hset).weak fun D σ H h => by rw [ho]; exact lcG U.K h⟩
theorem compR_exc {f : D → Sto → Res (Option D)} {a : String} {b : List D} {cc : Sto} : ∀ xs st, compR f xs st ≠ .exc a b cc := by
  intro xs
  induction xs with
  | nil => intro st z; unfold compR at z; cases z
  | cons y ys ih =>
    intro st z
    unfold compR at z
    split at z
    · split at z
      · cases z
      · cases z
    · cases z
/-- as a value -/
theorem tComp_dE {tg : Tg} {it el : Tm} {cond : Option Tm} {σ : L2.St} {H : Hp} {Q : VK} (h : dE Γ W (evE P R (.comp tg it cond el)) σ H Q) : tComp Γ W P R tg it cond el σ H Q := by
  obtain ⟨O, κ, L, ρ, st, o, e, h⟩ := h
  rw [evE] at h
  refine ⟨O, κ, L, ρ, st, o, e, (fin.bind o h).imp fun ds st1 κ1 H1 n1 o1 q1 => ?_⟩
  have q1' : fin Γ (fun c d H' => W c d σ H') O κ1 L H1 ((compR (compF P R tg cond el ρ) ds st1).bind fun ys st2 => .ok (.lst ys) st2) (fun d _ κ' H' => ∀ v, Rep Γ κ' (imm O κ' L H') v d → Q v H') := q1
  cases hr : compR (compF P R tg cond el ρ) ds st1 with
  | exc a b cc => exact absurd hr (compR_exc _ _)
  | stuck => rw [hr] at q1'; exact q1'.elim
  | ok tot stF =>
    rw [hr] at q1'
    exact ⟨tot, stF, rfl, fun κ' H' D vs nx ok hO hD hDv rs => q1' κ' H' nx ok.ofD _ (.lst (cut_some.mpr ⟨ok.notD hO, hDv⟩) (rs.mono List.prefix_rfl le_oD))⟩
theorem pe_compD {tg : Tg} {it el : Tm} {cond : Option Tm} {x t i : Expr} {ifs : List Expr} {scope : Scope} {pos : Pos} (C : CxOk c X) (U : Uni Γ S P R k X) (hc : X.calm = true) (hi : PI X t i (dI Γ W (evI P R it))) (hs : notSetE i = true)
    (hb : blkC c.N c.sc scope (ownOf c tg) = true) (ho : (ownOf c tg).map (·.2) = slotsOf tg) (htg : okTg (blkSC c scope) tg t = true)
    (hel : ∀ X', CxOk (blkSC c scope) X' → Uni Γ S P R k X' → Takes X' W0 → PE X' x (dE Γ W0 (evE P R el)))
    (hcond : ∀ X', CxOk (blkSC c scope) X' → Uni Γ S P R k X' → Takes X' W0 → PTs X' ifs (dT Γ W0 (evC P R cond))) : PE X (.ListComp x [⟨t, i, ifs, 0⟩] scope pos) (dE Γ W (evE P R (.comp tg it cond el))) :=
  (pe_compG C U hc hi hs hb ho htg hel hcond).1.weak fun σ H Q h => tComp_dE h
end
end Dp
end SDp14
set_option maxHeartbeats 4000000
/-! Dp15: a checked expression does what its small term says. -/
noncomputable section SDp15
namespace Dp
open PySem PySem.Spec PyProof.Rows L2

section
variable {X : Cx} {Γ : Glob} {W : WX} {S : Stat} {P : Prog} {R : String → List D → Sto → Res D} {k : Nat} {c : SC}
theorem biStr : CallR X (.type "str") (biCall X Γ .str) := by
  intro pins s σ H xs us Q I r h
  obtain ⟨O, κ, L, st, ds, d, o, rs, e, A⟩ := h
  simp [dBi] at e
theorem pe_biD {b : Bi} {ts : List Tm} {x : Str} {p pos : Pos} {es : List Expr} (C : CxOk c X) (U : Uni Γ S P R k X) (hc : (X.calm || !(b == .max || b == .min || b == .all || b == .any)) = true) (hx : okFree S c x (biName b) = true) (hl : okL S c ts es = true) (h0 : es.isEmpty = false) (ha : PA X es (dA Γ W (evL P R ts))) :
    PE X (.Call (.Name x p) es [] pos) (dE Γ W (evE P R (.bi b ts))) := by
  obtain ⟨ex, g1, g2, g3, g4⟩ := free_of C U hx
  have hn := (okL_len hl).2
  cases es with
  | nil => cases h0
  | cons e es =>
    have s1 : ∀ env : Env, starEach (e :: es) env = (false, eval e env) :: starEach es env := fun env => star_cons (hn _ List.mem_cons_self)
    have s2 : (backTo pos (starEach es X.env)).any (·.1) = false := star_any fun e he => hn e (List.mem_cons_of_mem _ he)
    have fb : ∀ (id : String), bootBuiltins x = some (.builtin id) → CallR X (.builtin id) (biCall X Γ b) → PE X (.Call (.Name x p) (e :: es) [] pos) (dE Γ W (evE P R (.bi b ts))) := fun id hv hr =>
      (pe_callB hr g1 g4 hv ha g3 g2 (s1 _) s2).weak fun σ H Q h => dE_bi σ H Q h
    have ft : ∀ (id : String), bootBuiltins x = some (.type id) → CallR X (.type id) (biCall X Γ b) → PE X (.Call (.Name x p) (e :: es) [] pos) (dE Γ W (evE P R (.bi b ts))) := fun id hv hr =>
      (pe_callTy hr g1 g4 hv ha g3 g2 (s1 _) s2).weak fun σ H Q h => dE_bi σ H Q h
    subst ex
    cases b with
    | len => exact fb "len" (by decide +kernel) (biLen U.K)
    | int => exact ft "int" (by decide +kernel) biInt
    | str => exact ft "str" (by decide +kernel) biStr
    | abs => exact fb "abs" (by decide +kernel) biAbs
    | max => exact fb "max" (by decide +kernel) (biMax (by simpa using hc))
    | min => exact fb "min" (by decide +kernel) (biMin (by simpa using hc))
    | all => exact fb "all" (by decide +kernel) (biAll U.K (by simpa using hc))
    | any => exact fb "any" (by decide +kernel) (biAny U.K (by simpa using hc))
    | tuple => exact ft "tuple" (by decide +kernel) (biTuple U.K)
    | list => exact ft "list" (by decide +kernel) (biList U.K)
/-- len(a), a a list of the frame's own -/
theorem pe_olen {i : Nat} {x y : Str} {p q pos : Pos} (C : CxOk c X) (U : Uni Γ S P R k X) (hx : okFree S c x "len" = true) (hy : okVar c i y = true) : PE X (.Call (.Name x p) [.Name y q] [] pos) (dE Γ W (evE P R (.olen i))) := by
  obtain ⟨ex, g1, g2, g3, g4⟩ := free_of C U hx
  obtain ⟨v1, v2, v3, v4⟩ := var_of C hy
  have hv : bootBuiltins x = some (.builtin "len") := by rw [ex]; decide +kernel
  refine (pe_callB call_len g1 g4 hv (pa_cons (pe_var v1 v2 v3 v4) pa_nil rfl) g3 g2 rfl rfl).weak fun σ H Q h => ?_
  obtain ⟨O, κ, L, ρ, st, o, e, h⟩ := h
  rw [evE] at h
  unfold ownL at h
  split at h
  · rename_i xs hs
    split at hs
    · rename_i ys hρ
      cases hs
      obtain ⟨a, m, hσ, vs, hH, rs⟩ := e.sl i _ hρ
      exact ⟨.ref a, hσ, _, vs.length, rfl, .inl ⟨vs, .of hH, rfl⟩, by rw [rs.length]; exact h κ H .refl o _ (.int _)⟩
    · cases hs
  · exact h.elim
theorem pe_oix {i : Nat} {t : Tm} {y : Str} {q pos : Pos} {e : Expr} (C : CxOk c X) (U : Uni Γ S P R k X) (hy : okVar c i y = true) (hp : isPlainSlice e = true) (he : PE X e (dE Γ W (evE P R t))) : PE X (.Subscript (.Name y q) e pos) (dE Γ W (evE P R (.oix i t))) := by
  obtain ⟨v1, v2, v3, v4⟩ := var_of C hy
  refine (pe_ix ix_list (pe_var v1 v2 v3 v4) he (plain_of hp)).weak fun σ H Q h => ?_
  obtain ⟨O, κ, L, ρ, st, o, e, h⟩ := h
  rw [evE] at h
  -- the slot
  cases ho : ownL ρ i with
  | none =>
    rw [ho] at h
    exact h.elim
  | some xs =>
    rw [ho] at h
    unfold ownL at ho
    split at ho
    · rename_i ys hρ
      cases ho
      obtain ⟨a, m, hσ, vs, hH, rs⟩ := e.sl i _ hρ
      refine ⟨.ref a, hσ, O, κ, L, ρ, st, o, e, (fin.bind o h).imp fun x st1 κ1 H1 n1 o1 q1 v r => ?_⟩
      obtain ⟨d, ed, A⟩ := q1.after
      cases x <;> try (simp [dIdx] at ed; done)
      case int j =>
        simp only [dIdx] at ed
        have e1 := e.next n1
        have hm : a ∈ L.map (·.2) := List.mem_map.mpr ⟨_, m, rfl⟩
        have hH1 : H1 a = some (.lst vs) := by rw [n1.own a hm]; exact hH
        obtain ⟨w, ew, rw'⟩ := atI_reps (rs.mono n1.pre n1.le) ed
        cases r
        exact ⟨a, vs, j, w, rfl, rfl, .of hH1, ew, A.now o1 rw'⟩
    · cases ho

/-! ### instances: ==, !=, len -/
theorem looks_ty {pins : List (Addr × Obj)} {σ : L2.St} {H : Hp} {s : Shared} {κ : List Addr} {I0 : Hp} {v : V} {u : Value} {y : D} (U : Uni Γ S P R k X) (I : Inv X pins σ H s) (hi : Le I0 H) (r : Rep Γ κ I0 v y) (rv : RelV v u) (hy : okRhs y = true) :
    ∃ tb, PySem.W.Looks (model X.prog X.w) s.heap (typeOf u) tb ∧ ((∃ T ∈ ["NoneType", "bool", "int", "str", "list", "tuple"], tb = .type T) ∨ ∃ C', S.clss.contains C' = true ∧ tb = .ref (Γ.cls C')) := by
  have obj : ∀ {a : Addr} {o : Obj} {T : String}, s.heap.get? a = some o → o.cls = .type T → PySem.W.Looks (model X.prog X.w) s.heap (typeOf (.ref a)) (.type T) := fun {a o T} e hc A Q E s' k q => wpAny_typeOf_ref (k _ _ e) (by rw [hc]; exact q)
  cases r <;> try (cases hy; done)
  case non => cases rv; exact ⟨_, .of_pure rfl, .inl ⟨"NoneType", by simp, rfl⟩⟩
  case bl b => cases rv; exact ⟨_, .of_pure rfl, .inl ⟨"bool", by simp, rfl⟩⟩
  case int i => obtain ⟨t, rfl⟩ := rv; exact ⟨_, .of_pure rfl, .inl ⟨"int", by simp, rfl⟩⟩
  case str z => obtain ⟨t, rfl⟩ := rv; exact ⟨_, .of_pure rfl, .inl ⟨"str", by simp, rfl⟩⟩
  case tup a vs ds h rs =>
    cases rv
    have h2 := hi.sqT h
    rw [← U.K] at h2
    obtain ⟨its, r, ht, hz⟩ := I.tuple h2
    obtain ⟨o, ho, hc, _⟩ := ht
    exact ⟨_, obj ho hc, .inl ⟨"tuple", by simp, rfl⟩⟩
  case lst a vs ds h rs =>
    cases rv
    obtain ⟨its, r, ht, hz⟩ := I.list (SqL.of (hi _ _ h))
    obtain ⟨o, ho, hc, _⟩ := ht.isList
    exact ⟨_, obj ho hc, .inl ⟨"list", by simp, rfl⟩⟩
  case obj a dx C fvs vs ds h0 h1 h2 h3 h4 =>
    cases rv
    obtain ⟨mA, J, _⟩ := ins_get I.hok (hi _ _ h1)
    obtain ⟨od, J, _⟩ := J.look
    exact ⟨_, J.type, .inr ⟨C, U.objs C h0, rfl⟩⟩
/-- the instance behind a value -/
theorem inst_of {κ : List Addr} {L : List (Nat × Addr)} {O : Addr → Prop} {H : Hp} {st : Sto} {v : V} {x : D} {C : String} (o : Ok Γ O κ L H st) (r : Rep Γ κ (imm O κ L H) v x) (h : mcls st x = some C) : ∃ a dx fvs, v = .ref a ∧ H a = some (.ins (Γ.cls C) dx fvs) := by
  cases x <;> try (simp [mcls] at h; done)
  case obj C' ds =>
    simp only [mcls] at h
    cases h
    obtain ⟨_, a, dx, fvs, vs, ev, h1, _⟩ := r.obj_inv
    exact ⟨a, dx, fvs, ev, cut_le _ _ _ _ h1⟩
  case ref n =>
    simp only [mcls] at h
    split at h
    · rename_i C' fs hn
      cases h
      obtain ⟨a, ev, hp⟩ := r.ref_inv
      obtain ⟨dx, fvs, h1, _⟩ := o.st n a _ hp hn
      exact ⟨a, dx, fvs, ev, h1⟩
    · cases h
theorem A_in1 {X : Cx} {k : Nat} (h : Room (k + 1) X.A) : Room k X.A.in1 := h.in1
theorem ocmp_run {op : Cop} {pins : List (Addr × Obj)} {σ : L2.St} {H2 : Hp} {s2 : Shared} {w1 w2 : V} {v u : Value} {Q : VK} (U : Uni Γ S P R k X) (hc : X.calm = true) (tk : Takes X W) (hop : (op == .eq || op == .ne) = true) (I2 : Inv X pins σ H2 s2) (r1 : RelV w1 v) (r2 : RelV w2 u)
    (q2 : ∃ O κ L ρ st x y, Ok Γ O κ L H2 st ∧ EnvR Γ O κ L H2 σ ρ ∧ Rep Γ κ (imm O κ L H2) w1 x ∧ Rep Γ κ (imm O κ L H2) w2 y ∧ fin Γ (fun c d H' => W c d σ H') O κ L H2 (ocmpR P R op x y st) fun d _ κ' H' => ∀ v, Rep Γ κ' (imm O κ' L H') v d → Q v H') :
    wpAny (model X.prog X.w) X.A (compareOp (cop op) v u) (EP X pins σ Q) X.xe s2 := by
  obtain ⟨O, κ, L, ρ, st, dx, dy, o, e, rx, ry, q⟩ := q2
  unfold ocmpR at q
  cases hcl : ocls P st op dx with
  | none =>
    rw [hcl] at q
    obtain ⟨d, ed, A⟩ := q.afterB
    exact opCmp U.K U.hu op pins s2 σ H2 w1 w2 v u Q I2 r1 r2 ⟨O, κ, L, st, dx, dy, .bl d, o, rx, ry, by show (dCmp op dx dy).map _ = _; rw [ed]; rfl, A⟩
  | some C =>
    rw [hcl] at q
    dsimp only at q
    split at q
    · rename_i hy
      have hmc : mcls st dx = some C ∧ P.isMeth C "__eq__" = true := by
        unfold ocls at hcl
        rw [if_pos hop] at hcl
        split at hcl
        · rename_i c' hm
          split at hcl
          · rename_i hi; cases hcl; exact ⟨hm, hi⟩
          · cases hcl
        · cases hcl
      obtain ⟨hmc, hm⟩ := hmc
      obtain ⟨a0, d0, fvs, rfl, hH⟩ := inst_of o rx hmc
      obtain rfl : v = Value.ref a0 := r1
      obtain ⟨tb, L1, htb⟩ := looks_ty U I2 (cut_le _ _) ry r2 hy
      obtain ⟨hne, hob, hnf⟩ := U.eqm C hm
      obtain ⟨_, _, g, np, M, ⟨fd, ps, hk, hbd, F⟩, hn⟩ := U.meth hc C "__eq__" hm
      obtain ⟨mA, J, _⟩ := ins_get I2.hok hH
      obtain ⟨od, J, _⟩ := J.look
      obtain ⟨m, hF⟩ := I2.fr
      have ns : R (C ++ "." ++ "__eq__") [dx, dy] st ≠ .stuck := fun z => by rw [z] at q; exact q
      have hlen := hn _ _ ns
      have rr : Room (k + 1) X.A := U.room hc
      -- the call, at either Around
      have call1 : ∀ (A : Around), Room k A → A.frames = X.A.frames → wpAny (model X.prog X.w) A (call (.ref g) [.ref a0, u]) (fun w s' => ∃ b, w = .bool b ∧ ∃ H', Inv X pins σ H' s' ∧ Q (.bl (if op == .ne then !b else b)) H') X.xe s2 := by
        intro A hr hfr
        have e0 : Env0 X.prog X.w X.K X.mg X.base A X.stack s2 H2 := by
          have e := I2.env0
          exact ⟨by rw [hfr]; exact e.frames, e.mod, e.bs, e.bsz, e.funs, e.frf, e.hok, e.bare⟩
        have q' : fin Γ (fun c d H' => W c d σ H') O κ L H2 (R (C ++ "." ++ "__eq__") [dx, dy] st) (fun d _ κ' H' => ∃ b, d = .bl b ∧ Q (.bl (if op == .ne then !b else b)) H') := by
          refine (fin.bind o q).imp fun d st3 κ3 H3 n3 o3 q3 => ?_
          cases d <;> try exact q3.elim
          case bl b => exact ⟨b, rfl, q3 κ3 H3 .refl o3 _ (.bl _)⟩
        have hsp : spD Γ (R (C ++ "." ++ "__eq__")) np [.ref a0, w2] H2 (fun v H' => ∃ b, v = .bl b ∧ Q (.bl (if op == .ne then !b else b)) H') (fun c d H' => W c d σ H') := by
          refine ⟨hlen, oadd O L, κ, [dx, dy], st, o.give, .cons (by rw [imm_add]; exact rx) (.cons (by rw [imm_add]; exact ry) .nil), (fin.give o q').imp fun d st3 κ3 H3 n3 o3 ⟨b, eb, q3⟩ v rv => ?_⟩
          subst eb
          cases rv
          exact ⟨b, rfl, q3⟩
        have r2' : Vals [V.ref a0, w2] [Value.ref a0, u] := .cons rfl (.cons r2 .nil)
        have hl := F.len _ _ _ _ hsp
        refine wpAny_call (codeAny_mono (F.run A X.stack s2 H2 ⟨[.ref a0, u], []⟩ [.ref a0, u] [.ref a0, w2] _ _ hr e0 (by
          have := hbd s2 [.ref a0, u] I2.kIn (by simpa using hl)
          simpa using this) r2' hsp) fun r s' hq => ?_)
        cases r with
        | error er => exact tk er s' (XE.of_call I2 (fun _ _ _ z => z) hq)
        | ok fl =>
          cases fl with
          | ret w =>
            obtain ⟨z, H', I', rz, b, ez, qz⟩ := I2.after hq
            subst ez
            cases rz
            exact ⟨b, rfl, H', I', qz⟩
          | next => exact False.elim hq
          | brk => exact False.elim hq
          | cont => exact False.elim hq
      cases op <;> try (cases hop; done)
      case eq =>
        show wpAny (model X.prog X.w) X.A (richCompare .Eq (.ref a0) u) (EP X pins σ Q) X.xe s2
        refine PySem.W.cmp_K (op := .Eq) (by have := rr.un; omega) hF I2.ok.mod.kin J L1 (hnf tb htb) M.at_ M.fn (thn (call1 X.A (rr.mono (Nat.le_succ _)) rfl) fun w s' ⟨b, eb, H', I', qb⟩ => ?_)
        subst eb
        exact ⟨.bl b, H', I', rfl, qb⟩
      case ne =>
        show wpAny (model X.prog X.w) X.A (richCompare .NotEq (.ref a0) u) (EP X pins σ Q) X.xe s2
        refine ne_K (by have := rr.un; omega) I2.kIn J L1 (hnf tb htb) M.at_ M.fn hne hob (thn (call1 X.A.in1 rr.in1 rfl) fun w s' ⟨b, eb, H', I', qb⟩ => ⟨b, eb, ?_⟩)
        exact ⟨.bl (!b), H', I', rfl, qb⟩
    · exact q.elim

theorem pe_ocmpD {op : Cop} {a b : Tm} {x y : Expr} {pos : Pos} (U : Uni Γ S P R k X) (hc : X.calm = true) (tk : Takes X W) (hop : (op == .eq || op == .ne) = true) (ha : PE X x (dE Γ W (evE P R a))) (hb : PE X y (dE Γ W (evE P R b))) :
    PE X (.Compare x [cop op] [y] pos) (dE Γ W (evE P R (.ocmp op a b))) := by
  have hmark : behindInMarks (cop op) y = false := by
    cases op <;> first | exact nomark y | cases hop
  refine ⟨fun pins s σ H Q I h => ?_⟩
  have h' : dE Γ W (fun ρ st => (evE P R a ρ st).bind fun x st1 => (evE P R b ρ st1).bind fun y st2 => ocmpR P R op x y st2) σ H Q := by simpa only [evE] using h
  exact wpAny_Compare1 (thn (ha.run pins s σ H _ I (dE.two (g := fun x y st => ocmpR P R op x y st) h')) fun v s1 ⟨w1, H1, I1, r1, q1⟩ => thn (hb.run pins s1 σ H1 _ I1 q1) fun u s2 ⟨w2, H2, I2, r2, q2⟩ => ocmp_run U hc tk hop I2 r1 r2 q2) hmark
theorem ocmp_bl {op : Cop} {x y d : D} {st st' : Sto} (h : ocmpR P R op x y st = .ok d st') : ∃ b, d = .bl b := by
  unfold ocmpR at h
  split at h
  · split at h
    · rename_i c _ _
      cases hr : R (c ++ "." ++ "__eq__") [x, y] st with
      | ok e s1 =>
        rw [hr, Res.bind_ok] at h
        cases e <;> try (cases h; done)
        case bl b => cases h; exact ⟨_, rfl⟩
      | exc _ _ _ => rw [hr] at h; cases h
      | stuck => rw [hr] at h; cases h
    · cases h
  · cases hd : dCmp op x y with
    | none => rw [hd] at h; cases h
    | some b => rw [hd] at h; cases h; exact ⟨_, rfl⟩
theorem pt_ocmpD {op : Cop} {a b : Tm} {x y : Expr} {pos : Pos} (U : Uni Γ S P R k X) (hc : X.calm = true) (tk : Takes X W) (hop : (op == .eq || op == .ne) = true) (ha : PE X x (dE Γ W (evE P R a))) (hb : PE X y (dE Γ W (evE P R b))) :
    PT X (.Compare x [cop op] [y] pos) (dT Γ W (evT P R (.ocmp op a b))) := by
  have hmark : behindInMarks (cop op) y = false := by
    cases op <;> first | exact nomark y | cases hop
  refine ⟨fun pins s σ H Q I h => ?_⟩
  have h1 := dT_bl (a := .ocmp op a b) (fun ρ st d st' he => by
    rw [evE] at he
    cases e1 : evE P R a ρ st with
    | ok x s1 =>
      rw [e1, Res.bind_ok] at he
      cases e2 : evE P R b ρ s1 with
      | ok y s2 => rw [e2, Res.bind_ok] at he; exact ocmp_bl he
      | exc _ _ _ => rw [e2] at he; cases he
      | stuck => rw [e2] at he; cases he
    | exc _ _ _ => rw [e1] at he; cases he
    | stuck => rw [e1] at he; cases he) h
  have h' : dE Γ W (fun ρ st => (evE P R a ρ st).bind fun x st1 => (evE P R b ρ st1).bind fun y st2 => ocmpR P R op x y st2) σ H (fun v H' => ∃ b, v = .bl b ∧ Q b H') := by simpa only [evE] using h1
  refine wpAny_isTrue_Compare1 (thn (ha.run pins s σ H _ I (dE.two (g := fun x y st => ocmpR P R op x y st) h')) fun v s1 ⟨w1, H1, I1, r1, q1⟩ => thn (hb.run pins s1 σ H1 _ I1 q1) fun u s2 ⟨w2, H2, I2, r2, q2⟩ => thn (ocmp_run U hc tk hop I2 r1 r2 q2) fun w s3 ⟨z, H3, I3, r3, b, eb, qb⟩ => ?_) hmark
  subst eb
  cases r3
  exact wpAny_truthy_bool ⟨H3, I3, qb⟩

theorem pe_lenmD {a : Tm} {x : Str} {p pos : Pos} {y : Expr} (C : CxOk c X) (U : Uni Γ S P R k X) (hcl : X.calm = true ∨ S.hlen = true) (tk : Takes X W) (hx : okFree S c x "len" = true) (hy : notStar y = true) (ha : PE X y (dE Γ W (evE P R a))) :
    PE X (.Call (.Name x p) [y] [] pos) (dE Γ W (evE P R (.lenm a))) := by
  obtain ⟨ex, g1, g2, g3, g4⟩ := free_of C U hx
  have hv : bootBuiltins x = some (.builtin "len") := by rw [ex]; decide +kernel
  refine ⟨fun pins s σ H Q I h => ?_⟩
  have h' : dE Γ W (fun ρ st => (evE P R a ρ st).bind fun x st1 => lenR P R x st1) σ H Q := by simpa only [evE] using h
  refine wpAny_Call_Name_kw (ld_blt I g1 g4 hv ?_ g3 g2)
  refine PyProof.Rows.callWith_builtin1 (thn ((pa_cons ha pa_nil (star_cons hy)).run pos pins s σ H (fun vs H1 => ∃ v, vs = [v] ∧ ∃ O κ L ρ st x, Ok Γ O κ L H1 st ∧ EnvR Γ O κ L H1 σ ρ ∧ Rep Γ κ (imm O κ L H1) v x ∧ fin Γ (fun c d H' => W c d σ H') O κ L H1 (lenR P R x st) fun d _ κ' H' => ∀ v, Rep Γ κ' (imm O κ' L H') v d → Q v H') I ?_) fun us s1 ⟨vs, H1, I1, r1, q1⟩ => ?_) (star_cons hy) rfl
  · exact (dE.one h').imp fun v H1 q => ⟨v, rfl, q⟩
  obtain ⟨v, rfl, O, κ, L, ρ, st, dx, o, e, rx, q⟩ := q1
  unfold lenR at q
  cases hm : mcls st dx with
  | none =>
    rw [hm] at q
    obtain ⟨d, ed, A⟩ := q.after
    exact biLen U.K pins s1 σ H1 [v] us Q I1 r1 ⟨O, κ, L, st, [dx], d, o, .cons rx .nil, ed, A⟩
  | some Cn =>
    rw [hm] at q
    dsimp only at q
    split at q
    · rename_i hme
      obtain ⟨a0, d0, fvs, rfl, hH⟩ := inst_of o rx hm
      obtain ⟨u, rfl, ru⟩ := r1.one
      obtain rfl : u = Value.ref a0 := ru
      cases hc : X.calm with
      | true =>
        obtain ⟨_, _, g, np, M, ⟨fd, ps, hk, hbd, F⟩, hn⟩ := U.meth hc Cn "__len__" hme
        obtain ⟨mA, J, _⟩ := ins_get I1.hok hH
        obtain ⟨od, J, _⟩ := J.look
        obtain ⟨m, hF⟩ := I1.fr
        have ns : R (Cn ++ "." ++ "__len__") [dx] st ≠ .stuck := fun z => by rw [z] at q; exact q
        have hlen := hn _ _ ns
        have rr : Room (k + 1) X.A := U.room hc
        refine PySem.W.len_K hF I1.ok.mod.kin J M.at_ M.fn ?_
        have q' : fin Γ (fun c d H' => W c d σ H') O κ L H1 (R (Cn ++ "." ++ "__len__") [dx] st) (fun d _ κ' H' => ∃ n : Int, d = .int n ∧ 0 ≤ n ∧ n < 1000000 ∧ Q (.int n) H') := by
          refine (fin.bind o q).imp fun d st3 κ3 H3 n3 o3 q3 => ?_
          cases d <;> try exact q3.elim
          case int n =>
            dsimp only at q3
            split at q3
            · rename_i hn'
              simp only [Bool.and_eq_true, decide_eq_true_eq] at hn'
              exact ⟨n, rfl, hn'.1, hn'.2, q3 κ3 H3 .refl o3 _ (.int _)⟩
            · exact q3.elim
        have hsp : spD Γ (R (Cn ++ "." ++ "__len__")) np [.ref a0] H1 (fun v H' => ∃ n : Int, v = .int n ∧ 0 ≤ n ∧ n < 1000000 ∧ Q (.int n) H') (fun c d H' => W c d σ H') := by
          refine ⟨hlen, oadd O L, κ, [dx], st, o.give, .cons (by rw [imm_add]; exact rx) .nil, (fin.give o q').imp fun d st3 κ3 H3 n3 o3 ⟨n, en, h0, h1, q3⟩ v rv => ?_⟩
          subst en
          cases rv
          exact ⟨n, rfl, h0, h1, q3⟩
        have e0 : Env0 X.prog X.w X.K X.mg X.base X.A.in1 X.stack s1 H1 := I1.env0.in1
        have r2' : Vals [V.ref a0] [Value.ref a0] := .cons rfl .nil
        have hl := F.len _ _ _ _ hsp
        refine wpAny_call (codeAny_mono (F.run X.A.in1 X.stack s1 H1 ⟨[.ref a0], []⟩ [.ref a0] [.ref a0] _ _ rr.in1 e0 (by
          have := hbd s1 [.ref a0] I1.kIn (by simpa using hl)
          simpa using this) r2' hsp) fun r s' hq => ?_)
        cases r with
        | error er => exact tk er s' (XE.of_call I1 (fun _ _ _ z => z) hq)
        | ok fl =>
          cases fl with
          | ret w =>
            obtain ⟨z, H', I', rz, n, ez, h0, h1, qz⟩ := I1.after hq
            subst ez
            obtain ⟨t, rfl⟩ := rz
            exact ⟨⟨h0, by omega⟩, .int n, H', I'.tok _, ⟨_, rfl⟩, qz⟩
          | next => exact False.elim hq
          | brk => exact False.elim hq
          | cont => exact False.elim hq
      | false =>
        have hhl : S.hlen = true := hcl.resolve_left (by rw [hc]; simp)
        obtain ⟨g, np, M, ⟨fd, ps, hbd, F⟩, hn⟩ := U.hln hhl Cn hme
        obtain ⟨mA, J, _⟩ := ins_get I1.hok hH
        obtain ⟨od, J, _⟩ := J.look
        obtain ⟨m, hF⟩ := I1.fr
        have ns : R (Cn ++ "." ++ "__len__") [dx] st ≠ .stuck := fun z => by rw [z] at q; exact q
        have hlen := hn _ _ ns
        have rr : L2H.RoomH (k + 1) X.A := U.hrm hc hhl
        have rr1 : L2H.RoomH k X.A.in1 := ⟨by have := rr.dp; show X.A.depth + 3 * k + 5 < _; omega, by have := rr.un; show X.A.units + 1 + 16 * k + 200 < _; omega⟩
        refine PySem.W.len_K hF I1.ok.mod.kin J M.at_ M.fn ?_
        have q' : fin Γ (fun c d H' => W c d σ H') O κ L H1 (R (Cn ++ "." ++ "__len__") [dx] st) (fun d _ κ' H' => ∃ n : Int, d = .int n ∧ 0 ≤ n ∧ n < 1000000 ∧ Q (.int n) H') := by
          refine (fin.bind o q).imp fun d st3 κ3 H3 n3 o3 q3 => ?_
          cases d <;> try exact q3.elim
          case int n =>
            dsimp only at q3
            split at q3
            · rename_i hn'
              simp only [Bool.and_eq_true, decide_eq_true_eq] at hn'
              exact ⟨n, rfl, hn'.1, hn'.2, q3 κ3 H3 .refl o3 _ (.int _)⟩
            · exact q3.elim
        have hsp : spD Γ (R (Cn ++ "." ++ "__len__")) np [.ref a0] H1 (fun v H' => ∃ n : Int, v = .int n ∧ 0 ≤ n ∧ n < 1000000 ∧ Q (.int n) H') (fun c d H' => W c d σ H') := by
          refine ⟨hlen, oadd O L, κ, [dx], st, o.give, .cons (by rw [imm_add]; exact rx) .nil, (fin.give o q').imp fun d st3 κ3 H3 n3 o3 ⟨n, en, h0, h1, q3⟩ v rv => ?_⟩
          subst en
          cases rv
          exact ⟨n, rfl, h0, h1, q3⟩
        have e0 : Env0 X.prog X.w X.K X.mg X.base X.A.in1 X.stack s1 H1 := I1.env0.in1
        have r2' : Vals [V.ref a0] [Value.ref a0] := .cons rfl .nil
        have hl := F.len _ _ _ _ hsp
        refine wpAny_call (codeAny_mono (F.run X.A.in1 X.stack s1 H1 ⟨[.ref a0], []⟩ [.ref a0] [.ref a0] _ _ rr1 e0 (by
          have := hbd s1 [.ref a0] I1.kIn (by simpa using hl)
          simpa using this) r2' hsp) fun r s' hq => ?_)
        cases r with
        | error er => exact tk er s' (XE.of_call I1 (fun _ _ _ z => z) hq)
        | ok fl =>
          cases fl with
          | ret w =>
            obtain ⟨z, H', I', rz, n, ez, h0, h1, qz⟩ := I1.after hq
            subst ez
            obtain ⟨t, rfl⟩ := rz
            exact ⟨⟨h0, by omega⟩, .int n, H', I'.tok _, ⟨_, rfl⟩, qz⟩
          | next => exact False.elim hq
          | brk => exact False.elim hq
          | cont => exact False.elim hq
    · exact q.elim
end
end Dp
end SDp15
set_option maxHeartbeats 4000000
/-! DpD: dict(pairs)[key]. -/
noncomputable section SDpD
namespace Dp
open PySem PySem.Spec PyProof.Rows L2

theorem str_inj {a b : List Nat} : (Sum.inr (⟨a.toArray⟩ : Str) : Key) = Sum.inr ⟨b.toArray⟩ ↔ a = b := by
  constructor
  · intro h
    have h1 := Sum.inr.inj h
    have h2 : a.toArray = b.toArray := by injection h1
    have := congrArg Array.toList h2
    simpa using this
  · intro h; rw [h]
theorem mergeK_app : ∀ (more acc : List (Key × V)), (∀ kv ∈ more, ∀ w ∈ acc, w.1 ≠ kv.1) → (more.map (·.1)).Nodup → mergeK acc more = acc ++ more
  | [], acc, _, _ => by simp [mergeK]
  | kv :: more, acc, h, hn => by
    rw [List.map_cons, List.nodup_cons] at hn
    have h1 : (acc.any fun w => decide (w.1 = kv.1)) = false := by
      rw [Bool.eq_false_iff]
      intro z
      obtain ⟨w, hw, e⟩ := List.any_eq_true.mp z
      exact h kv List.mem_cons_self w hw (of_decide_eq_true e)
    have h2 : putK acc kv.1 kv.2 = acc ++ [kv] := by
      unfold putK
      rw [if_neg (by rw [h1]; exact Bool.false_ne_true)]
    have ih := mergeK_app more (acc ++ [kv]) (fun z hz w hw => by
      rcases List.mem_append.mp hw with q | q
      · exact h z (List.mem_cons_of_mem _ hz) w q
      · rw [List.mem_singleton] at q
        subst q
        intro e
        exact hn.1 (by rw [e]; exact List.mem_map_of_mem hz)) hn.2
    show mergeK (putK acc kv.1 kv.2) more = _
    rw [h2, ih, List.append_assoc]
    rfl
section
variable {Γ : Glob} {κ : List Addr} {I : Hp}
theorem dPairs_inv : ∀ {xs : List D} {ws : List V} {kds : List (List Nat × D)}, Reps Γ κ I ws xs → dPairs xs = some kds →
    ∃ (ps : List Addr) (kvs : List (Key × V)), ws = ps.map V.ref ∧ Paired (fun p (kv : Key × V) => SqT Γ.K I p [kV kv.1, kv.2]) ps kvs ∧ kvs.map (·.1) = kds.map (fun z => Sum.inr ⟨z.1.toArray⟩) ∧
      ∀ s d, kds.lookup s = some d → ∃ v, valV kvs (Sum.inr ⟨s.toArray⟩) = some v ∧ Rep Γ κ I v d
  | [], ws, kds, r, e => by
    cases r
    cases e
    exact ⟨[], [], rfl, .nil, rfl, fun s d h => by cases h⟩
  | x :: xs, ws, kds, r, e => by
    cases r with
    | cons r1 rs =>
      unfold dPairs at e
      split at e
      · rename_i heq; cases heq
      · rename_i k v xs' heq
        cases heq
        cases hp : dPairs xs with
        | none => rw [hp] at e; cases e
        | some kds' =>
          rw [hp] at e
          cases e
          obtain ⟨ps, kvs, rfl, hP, hk, hl⟩ := dPairs_inv rs hp
          obtain ⟨a, vs, rfl, ha, rv⟩ := r1.tup_inv
          cases rv with
          | cons rk rv =>
            cases rv with
            | cons rv rn =>
              cases rn
              cases rk
              refine ⟨a :: ps, (Sum.inr ⟨k.toArray⟩, _) :: kvs, rfl, .cons ha hP, by rw [List.map_cons, hk]; rfl, fun s d h => ?_⟩
              rw [List.lookup_cons] at h
              unfold valV
              rw [List.find?_cons]
              by_cases hs : s = k
              · subst hs
                simp at h
                subst h
                simp
                exact rv
              · have h1 : (s == k) = false := beq_eq_false_iff_ne.mpr hs
                rw [h1] at h
                have h2 : ¬ ((Sum.inr (⟨k.toArray⟩ : Str) : Key) = Sum.inr ⟨s.toArray⟩) := fun z => hs (str_inj.mp z).symm
                simp only [decide_eq_false h2]
                exact hl s d h
      · cases e
end
section
variable {X : Cx} {Γ : Glob} {W : WX} {S : Stat} {P : Prog} {R : String → List D → Sto → Res D} {k : Nat} {c : SC}
theorem pe_dicD {a : Tm} {i : Nat} {x y : Str} {p q pos pos2 : Pos} {e : Expr} (C : CxOk c X) (U : Uni Γ S P R k X) (hcl : X.calm = true) (hx : okFree S c x "dict" = true) (hy : okVar c i y = true) (hn : notStar e = true) (ha : PE X e (dE Γ W (evE P R a))) :
    PE X (.Subscript (.Call (.Name x p) [e] [] pos) (.Name y q) pos2) (dE Γ W (evE P R (.dic a i))) := by
  obtain ⟨ex, g1, g2, g3, g4⟩ := free_of C U hx
  obtain ⟨v1, v2, v3, v4⟩ := var_of C hy
  have hv : bootBuiltins x = some (.type "dict") := by rw [ex]; decide +kernel
  have hu := U.hu
  refine (pe_dget (by omega) (pe_callTy (call_dictP hcl) g1 g4 hv (pa_cons ha pa_nil (star_cons hn)) g3 g2 (star_cons hn) rfl) (pe_var v1 v2 v3 v4) (fun _ _ => rfl)).weak fun σ H Q h => ?_
  have h' : dE Γ W (fun ρ st => (evE P R a ρ st).bind fun x st1 => lift (dDic x (slotD ρ i)) st1) σ H Q := by simpa only [evE] using h
  obtain ⟨O, κ, L, ρ, st, o, en, h⟩ := h'
  refine ⟨O, κ, L, ρ, st, o, en, (fin.bind o h).imp fun dx st1 κ1 H1 n1 o1 q1 v rv => ?_⟩
  obtain ⟨d, ed, A⟩ := q1.after
  cases dx <;> try (simp [dDic] at ed; done)
  rename_i xs
  cases hs : slotD ρ i with
  | none => rw [hs] at ed; simp [dDic] at ed
  | some ds =>
    rw [hs] at ed
    cases ds <;> try (simp [dDic] at ed; done)
    rename_i s
    have hρ : ρ[i]? = some (.val (.str s)) := by
      unfold slotD at hs
      split at hs
      · rename_i d' he; cases hs; exact he
      · cases hs
    simp only [dDic] at ed
    cases hp : dPairs xs with
    | none => rw [hp] at ed; cases ed
    | some kds =>
      rw [hp] at ed
      simp only [Option.bind_some] at ed
      split at ed
      · rename_i hnd
        obtain ⟨l, ws, rfl, hl, rw'⟩ := rv.lst_inv
        obtain ⟨ps, kvs, rfl, hP, hk, hlk⟩ := dPairs_inv rw' hp
        obtain ⟨v', hv', rv'⟩ := hlk s d ed
        refine ⟨l, ps, kvs, rfl, .of (cut_le _ _ _ _ hl), Paired.mapP hP fun p kv z => by rw [U.K]; exact (cut_le _ _).sqT z, fun p hnew => ?_⟩
        obtain ⟨sv, hσ, rs⟩ := (en.next n1).sl i _ hρ
        cases rs
        have hm : mergeK [] kvs = kvs := by
          rw [mergeK_app kvs [] (fun _ _ w hw => by cases hw) (by
            rw [hk]
            rw [show (fun z : List Nat × D => (Sum.inr (⟨z.1.toArray⟩ : Str) : Key)) = (fun s : List Nat => (Sum.inr (⟨s.toArray⟩ : Str) : Key)) ∘ (·.1) from rfl, ← List.map_map]
            exact List.Pairwise.map _ (fun a b hab hc => hab (str_inj.mp hc)) hnd)]
          rfl
        obtain ⟨nx, o2, m⟩ := o1.laid (o := .dK (mergeK [] kvs)) hnew
        refine ⟨_, hσ, p, v', rfl, ?_, A _ nx o2 v' (rv'.mono nx.pre nx.le)⟩
        have := DGet.k (k := Sum.inr ⟨s.toArray⟩) (show upd H1 p (.dK (mergeK [] kvs)) p = some (.dK (mergeK [] kvs)) from upd_same)
        rw [hm, hv'] at this
        rw [hm]
        exact this
      · cases ed
end
end Dp
end SDpD
set_option maxHeartbeats 4000000
/-! DpT: == and != of tuples that hold instances with an own ==. -/
noncomputable section SDpT
namespace DpTB
open PySem PySem.SeqAt
open AutoSeq1 (wpAny_loadPart')
open MeetsSeq MeetsSeq2 MeetsSeq3 SeqRoads2
section
variable {prog : Program} {w : World} {A : Around} {R : Result → Shared → Prop}
theorem tuple_eqB (l b : Addr) (items items2 : Array Value) (n n2 : Nat) (dd dd2 : Option Addr) (sl sl2 : Array (Option Value)) (I : Nat → Shared → Prop)
    (turn : ∀ i (h1 : i < items.size) (h2 : i < items2.size) s, I i s → wpAny (model prog w) A.in1 (eqBool items[i] items2[i]) (fun r s' => if r = true then I (i + 1) s' else R (.ok (.ret (.bool false))) s') (fun e s' => R (.error e) s') s)
    (fin : ∀ s, I (min items.size items2.size) s → R (.ok (.ret (.bool (items.size == items2.size)))) s) {s : Shared} (hl1 : s.heap.get? l = some { cls := .type "tuple", dict := dd, data := .seq items n, slots := sl }) (hb1 : s.heap.get? b = some { cls := .type "tuple", dict := dd2, data := .seq items2 n2, slots := sl2 }) (h : I 0 s) :
    wpAny (model prog w) A.in1 (Builtin.«tuple.__eq__» ⟨[.ref l, .ref b], []⟩) (GQ.FinOf prog w A R) (fun e s' => R (.error e) s') s := by
  have f2 := AutoSeq1.sub_tuple_tuple
  have hZ : (items.toList.zip items2.toList).length = min items.size items2.size := by simp
  have h0 := h
  obtain ⟨hp, g, d, tk, os⟩ := s
  wp_walk using wpAny_loadPart' hl1, wpAny_loadPart' hb1, wpAny_forIn_list _ (fun rest b s' => b.1 = none ∧ ∃ i, rest = (items.toList.zip items2.toList).drop i ∧ i ≤ min items.size items2.size ∧ I i s') _
  case turn =>
    rintro ⟨y, x⟩ rest b s' ⟨hb', i, hz, hi, hI⟩
    have hlt : i < (items.toList.zip items2.toList).length := by
      rcases Nat.lt_or_ge i (items.toList.zip items2.toList).length with h' | h'
      · exact h'
      · rw [List.drop_of_length_le h'] at hz; cases hz
    have hm : i < min items.size items2.size := hZ ▸ hlt
    have h1 : i < items.size := Nat.lt_of_lt_of_le hm (Nat.min_le_left _ _)
    have h2 : i < items2.size := Nat.lt_of_lt_of_le hm (Nat.min_le_right _ _)
    rw [List.drop_eq_getElem_cons hlt] at hz
    injection hz with hyx hrest
    have hy : y = items[i] := by have := congrArg Prod.fst hyx; simpa using this
    have hx : x = items2[i] := by have := congrArg Prod.snd hyx; simpa using this
    subst hy hx
    refine wpAny_bind (wpAny_mono (turn i h1 h2 s' hI) (fun r s2 q2 => ?_) fun _ _ x => x)
    cases r with
    | true =>
      rw [if_pos rfl] at q2
      wp_walk
      exact ⟨rfl, i + 1, hrest, hm, q2⟩
    | false =>
      rw [if_neg (by decide)] at q2
      wp_walk
      first
        | exact ⟨_, rfl, by simpa using q2⟩
        | simpa using q2
  case fin =>
    rintro ⟨b1, b2⟩ s' ⟨hb', i, hz, hi, hI⟩
    simp only at hb'
    subst hb'
    have hge : min items.size items2.size ≤ i := by
      rcases Nat.lt_or_ge i (items.toList.zip items2.toList).length with h' | h'
      · rw [List.drop_eq_getElem_cons h'] at hz; cases hz
      · exact hZ ▸ h'
    have hi' : i = min items.size items2.size := by omega
    have hR : R (.ok (.ret (.bool (items.size == items2.size)))) s' := fin s' (hi' ▸ hI)
    wp_walk
    simpa [Builtin.Tuple.tupleCompareSizes] using hR
  case h =>
    exact ⟨rfl, 0, rfl, Nat.zero_le _, h0⟩
theorem tuple_neB (l b : Addr) (items items2 : Array Value) (n n2 : Nat) (dd dd2 : Option Addr) (sl sl2 : Array (Option Value)) (I : Nat → Shared → Prop)
    (turn : ∀ i (h1 : i < items.size) (h2 : i < items2.size) s, I i s → wpAny (model prog w) A.in1 (eqBool items[i] items2[i]) (fun r s' => if r = true then I (i + 1) s' else R (.ok (.ret (.bool true))) s') (fun e s' => R (.error e) s') s)
    (fin : ∀ s, I (min items.size items2.size) s → R (.ok (.ret (.bool (!(items.size == items2.size))))) s) {s : Shared} (hl1 : s.heap.get? l = some { cls := .type "tuple", dict := dd, data := .seq items n, slots := sl }) (hb1 : s.heap.get? b = some { cls := .type "tuple", dict := dd2, data := .seq items2 n2, slots := sl2 }) (h : I 0 s) :
    wpAny (model prog w) A.in1 (Builtin.«tuple.__ne__» ⟨[.ref l, .ref b], []⟩) (GQ.FinOf prog w A R) (fun e s' => R (.error e) s') s := by
  have f2 := AutoSeq1.sub_tuple_tuple
  have hZ : (items.toList.zip items2.toList).length = min items.size items2.size := by simp
  have h0 := h
  obtain ⟨hp, g, d, tk, os⟩ := s
  wp_walk using wpAny_loadPart' hl1, wpAny_loadPart' hb1, wpAny_forIn_list _ (fun rest b s' => b.1 = none ∧ ∃ i, rest = (items.toList.zip items2.toList).drop i ∧ i ≤ min items.size items2.size ∧ I i s') _
  case turn =>
    rintro ⟨y, x⟩ rest b s' ⟨hb', i, hz, hi, hI⟩
    have hlt : i < (items.toList.zip items2.toList).length := by
      rcases Nat.lt_or_ge i (items.toList.zip items2.toList).length with h' | h'
      · exact h'
      · rw [List.drop_of_length_le h'] at hz; cases hz
    have hm : i < min items.size items2.size := hZ ▸ hlt
    have h1 : i < items.size := Nat.lt_of_lt_of_le hm (Nat.min_le_left _ _)
    have h2 : i < items2.size := Nat.lt_of_lt_of_le hm (Nat.min_le_right _ _)
    rw [List.drop_eq_getElem_cons hlt] at hz
    injection hz with hyx hrest
    have hy : y = items[i] := by have := congrArg Prod.fst hyx; simpa using this
    have hx : x = items2[i] := by have := congrArg Prod.snd hyx; simpa using this
    subst hy hx
    refine wpAny_bind (wpAny_mono (turn i h1 h2 s' hI) (fun r s2 q2 => ?_) fun _ _ x => x)
    cases r with
    | true =>
      rw [if_pos rfl] at q2
      wp_walk
      exact ⟨rfl, i + 1, hrest, hm, q2⟩
    | false =>
      rw [if_neg (by decide)] at q2
      wp_walk
      first
        | exact ⟨_, rfl, by simpa using q2⟩
        | simpa using q2
  case fin =>
    rintro ⟨b1, b2⟩ s' ⟨hb', i, hz, hi, hI⟩
    simp only at hb'
    subst hb'
    have hge : min items.size items2.size ≤ i := by
      rcases Nat.lt_or_ge i (items.toList.zip items2.toList).length with h' | h'
      · rw [List.drop_eq_getElem_cons h'] at hz; cases hz
      · exact hZ ▸ h'
    have hi' : i = min items.size items2.size := by omega
    have hR : R (.ok (.ret (.bool (!(items.size == items2.size))))) s' := fin s' (hi' ▸ hI)
    wp_walk
    simpa [Builtin.Tuple.tupleCompareSizes, bne] using hR
  case h =>
    exact ⟨rfl, 0, rfl, Nat.zero_le _, h0⟩
end
section
variable {prog : Program} {w : World} {A : Around} {E : Value → Shared → Prop} {s : Shared}
theorem rc_tupB {l b : Addr} {items items2 : Array Value} {Q : Value → Shared → Prop} (hu : A.units < cLine) (I : Nat → Shared → Prop)
    (hl : s.heap.IsTuple l items) (hb : s.heap.IsTuple b items2)
    (turn : ∀ i (h1 : i < items.size) (h2 : i < items2.size) s, I i s → wpAny (model prog w) A.in1 (eqBool items[i] items2[i]) (fun r s' => if r = true then I (i + 1) s' else Q (.bool false) s') E s)
    (fin : ∀ s, I (min items.size items2.size) s → Q (.bool (items.size == items2.size)) s) (h : I 0 s) : wpAny (model prog w) A (richCompare .Eq (.ref l) (.ref b)) Q E s := by
  obtain ⟨⟨cls, dd, data, sl⟩, ho, hc, n, hd⟩ := id hl
  obtain ⟨⟨cls2, dd2, data2, sl2⟩, ho2, hc2, n2, hd2⟩ := id hb
  simp only at hc hd hc2 hd2
  subst hc hd hc2 hd2
  refine wpAny_richCompare_same_room (op := .Eq) ⟨_, ho, rfl⟩ ⟨_, ho2, rfl⟩ F.slot_tuple_eq (GQ.call_here F.slot_tuple_eq ⟨_, ho, rfl⟩ F.entry_tuple_eq (F.args_tuple_eq_2 _ _) ?_) hu
  exact tuple_eqB (R := wants (fun v s' => v ≠ .notImplemented ∧ Q v s') E) l b items items2 n n2 dd dd2 sl sl2 I (fun i h1 h2 s' hI => wpAny_mono (turn i h1 h2 s' hI) (fun r s2 q => by
    cases r with
    | true => exact q
    | false => exact ⟨(fun x => nomatch x), q⟩) fun _ _ x => x) (fun s' q => ⟨(fun x => nomatch x), fin s' q⟩) ho ho2 h
theorem rcne_tupB {l b : Addr} {items items2 : Array Value} {Q : Value → Shared → Prop} (hu : A.units < cLine) (I : Nat → Shared → Prop)
    (hl : s.heap.IsTuple l items) (hb : s.heap.IsTuple b items2)
    (turn : ∀ i (h1 : i < items.size) (h2 : i < items2.size) s, I i s → wpAny (model prog w) A.in1 (eqBool items[i] items2[i]) (fun r s' => if r = true then I (i + 1) s' else Q (.bool true) s') E s)
    (fin : ∀ s, I (min items.size items2.size) s → Q (.bool (!(items.size == items2.size))) s) (h : I 0 s) : wpAny (model prog w) A (richCompare .NotEq (.ref l) (.ref b)) Q E s := by
  obtain ⟨⟨cls, dd, data, sl⟩, ho, hc, n, hd⟩ := id hl
  obtain ⟨⟨cls2, dd2, data2, sl2⟩, ho2, hc2, n2, hd2⟩ := id hb
  simp only at hc hd hc2 hd2
  subst hc hd hc2 hd2
  refine wpAny_richCompare_same_room (op := .NotEq) ⟨_, ho, rfl⟩ ⟨_, ho2, rfl⟩ F.slot_tuple_ne (GQ.call_here F.slot_tuple_ne ⟨_, ho, rfl⟩ F.entry_tuple_ne (F.args_tuple_ne_2 _ _) ?_) hu
  exact tuple_neB (R := wants (fun v s' => v ≠ .notImplemented ∧ Q v s') E) l b items items2 n n2 dd dd2 sl sl2 I (fun i h1 h2 s' hI => wpAny_mono (turn i h1 h2 s' hI) (fun r s2 q => by
    cases r with
    | true => exact q
    | false => exact ⟨(fun x => nomatch x), q⟩) fun _ _ x => x) (fun s' q => ⟨(fun x => nomatch x), fin s' q⟩) ho ho2 h
end
end DpTB
namespace Dp
open PySem PySem.Spec PyProof.Rows L2
theorem vals_inj : ∀ {xs ys : List V} {us : List Value}, Vals xs us → Vals ys us → xs = ys
  | _, _, _, .nil, .nil => rfl
  | _, _, _, .cons r t, .cons r' t' => by rw [RelV.inj r r', vals_inj t t']
section
variable {X : Cx} {Γ : Glob} {W : WX} {S : Stat} {P : Prog} {R : String → List D → Sto → Res D} {k : Nat} {c : SC}
theorem isTuple_inj {h : Heap} {a : Addr} {i j : Array Value} (x : h.IsTuple a i) (y : h.IsTuple a j) : i = j := by
  obtain ⟨o, ho, _, n, hd⟩ := x
  obtain ⟨o', ho', _, n', hd'⟩ := y
  rw [ho] at ho'
  cases ho'
  rw [hd] at hd'
  injection hd'
theorem cls_inj (U : Uni Γ S P R k X) {C C' : String} (h : Γ.isC C = true) (h' : Γ.isC C' = true) (e : Γ.cls C = Γ.cls C') : C = C' := by
  have a := (U.isi C (U.objs C h)).2.2 C' (U.objs C' h')
  have b := (U.isi C (U.objs C h)).2.2 C (U.objs C h)
  rw [← e, b] at a
  have := Option.some.inj a
  simpa using this.symm
/-- what stands at a place is one thing -/
theorem rep_uniq_aux (U : Uni Γ S P R k X) {pins : List (Addr × Obj)} {σ : L2.St} {H : Hp} {s : Shared} (I : Inv X pins σ H s) {κ : List Addr} {J : Hp} (hi : Le J H) :
    ∀ (n : Nat) {v : V} {x y : D}, sizeOf x < n → Rep Γ κ J v x → Rep Γ κ J v y → D.im x = true → D.im y = true → x = y := by
  intro n
  induction n with
  | zero => intro v x y h; omega
  | succ n ih =>
    have all : ∀ (xs ys : List D) (vs : List V), sizeOf xs < n + 1 → Reps Γ κ J vs xs → Reps Γ κ J vs ys → D.ims xs = true → D.ims ys = true → xs = ys := by
      intro xs
      induction xs with
      | nil => intro ys vs _ r r' _ _; cases r; cases r'; rfl
      | cons x xs ihs =>
        intro ys vs hs r r' hx hy
        cases r with
        | cons r1 r2 => cases r' with
          | cons q1 q2 =>
            rw [D.ims, Bool.and_eq_true] at hx hy
            have s1 : sizeOf x < n := by simp at hs; omega
            have s2 : sizeOf xs < n + 1 := by simp at hs; omega
            rw [ih s1 r1 q1 hx.1 hy.1, ihs _ _ s2 r2 q2 hx.2 hy.2]
    intro v x y hs r r' hx hy
    cases r with
    | non => cases r' <;> first | rfl | (simp [D.im] at hy; done)
    | bl b => cases r' <;> first | rfl | (simp [D.im] at hy; done)
    | int i => cases r' <;> first | rfl | (simp [D.im] at hy; done)
    | str z =>
      cases r' <;> try (simp [D.im] at hy; done)
      rfl
    | lst _ _ => simp [D.im] at hx
    | frz _ _ => simp [D.im] at hx
    | ref _ => simp [D.im] at hx
    | fn _ => simp [D.im] at hx
    | @tup a vs ds h1 h2 =>
      have t1 := hi.sqT h1
      rw [← U.K] at t1
      obtain ⟨its, q1, e1, _⟩ := I.tuple t1
      cases y <;> try (cases r'; done)
      case tup ds' =>
        obtain ⟨a', vs', ev, h1', h2'⟩ := r'.tup_inv
        cases ev
        have t2 := hi.sqT h1'
        rw [← U.K] at t2
        obtain ⟨its', q2, e2, _⟩ := I.tuple t2
        have := isTuple_inj e1 e2
        have e3 : its = its' := by
          have := congrArg Array.toList this
          simpa using this
        subst e3
        have := vals_inj q1 q2
        subst this
        rw [D.im] at hx hy
        rw [all ds ds' vs (by simp at hs; omega) h2 h2' hx hy]
      case obj C ds' =>
        obtain ⟨g0, a', dx, fvs, vs', ev, g1, g2, g3, g4⟩ := r'.obj_inv
        cases ev
        obtain ⟨o, ho, hc, _⟩ := e1
        obtain ⟨o', ho', hc'⟩ := obj_there I (hi _ _ g1) rfl
        rw [ho] at ho'
        cases ho'
        exact absurd hc hc'
      all_goals (simp [D.im] at hy; done)
    | @obj a dx C fvs vs ds g0 g1 g2 g3 g4 =>
      cases y <;> try (cases r'; done)
      case tup ds' =>
        obtain ⟨a', vs', ev, h1', h2'⟩ := r'.tup_inv
        cases ev
        have t2 := hi.sqT h1'
        rw [← U.K] at t2
        obtain ⟨its', q2, e2, _⟩ := I.tuple t2
        obtain ⟨o, ho, hc, _⟩ := e2
        obtain ⟨o', ho', hc'⟩ := obj_there I (hi _ _ g1) rfl
        rw [ho] at ho'
        cases ho'
        exact absurd hc hc'
      case obj C' ds' =>
        obtain ⟨g0', a', dx', fvs', vs', ev, g1', g2', g3', g4'⟩ := r'.obj_inv
        cases ev
        rw [g1] at g1'
        have e := Option.some.inj g1'
        simp only [HO.ins.injEq] at e
        obtain ⟨e1, e2, e3⟩ := e
        have hC := cls_inj U g0 g0' e1
        subst hC e3
        have hv : vs.map some = vs'.map some := by rw [← g2, ← g2']
        have hv' : vs = vs' := (List.map_inj_right (fun _ _ h => Option.some.inj h)).mp hv
        subst hv'
        rw [D.im] at hx hy
        rw [all ds ds' vs (by simp at hs; omega) g4 g4' hx hy]
      all_goals (simp [D.im] at hy; done)
/-- room for so many builtins within one another, then a call -/
structure RJ (k j : Nat) (A : Around) : Prop where
  hd : A.handled = none
  dp : A.depth + 3 * k + 5 < recursionLimit
  un : A.units + 16 * k + 200 + j < cLine
theorem RJ.of {k : Nat} {A : Around} (r : Room (k + 1) A) : RJ k 16 A := ⟨r.hd, by have := r.dp; omega, by have := r.un; omega⟩
theorem RJ.in1 {k j : Nat} {A : Around} (r : RJ k (j + 1) A) : RJ k j A.in1 := ⟨r.hd, r.dp, by have := r.un; show A.units + 1 + 16 * k + 200 + j < _; omega⟩
theorem RJ.room {k j : Nat} {A : Around} (r : RJ k j A) : Room k A := ⟨r.hd, r.dp, by have := r.un; omega⟩
theorem dEq_self {x : D} {b : Bool} (h : dEq x x = some b) : b = true := by
  unfold dEq at h
  by_cases hf : (D.flat 60 x && D.flat 60 x) = true
  · rw [if_pos hf] at h
    cases h
    rw [Bool.and_eq_true] at hf
    have key : ∀ (n : Nat) (d : D), D.flat n d = true → D.eqv d d = true := by
      intro n
      induction n with
      | zero =>
        intro d h
        cases d <;> simp [D.flat] at h <;> simp [D.eqv]
      | succ n ih =>
        have aux : ∀ ys : List D, D.flats n ys = true → D.eqvs ys ys = true := by
          intro ys
          induction ys with
          | nil => intro _; rw [D.eqvs]
          | cons y ys ih2 =>
            intro hy
            rw [D.flats, Bool.and_eq_true] at hy
            rw [D.eqvs, ih y hy.1, ih2 hy.2]; rfl
        intro d h
        cases d <;> simp [D.flat] at h <;> simp [D.eqv]
        all_goals exact aux _ h
    exact key 60 x hf.1
  · rw [if_neg hf] at h; cases h
theorem eqN_refl : ∀ (n : Nat) (x : D) (st : Sto), eqN P R n x x st = .ok true st ∨ eqN P R n x x st = .stuck := by
  intro n
  induction n with
  | zero => intro x st; exact .inr rfl
  | succ n ih =>
    have all : ∀ (xs : List D) (st : Sto), eqNs (eqN P R n) xs xs st = .ok true st ∨ eqNs (eqN P R n) xs xs st = .stuck := by
      intro xs
      induction xs with
      | nil => intro st; exact .inl rfl
      | cons x xs ih2 =>
        intro st
        rw [eqNs]
        rcases ih x st with h | h
        · rw [h, Res.bind_ok, if_pos rfl]; exact ih2 st
        · rw [h]; exact .inr rfl
    intro x st
    rw [eqN]
    cases hd : dEq x x with
    | some b => dsimp only; rw [dEq_self hd]; exact .inl rfl
    | none =>
      dsimp only
      unfold eqMix
      cases x <;> try exact .inr rfl
      case tup xs =>
        dsimp only
        split
        · exact all xs st
        · exact .inr rfl
      case obj c fs =>
        dsimp only
        split
        · unfold objEq
          split
          · split
            · exact .inr rfl
            · rename_i b st1 _ hn
              have : b = true ∧ st1 = st := Classical.byContradiction fun z => hn ⟨rfl, z⟩
              rw [this.1, this.2]
              exact .inl rfl
          · exact .inr rfl
        · exact .inr rfl
theorem eqBool_flat (U : Uni Γ S P R k X) {A : Around} {pins : List (Addr × Obj)} {σ : L2.St} {H : Hp} {s : Shared} (I : Inv X pins σ H s) (hu : A.units + 64 < cLine) {κ : List Addr} {J : Hp} (hi : Le J H) {w1 w2 : V} {v u : Value} {x y : D} (r1 : RelV w1 v) (r2 : RelV w2 u)
    (ra : Rep Γ κ J w1 x) (rb : Rep Γ κ J w2 y) {b : Bool} (h : dEq x y = some b) : SeqAt.EqAt A s v u b := by
  unfold dEq at h
  by_cases hf : (D.flat 60 x && D.flat 60 y) = true
  · rw [if_pos hf] at h
    cases h
    rw [Bool.and_eq_true] at hf
    have da := ra.dp hi hf.1
    have db := rb.dp hi hf.2
    rw [← U.K] at da db
    obtain ⟨as, q1⟩ := L2.Dp.reads I (D.py x) w1 v da r1
    obtain ⟨bs, q2⟩ := L2.Dp.reads I (D.py y) w2 u db r2
    obtain ⟨l1, l2⟩ := flat_lay 60 x hf.1
    obtain ⟨m1, m2⟩ := flat_lay 60 y hf.2
    have := SeqAt.eqAt_reads (D.py x) (D.py y) A s v u as bs q1 q2 l1 m1 (by
      have := Nat.min_le_left (D.py x).depth (D.py y).depth
      omega)
    rw [eqv_py 60 60 x y hf.1 hf.2] at this
    exact this
  · rw [if_neg hf] at h; cases h
/-- x == y by the class's own == -/
theorem obj_rc (U : Uni Γ S P R k X) (hc : X.calm = true) (tk : Takes X W) {A : Around} (hr : Room k A) (hfr : A.frames = X.A.frames) {pins : List (Addr × Obj)} {σ : L2.St} {H2 : Hp} {s2 : Shared} {w1 w2 : V} {v u : Value} {Q : Bool → Hp → Prop} (I2 : Inv X pins σ H2 s2) (r1 : RelV w1 v) (r2 : RelV w2 u)
    {O : Addr → Prop} {κ : List Addr} {L : List (Nat × Addr)} {st : Sto} {dx dy : D} {C : String} (o : Ok Γ O κ L H2 st) (rx : Rep Γ κ (imm O κ L H2) w1 dx) (ry : Rep Γ κ (imm O κ L H2) w2 dy) (hmc : mcls st dx = some C) (hm : P.isMeth C "__eq__" = true) (hy : okRhs dy = true)
    (q : fin Γ (fun c d H' => W c d σ H') O κ L H2 (R (C ++ "." ++ "__eq__") [dx, dy] st) fun d _ κ' H' => ∃ b, d = .bl b ∧ Q b H') :
    wpAny (model X.prog X.w) A (richCompare .Eq v u) (fun w s' => ∃ b, w = .bool b ∧ ∃ H', Inv X pins σ H' s' ∧ Q b H') X.xe s2 := by
  obtain ⟨a0, d0, fvs, rfl, hH⟩ := inst_of o rx hmc
  obtain rfl : v = Value.ref a0 := r1
  obtain ⟨tb, L1, htb⟩ := looks_ty U I2 (cut_le _ _) ry r2 hy
  obtain ⟨hne, hob, hnf⟩ := U.eqm C hm
  obtain ⟨_, _, g, np, M, ⟨fd, ps, hk, hbd, F⟩, hn⟩ := U.meth hc C "__eq__" hm
  obtain ⟨mA, J, _⟩ := ins_get I2.hok hH
  obtain ⟨od, J, _⟩ := J.look
  obtain ⟨m, hF⟩ := I2.fr
  have ns : R (C ++ "." ++ "__eq__") [dx, dy] st ≠ .stuck := fun z => by rw [z] at q; exact q
  have hlen := hn _ _ ns
  have call1 : wpAny (model X.prog X.w) A (call (.ref g) [.ref a0, u]) (fun w s' => ∃ b, w = .bool b ∧ ∃ H', Inv X pins σ H' s' ∧ Q b H') X.xe s2 := by
    have e0 : Env0 X.prog X.w X.K X.mg X.base A X.stack s2 H2 := by
      have e := I2.env0
      exact ⟨by rw [hfr]; exact e.frames, e.mod, e.bs, e.bsz, e.funs, e.frf, e.hok, e.bare⟩
    have hsp : spD Γ (R (C ++ "." ++ "__eq__")) np [.ref a0, w2] H2 (fun v H' => ∃ b, v = .bl b ∧ Q b H') (fun c d H' => W c d σ H') := by
      refine ⟨hlen, oadd O L, κ, [dx, dy], st, o.give, .cons (by rw [imm_add]; exact rx) (.cons (by rw [imm_add]; exact ry) .nil), (fin.give o q).imp fun d st3 κ3 H3 n3 o3 ⟨b, eb, q3⟩ v rv => ?_⟩
      subst eb
      cases rv
      exact ⟨b, rfl, q3⟩
    have r2' : Vals [V.ref a0, w2] [Value.ref a0, u] := .cons rfl (.cons r2 .nil)
    have hl := F.len _ _ _ _ hsp
    refine wpAny_call (codeAny_mono (F.run A X.stack s2 H2 ⟨[.ref a0, u], []⟩ [.ref a0, u] [.ref a0, w2] _ _ hr e0 (by
      have := hbd s2 [.ref a0, u] I2.kIn (by simpa using hl)
      simpa using this) r2' hsp) fun r s' hq => ?_)
    cases r with
    | error er => exact tk er s' (XE.of_call I2 (fun _ _ _ z => z) hq)
    | ok fl =>
      cases fl with
      | ret w =>
        obtain ⟨z, H', I', rz, b, ez, qz⟩ := I2.after hq
        subst ez
        cases rz
        exact ⟨b, rfl, H', I', qz⟩
      | next => exact False.elim hq
      | brk => exact False.elim hq
      | cont => exact False.elim hq
  exact PySem.W.cmp_K (op := .Eq) (by have := hr.un; omega) hF I2.ok.mod.kin J L1 (hnf tb htb) M.at_ M.fn (thn call1 fun w s' ⟨b, eb, H', I', qb⟩ => by subst eb; exact ⟨b, rfl, H', I', qb⟩)
/-- what the loop over the items keeps -/
def LI (X : Cx) (Γ : Glob) (W : WX) (P : Prog) (R : String → List D → Sto → Res D) (n : Nat) (pins : List (Addr × Obj)) (σ : L2.St) (O : Addr → Prop) (κ : List Addr) (L : List (Nat × Addr)) (H : Hp) (xs ys : List D) (Q : Bool → Hp → Prop) (i : Nat) (s' : Shared) : Prop :=
  ∃ κ' H' st', Inv X pins σ H' s' ∧ Nx O κ L H κ' H' ∧ Ok Γ O κ' L H' st' ∧ fin Γ (fun c d H' => W c d σ H') O κ' L H' (eqNs (eqN P R n) (xs.drop i) (ys.drop i) st') fun b _ _ H'' => Q b H''
structure EqRun (X : Cx) (Γ : Glob) (W : WX) (P : Prog) (R : String → List D → Sto → Res D) (n : Nat) (A : Around) : Prop where
  run : ∀ {pins : List (Addr × Obj)} {σ : L2.St} {H : Hp} {s : Shared} {w1 w2 : V} {v u : Value} {x y : D} {O : Addr → Prop} {κ : List Addr} {L : List (Nat × Addr)} {st : Sto} {Q : Bool → Hp → Prop}, Inv X pins σ H s → RelV w1 v → RelV w2 u → Ok Γ O κ L H st → Rep Γ κ (imm O κ L H) w1 x → Rep Γ κ (imm O κ L H) w2 y →
    fin Γ (fun c d H' => W c d σ H') O κ L H (eqN P R n x y st) (fun b _ _ H' => Q b H') → wpAny (model X.prog X.w) A (eqBool v u) (fun r s' => ∃ H', Inv X pins σ H' s' ∧ Q r H') X.xe s
section
variable {n : Nat} {A : Around} {pins : List (Addr × Obj)} {σ : L2.St} {H : Hp} {O : Addr → Prop} {κ : List Addr} {L : List (Nat × Addr)} {st : Sto} {xs ys : List D} {vs ws : List V} {its its2 : List Value} {Q : Bool → Hp → Prop}
theorem LI.turn (ih : EqRun X Γ W P R n A) (o : Ok Γ O κ L H st) (r1 : Vals vs its) (r2 : Vals ws its2) (rx : Reps Γ κ (imm O κ L H) vs xs) (ry : Reps Γ κ (imm O κ L H) ws ys) (i : Nat) (h1 : i < its.toArray.size) (h2 : i < its2.toArray.size) (s' : Shared) (l : LI X Γ W P R n pins σ O κ L H xs ys Q i s') :
    wpAny (model X.prog X.w) A (eqBool its.toArray[i] its2.toArray[i]) (fun r s2 => if r = true then LI X Γ W P R n pins σ O κ L H xs ys Q (i + 1) s2 else ∃ H', Inv X pins σ H' s2 ∧ Q false H') X.xe s' := by
  obtain ⟨κ1, H1, st1, I1, n1, o1, q⟩ := l
  have k1 : i < its.length := by simpa using h1
  have k2 : i < its2.length := by simpa using h2
  have v1 : i < vs.length := by rw [r1.length]; exact k1
  have v2 : i < ws.length := by rw [r2.length]; exact k2
  obtain ⟨u1, hu1, ru1⟩ := r1.get (List.getElem?_eq_getElem v1)
  obtain ⟨u2, hu2, ru2⟩ := r2.get (List.getElem?_eq_getElem v2)
  rw [List.getElem?_eq_getElem k1] at hu1
  rw [List.getElem?_eq_getElem k2] at hu2
  have e1 := Option.some.inj hu1
  have e2 := Option.some.inj hu2
  obtain ⟨x, hx, rx'⟩ := rx.get (List.getElem?_eq_getElem v1)
  obtain ⟨y, hy, ry'⟩ := ry.get (List.getElem?_eq_getElem v2)
  have dx : xs.drop i = x :: xs.drop (i + 1) := by
    obtain ⟨hl, he⟩ := List.getElem?_eq_some_iff.mp hx
    rw [List.drop_eq_getElem_cons hl, he]
  have dy : ys.drop i = y :: ys.drop (i + 1) := by
    obtain ⟨hl, he⟩ := List.getElem?_eq_some_iff.mp hy
    rw [List.drop_eq_getElem_cons hl, he]
  rw [dx, dy, eqNs] at q
  have q1 := (fin.bind o1 q).imp (Q := fun b st2 κ2 H2 => ∃ κ' st', Nx O κ L H κ' H2 ∧ Ok Γ O κ' L H2 st' ∧ fin Γ (fun c d H' => W c d σ H') O κ' L H2 (if b = true then eqNs (eqN P R n) (xs.drop (i + 1)) (ys.drop (i + 1)) st' else .ok false st') fun b _ _ H'' => Q b H'') fun b st2 κ2 H2 n2 o2 z => ⟨κ2, st2, n1.trans n2 o.ownS o.oth, o2, z⟩
  have := ih.run (Q := fun b H2 => ∃ κ' st', Nx O κ L H κ' H2 ∧ Ok Γ O κ' L H2 st' ∧ fin Γ (fun c d H' => W c d σ H') O κ' L H2 (if b = true then eqNs (eqN P R n) (xs.drop (i + 1)) (ys.drop (i + 1)) st' else .ok false st') fun b _ _ H'' => Q b H'') I1 ru1 ru2 o1 (rx'.mono n1.pre n1.le) (ry'.mono n1.pre n1.le) q1
  have t1 : its.toArray[i] = its[i] := by simp
  have t2 : its2.toArray[i] = its2[i] := by simp
  rw [t1, t2, e1, e2]
  refine wpAny_mono this (fun r s2 z => ?_) fun _ _ x => x
  obtain ⟨H2, I2, κ2, st2, n2, o2, z⟩ := z
  cases r with
  | true =>
    rw [if_pos rfl] at z ⊢
    exact ⟨κ2, H2, st2, I2, n2, o2, z⟩
  | false =>
    rw [if_neg (by decide)] at z ⊢
    exact ⟨H2, I2, z κ2 H2 .refl o2⟩
theorem LI.fin (r1 : Vals vs its) (r2 : Vals ws its2) (rx : Reps Γ κ (imm O κ L H) vs xs) (ry : Reps Γ κ (imm O κ L H) ws ys) (s' : Shared) (l : LI X Γ W P R n pins σ O κ L H xs ys Q (min its.toArray.size its2.toArray.size) s') :
    ∃ H', Inv X pins σ H' s' ∧ Q (its.toArray.size == its2.toArray.size) H' := by
  obtain ⟨κ1, H1, st1, I1, n1, o1, q⟩ := l
  have l1 : its.toArray.size = xs.length := by rw [List.size_toArray, ← r1.length, rx.length]
  have l2 : its2.toArray.size = ys.length := by rw [List.size_toArray, ← r2.length, ry.length]
  rw [l1, l2] at q ⊢
  refine ⟨H1, I1, ?_⟩
  by_cases h : xs.length ≤ ys.length
  · rw [Nat.min_eq_left h, List.drop_length, eqNs] at q
    have := q κ1 H1 .refl o1
    have e : (ys.drop xs.length).isEmpty = (xs.length == ys.length) := by
      rw [Bool.eq_iff_iff]
      simp
      omega
    rw [e] at this
    exact this
  · rw [Nat.min_eq_right (by omega), List.drop_length] at q
    have e : (xs.length == ys.length) = false := by simp; omega
    rw [e]
    cases hd : xs.drop ys.length with
    | nil =>
      have := congrArg List.length hd
      simp at this
      omega
    | cons z zs =>
      rw [hd, eqNs] at q
      exact q κ1 H1 .refl o1
end
theorem eqN_run (U : Uni Γ S P R k X) (hc : X.calm = true) (tk : Takes X W) : ∀ (n j : Nat) (A : Around), 2 * n ≤ j → RJ k j A → A.frames = X.A.frames → EqRun X Γ W P R n A := by
  intro n
  induction n with
  | zero => intro j A _ _ _; exact ⟨fun _ _ _ _ _ _ q => q.elim⟩
  | succ n ih =>
    intro j A hj hr hfr
    refine ⟨fun {pins σ H s w1 w2 v u x y O κ L st Q} I r1 r2 o rx ry q => ?_⟩
    obtain ⟨j', rfl⟩ : ∃ j', j = j' + 1 := ⟨j - 1, by omega⟩
    have q0 := q
    rw [eqN] at q
    cases hd : dEq x y with
    | some b =>
      rw [hd] at q
      exact eqBool_flat U I (by have := hr.un; omega) (cut_le _ _) r1 r2 rx ry hd X.prog X.w X.xe _ ⟨H, I, q κ H .refl o⟩
    | none =>
      rw [hd] at q
      dsimp only at q
      unfold eqMix at q
      have same : ∀ {a : Addr}, v = .ref a → u = .ref a → D.im x = true → D.im y = true → wpAny (model X.prog X.w) A (eqBool v u) (fun r s' => ∃ H', Inv X pins σ H' s' ∧ Q r H') X.xe s := by
        intro a hv hu ix iy
        subst hv hu
        have ew : w1 = w2 := RelV.inj r1 r2
        subst ew
        have exy := rep_uniq_aux U I (cut_le _ _) _ (Nat.lt_succ_self _) rx ry ix iy
        subst exy
        rcases eqN_refl (P := P) (R := R) (n + 1) x st with z | z
        · rw [z] at q0
          exact SeqAt.EqAt.same (A := A) (s := s) (.ref a) X.prog X.w X.xe _ ⟨H, I, q0 κ H .refl o⟩
        · rw [z] at q0; exact q0.elim
      cases x <;> try exact q.elim
      case tup xs =>
        cases y <;> try exact q.elim
        case tup ys =>
          dsimp only at q
          split at q
          · rename_i him
            rw [Bool.and_eq_true] at him
            obtain ⟨a, vs, e1, h1, rx'⟩ := rx.tup_inv
            obtain ⟨b, ws, e2, h2, ry'⟩ := ry.tup_inv
            subst e1 e2
            have ev : v = .ref a := r1
            have eu : u = .ref b := r2
            by_cases hab : a = b
            · subst hab; exact same ev eu him.1 him.2
            · subst ev eu
              have t1 := (cut_le _ _).sqT h1
              have t2 := (cut_le _ _).sqT h2
              rw [← U.K] at t1 t2
              obtain ⟨its, p1, g1, _⟩ := I.tuple t1
              obtain ⟨its2, p2, g2, _⟩ := I.tuple t2
              have hih := ih j' A.in1 (by omega) hr.in1 hfr
              refine GQ.eqBool_refG hab (DpTB.rc_tupB (by have := hr.un; omega) (LI X Γ W P R n pins σ O κ L H xs ys Q) g1 g2 (fun i h1 h2 s' l => wpAny_mono (LI.turn hih o p1 p2 rx' ry' i h1 h2 s' l) (fun r s2 z => ?_) fun _ _ x => x) (fun s' l => ⟨_, rfl, LI.fin p1 p2 rx' ry' s' l⟩) ⟨κ, H, st, I, .refl, o, by simpa using q⟩)
              cases r with
              | true => exact z
              | false => exact ⟨false, rfl, z⟩
          · exact q.elim
      case obj c fs =>
        cases y <;> try exact q.elim
        case obj c' fs' =>
          dsimp only at q
          split at q
          · rename_i him
            simp only [Bool.and_eq_true] at him
            obtain ⟨⟨i1, i2⟩, hm⟩ := him
            obtain ⟨_, a, dx, fvs, vs, e1, h1, _⟩ := rx.obj_inv
            obtain ⟨_, b, dy, fvs', vs', e2, h2, _⟩ := ry.obj_inv
            subst e1 e2
            have ev : v = .ref a := r1
            have eu : u = .ref b := r2
            by_cases hab : a = b
            · subst hab; exact same ev eu i1 i2
            · subst ev eu
              refine GQ.eqBool_refG hab (obj_rc U hc tk hr.room hfr (dx := .obj c fs) (dy := .obj c' fs') (Q := Q) I r1 r2 o rx ry rfl hm rfl ?_)
              unfold objEq at q
              cases hR : R (c ++ "." ++ "__eq__") [.obj c fs, .obj c' fs'] st with
              | ok d st1 =>
                rw [hR] at q
                cases d <;> try exact q.elim
                case bl bb =>
                  dsimp only at q
                  split at q
                  · exact q.elim
                  · exact fun κ2 H2 n2 o2 => ⟨bb, rfl, q κ2 H2 n2 o2⟩
              | exc _ _ _ => rw [hR] at q; exact q.elim
              | stuck => rw [hR] at q; exact q.elim
          · exact q.elim
theorem tcmp_run {op : Cop} {pins : List (Addr × Obj)} {σ : L2.St} {H2 : Hp} {s2 : Shared} {w1 w2 : V} {v u : Value} {Q : VK} (U : Uni Γ S P R k X) (hc : X.calm = true) (tk : Takes X W) (hop : (op == .eq || op == .ne) = true) (I2 : Inv X pins σ H2 s2) (r1 : RelV w1 v) (r2 : RelV w2 u)
    (q2 : ∃ O κ L ρ st x y, Ok Γ O κ L H2 st ∧ EnvR Γ O κ L H2 σ ρ ∧ Rep Γ κ (imm O κ L H2) w1 x ∧ Rep Γ κ (imm O κ L H2) w2 y ∧ fin Γ (fun c d H' => W c d σ H') O κ L H2 (tcmpR P R op x y st) fun d _ κ' H' => ∀ v, Rep Γ κ' (imm O κ' L H') v d → Q v H') :
    wpAny (model X.prog X.w) X.A (compareOp (cop op) v u) (EP X pins σ Q) X.xe s2 := by
  obtain ⟨O, κ, L, ρ, st, dx, dy, o, e, rx, ry, q⟩ := q2
  unfold tcmpR at q
  cases dx <;> try exact q.elim
  cases dy <;> try exact q.elim
  rename_i xs ys
  dsimp only at q
  have q1 : fin Γ (fun c d H' => W c d σ H') O κ L H2 (eqN P R 8 (.tup xs) (.tup ys) st) fun b _ _ H' => Q (.bl (if op == .ne then !b else b)) H' :=
    (fin.bind o q).imp fun b st1 κ1 H1 n1 o1 z => z κ1 H1 .refl o1 _ (.bl _)
  rw [eqN] at q1
  cases hd : dEq (.tup xs) (.tup ys) with
  | some b =>
    have q3 : fin Γ (fun c d H' => W c d σ H') O κ L H2 (liftB (some (if op == .ne then !b else b)) st) fun d _ κ' H' => ∀ v, Rep Γ κ' (imm O κ' L H') v d → Q v H' := by
      rw [eqN, hd] at q
      exact q
    obtain ⟨d, ed, A⟩ := q3.afterB
    refine opCmp U.K U.hu op pins s2 σ H2 w1 w2 v u Q I2 r1 r2 ⟨O, κ, L, st, .tup xs, .tup ys, .bl d, o, rx, ry, ?_, A⟩
    show (dCmp op (.tup xs) (.tup ys)).map _ = _
    have ec : dCmp op (.tup xs) (.tup ys) = some (if op == .ne then !b else b) := by
      cases op <;> try (cases hop; done)
      case eq =>
        have : dCmp .eq (.tup xs) (.tup ys) = dEq (.tup xs) (.tup ys) := by unfold dCmp; rfl
        rw [this, hd]; rfl
      case ne =>
        have : dCmp .ne (.tup xs) (.tup ys) = (dEq (.tup xs) (.tup ys)).map not := by unfold dCmp; rfl
        rw [this, hd]; rfl
    rw [ec, ed]
    rfl
  | none =>
    rw [hd] at q1
    dsimp only at q1
    unfold eqMix at q1
    dsimp only at q1
    split at q1
    · rename_i him
      obtain ⟨a, vs, e1, h1, rx'⟩ := rx.tup_inv
      obtain ⟨b, ws, e2, h2, ry'⟩ := ry.tup_inv
      subst e1 e2
      have ev : v = .ref a := r1
      have eu : u = .ref b := r2
      subst ev eu
      have t1 := (cut_le _ _).sqT h1
      have t2 := (cut_le _ _).sqT h2
      rw [← U.K] at t1 t2
      obtain ⟨its, p1, g1, _⟩ := I2.tuple t1
      obtain ⟨its2, p2, g2, _⟩ := I2.tuple t2
      have hr := RJ.of (U.room hc)
      have hih := eqN_run U hc tk 7 15 X.A.in1 (by decide) hr.in1 rfl
      cases op <;> try (cases hop; done)
      case eq =>
        show wpAny (model X.prog X.w) X.A (richCompare .Eq (.ref a) (.ref b)) (EP X pins σ Q) X.xe s2
        refine DpTB.rc_tupB (by have := hr.un; omega) (LI X Γ W P R 7 pins σ O κ L H2 xs ys fun b H' => Q (.bl b) H') g1 g2 (fun i h1 h2 s' l => wpAny_mono (LI.turn hih o p1 p2 rx' ry' i h1 h2 s' l) (fun r s3 z => ?_) fun _ _ x => x) (fun s' l => ?_) ⟨κ, H2, st, I2, .refl, o, by simpa using q1⟩
        · cases r with
          | true => exact z
          | false => obtain ⟨H', I', z⟩ := z; exact ⟨.bl false, H', I', rfl, z⟩
        · obtain ⟨H', I', z⟩ := LI.fin p1 p2 rx' ry' s' l
          exact ⟨.bl _, H', I', rfl, z⟩
      case ne =>
        show wpAny (model X.prog X.w) X.A (richCompare .NotEq (.ref a) (.ref b)) (EP X pins σ Q) X.xe s2
        refine DpTB.rcne_tupB (by have := hr.un; omega) (LI X Γ W P R 7 pins σ O κ L H2 xs ys fun b H' => Q (.bl (!b)) H') g1 g2 (fun i h1 h2 s' l => wpAny_mono (LI.turn hih o p1 p2 rx' ry' i h1 h2 s' l) (fun r s3 z => ?_) fun _ _ x => x) (fun s' l => ?_) ⟨κ, H2, st, I2, .refl, o, by simpa using q1⟩
        · cases r with
          | true => exact z
          | false => obtain ⟨H', I', z⟩ := z; exact ⟨.bl true, H', I', rfl, z⟩
        · obtain ⟨H', I', z⟩ := LI.fin p1 p2 rx' ry' s' l
          exact ⟨.bl _, H', I', rfl, z⟩
    · exact q1.elim
theorem tcmp_bl {op : Cop} {x y d : D} {st st' : Sto} (h : tcmpR P R op x y st = .ok d st') : ∃ b, d = .bl b := by
  unfold tcmpR at h
  split at h
  · rename_i xs ys
    cases hr : eqN P R 8 (.tup xs) (.tup ys) st with
    | ok b s1 => rw [hr, Res.bind_ok] at h; cases h; exact ⟨_, rfl⟩
    | exc _ _ _ => rw [hr] at h; cases h
    | stuck => rw [hr] at h; cases h
  · cases h
theorem pe_tcmpD {op : Cop} {a b : Tm} {x y : Expr} {pos : Pos} (U : Uni Γ S P R k X) (hc : X.calm = true) (tk : Takes X W) (hop : (op == .eq || op == .ne) = true) (ha : PE X x (dE Γ W (evE P R a))) (hb : PE X y (dE Γ W (evE P R b))) :
    PE X (.Compare x [cop op] [y] pos) (dE Γ W (evE P R (.tcmp op a b))) := by
  have hmark : behindInMarks (cop op) y = false := by
    cases op <;> first | exact nomark y | cases hop
  refine ⟨fun pins s σ H Q I h => ?_⟩
  have h' : dE Γ W (fun ρ st => (evE P R a ρ st).bind fun x st1 => (evE P R b ρ st1).bind fun y st2 => tcmpR P R op x y st2) σ H Q := by simpa only [evE] using h
  exact wpAny_Compare1 (thn (ha.run pins s σ H _ I (dE.two (g := fun x y st => tcmpR P R op x y st) h')) fun v s1 ⟨w1, H1, I1, r1, q1⟩ => thn (hb.run pins s1 σ H1 _ I1 q1) fun u s2 ⟨w2, H2, I2, r2, q2⟩ => tcmp_run U hc tk hop I2 r1 r2 q2) hmark
theorem pt_tcmpD {op : Cop} {a b : Tm} {x y : Expr} {pos : Pos} (U : Uni Γ S P R k X) (hc : X.calm = true) (tk : Takes X W) (hop : (op == .eq || op == .ne) = true) (ha : PE X x (dE Γ W (evE P R a))) (hb : PE X y (dE Γ W (evE P R b))) :
    PT X (.Compare x [cop op] [y] pos) (dT Γ W (evT P R (.tcmp op a b))) := by
  have hmark : behindInMarks (cop op) y = false := by
    cases op <;> first | exact nomark y | cases hop
  refine ⟨fun pins s σ H Q I h => ?_⟩
  have h1 := dT_bl (a := .tcmp op a b) (fun ρ st d st' he => by
    rw [evE] at he
    cases e1 : evE P R a ρ st with
    | ok x s1 =>
      rw [e1, Res.bind_ok] at he
      cases e2 : evE P R b ρ s1 with
      | ok y s2 => rw [e2, Res.bind_ok] at he; exact tcmp_bl he
      | exc _ _ _ => rw [e2] at he; cases he
      | stuck => rw [e2] at he; cases he
    | exc _ _ _ => rw [e1] at he; cases he
    | stuck => rw [e1] at he; cases he) h
  have h' : dE Γ W (fun ρ st => (evE P R a ρ st).bind fun x st1 => (evE P R b ρ st1).bind fun y st2 => tcmpR P R op x y st2) σ H (fun v H' => ∃ b, v = .bl b ∧ Q b H') := by simpa only [evE] using h1
  refine wpAny_isTrue_Compare1 (thn (ha.run pins s σ H _ I (dE.two (g := fun x y st => tcmpR P R op x y st) h')) fun v s1 ⟨w1, H1, I1, r1, q1⟩ => thn (hb.run pins s1 σ H1 _ I1 q1) fun u s2 ⟨w2, H2, I2, r2, q2⟩ => thn (tcmp_run U hc tk hop I2 r1 r2 q2) fun w s3 ⟨z, H3, I3, r3, b, eb, qb⟩ => ?_) hmark
  subst eb
  cases r3
  exact wpAny_truthy_bool ⟨H3, I3, qb⟩
end
end Dp
end SDpT
set_option maxHeartbeats 4000000
/-! Dp16: a checked expression does what its small term says: all of them. -/
noncomputable section SDp16
namespace Dp
open PySem PySem.Spec PyProof.Rows L2

section
variable {X : Cx} {Γ : Glob} {W : WX} {S : Stat} {P : Prog} {R : String → List D → Sto → Res D} {k : Nat} {c : SC}
theorem pt_iteD {c a b : Tm} {x y z : Expr} {pos : Pos} (hc : PT X x (dT Γ W (evT P R c))) (ha : PT X y (dT Γ W (evT P R a))) (hb : PT X z (dT Γ W (evT P R b))) : PT X (.IfExp x y z pos) (dT Γ W (evT P R (.ite c a b))) := by
  refine ⟨fun pins s σ H Q I h => ?_⟩
  show wpAny (model X.prog X.w) X.A (do if ← isTrue x X.env (eval x X.env) then isTrue y X.env (eval y X.env) else isTrue z X.env (eval z X.env)) _ _ _
  obtain ⟨O, κ, L, ρ, st, o, e, h⟩ := h
  unfold evT at h
  rw [evE] at h
  have h2 : fin Γ (fun c d H' => W c d σ H') O κ L H (((evE P R c ρ st).bind asTru).bind fun t st1 => if t then evT P R a ρ st1 else evT P R b ρ st1) (fun b _ κ' H' => Q b H') := by
    unfold evT
    cases hv : (evE P R c ρ st).bind asTru with
    | ok t st1 =>
      rw [hv, Res.bind_ok] at h
      rw [Res.bind_ok]
      cases t <;> exact h
    | exc u v w => rw [hv] at h; exact h
    | stuck => rw [hv] at h; exact h
  refine wpAny_bind (thn (hc.run pins s σ H (fun t H1 => if t = true then dT Γ W (evT P R a) σ H1 Q else dT Γ W (evT P R b) σ H1 Q) I ⟨O, κ, L, ρ, st, o, e, (fin.bind o h2).imp fun t st1 κ1 H1 n1 o1 q1 => ?_⟩) fun t s1 ⟨H1, I1, q1⟩ => ?_)
  · cases t with
    | true => exact ⟨O, κ1, L, ρ, st1, o1, e.next n1, q1⟩
    | false => exact ⟨O, κ1, L, ρ, st1, o1, e.next n1, q1⟩
  · cases t with
    | true => exact ha.run pins s1 σ H1 Q I1 q1
    | false => exact hb.run pins s1 σ H1 Q I1 q1
theorem pe_conD {d : D} {co : Const} {kk : Nat} {pos : Pos} (h : okCon d co = true) : PE X (.Constant co kk pos) (dE Γ W (evE P R (.con d))) := by
  have h' : (evE P R (.con d)) = fun _ st => .ok d st := by funext ρ st; simp only [evE]
  rw [h']
  cases d <;> cases co <;> simp only [okCon] at h <;> try (cases h; done)
  case non.none => exact pe_non.weak fun σ H Q q => dC (fun _ _ _ _ _ _ => .non) σ H Q q
  case bl.bool b b' =>
    rw [← beq_iff_eq.mp h]
    exact pe_bl.weak fun σ H Q q => dC (fun _ _ _ _ _ _ => .bl b) σ H Q q
  case int.int i j =>
    rw [← beq_iff_eq.mp h]
    exact pe_int.weak fun σ H Q q => dC (fun _ _ _ _ _ _ => .int i) σ H Q q
  case str.str s x =>
    rw [of_decide_eq_true h]
    exact pe_str.weak fun σ H Q q => dC (fun _ _ _ _ _ _ => .str s) σ H Q q
theorem pe_gloD {n : String} {x : Str} {pos : Pos} (C : CxOk c X) (U : Uni Γ S P R k X) (hx : x = Str.ofString n) (hg : okGl c x = true) (hn : S.consts.contains n = true) : PE X (.Name x pos) (dE Γ W (evE P R (.glo n))) := by
  obtain ⟨g1, g2, g3⟩ := gl_of C hg
  obtain ⟨d, u, v, e1, e2, e3, e4⟩ := U.con n hn
  have h' : (evE P R (.glo n)) = fun _ st => .ok d st := by funext ρ st; simp only [evE, e1]; rfl
  rw [h']
  exact (pe_glob g1 (by rw [hx]; exact e2) e3 g2).weak fun σ H Q q => dC (fun _ _ _ _ _ _ => e4 _ _) σ H Q q
theorem pe_fnvD {n : String} {x : Str} {pos : Pos} (C : CxOk c X) (U : Uni Γ S P R k X) (hx : x = Str.ofString n) (hg : okGl c x = true) (hn : S.funs.contains n = true) : PE X (.Name x pos) (dE Γ W (evE P R (.fnv n))) := by
  obtain ⟨g1, g2, g3⟩ := gl_of C hg
  obtain ⟨a, e2, e3⟩ := U.fn n hn
  have h' : (evE P R (.fnv n)) = fun _ st => .ok (.fn n) st := by funext ρ st; simp only [evE]
  rw [h']
  exact (pe_glob (v := .ref a) g1 (by rw [hx]; exact e2) rfl g2).weak fun σ H Q q => dC (fun _ _ _ _ _ _ => .fn e3) σ H Q q
open Classical in
theorem pe_xfldD {i : Nat} {f : String} {y : Str} {q pos : Pos} (C : CxOk c X) (U : Uni Γ S P R k X) (hy : okVar c i y = true) (hc : c.calm = false) : PE X (.Attribute (.Name y q) (Str.ofString f) pos) (dE Γ W (evE P R (.xfld i f))) := by
  obtain ⟨v1, v2, v3, v4⟩ := var_of C hy
  obtain ⟨xa, y0, ht, hr⟩ := U.exn (C.calm.trans hc)
  -- what the reading tells
  have key : ∀ {σ : L2.St} {H : Hp} {Q : VK}, dE Γ W (evE P R (.xfld i f)) σ H Q → ∃ (C : String) (dd : Addr) (fvs : List (Str × V)) (v : V), y0.1 = .ref (Γ.cls C) ∧ Γ.isX C = true ∧ f ∈ Γ.xfields C ∧ σ[i]? = some (some (.ref xa)) ∧ y0.2 = some dd ∧ H dd = some (.xd fvs) ∧ fvs.lookup (Str.ofString f) = some v ∧ Q v H := by
    intro σ H Q h
    obtain ⟨O, κ, L, ρ, st, o, e, h⟩ := h
    rw [evE] at h
    split at h
    · rename_i C fs hρ
      obtain ⟨d, ed, A⟩ := h.after
      have hs := e.sl i _ hρ
      have hs : SlX Γ κ (imm O κ L H) σ i C fs := hs
      unfold SlX at hs
      rw [ht] at hs
      obtain ⟨s1, hs2⟩ := hs
      obtain ⟨s2, s3, s4⟩ := hs2 y0 rfl
      rw [U.px] at ed
      rcases s4 with ⟨z, _⟩ | ⟨dd, fvs, vs, z1, z2, z3, z4⟩
      · rw [z] at ed; simp at ed
      · obtain ⟨hf, w, hw, rw'⟩ := zip_lookup z3 z4 ed
        exact ⟨C, dd, fvs, w, s3, s2, hf, s1, z1, cut_le _ _ _ _ z2, hw, A.now o rw'⟩
    · exact h.elim
  by_cases hex : ∃ C, y0.1 = .ref (Γ.cls C) ∧ Γ.isX C = true ∧ f ∈ Γ.xfields C
  · obtain ⟨C0, c1, c2, c3⟩ := hex
    refine (hr C0 f _ _ pos c1 c2 c3 rfl (pe_var v1 v2 v3 v4)).weak fun σ H Q h => ?_
    obtain ⟨C1, dd, fvs, v, k1, k2, k3, k4, k5, k6, k7, k8⟩ := key h
    exact ⟨_, k4, rfl, c1, dd, fvs, v, k5, k6, k7, k8⟩
  · refine ⟨fun pins s σ H Q I h => ?_⟩
    obtain ⟨C1, dd, fvs, v, k1, k2, k3, _⟩ := key h
    exact absurd ⟨C1, k1, k2, k3⟩ hex
theorem pw_of {op : BoolOp} {es : List Expr} {pos : Pos} {t : TT} (h : PT X (.BoolOp op es pos) t) : PW X (.BoolOp op es pos) t := ⟨fun _ pins s σ H Q I q => h.run pins s σ H Q I q⟩
theorem cmp_bl {op : Cop} {a b : Tm} {ρ : Ev} {st st' : Sto} {d : D} (h : evE P R (.cmp op a b) ρ st = .ok d st') : ∃ b, d = .bl b := by
  rw [evE] at h
  cases h1 : evE P R a ρ st with
  | ok x s1 =>
    rw [h1, Res.bind_ok] at h
    cases h2 : evE P R b ρ s1 with
    | ok y s2 =>
      rw [h2, Res.bind_ok] at h
      cases h3 : dCmp op x y with
      | none => rw [h3] at h; cases h
      | some z => rw [h3] at h; cases h; exact ⟨z, rfl⟩
    | exc _ _ _ => rw [h2] at h; cases h
    | stuck => rw [h2] at h; cases h
  | exc _ _ _ => rw [h1] at h; cases h
  | stuck => rw [h1] at h; cases h
theorem chain_bl {o1 o2 : Cop} {a b e : Tm} {ρ : Ev} {st st' : Sto} {d : D} (h : evE P R (.chain o1 o2 a b e) ρ st = .ok d st') : ∃ b, d = .bl b := by
  rw [evE] at h
  cases h1 : evE P R a ρ st with
  | ok x s1 =>
    rw [h1, Res.bind_ok] at h
    cases h2 : evE P R b ρ s1 with
    | ok y s2 =>
      rw [h2, Res.bind_ok] at h
      cases h3 : dCmp o1 x y with
      | none => rw [h3] at h; cases h
      | some z =>
        rw [h3] at h
        cases z with
        | false => cases h; exact ⟨_, rfl⟩
        | true =>
          dsimp only at h
          cases h4 : evE P R e ρ s2 with
          | ok w s3 =>
            rw [h4, Res.bind_ok] at h
            cases h5 : dCmp o2 y w with
            | none => rw [h5] at h; cases h
            | some u => rw [h5] at h; cases h; exact ⟨u, rfl⟩
          | exc _ _ _ => rw [h4] at h; cases h
          | stuck => rw [h4] at h; cases h
    | exc _ _ _ => rw [h2] at h; cases h
    | stuck => rw [h2] at h; cases h
  | exc _ _ _ => rw [h1] at h; cases h
  | stuck => rw [h1] at h; cases h
theorem dE_chain {o1 o2 : Cop} {a b e : Tm} (σ : L2.St) (H : Hp) (Q : VK) (h : dE Γ W (evE P R (.chain o1 o2 a b e)) σ H Q) :
    tChain (rD2 Γ fun x y => (dCmp o1 x y).map .bl) (rD2 Γ fun x y => (dCmp o2 x y).map .bl) (dE Γ W (evE P R a)) (dE Γ W (evE P R b)) (dE Γ W (evE P R e)) σ H Q := by
  obtain ⟨O, κ, L, ρ, st, o, en, h⟩ := h
  rw [evE] at h
  refine ⟨O, κ, L, ρ, st, o, en, (fin.bind o h).imp fun x st1 κ1 H1 n1 o1' q1 v r => ?_⟩
  refine ⟨O, κ1, L, ρ, st1, o1', en.next n1, (fin.bind o1' q1).imp fun y st2 κ2 H2 n2 o2' q2 u r2 => ?_⟩
  have r1 := r.mono n2.pre n2.le
  cases h3 : dCmp o1 x y with
  | none => rw [h3] at q2; exact q2.elim
  | some z =>
    rw [h3] at q2
    refine ⟨O, κ2, L, st2, x, y, .bl z, o2', r1, r2, by show (dCmp o1 x y).map _ = _; rw [h3]; rfl, fun H3 n3 o3 w rw' => ?_⟩
    cases rw'
    refine ⟨z, rfl, ?_⟩
    cases z with
    | false =>
      simp only [Bool.false_eq_true, if_false]
      exact q2 κ2 H3 n3 o3 _ (.bl _)
    | true =>
      simp only [if_true]
      dsimp only at q2
      refine ⟨O, κ2, L, ρ, st2, o3, ((en.next n1).next n2).next n3, (fin.bind o3 (fin.step o2' n3 q2)).imp fun w st4 κ4 H4 n4 o4 q4 v4 r4 => ?_⟩
      obtain ⟨b4, e4, A⟩ := q4.afterB
      exact ⟨O, κ4, L, st4, y, w, .bl b4, o4, (r2.mono n3.pre n3.le).mono n4.pre n4.le, r4, by show (dCmp o2 y w).map _ = _; rw [e4]; rfl, A⟩
end

section
variable {Γ : Glob} {S : Stat} {P : Prog} {R : String → List D → Sto → Res D} {k : Nat}
mutual
theorem sE : ∀ (t : Tm) {c : SC} {X : Cx} {W : WX} {e : Expr}, okE S c t e = true → CxOk c X → Uni Γ S P R k X → Takes X W → PE X e (dE Γ W (evE P R t))
  | .var i, c, X, W, e, h, C, U, tk => by
    unfold okE at h
    split at h
    · obtain ⟨v1, v2, v3, v4⟩ := var_of C h
      have h' : (evE P R (.var i)) = fun ρ st => lift (slotD ρ i) st := by funext ρ st; simp only [evE]
      rw [h']
      exact pe_varD v1 v2 v3 v4
    · cases h
  | .con d, c, X, W, e, h, C, U, tk => by
    unfold okE at h
    split at h
    · exact pe_conD h
    · cases h
  | .glo n, c, X, W, e, h, C, U, tk => by
    unfold okE at h
    split at h
    · simp only [Bool.and_eq_true, decide_eq_true_eq] at h
      exact pe_gloD C U h.1.1 h.1.2 h.2
    · cases h
  | .fnv n, c, X, W, e, h, C, U, tk => by
    unfold okE at h
    split at h
    · simp only [Bool.and_eq_true, decide_eq_true_eq] at h
      exact pe_fnvD C U h.1.1 h.1.2 h.2
    · cases h
  | .bin op a b, c, X, W, e, h, C, U, tk => by
    unfold okE at h
    split at h
    · simp only [Bool.and_eq_true] at h
      rw [okOp_eq h.1.1]
      exact (pe_op (opBin U.K op) (sE a h.1.2 C U tk) (sE b h.2 C U tk)).weak fun σ H Q q => dE_op (by simpa only [evE] using q)
    · cases h
  | .neg a, c, X, W, e, h, C, U, tk => by
    unfold okE at h
    split at h
    · exact (pe_un unNeg (sE a h C U tk)).weak fun σ H Q q => dE_un (by simpa only [evE] using q)
    · cases h
  | .not a, c, X, W, e, h, C, U, tk => by
    unfold okE at h
    split at h
    · exact pe_notD U.K (sE a h C U tk)
    · cases h
  | .cmp op a b, c, X, W, e, h, C, U, tk => by
    unfold okE at h
    split at h
    · simp only [Bool.and_eq_true] at h
      obtain ⟨⟨⟨h1, h2⟩, h3⟩, h4⟩ := h
      rw [okCop_eq h1] at h4 ⊢
      exact (pe_cmpR (opCmp U.K U.hu op) (sE a h2 C U tk) (sE b h3 C U tk) (by simpa [okIn] using h4)).weak fun σ H Q q => dE_opB (by simpa only [evE] using q)
    · cases h
  | .chain o1 o2 a b d, c, X, W, e, h, C, U, tk => by
    unfold okE at h
    split at h
    · simp only [Bool.and_eq_true] at h
      obtain ⟨⟨⟨⟨⟨h1, h2⟩, h3⟩, h4⟩, h5⟩, h6⟩ := h
      rw [okCop_eq h1, okCop_eq h2] at h6 ⊢
      exact (pe_chain (opCmp U.K U.hu o1) (opCmp U.K U.hu o2) (sE a h3 C U tk) (sE b h4 C U tk) (sE d h5 C U tk) (by simpa using h6)).weak fun σ H Q q => dE_chain σ H Q q
    · cases h
  | .and a b, c, X, W, e, h, C, U, tk => by
    unfold okE at h
    split at h
    · simp only [Bool.and_eq_true] at h
      obtain ⟨h1, h2⟩ := h
      split at h2
      · exact pe_andD (sE a h1 C U tk) (pe_one (sE b h2 C U tk))
      · exact pe_andD (sE a h1 C U tk) (sE b h2 C U tk)
    · cases h
  | .or a b, c, X, W, e, h, C, U, tk => by
    unfold okE at h
    split at h
    · simp only [Bool.and_eq_true] at h
      obtain ⟨h1, h2⟩ := h
      split at h2
      · exact pe_orD (sE a h1 C U tk) (pe_one (sE b h2 C U tk))
      · exact pe_orD (sE a h1 C U tk) (sE b h2 C U tk)
    · cases h
  | .ite t a b, c, X, W, e, h, C, U, tk => by
    unfold okE at h
    split at h
    · simp only [Bool.and_eq_true] at h
      exact pe_iteD (sT t h.1.1 C U tk) (sE a h.1.2 C U tk) (sE b h.2 C U tk)
    · cases h
  | .tup xs, c, X, W, e, h, C, U, tk => by
    unfold okE at h
    split at h
    · simp only [Bool.and_eq_true, decide_eq_true_eq] at h
      exact (pe_tup (sL xs h.1 C U tk)).weak fun σ H Q q => dE_tup h.2 σ H Q q
    · cases h
  | .lst xs, c, X, W, e, h, C, U, tk => by
    unfold okE at h
    split at h
    · simp only [Bool.and_eq_true, decide_eq_true_eq] at h
      exact (pe_lst (sL xs h.1 C U tk)).weak fun σ H Q q => dE_lst h.2 σ H Q q
    · cases h
  | .idx a b, c, X, W, e, h, C, U, tk => by
    unfold okE at h
    split at h
    · simp only [Bool.and_eq_true] at h
      refine (pe_ix (ixD U.K) (sE a h.1.1 C U tk) (sE b h.1.2 C U tk) (plain_of h.2)).weak fun σ H Q q => ?_
      have q' : dE Γ W (fun ρ st => (evE P R a ρ st).bind fun x st1 => (evE P R b ρ st1).bind fun y st2 => lift (dIdx st2 x y) st2) σ H Q := by simpa only [evE] using q
      refine (dE.two (g := fun x y st => lift (dIdx st x y) st) q').imp fun v H1 z => z.imp fun u H2 z => ?_
      obtain ⟨O, κ, L, ρ, st, x, y, o, e, r1, r2, z⟩ := z
      obtain ⟨d, e, A⟩ := z.after
      exact ⟨O, κ, L, st, x, y, d, o, r1, r2, e, A⟩
    · cases h
  | .slc a lo hi, c, X, W, e, h, C, U, tk => by
    unfold okE at h
    split at h
    · simp only [Bool.and_eq_true] at h
      exact pe_slcD U.K (sE a h.1.1 C U tk) (sO lo h.1.2 C U tk) (sO hi h.2 C U tk)
    · cases h
  | .rev a, c, X, W, e, h, C, U, tk => by
    unfold okE at h
    split at h
    · exact (pe_revD U.K (sE a h C U tk)).weak fun σ H Q q => dE_un (by simpa only [evE] using q)
    · cases h
  | .fld a f, c, X, W, e, h, C, U, tk => by
    unfold okE at h
    split at h
    · simp only [Bool.and_eq_true, decide_eq_true_eq] at h
      obtain ⟨⟨h1, h2⟩, h3⟩ := h
      rw [h1]
      exact (pe_fld (sE a h3 C U tk) (attr_base h2)).weak fun σ H Q q => dE_fld U σ H Q q
    · cases h
  | .call f args, c, X, W, e, h, C, U, tk => by
    unfold okE at h
    split at h
    · simp only [Bool.and_eq_true, decide_eq_true_eq] at h
      obtain ⟨⟨⟨⟨h0, h1⟩, h2⟩, h3⟩, h4⟩ := h
      obtain ⟨g1, g2, g3⟩ := gl_of C h2
      obtain ⟨a, m1, m2⟩ := U.fn f h3
      obtain ⟨np, F, hn⟩ := U.fnAt (C.calm.trans h0) f a m2
      exact (pe_callW F ((U.room (C.calm.trans h0)).mono (Nat.le_succ _)) g1 (by rw [h1]; exact m1) tk (okL_len h4).2 (sL args h4 C U tk) g2).weak fun σ H Q q => dE_call hn σ H Q (by simpa only [evE] using q)
    · cases h
  | .callv i args, c, X, W, e, h, C, U, tk => by
    unfold okE at h
    split at h
    · simp only [Bool.and_eq_true] at h
      obtain ⟨⟨h0, h1⟩, h2⟩ := h
      obtain ⟨v1, v2, v3, v4⟩ := var_of C h1
      exact (pe_callvW (pe_varD v1 v2 v3 v4) (okL_len h2).2 (sL args h2 C U tk) ((U.room (C.calm.trans h0)).mono (Nat.le_succ _)) tk).weak fun σ H Q q => dE_callv U (C.calm.trans h0) σ H Q q
    · cases h
  | .make f args, c, X, W, e, h, C, U, tk => by
    unfold okE at h
    split at h
    · simp only [Bool.and_eq_true, decide_eq_true_eq] at h
      obtain ⟨⟨⟨⟨h0, h1⟩, h2⟩, h3⟩, h4⟩ := h
      obtain ⟨g1, g2, g3⟩ := gl_of C h2
      have m1 := U.clsV f h3
      obtain ⟨fI, np, M, F, hn⟩ := U.cls (C.calm.trans h0) f h3
      exact (pe_makeW M F (U.room (C.calm.trans h0)) g1 (by rw [h1]; exact m1) tk (okL_len h4).2 (sL args h4 C U tk) g2).weak fun σ H Q q => dE_make hn σ H Q (by simpa only [evE] using q)
    · cases h
  | .meth o m args, c, X, W, e, h, C, U, tk => by
    unfold okE at h
    split at h
    · simp only [Bool.and_eq_true, decide_eq_true_eq] at h
      obtain ⟨⟨⟨⟨⟨⟨h0, h1⟩, h2⟩, h3⟩, h4⟩, h5⟩, h6⟩ := h
      rw [h1]
      exact pe_methW U (C.calm.trans h0) tk (sE o h3 C U tk) (sL args h4 C U tk) h2 (okL_len h4).2 h6 h5
    · cases h
  | .bi f args, c, X, W, e, h, C, U, tk => by
    unfold okE at h
    split at h
    · rw [Bool.and_eq_true, Bool.and_eq_true, Bool.and_eq_true, Bool.not_eq_true'] at h
      obtain ⟨⟨⟨h0, h1⟩, h2⟩, h3⟩ := h
      exact pe_biD C U (by rw [C.calm]; exact h0) h1 h2 h3 (sL args h2 C U tk)
    · cases h
  | .isi a ts, c, X, W, e, h, C, U, tk => by
    unfold okE at h
    split at h
    · simp only [Bool.and_eq_true, Bool.not_eq_true', decide_eq_true_eq] at h
      obtain ⟨⟨⟨⟨⟨⟨h0, h1⟩, h2⟩, h3⟩, h4⟩, h5⟩, h6⟩ := h
      exact pe_isi C U h0 (sE a h3 C U tk) h4 h5 h1 (by intro z; rw [z] at h2; cases h2) h6
    · cases h
  | .comp tg it cond el, c, X, W, e, h, C, U, tk => by
    unfold okE at h
    split at h
    · simp only [Bool.and_eq_true, decide_eq_true_eq] at h
      obtain ⟨⟨⟨⟨⟨⟨⟨⟨h0, h1⟩, h2⟩, h3⟩, h4⟩, h5⟩, h6⟩, h7⟩, h8⟩ := h
      refine pe_compD C U (C.calm.trans h0) (sI it h2 h1 h6 C U tk) h3 h4 h5 h6 (fun X' C' U' tk' => sE el h7 C' U' tk') fun X' C' U' tk' => ?_
      split at h8
      · cases cond with
        | none =>
          refine ⟨fun pins s σ H Q I q => pts_nil.run pins s σ H Q I ?_⟩
          obtain ⟨O, κ, L, ρ, st, o, e, q⟩ := q
          rw [evC] at q
          exact q κ H .refl o
        | some _ => cases h8
      · exact pts_one (sC cond h8 C' U' tk')
      · cases h8
    · cases h
  | .olen i, c, X, W, e, h, C, U, tk => by
    unfold okE at h
    split at h
    · simp only [Bool.and_eq_true] at h
      exact pe_olen C U h.1.2 h.2
    · cases h
  | .oix i t, c, X, W, e, h, C, U, tk => by
    unfold okE at h
    split at h
    · simp only [Bool.and_eq_true] at h
      exact pe_oix C U h.1.1 h.2 (sE t h.1.2 C U tk)
    · cases h
  | .xfld i f, c, X, W, e, h, C, U, tk => by
    unfold okE at h
    split at h
    · simp only [Bool.and_eq_true, decide_eq_true_eq, Bool.not_eq_true'] at h
      rw [h.1.1]
      exact pe_xfldD C U h.1.2 h.2
    · cases h
  | .ocmp op a b, c, X, W, e, h, C, U, tk => by
    unfold okE at h
    split at h
    · simp only [Bool.and_eq_true] at h
      obtain ⟨⟨⟨⟨h0, h1⟩, h2⟩, h3⟩, h4⟩ := h
      rw [okCop_eq h2]
      exact pe_ocmpD U (C.calm.trans h0) tk h1 (sE a h3 C U tk) (sE b h4 C U tk)
    · cases h
  | .lenm a, c, X, W, e, h, C, U, tk => by
    unfold okE at h
    split at h
    · simp only [Bool.and_eq_true] at h
      obtain ⟨⟨⟨h0, h1⟩, h2⟩, h3⟩ := h
      exact pe_lenmD C U ((Bool.or_eq_true_iff.mp h0).imp (fun z => C.calm.trans z) id) tk h1 h3 (sE a h2 C U tk)
    · cases h
  | .dic a i, c, X, W, e, h, C, U, tk => by
    unfold okE at h
    split at h
    · simp only [Bool.and_eq_true] at h
      obtain ⟨⟨⟨⟨h0, h1⟩, h2⟩, h3⟩, h4⟩ := h
      exact pe_dicD C U (C.calm.trans h0) h1 h2 h4 (sE a h3 C U tk)
    · cases h
  | .tcmp op a b, c, X, W, e, h, C, U, tk => by
    unfold okE at h
    split at h
    · simp only [Bool.and_eq_true] at h
      obtain ⟨⟨⟨⟨h0, h1⟩, h2⟩, h3⟩, h4⟩ := h
      rw [okCop_eq h2]
      exact pe_tcmpD U (C.calm.trans h0) tk h1 (sE a h3 C U tk) (sE b h4 C U tk)
    · cases h
  | .range _, c, X, W, e, h, C, U, tk => by unfold okE at h; cases h
  | .enum _, c, X, W, e, h, C, U, tk => by unfold okE at h; cases h
  | .zip _, c, X, W, e, h, C, U, tk => by unfold okE at h; cases h
  | .seq _, c, X, W, e, h, C, U, tk => by unfold okE at h; cases h
termination_by t => (sizeOf t, 0)
theorem sT : ∀ (t : Tm) {c : SC} {X : Cx} {W : WX} {e : Expr}, okE S c t e = true → CxOk c X → Uni Γ S P R k X → Takes X W → PT X e (dT Γ W (evT P R t))
  | .cmp op a b, c, X, W, e, h, C, U, tk => by
    unfold okE at h
    split at h
    · simp only [Bool.and_eq_true] at h
      obtain ⟨⟨⟨h1, h2⟩, h3⟩, h4⟩ := h
      rw [okCop_eq h1] at h4 ⊢
      exact (pt_cmpR (opCmp U.K U.hu op) (sE a h2 C U tk) (sE b h3 C U tk) (by simpa [okIn] using h4)).weak fun σ H Q q => dE_opB (by simpa only [evE] using dT_bl (fun ρ st d st' => cmp_bl) q)
    · cases h
  | .chain o1 o2 a b d, c, X, W, e, h, C, U, tk => by
    unfold okE at h
    split at h
    · simp only [Bool.and_eq_true] at h
      obtain ⟨⟨⟨⟨⟨h1, h2⟩, h3⟩, h4⟩, h5⟩, h6⟩ := h
      rw [okCop_eq h1, okCop_eq h2] at h6 ⊢
      exact (pt_chain (opCmp U.K U.hu o1) (opCmp U.K U.hu o2) (sE a h3 C U tk) (sE b h4 C U tk) (sE d h5 C U tk) (by simpa using h6)).weak fun σ H Q q => dE_chain σ H _ (dT_bl (fun ρ st d st' => chain_bl) q)
    · cases h
  | .not a, c, X, W, e, h, C, U, tk => by
    unfold okE at h
    split at h
    · exact pt_notD (sT a h C U tk)
    · cases h
  | .and a b, c, X, W, e, h, C, U, tk => by
    unfold okE at h
    split at h
    · simp only [Bool.and_eq_true] at h
      obtain ⟨h1, h2⟩ := h
      split at h2
      · exact pt_of_pw (pw_andD (sT a h1 C U tk) (pw_and1 (sT b h2 C U tk)))
      · exact pt_of_pw (pw_andD (sT a h1 C U tk) (pw_of (sT b h2 C U tk)))
    · cases h
  | .or a b, c, X, W, e, h, C, U, tk => by
    unfold okE at h
    split at h
    · simp only [Bool.and_eq_true] at h
      obtain ⟨h1, h2⟩ := h
      split at h2
      · exact pt_of_pw (pw_orD (sT a h1 C U tk) (pw_or1 (sT b h2 C U tk)))
      · exact pt_of_pw (pw_orD (sT a h1 C U tk) (pw_of (sT b h2 C U tk)))
    · cases h
  | .ite t a b, c, X, W, e, h, C, U, tk => by
    unfold okE at h
    split at h
    · simp only [Bool.and_eq_true] at h
      exact pt_iteD (sT t h.1.1 C U tk) (sT a h.1.2 C U tk) (sT b h.2 C U tk)
    · cases h
  | .var i, c, X, W, e, h, C, U, tk => pt_truD U.K (sE (.var i) h C U tk) (by unfold okE at h; split at h <;> first | (cases h; done) | (intro _; rfl))
  | .con i, c, X, W, e, h, C, U, tk => pt_truD U.K (sE (.con i) h C U tk) (by unfold okE at h; split at h <;> first | (cases h; done) | (intro _; rfl))
  | .glo i, c, X, W, e, h, C, U, tk => pt_truD U.K (sE (.glo i) h C U tk) (by unfold okE at h; split at h <;> first | (cases h; done) | (intro _; rfl))
  | .fnv i, c, X, W, e, h, C, U, tk => pt_truD U.K (sE (.fnv i) h C U tk) (by unfold okE at h; split at h <;> first | (cases h; done) | (intro _; rfl))
  | .bin i a b, c, X, W, e, h, C, U, tk => pt_truD U.K (sE (.bin i a b) h C U tk) (by unfold okE at h; split at h <;> first | (cases h; done) | (intro _; rfl))
  | .neg i, c, X, W, e, h, C, U, tk => pt_truD U.K (sE (.neg i) h C U tk) (by unfold okE at h; split at h <;> first | (cases h; done) | (intro _; rfl))
  | .tup i, c, X, W, e, h, C, U, tk => pt_truD U.K (sE (.tup i) h C U tk) (by unfold okE at h; split at h <;> first | (cases h; done) | (intro _; rfl))
  | .lst i, c, X, W, e, h, C, U, tk => pt_truD U.K (sE (.lst i) h C U tk) (by unfold okE at h; split at h <;> first | (cases h; done) | (intro _; rfl))
  | .idx i a, c, X, W, e, h, C, U, tk => pt_truD U.K (sE (.idx i a) h C U tk) (by unfold okE at h; split at h <;> first | (cases h; done) | (intro _; rfl))
  | .slc i a b, c, X, W, e, h, C, U, tk => pt_truD U.K (sE (.slc i a b) h C U tk) (by unfold okE at h; split at h <;> first | (cases h; done) | (intro _; rfl))
  | .rev i, c, X, W, e, h, C, U, tk => pt_truD U.K (sE (.rev i) h C U tk) (by unfold okE at h; split at h <;> first | (cases h; done) | (intro _; rfl))
  | .fld i f, c, X, W, e, h, C, U, tk => pt_truD U.K (sE (.fld i f) h C U tk) (by unfold okE at h; split at h <;> first | (cases h; done) | (intro _; rfl))
  | .call i f, c, X, W, e, h, C, U, tk => pt_truD U.K (sE (.call i f) h C U tk) (by unfold okE at h; split at h <;> first | (cases h; done) | (intro _; rfl))
  | .callv i f, c, X, W, e, h, C, U, tk => pt_truD U.K (sE (.callv i f) h C U tk) (by unfold okE at h; split at h <;> first | (cases h; done) | (intro _; rfl))
  | .make i f, c, X, W, e, h, C, U, tk => pt_truD U.K (sE (.make i f) h C U tk) (by unfold okE at h; split at h <;> first | (cases h; done) | (intro _; rfl))
  | .meth i f a, c, X, W, e, h, C, U, tk => pt_truD U.K (sE (.meth i f a) h C U tk) (by unfold okE at h; split at h <;> first | (cases h; done) | (intro _; rfl))
  | .bi i f, c, X, W, e, h, C, U, tk => pt_truD U.K (sE (.bi i f) h C U tk) (by unfold okE at h; split at h <;> first | (cases h; done) | (intro _; rfl))
  | .isi i f, c, X, W, e, h, C, U, tk => pt_truD U.K (sE (.isi i f) h C U tk) (by unfold okE at h; split at h <;> first | (cases h; done) | (intro _; rfl))
  | .comp i f a b, c, X, W, e, h, C, U, tk => pt_truD U.K (sE (.comp i f a b) h C U tk) (by unfold okE at h; split at h <;> first | (cases h; done) | (intro _; rfl))
  | .olen i, c, X, W, e, h, C, U, tk => pt_truD U.K (sE (.olen i) h C U tk) (by unfold okE at h; split at h <;> first | (cases h; done) | (intro _; rfl))
  | .oix i t, c, X, W, e, h, C, U, tk => pt_truD U.K (sE (.oix i t) h C U tk) (by unfold okE at h; split at h <;> first | (cases h; done) | (intro _; rfl))
  | .xfld i f, c, X, W, e, h, C, U, tk => pt_truD U.K (sE (.xfld i f) h C U tk) (by unfold okE at h; split at h <;> first | (cases h; done) | (intro _; rfl))
  | .ocmp op a b, c, X, W, e, h, C, U, tk => by
    unfold okE at h
    split at h
    · simp only [Bool.and_eq_true] at h
      obtain ⟨⟨⟨⟨h0, h1⟩, h2⟩, h3⟩, h4⟩ := h
      rw [okCop_eq h2]
      exact pt_ocmpD U (C.calm.trans h0) tk h1 (sE a h3 C U tk) (sE b h4 C U tk)
    · cases h
  | .lenm a, c, X, W, e, h, C, U, tk => pt_truD U.K (sE (.lenm a) h C U tk) (by unfold okE at h; split at h <;> first | (cases h; done) | (intro _; rfl))
  | .dic a i, c, X, W, e, h, C, U, tk => pt_truD U.K (sE (.dic a i) h C U tk) (by unfold okE at h; split at h <;> first | (cases h; done) | (intro _; rfl))
  | .tcmp op a b, c, X, W, e, h, C, U, tk => by
    unfold okE at h
    split at h
    · simp only [Bool.and_eq_true] at h
      obtain ⟨⟨⟨⟨h0, h1⟩, h2⟩, h3⟩, h4⟩ := h
      rw [okCop_eq h2]
      exact pt_tcmpD U (C.calm.trans h0) tk h1 (sE a h3 C U tk) (sE b h4 C U tk)
    · cases h
  | .range _, c, X, W, e, h, C, U, tk => by unfold okE at h; cases h
  | .enum _, c, X, W, e, h, C, U, tk => by unfold okE at h; cases h
  | .zip _, c, X, W, e, h, C, U, tk => by unfold okE at h; cases h
  | .seq _, c, X, W, e, h, C, U, tk => by unfold okE at h; cases h
termination_by t => (sizeOf t, 1)
theorem sL : ∀ (ts : List Tm) {c : SC} {X : Cx} {W : WX} {es : List Expr}, okL S c ts es = true → CxOk c X → Uni Γ S P R k X → Takes X W → PA X es (dA Γ W (evL P R ts))
  | [], c, X, W, es, h, C, U, tk => by
    rw [okL] at h
    rw [List.isEmpty_iff.mp h]
    exact pa_nil.weak fun σ H Q q => dA_nil σ H Q q
  | t :: ts, c, X, W, [], h, C, U, tk => by rw [okL] at h; cases h
  | t :: ts, c, X, W, e :: es, h, C, U, tk => by
    rw [okL] at h
    simp only [Bool.and_eq_true] at h
    exact (pa_cons (sE t h.1.1 C U tk) (sL ts h.2 C U tk) (star_cons h.1.2)).weak fun σ H Q q => dA_cons σ H Q q
termination_by ts => (sizeOf ts, 0)
theorem sO : ∀ (t : Option Tm) {c : SC} {X : Cx} {W : WX} {e : Option Expr}, okO S c t e = true → CxOk c X → Uni Γ S P R k X → Takes X W → PO X e (dO Γ W (evO P R t))
  | none, c, X, W, e, h, C, U, tk => by
    rw [okO] at h
    rw [Option.isNone_iff_eq_none.mp h]
    exact po_noneD
  | some t, c, X, W, none, h, C, U, tk => by rw [okO] at h; cases h
  | some t, c, X, W, some e, h, C, U, tk => by
    rw [okO] at h
    exact po_someD (sE t h C U tk)
termination_by t => (sizeOf t, 0)
theorem sC : ∀ (t : Option Tm) {c : SC} {X : Cx} {W : WX} {e : Expr}, okC S c t e = true → CxOk c X → Uni Γ S P R k X → Takes X W → PT X e (dT Γ W (evC P R t))
  | none, c, X, W, e, h, C, U, tk => by rw [okC] at h; cases h
  | some t, c, X, W, e, h, C, U, tk => by
    rw [okC] at h
    refine (sT t h C U tk).weak fun σ H Q q => ?_
    have : evC P R (some t) = evT P R t := by funext ρ st; rw [evC]; rfl
    rw [← this]
    exact q
termination_by t => (sizeOf t, 0)
theorem sI : ∀ (t : Tm) {c c' : SC} {X : Cx} {W : WX} {e target : Expr} {tg : Tg}, okI S c t e = true → tgOk tg t = true → okTg c' tg target = true → CxOk c X → Uni Γ S P R k X → Takes X W → PI X target e (dI Γ W (evI P R t))
  | .range args, c, c', X, W, e, target, tg, h, ht, hg, C, U, tk => by
    unfold okI at h
    split at h
    · simp only [Bool.and_eq_true, Bool.not_eq_true', decide_eq_true_eq] at h
      obtain ⟨⟨⟨h1, h2⟩, h3⟩, h4⟩ := h
      exact dI_range C U h1 h2 h3 h4 (sL args h2 C U tk)
    · cases h
  | .enum a, c, c', X, W, e, target, tg, h, ht, hg, C, U, tk => by
    unfold okI at h
    split at h
    · simp only [Bool.and_eq_true] at h
      obtain ⟨⟨h1, h2⟩, h3⟩ := h
      unfold okTg at hg
      split at hg
      · cases ht
      · exact dI_enum C U h1 h3 (sE a h2 C U tk)
      · cases hg
    · cases h
  | .zip as, c, c', X, W, e, target, tg, h, ht, hg, C, U, tk => by
    unfold okI at h
    split at h
    · simp only [Bool.and_eq_true, decide_eq_true_eq] at h
      obtain ⟨⟨h1, h2⟩, h3⟩ := h
      unfold okTg at hg
      split at hg
      · cases ht
      · exact dI_zip C U h1 h2 h3 (sL as h2 C U tk)
      · cases hg
    · cases h
  | .seq a, c, c', X, W, e, target, tg, h, ht, hg, C, U, tk => by
    rw [okI] at h
    exact dI_seq U.K (sE a h C U tk)
  | .var _, c, c', X, W, e, target, tg, h, ht, hg, C, U, tk => by simp [okI] at h
  | .con _, c, c', X, W, e, target, tg, h, ht, hg, C, U, tk => by simp [okI] at h
  | .glo _, c, c', X, W, e, target, tg, h, ht, hg, C, U, tk => by simp [okI] at h
  | .fnv _, c, c', X, W, e, target, tg, h, ht, hg, C, U, tk => by simp [okI] at h
  | .bin _ _ _, c, c', X, W, e, target, tg, h, ht, hg, C, U, tk => by simp [okI] at h
  | .neg _, c, c', X, W, e, target, tg, h, ht, hg, C, U, tk => by simp [okI] at h
  | .not _, c, c', X, W, e, target, tg, h, ht, hg, C, U, tk => by simp [okI] at h
  | .cmp _ _ _, c, c', X, W, e, target, tg, h, ht, hg, C, U, tk => by simp [okI] at h
  | .chain _ _ _ _ _, c, c', X, W, e, target, tg, h, ht, hg, C, U, tk => by simp [okI] at h
  | .and _ _, c, c', X, W, e, target, tg, h, ht, hg, C, U, tk => by simp [okI] at h
  | .or _ _, c, c', X, W, e, target, tg, h, ht, hg, C, U, tk => by simp [okI] at h
  | .ite _ _ _, c, c', X, W, e, target, tg, h, ht, hg, C, U, tk => by simp [okI] at h
  | .tup _, c, c', X, W, e, target, tg, h, ht, hg, C, U, tk => by simp [okI] at h
  | .lst _, c, c', X, W, e, target, tg, h, ht, hg, C, U, tk => by simp [okI] at h
  | .idx _ _, c, c', X, W, e, target, tg, h, ht, hg, C, U, tk => by simp [okI] at h
  | .slc _ _ _, c, c', X, W, e, target, tg, h, ht, hg, C, U, tk => by simp [okI] at h
  | .rev _, c, c', X, W, e, target, tg, h, ht, hg, C, U, tk => by simp [okI] at h
  | .fld _ _, c, c', X, W, e, target, tg, h, ht, hg, C, U, tk => by simp [okI] at h
  | .call _ _, c, c', X, W, e, target, tg, h, ht, hg, C, U, tk => by simp [okI] at h
  | .callv _ _, c, c', X, W, e, target, tg, h, ht, hg, C, U, tk => by simp [okI] at h
  | .make _ _, c, c', X, W, e, target, tg, h, ht, hg, C, U, tk => by simp [okI] at h
  | .meth _ _ _, c, c', X, W, e, target, tg, h, ht, hg, C, U, tk => by simp [okI] at h
  | .bi _ _, c, c', X, W, e, target, tg, h, ht, hg, C, U, tk => by simp [okI] at h
  | .isi _ _, c, c', X, W, e, target, tg, h, ht, hg, C, U, tk => by simp [okI] at h
  | .comp _ _ _ _, c, c', X, W, e, target, tg, h, ht, hg, C, U, tk => by simp [okI] at h
  | .olen _, c, c', X, W, e, target, tg, h, ht, hg, C, U, tk => by simp [okI] at h
  | .oix _ _, c, c', X, W, e, target, tg, h, ht, hg, C, U, tk => by simp [okI] at h
  | .xfld _ _, c, c', X, W, e, target, tg, h, ht, hg, C, U, tk => by simp [okI] at h
  | .ocmp _ _ _, c, c', X, W, e, target, tg, h, ht, hg, C, U, tk => by simp [okI] at h
  | .lenm _, c, c', X, W, e, target, tg, h, ht, hg, C, U, tk => by simp [okI] at h
  | .dic _ _, c, c', X, W, e, target, tg, h, ht, hg, C, U, tk => by simp [okI] at h
  | .tcmp _ _ _, c, c', X, W, e, target, tg, h, ht, hg, C, U, tk => by simp [okI] at h
termination_by t => (sizeOf t, 0)
end
end
end Dp
end SDp16
set_option maxHeartbeats 4000000
/-! Dp17: what statements do, over data. -/
noncomputable section SDp17
namespace Dp
open PySem PySem.Spec PyProof.Rows L2

/-- onward, over statements -/
structure NxS (O : Addr → Prop) (κ : List Addr) (L : List (Nat × Addr)) (H : Hp) (κ' : List Addr) (L' : List (Nat × Addr)) (H' : Hp) : Prop where
  pre : κ <+: κ'
  imm : ∀ a o, H a = some o → ¬ Mb O κ L a → H' a = some o
  oth : ∀ a, O a → H' a = H a
  new : ∀ a, a ∈ κ' ∨ a ∈ L'.map (·.2) → a ∈ κ ∨ a ∈ L.map (·.2) ∨ H a = none
section
variable {O : Addr → Prop} {κ κ' κ'' : List Addr} {L L' L'' : List (Nat × Addr)} {H H' H'' : Hp}
theorem NxS.refl : NxS O κ L H κ L H := ⟨List.prefix_rfl, fun _ _ e _ => e, fun _ _ => rfl, fun a h => h.imp id .inl⟩
theorem NxS.not (n : NxS O κ L H κ' L' H') {a : Addr} {o : HO} (e : H a = some o) (h : ¬ Mb O κ L a) : ¬ Mb O κ' L' a := by
  have key : a ∈ κ' ∨ a ∈ L'.map (·.2) → False := fun z => by
    rcases n.new a z with y | y | y
    · exact h (.inr (.inl y))
    · exact h (.inr (.inr y))
    · rw [y] at e; cases e
  rintro (z | z | z)
  · exact h (.inl z)
  · exact key (.inl z)
  · exact key (.inr z)
theorem NxS.le (n : NxS O κ L H κ' L' H') : Le (Dp.imm O κ L H) (Dp.imm O κ' L' H') := fun a o e => by
  obtain ⟨h, e⟩ := cut_some.mp e
  exact cut_some.mpr ⟨n.not e h, n.imm a o e h⟩
theorem NxS.trans (n : NxS O κ L H κ' L' H') (m : NxS O κ' L' H' κ'' L'' H'') : NxS O κ L H κ'' L'' H'' where
  pre := n.pre.trans m.pre
  imm := fun a o e h => m.imm a o (n.imm a o e h) (n.not e h)
  oth := fun a h => (m.oth a h).trans (n.oth a h)
  new := fun a h => by
    rcases m.new a h with z | z | z
    · exact n.new a (.inl z)
    · exact n.new a (.inr z)
    · cases q : H a with
      | none => exact .inr (.inr rfl)
      | some u =>
        by_cases hm : Mb O κ L a
        · rcases hm with y | y | y
          · rw [n.oth a y, q] at z; cases z
          · exact .inl y
          · exact .inr (.inl y)
        · rw [n.imm a u q hm] at z; cases z
theorem Nx.s (n : Nx O κ L H κ' H') : NxS O κ L H κ' L H' := ⟨n.pre, n.imm, n.oth, fun a h => by
  rcases h with h | h
  · by_cases hk : a ∈ κ
    · exact .inl hk
    · exact .inr (.inr (n.new a h hk))
  · exact .inr (.inl h)⟩
end

inductive WRunN (c : Ev → Sto → Res Bool) (b : Ev → Sto → Out) : Nat → Ev → Sto → Out → Prop where
  | done {ρ : Ev} {st st' : Sto} : c ρ st = .ok false st' → WRunN c b 0 ρ st (.nx ρ st')
  | step {n : Nat} {ρ ρ2 : Ev} {st st1 st2 : Sto} {r : Out} : c ρ st = .ok true st1 → b ρ st1 = .nx ρ2 st2 → WRunN c b n ρ2 st2 r → WRunN c b (n + 1) ρ st r
  | ret {ρ : Ev} {st st1 st2 : Sto} {d : D} : c ρ st = .ok true st1 → b ρ st1 = .ret d st2 → WRunN c b 0 ρ st (.ret d st2)
theorem WRun.nat {c : Ev → Sto → Res Bool} {b : Ev → Sto → Out} {ρ : Ev} {st : Sto} {r : Out} (h : WRun c b ρ st r) : ∃ n, WRunN c b n ρ st r := by
  induction h with
  | done e => exact ⟨0, .done e⟩
  | step e e2 _ ih => obtain ⟨n, ih⟩ := ih; exact ⟨n + 1, .step e e2 ih⟩
  | ret e e2 => exact ⟨0, .ret e e2⟩
section
variable (Γ : Glob) (W : WX)
def finS (O : Addr → Prop) (κ : List Addr) (L : List (Nat × Addr)) (H : Hp) (r : Out) (D : Ends) : Prop := match r with
  | .nx ρ' st' => ∀ κ' L' H' σ', NxS O κ L H κ' L' H' → Ok Γ O κ' L' H' st' → EnvR Γ O κ' L' H' σ' ρ' → D.nx σ' H'
  | .ret d st' => ∀ κ' L' H' v, NxS O κ L H κ' L' H' → Ok Γ O κ' L' H' st' → Rep Γ κ' (imm O κ' L' H') v d → D.rt v H'
  | .exc c fs ρ' st' => ∀ κ' L' H' σ' cls dd, NxS O κ L H κ' L' H' → Ok Γ O κ' L' H' st' → EnvR Γ O κ' L' H' σ' ρ' → XRep Γ κ' (imm O κ' L' H') cls dd c fs → W cls dd σ' H'
  | .stuck => False
def dS (f : Ev → Sto → Out) : TS := fun D σ H => ∃ O κ L ρ st, Ok Γ O κ L H st ∧ EnvR Γ O κ L H σ ρ ∧ finS Γ W O κ L H (f ρ st) D
end
section
variable {X : Cx} {Γ : Glob} {W : WX} {S : Stat} {P : Prog} {R : String → List D → Sto → Res D} {k : Nat} {c : SC}
variable {O : Addr → Prop} {κ κ' : List Addr} {L L' : List (Nat × Addr)} {H H' : Hp} {σ σ' : L2.St} {ρ ρ' : Ev} {st st' : Sto} {r : Out} {D D' : Ends}
theorem finS.step (n : NxS O κ L H κ' L' H') (h : finS Γ W O κ L H r D) : finS Γ W O κ' L' H' r D := by
  cases r with
  | nx ρ st => exact fun κ2 L2 H2 σ2 n2 o2 e2 => h κ2 L2 H2 σ2 (n.trans n2) o2 e2
  | ret d st => exact fun κ2 L2 H2 v n2 o2 e2 => h κ2 L2 H2 v (n.trans n2) o2 e2
  | exc c fs ρ st => exact fun κ2 L2 H2 σ2 cls dd n2 o2 e2 x => h κ2 L2 H2 σ2 cls dd (n.trans n2) o2 e2 x
  | stuck => exact h
theorem finS.bind {k : Ev → Sto → Out} (h : finS Γ W O κ L H (r.bind k) D) : finS Γ W O κ L H r { D with nx := dS Γ W k D } := by
  cases r with
  | nx ρ st => exact fun κ2 L2 H2 σ2 n2 o2 e2 => ⟨O, κ2, L2, ρ, st, o2, e2, finS.step n2 h⟩
  | ret d st => exact h
  | exc c fs ρ st => exact h
  | stuck => exact h
theorem finS.out {α : Type} {q : Res α} {k : α → Sto → Out} (e : EnvR Γ O κ L H σ ρ) (h : finS Γ W O κ L H (q.out ρ k) D) : fin Γ (fun c d H' => W c d σ H') O κ L H q fun a st' κ' H' => finS Γ W O κ' L H' (k a st') D := by
  cases q with
  | ok a st => exact fun κ2 H2 n2 o2 => finS.step n2.s h
  | exc c fs st => exact fun κ2 H2 cls dd n2 o2 x => h κ2 L H2 σ cls dd n2.s o2 (e.next n2) x
  | stuck => exact h
theorem dS_seq {f g : Ev → Sto → Out} (h : dS Γ W (fun ρ st => (f ρ st).bind g) D σ H) : tSeq (dS Γ W f) (dS Γ W g) D σ H := by
  obtain ⟨O, κ, L, ρ, st, o, e, h⟩ := h
  exact ⟨O, κ, L, ρ, st, o, e, h.bind⟩
theorem dS_nil (h : dS Γ W (fun ρ st => .nx ρ st) D σ H) : tNext D σ H := by
  obtain ⟨O, κ, L, ρ, st, o, e, h⟩ := h
  exact h κ L H σ .refl o e
/-- the outcome's state reached at once -/
theorem finS.here (h : finS Γ W O κ L H (.nx ρ st) D) (o : Ok Γ O κ L H st) (e : EnvR Γ O κ L H σ ρ) : D.nx σ H := h κ L H σ .refl o e

/-! ### stores of values -/
theorem dS_asg {t : Tm} {i : Nat} (h : dS Γ W (evS P R (.asg i t)) D σ H) : tAsg (dE Γ W (evE P R t)) (gName i) D σ H := by
  obtain ⟨O, κ, L, ρ, st, o, e, h⟩ := h
  rw [evS] at h
  exact ⟨O, κ, L, ρ, st, o, e, (h.out e).imp fun d st1 κ1 H1 n1 o1 q v r => q.here o1 ((e.next n1).put r i)⟩
theorem dS_asgT {t : Tm} {is : List Nat} (hK : X.K = Γ.K) (h : dS Γ W (evS P R (.asgT is t)) D σ H) : tAsg (dE Γ W (evE P R t)) (gOf X.K (.many is)) D σ H := by
  obtain ⟨O, κ, L, ρ, st, o, e, h⟩ := h
  rw [evS] at h
  refine ⟨O, κ, L, ρ, st, o, e, (h.out e).imp fun d st1 κ1 H1 n1 o1 q v r => ?_⟩
  cases hb : bindT (.many is) d ρ with
  | none => rw [hb] at q; exact q.elim
  | some ρ' =>
    rw [hb] at q
    exact g_of hK r hb (e.next n1) fun σ' e' _ _ => q.here o1 e'
theorem dS_par2 {ts : List Tm} {i j : Nat} (h : dS Γ W (evS P R (.par [i, j] ts)) D σ H) : tPar i j (dA Γ W (evL P R ts)) D σ H := by
  obtain ⟨O, κ, L, ρ, st, o, e, h⟩ := h
  rw [evS] at h
  refine ⟨O, κ, L, ρ, st, o, e, (h.out e).imp fun ds st1 κ1 H1 n1 o1 q vs r => ?_⟩
  match ds, r, q with
  | [d1, d2], r, q =>
    obtain ⟨v, w, rfl, r1, r2⟩ := reps2 r
    exact ⟨v, w, rfl, q.here o1 (((e.next n1).put r1 i).put r2 j)⟩
  | [], _, q => exact q.elim
  | [_], _, q => exact q.elim
  | _ :: _ :: _ :: _, _, q => exact q.elim
theorem dS_par3 {ts : List Tm} {i j l : Nat} (h : dS Γ W (evS P R (.par [i, j, l] ts)) D σ H) : tPar3 i j l (dA Γ W (evL P R ts)) D σ H := by
  obtain ⟨O, κ, L, ρ, st, o, e, h⟩ := h
  rw [evS] at h
  refine ⟨O, κ, L, ρ, st, o, e, (h.out e).imp fun ds st1 κ1 H1 n1 o1 q vs r => ?_⟩
  match ds, r, q with
  | [d1, d2, d3], r, q =>
    cases r with
    | cons r1 r =>
      obtain ⟨v, w, rfl, r2, r3⟩ := reps2 r
      exact ⟨_, v, w, rfl, q.here o1 ((((e.next n1).put r1 i).put r2 j).put r3 l)⟩
  | [], _, q => exact q.elim
  | [_], _, q => exact q.elim
  | [_, _], _, q => exact q.elim
  | _ :: _ :: _ :: _ :: _, _, q => exact q.elim
theorem dS_ret {t : Tm} (h : dS Γ W (evS P R (.ret t)) D σ H) : tRet (dE Γ W (evE P R t)) D σ H := by
  obtain ⟨O, κ, L, ρ, st, o, e, h⟩ := h
  rw [evS] at h
  exact ⟨O, κ, L, ρ, st, o, e, (h.out e).imp fun d st1 κ1 H1 n1 o1 q v r => q κ1 L H1 v .refl o1 r⟩
theorem dS_retN (h : dS Γ W (evS P R .retN) D σ H) : tRetN D σ H := by
  obtain ⟨O, κ, L, ρ, st, o, e, h⟩ := h
  rw [evS] at h
  exact h κ L H _ .refl o .non
theorem dS_ex {t : Tm} (h : dS Γ W (evS P R (.ex t)) D σ H) : tDrop (dE Γ W (evE P R t)) D σ H := by
  obtain ⟨O, κ, L, ρ, st, o, e, h⟩ := h
  rw [evS] at h
  exact ⟨O, κ, L, ρ, st, o, e, (h.out e).imp fun d st1 κ1 H1 n1 o1 q v r => q.here o1 (e.next n1)⟩
theorem dS_pass (h : dS Γ W (evS P R .pass) D σ H) : tNext D σ H := by
  obtain ⟨O, κ, L, ρ, st, o, e, h⟩ := h
  rw [evS] at h
  exact h.here o e
theorem dS_if {t : Tm} {a b : List Sm} (h : dS Γ W (evS P R (.cond t a b)) D σ H) : tIfS (dT Γ W (evT P R t)) (dS Γ W (evSs P R a)) (dS Γ W (evSs P R b)) D σ H := by
  obtain ⟨O, κ, L, ρ, st, o, e, h⟩ := h
  rw [evS] at h
  refine ⟨O, κ, L, ρ, st, o, e, (h.out e).imp fun b st1 κ1 H1 n1 o1 q => ?_⟩
  cases b with
  | true => exact ⟨O, κ1, L, ρ, st1, o1, e.next n1, q⟩
  | false => exact ⟨O, κ1, L, ρ, st1, o1, e.next n1, q⟩
/-! ### loops -/
theorem dS_for {tg : Tg} {it : Tm} {b : List Sm} (hK : X.K = Γ.K) (h : dS Γ W (evS P R (.loop tg it b)) D σ H) : tFor (dI Γ W (evI P R it)) (gOf X.K tg) (dS Γ W (evSs P R b)) D σ H := by
  obtain ⟨O, κ, L, ρ, st, o, e, h⟩ := h
  rw [evS] at h
  refine ⟨O, κ, L, ρ, st, o, e, (h.out e).imp fun ds st1 κ1 H1 n1 o1 q J wk hlen => ?_⟩
  have e1 := e.next n1
  generalize hf : (fun x ρ st => match bindT tg x ρ with
    | some ρ' => evSs P R b ρ' st
    | none => Out.stuck) = f at q
  let Pv : Nat → L2.St → Hp → Prop := fun n σ' H' => ∃ κ' L' ρ' s', NxS O κ1 L H1 κ' L' H' ∧ Ok Γ O κ' L' H' s' ∧ EnvR Γ O κ' L' H' σ' ρ' ∧ finS Γ W O κ' L' H' (forR f (ds.drop n) ρ' s') D
  refine ⟨fun n m σ' H' => m = ds.length - n ∧ n ≤ ds.length ∧ Pv n σ' H', ⟨ds.length, by simp, Nat.zero_le _, κ1, L, ρ, st1, .refl, o1, e1, by simpa using q⟩, ?_⟩
  rintro n m σ' H' ⟨rfl, hn, κ', L', ρ', s', nx, ok', e', q'⟩
  have leI : Le (imm O κ1 L H1) H' := nx.le.trans (cut_le _ _)
  by_cases hlt : n < ds.length
  · refine .inr ⟨wk.go n H' leI hlt, Pv (n + 1), fun σ2 H2 p => ⟨ds.length - (n + 1), by omega, rfl, hlt, p⟩, fun xv H2 hy => ?_⟩
    obtain ⟨d, hd⟩ : ∃ d, ds[n]? = some d := ⟨ds[n], by simp [hlt]⟩
    rw [List.drop_eq_getElem_cons hlt] at q'
    have hdn : ds[n] = d := by rw [List.getElem?_eq_getElem hlt] at hd; exact Option.some.inj hd
    rw [hdn] at q'
    have item : Ok Γ O κ' L' H2 s' ∧ Nx O κ' L' H' κ' H2 ∧ Rep Γ κ' (imm O κ' L' H2) xv d := by
      rcases wk.yld n H' xv H2 d leI hd hy with ⟨e2, r⟩ | ⟨T, ws, es, e2, hT, e3, e4, r⟩
      · subst e2
        exact ⟨ok', .refl, r.mono nx.pre nx.le⟩
      · subst e2 e3 e4
        obtain ⟨n3, o3, m3⟩ := ok'.laid (o := .tup ws) hT
        exact ⟨o3, n3, .tup (.of (cut_some.mpr ⟨m3, upd_same⟩)) ((r.mono nx.pre nx.le).mono n3.pre n3.le)⟩
    obtain ⟨ok2, n2, r2⟩ := item
    have q2 : finS Γ W O κ' L' H2 ((f d ρ' s').bind fun ρ2 s2 => forR f (ds.drop (n + 1)) ρ2 s2) D := finS.step n2.s q'
    rw [← hf] at q2
    dsimp only at q2
    rw [hf] at q2
    cases hbd : bindT tg d ρ' with
    | none => rw [hbd] at q2; exact q2.elim
    | some ρ2 =>
      rw [hbd] at q2
      refine g_of hK r2 hbd (e'.next n2) fun σ2 e3 _ _ => ⟨O, κ', L', ρ2, s', ok2, e3, ?_⟩
      dsimp only at q2
      have q3 := finS.bind q2
      cases hr : evSs P R b ρ2 s' with
      | nx ρ3 s3 =>
        rw [hr] at q3
        intro κ3 L3 H3 σ3 n3 o3 e4
        refine ⟨κ3, L3, ρ3, s3, (nx.trans n2.s).trans n3, o3, e4, ?_⟩
        rw [hr] at q2
        exact finS.step n3 q2
      | ret d s3 => rw [hr] at q3; exact q3
      | exc u v w x => rw [hr] at q3; exact q3
      | stuck => rw [hr] at q3; exact q3
  · have en : n = ds.length := by omega
    subst en
    rw [List.drop_length] at q'
    unfold forR at q'
    exact .inl ⟨wk.stop H' leI, q'.here ok' e'⟩
theorem dS_while {t : Tm} {b : List Sm} (h : dS Γ W (evS P R (.whil t b)) D σ H) : tWhile (dT Γ W (evT P R t)) (dS Γ W (evSs P R b)) D σ H := by
  obtain ⟨O, κ, L, ρ, st, o, e, h⟩ := h
  rw [evS] at h
  have ns : whileR (fun ρ st => evT P R t ρ st) (fun ρ st => evSs P R b ρ st) ρ st ≠ .stuck := fun z => by rw [z] at h; exact h
  obtain ⟨n0, w0⟩ := (whileR_run ns).nat
  generalize whileR (fun ρ st => evT P R t ρ st) (fun ρ st => evSs P R b ρ st) ρ st = res at h w0
  refine ⟨fun n σ' H' => ∃ κ' L' ρ' s', NxS O κ L H κ' L' H' ∧ Ok Γ O κ' L' H' s' ∧ EnvR Γ O κ' L' H' σ' ρ' ∧ WRunN (fun ρ st => evT P R t ρ st) (fun ρ st => evSs P R b ρ st) n ρ' s' res, ⟨n0, κ, L, ρ, st, .refl, o, e, w0⟩, ?_⟩
  rintro n σ' H' ⟨κ', L', ρ', s', nx, ok', e', w⟩
  refine ⟨O, κ', L', ρ', s', ok', e', ?_⟩
  cases w with
  | done ec =>
    rw [ec]
    intro κ1 H1 n1 o1
    simp only [Bool.false_eq_true, if_false]
    exact h κ1 L' H1 σ' (nx.trans n1.s) o1 (e'.next n1)
  | @step n _ ρ2 _ s1 s2 _ ec eb w2 =>
    rw [ec]
    intro κ1 H1 n1 o1
    simp only [if_true]
    refine ⟨fun σ2 H2 => ∃ κ' L' ρ' s', NxS O κ L H κ' L' H2 ∧ Ok Γ O κ' L' H2 s' ∧ EnvR Γ O κ' L' H2 σ2 ρ' ∧ WRunN (fun ρ st => evT P R t ρ st) (fun ρ st => evSs P R b ρ st) n ρ' s' res, fun σ2 H2 p => ⟨n, Nat.lt_succ_self _, p⟩, O, κ1, L', ρ', s1, o1, e'.next n1, ?_⟩
    rw [eb]
    intro κ3 L3 H3 σ3 n3 o3 e3
    exact ⟨κ3, L3, ρ2, s2, (nx.trans n1.s).trans n3, o3, e3, w2⟩
  | @ret _ _ s1 s2 d ec eb =>
    rw [ec]
    intro κ1 H1 n1 o1
    simp only [if_true]
    refine ⟨fun _ _ => False, fun _ _ z => z.elim, O, κ1, L', ρ', s1, o1, e'.next n1, ?_⟩
    rw [eb]
    intro κ3 L3 H3 v n3 o3 r3
    exact h κ3 L3 H3 v ((nx.trans n1.s).trans n3) o3 r3
end
end Dp
end SDp17
set_option maxHeartbeats 4000000
/-! Dp18: stores into lists. -/
noncomputable section SDp18
namespace Dp
open PySem PySem.Spec PyProof.Rows L2

section
variable {X : Cx} {Γ : Glob} {W : WX} {S : Stat} {P : Prog} {R : String → List D → Sto → Res D} {k : Nat} {c : SC}
variable {O : Addr → Prop} {κ κ' : List Addr} {L L' : List (Nat × Addr)} {H H' : Hp} {σ σ' : L2.St} {ρ ρ' : Ev} {st st' : Sto} {r : Out} {Z Z' : Ends} {a : Addr} {o : HO} {i : Nat}
theorem imm_upd (h : Mb O κ L a) : imm O κ L (upd H a o) = imm O κ L H := by
  funext b
  unfold imm cut
  by_cases z : b = a
  · subst z; rw [if_pos h, if_pos h]
  · rw [upd_ne z]
theorem Ok.notO (h : Ok Γ O κ L H st) (m : a ∈ κ ∨ a ∈ L.map (·.2)) : ¬ O a := h.ap a (List.mem_append.mpr m)
theorem NxS.upd (h : Ok Γ O κ L H st) (m : a ∈ κ ∨ a ∈ L.map (·.2)) : NxS O κ L H κ L (upd H a o) := by
  have nO := h.notO m
  refine ⟨List.prefix_rfl, fun b u e n => ?_, fun b hb => ?_, fun b hb => hb.imp id .inl⟩
  · rw [upd_ne (fun z => n (by subst z; exact .inr m))]; exact e
  · rw [upd_ne (fun z => nO (by subst z; exact hb))]
theorem Ok.setOwn (h : Ok Γ O κ L H st) (m : a ∈ L.map (·.2)) : Ok Γ O κ L (upd H a o) st := by
  have hMb : Mb O κ L a := .inr (.inr m)
  have nO := h.notO (.inr m)
  have nk : a ∉ κ := fun z => (List.nodup_append.mp h.nd).2.2 a z a m rfl
  refine ⟨h.nd, h.ap, fun b hb => ?_, h.len, fun n b s h1 h2 => ?_, fun p hp => ?_⟩
  · rw [upd_ne (fun z => nO (by subst z; exact hb))]; exact h.oth b hb
  · rw [imm_upd hMb]
    exact (h.st n b s h1 h2).mono List.prefix_rfl (fun _ _ e => e) (upd_ne (fun z => nk (by subst z; exact List.mem_iff_getElem?.mpr ⟨n, h1⟩)))
  · by_cases z : p.2 = a
    · exact ⟨o, by rw [z]; exact upd_same⟩
    · rw [upd_ne z]; exact h.own p hp
theorem Ok.setSt {n : Nat} {so : SO} (h : Ok Γ O κ L H st) (hn : κ[n]? = some a) (hs : SRep Γ κ (imm O κ L H) (upd H a o) a so) : Ok Γ O κ L (upd H a o) (st.set n so) := by
  have m : a ∈ κ := List.mem_iff_getElem?.mpr ⟨n, hn⟩
  have hMb : Mb O κ L a := .inr (.inl m)
  have nO := h.notO (.inl m)
  have nL : a ∉ L.map (·.2) := fun z => (List.nodup_append.mp h.nd).2.2 a m a z rfl
  refine ⟨h.nd, h.ap, fun b hb => ?_, by rw [List.length_set]; exact h.len, fun j b s h1 h2 => ?_, fun p hp => ?_⟩
  · rw [upd_ne (fun z => nO (by subst z; exact hb))]; exact h.oth b hb
  · rw [imm_upd hMb]
    by_cases hj : n = j
    · subst hj
      rw [hn] at h1; cases h1
      have hl : n < st.length := by rw [← h.len]; exact (List.getElem?_eq_some_iff.mp hn).1
      rw [List.getElem?_set_self hl] at h2
      cases h2
      exact hs
    · rw [List.getElem?_set_ne hj] at h2
      have hne : b ≠ a := fun z => by
        subst z
        have nd := (List.nodup_append.mp h.nd).1
        obtain ⟨l1, e1⟩ := List.getElem?_eq_some_iff.mp hn
        obtain ⟨l2, e2⟩ := List.getElem?_eq_some_iff.mp h1
        exact hj ((List.getElem_inj nd).mp (e1.trans e2.symm))
      exact (h.st j b s h1 h2).mono List.prefix_rfl (fun _ _ e => e) (upd_ne hne)
  · rw [upd_ne (fun z => nL (by rw [← z]; exact List.mem_map.mpr ⟨p, hp, rfl⟩))]; exact h.own p hp
theorem own_eq (lk : (L.map (·.1)).Nodup) {x y : Addr} (h1 : (i, x) ∈ L) (h2 : (i, y) ∈ L) : x = y := by
  induction L with
  | nil => cases h1
  | cons p L ih =>
    rw [List.map_cons, List.nodup_cons] at lk
    rcases List.mem_cons.mp h1 with z | z <;> rcases List.mem_cons.mp h2 with w | w
    · rw [← z] at w; cases w; rfl
    · exact absurd (List.mem_map.mpr ⟨_, w, by rw [← z]⟩) lk.1
    · exact absurd (List.mem_map.mpr ⟨_, z, by rw [← w]⟩) lk.1
    · exact ih lk.2 z w
theorem own_ix (nd : (L.map (·.2)).Nodup) {x : Addr} {j : Nat} (h1 : (i, x) ∈ L) (h2 : (j, x) ∈ L) : i = j := by
  induction L with
  | nil => cases h1
  | cons p L ih =>
    rw [List.map_cons, List.nodup_cons] at nd
    rcases List.mem_cons.mp h1 with z | z <;> rcases List.mem_cons.mp h2 with w | w
    · rw [← z] at w; cases w; rfl
    · exact absurd (List.mem_map.mpr ⟨_, w, by rw [← z]⟩) nd.1
    · exact absurd (List.mem_map.mpr ⟨_, z, by rw [← w]⟩) nd.1
    · exact ih nd.2 z w
theorem Ok.ndL (h : Ok Γ O κ L H st) : (L.map (·.2)).Nodup := (List.nodup_append.mp h.nd).2.1
theorem EnvR.setOwn {so : SO} (e : EnvR Γ O κ L H σ ρ) (h : Ok Γ O κ L H st) (m : (i, a) ∈ L) (hσ : σ[i]? = some (some (.ref a))) (hs : SRep Γ κ (imm O κ L H) (upd H a o) a so) : EnvR Γ O κ L (upd H a o) σ (ρ.set i (.own so)) := by
  have hMb : Mb O κ L a := .inr (.inr (List.mem_map.mpr ⟨_, m, rfl⟩))
  refine ⟨by rw [List.length_set]; exact e.len, fun j s hj => ?_, e.lk⟩
  by_cases z : i = j
  · subst z
    have hl : i < (ρ.set i (.own so)).length := (List.getElem?_eq_some_iff.mp hj).1
    rw [List.length_set] at hl
    rw [List.getElem?_set_self hl] at hj
    cases hj
    exact ⟨a, m, hσ, by rw [imm_upd hMb]; exact hs⟩
  · rw [List.getElem?_set_ne z] at hj
    have q := e.sl j s hj
    cases s with
    | no => trivial
    | val d => obtain ⟨w, hw, r⟩ := q; exact ⟨w, hw, by rw [imm_upd hMb]; exact r⟩
    | own so2 =>
      obtain ⟨b, m2, hw, r⟩ := q
      refine ⟨b, m2, hw, ?_⟩
      rw [imm_upd hMb]
      exact r.mono List.prefix_rfl (fun _ _ e => e) (upd_ne fun y => z (own_ix h.ndL m (by rw [← y]; exact m2)))
    | exn _ _ => exact SlX.mono List.prefix_rfl (by rw [imm_upd hMb]; exact Le.refl) rfl q
theorem EnvR.setSt (e : EnvR Γ O κ L H σ ρ) (h : Ok Γ O κ L H st) (m : a ∈ κ) : EnvR Γ O κ L (upd H a o) σ ρ := by
  have hMb : Mb O κ L a := .inr (.inl m)
  have nL : a ∉ L.map (·.2) := fun z => (List.nodup_append.mp h.nd).2.2 a m a z rfl
  refine ⟨e.len, fun j s hj => ?_, e.lk⟩
  have q := e.sl j s hj
  cases s with
  | no => trivial
  | val d => obtain ⟨w, hw, r⟩ := q; exact ⟨w, hw, by rw [imm_upd hMb]; exact r⟩
  | own so2 =>
    obtain ⟨b, m2, hw, r⟩ := q
    refine ⟨b, m2, hw, ?_⟩
    rw [imm_upd hMb]
    exact r.mono List.prefix_rfl (fun _ _ e => e) (upd_ne fun y => nL (by rw [← y]; exact List.mem_map.mpr ⟨_, m2, rfl⟩))
  | exn _ _ => exact SlX.mono List.prefix_rfl (by rw [imm_upd hMb]; exact Le.refl) rfl q

/-! ### the list of a slot -/
theorem listAt_rep {xs : List D} (h : listAt ρ st i = some xs) (ok : Ok Γ O κ L H st) (e : EnvR Γ O κ L H σ ρ) : ∃ a vs, σ[i]? = some (some (.ref a)) ∧ H a = some (.lst vs) ∧ Reps Γ κ (imm O κ L H) vs xs ∧
    ∀ ys ws Z, Reps Γ κ (imm O κ L H) ws ys → finS Γ W O κ L H (putL ρ st i ys) Z → Z.nx σ (upd H a (.lst ws)) := by
  unfold listAt at h
  split at h
  · rename_i zs hρ
    cases h
    obtain ⟨a, m, hσ, vs, hH, rs⟩ := e.sl i _ hρ
    have ma : a ∈ L.map (·.2) := List.mem_map.mpr ⟨_, m, rfl⟩
    refine ⟨a, vs, hσ, hH, rs, fun ys ws Z rw' q => ?_⟩
    unfold putL at q
    rw [hρ] at q
    exact q κ L _ σ (.upd ok (.inr ma)) (ok.setOwn ma) (e.setOwn ok m hσ ⟨ws, upd_same, rw'⟩)
  · rename_i n hρ
    split at h
    · rename_i zs hn
      cases h
      obtain ⟨v, hσ, r⟩ := e.sl i _ hρ
      obtain ⟨a, rfl, ha⟩ := r.ref_inv
      obtain ⟨vs, hH, rs⟩ := ok.st n a _ ha hn
      have ma : a ∈ κ := List.mem_iff_getElem?.mpr ⟨n, ha⟩
      refine ⟨a, vs, hσ, hH, rs, fun ys ws Z rw' q => ?_⟩
      unfold putL at q
      rw [hρ] at q
      exact q κ L _ σ (.upd ok (.inl ma)) (ok.setSt ha ⟨ws, upd_same, rw'⟩) (e.setSt ok ma)
    · cases h
  · cases h
theorem dS_app {t : Tm} (h : dS Γ W (evS P R (.app i t)) Z σ H) : tDrop (tBM X.K "list" rAppend (tVar i) (tCons (dE Γ W (evE P R t)) tNil)) Z σ H := by
  obtain ⟨O, κ, L, ρ, st, o, e, h⟩ := h
  rw [evS] at h
  split at h
  · rename_i xs0 h0
    obtain ⟨a, vs0, hσ, hH0, _, _⟩ := listAt_rep (W := W) h0 o e
    refine ⟨_, hσ, .inl ⟨rfl, vs0, .of hH0⟩, O, κ, L, ρ, st, o, e, (h.out e).imp fun d st1 κ1 H1 n1 o1 q v r => ?_⟩
    split at q
    · rename_i xs h1
      split at q
      · rename_i hl
        obtain ⟨a', vs, hσ', hH, rs, put⟩ := listAt_rep (W := W) h1 o1 (e.next n1)
        rw [hσ] at hσ'; cases hσ'
        have hle := lenOk_le hl
        exact ⟨a, vs, v, rfl, rfl, hH, by rw [rs.length]; omega, put _ _ _ (rs.append (.cons r .nil)) q⟩
      · exact q.elim
    · exact q.elim
  · exact h.elim
theorem dS_ext {t : Tm} (h : dS Γ W (evS P R (.ext i t)) Z σ H) : tDrop (tBM X.K "list" rExtend (tVar i) (tCons (dE Γ W (evE P R t)) tNil)) Z σ H := by
  obtain ⟨O, κ, L, ρ, st, o, e, h⟩ := h
  rw [evS] at h
  split at h
  · rename_i xs0 h0
    obtain ⟨a, vs0, hσ, hH0, _, _⟩ := listAt_rep (W := W) h0 o e
    refine ⟨_, hσ, .inl ⟨rfl, vs0, .of hH0⟩, O, κ, L, ρ, st, o, e, (h.out e).imp fun d st1 κ1 H1 n1 o1 q v r => ?_⟩
    split at q
    · rename_i xs ys h1
      split at q
      · rename_i hl
        obtain ⟨a', vs, hσ', hH, rs, put⟩ := listAt_rep (W := W) h1 o1 (e.next n1)
        rw [hσ] at hσ'; cases hσ'
        obtain ⟨b, zs, rfl, hb, rz⟩ := r.lst_inv
        have hle := lenOk_le hl
        exact ⟨a, b, vs, zs, rfl, rfl, hH, cut_le _ _ _ _ hb, by rw [rs.length, rz.length]; exact hle, put _ _ _ (rs.append rz) q⟩
      · exact q.elim
    · exact q.elim
  · exact h.elim
theorem dS_seti {t u : Tm} (h : dS Γ W (evS P R (.seti i t u)) Z σ H) : tAsg (dE Γ W (evE P R u)) (gSub (tVar i) (dE Γ W (evE P R t)) rSetL) Z σ H := by
  obtain ⟨O, κ, L, ρ, st, o, e, h⟩ := h
  rw [evS] at h
  refine ⟨O, κ, L, ρ, st, o, e, (h.out e).imp fun d st1 κ1 H1 n1 o1 q v r => ?_⟩
  have e1 := e.next n1
  split at q
  · rename_i xs0 h0
    obtain ⟨a, vs0, hσ, hH0, _, _⟩ := listAt_rep (W := W) h0 o1 e1
    refine ⟨_, hσ, O, κ1, L, ρ, st1, o1, e1, (q.out e1).imp fun kd st2 κ2 H2 n2 o2 q2 w rw' => ?_⟩
    split at q2
    · rename_i kk xs h1
      obtain ⟨a', vs, hσ', hH, rs, put⟩ := listAt_rep (W := W) h1 o2 (e1.next n2)
      rw [hσ] at hσ'; cases hσ'
      cases rw'
      unfold setD at q2
      cases hj : ixN xs.length kk with
      | none => rw [hj] at q2; exact q2.elim
      | some j =>
        rw [hj] at q2
        exact ⟨a, vs, kk, j, rfl, rfl, hH, by rw [rs.length]; exact hj, put _ _ _ (rs.set (r.mono n2.pre n2.le) j) q2⟩
    · exact q2.elim
  · exact q.elim
theorem dS_augA {t : Tm} (h : dS Γ W (evS P R (.aug i .add t)) Z σ H) : tAug i (dE Γ W (evE P R t)) (ipI fun i j => i + j) Z σ H := by
  obtain ⟨O, κ, L, ρ, st, o, e, h⟩ := h
  rw [evS] at h
  split at h
  · rename_i x hx
    obtain ⟨v, hσ, r⟩ := e.sl i _ (slotD_some hx)
    cases r
    refine ⟨_, hσ, O, κ, L, ρ, st, o, e, (h.out e).imp fun d st1 κ1 H1 n1 o1 q v r => ?_⟩
    cases d <;> try exact q.elim
    case int z =>
      cases r
      exact ⟨x, z, rfl, rfl, q.here o1 ((e.next n1).put (.int _) i)⟩
  · exact h.elim
theorem dS_augS {t : Tm} (h : dS Γ W (evS P R (.aug i .sub t)) Z σ H) : tAug i (dE Γ W (evE P R t)) (ipI fun i j => i - j) Z σ H := by
  obtain ⟨O, κ, L, ρ, st, o, e, h⟩ := h
  rw [evS] at h
  split at h
  · rename_i x hx
    obtain ⟨v, hσ, r⟩ := e.sl i _ (slotD_some hx)
    cases r
    refine ⟨_, hσ, O, κ, L, ρ, st, o, e, (h.out e).imp fun d st1 κ1 H1 n1 o1 q v r => ?_⟩
    cases d <;> try exact q.elim
    case int z =>
      cases r
      exact ⟨x, z, rfl, rfl, q.here o1 ((e.next n1).put (.int _) i)⟩
  · exact h.elim

/-! ### own, frozen, shared -/
def drop (i : Nat) (L : List (Nat × Addr)) : List (Nat × Addr) := L.filter fun p => p.1 != i
theorem mem_drop {p : Nat × Addr} : p ∈ drop i L ↔ p ∈ L ∧ p.1 ≠ i := by simp [drop]
theorem drop_sub : ((drop i L).map (·.2)).Sublist (L.map (·.2)) := (List.filter_sublist).map _
theorem drop_sub1 : ((drop i L).map (·.1)).Sublist (L.map (·.1)) := (List.filter_sublist).map _
theorem drop_notin : i ∉ (drop i L).map (·.1) := fun h => by
  obtain ⟨p, hp, e⟩ := List.mem_map.mp h
  exact (mem_drop.mp hp).2 e
theorem le_drop : Le (imm O κ L H) (imm O κ (drop i L) H) := fun a u e => by
  obtain ⟨h, e⟩ := cut_some.mp e
  refine cut_some.mpr ⟨fun z => h ?_, e⟩
  rcases z with z | z | z
  · exact .inl z
  · exact .inr (.inl z)
  · exact .inr (.inr (drop_sub.subset z))
theorem Ok.drop (h : Ok Γ O κ L H st) : Ok Γ O κ (drop i L) H st := by
  have nd := List.nodup_append.mp h.nd
  exact ⟨List.nodup_append.mpr ⟨nd.1, nd.2.1.sublist drop_sub, fun x hx y hy => nd.2.2 x hx y (drop_sub.subset hy)⟩, fun x hx => h.ap x ((List.mem_append.mp hx).elim (List.mem_append_left _) fun z => List.mem_append_right _ (drop_sub.subset z)), h.oth, h.len,
    fun n x s h1 h2 => (h.st n x s h1 h2).mono List.prefix_rfl le_drop rfl, fun p hp => h.own p (mem_drop.mp hp).1⟩
theorem NxS.drop : NxS O κ L H κ (drop i L) H := ⟨List.prefix_rfl, fun _ _ e _ => e, fun _ _ => rfl, fun x hx => hx.elim .inl fun z => .inr (.inl (drop_sub.subset z))⟩
/-- another slot's view -/
theorem SlR.drop {j : Nat} (hj : j ≠ i) : ∀ {s : Sl}, SlR Γ O κ L H σ j s → SlR Γ O κ (drop i L) H σ j s
  | .no, _ => trivial
  | .val d, ⟨v, e, r⟩ => ⟨v, e, r.mono List.prefix_rfl le_drop⟩
  | .own so, ⟨a, m, e, r⟩ => ⟨a, mem_drop.mpr ⟨m, hj⟩, e, r.mono List.prefix_rfl le_drop rfl⟩
  | .exn _ _, h => SlX.mono List.prefix_rfl le_drop rfl h
theorem ownL_some {xs : List D} (h : ownL ρ i = some xs) : ρ[i]? = some (.own (.lst xs)) := by
  unfold ownL at h
  split at h
  · rename_i ys e; cases h; exact e
  · cases h
theorem dS_frz {g : Ev → Sto → Out} (h : dS Γ W (fun ρ st => (evS P R (.frz i) ρ st).bind g) Z σ H) : dS Γ W g Z σ H := by
  obtain ⟨O, κ, L, ρ, st, o, e, h⟩ := h
  dsimp only at h
  rw [evS] at h
  cases h0 : ownL ρ i with
  | none => rw [h0] at h; exact h.elim
  | some xs =>
    rw [h0] at h
    have hρ := ownL_some h0
    obtain ⟨a, m, hσ, vs, hH, rs⟩ := e.sl i _ hρ
    have nd := List.nodup_append.mp o.nd
    refine ⟨O, κ, Dp.drop i L, ρ.set i (.val (.lst xs)), st, o.drop, ⟨by rw [List.length_set]; exact e.len, fun j s hj => ?_, e.lk.sublist drop_sub1⟩, finS.step .drop h⟩
    by_cases z : i = j
    · subst z
      rw [List.getElem?_set_self (List.getElem?_eq_some_iff.mp hρ).1] at hj
      cases hj
      refine ⟨_, hσ, .lst (cut_some.mpr ⟨?_, hH⟩) (rs.mono List.prefix_rfl le_drop)⟩
      have ma : a ∈ L.map (·.2) := List.mem_map.mpr ⟨_, m, rfl⟩
      rintro (y | y | y)
      · exact o.notO (.inr ma) y
      · exact nd.2.2 a y a ma rfl
      · obtain ⟨p, hp, ep⟩ := List.mem_map.mp y
        obtain ⟨hp1, hp2⟩ := mem_drop.mp hp
        obtain ⟨p1, p2⟩ := p
        dsimp only at ep
        subst ep
        exact hp2 (own_ix nd.2.1 m hp1).symm
    · rw [List.getElem?_set_ne z] at hj
      exact (e.sl j s hj).drop (fun y => z y.symm)
theorem dS_shr {g : Ev → Sto → Out} (h : dS Γ W (fun ρ st => (evS P R (.shr i) ρ st).bind g) Z σ H) : dS Γ W g Z σ H := by
  obtain ⟨O, κ, L, ρ, st, o, e, h⟩ := h
  dsimp only at h
  rw [evS] at h
  cases h0 : ownL ρ i with
  | none => rw [h0] at h; exact h.elim
  | some xs =>
    rw [h0] at h
    have hρ := ownL_some h0
    obtain ⟨a, m, hσ, vs, hH, rs⟩ := e.sl i _ hρ
    have nd := List.nodup_append.mp o.nd
    have ma : a ∈ L.map (·.2) := List.mem_map.mpr ⟨_, m, rfl⟩
    have nk : a ∉ κ := fun z => nd.2.2 a z a ma rfl
    have ndr : a ∉ (Dp.drop i L).map (·.2) := fun y => by
      obtain ⟨p, hp, ep⟩ := List.mem_map.mp y
      obtain ⟨hp1, hp2⟩ := mem_drop.mp hp
      obtain ⟨p1, p2⟩ := p
      dsimp only at ep
      subst ep
      exact hp2 (own_ix nd.2.1 m hp1).symm
    have le : Le (imm O κ L H) (imm O (κ ++ [a]) (Dp.drop i L) H) := fun b u eb => by
      obtain ⟨h1, h2⟩ := cut_some.mp eb
      refine cut_some.mpr ⟨fun z => h1 ?_, h2⟩
      rcases z with z | z | z
      · exact .inl z
      · rcases List.mem_append.mp z with z | z
        · exact .inr (.inl z)
        · rw [List.mem_singleton.mp z]; exact .inr (.inr ma)
      · exact .inr (.inr (drop_sub.subset z))
    have pre : κ <+: κ ++ [a] := List.prefix_append _ _
    have nx : NxS O κ L H (κ ++ [a]) (Dp.drop i L) H := ⟨pre, fun _ _ e _ => e, fun _ _ => rfl, fun b hb => by
      rcases hb with hb | hb
      · rcases List.mem_append.mp hb with z | z
        · exact .inl z
        · rw [List.mem_singleton.mp z]; exact .inr (.inl ma)
      · exact .inr (.inl (drop_sub.subset hb))⟩
    have ok' : Ok Γ O (κ ++ [a]) (Dp.drop i L) H (st ++ [.lst xs]) := by
      refine ⟨List.nodup_append.mpr ⟨List.nodup_append.mpr ⟨nd.1, by simp, fun x hx y hy => by rw [List.mem_singleton.mp hy]; exact fun z => nk (by rw [← z]; exact hx)⟩, nd.2.1.sublist drop_sub, fun x hx y hy => ?_⟩, fun x hx => ?_, o.oth, by simp [o.len], fun n x s h1 h2 => ?_, fun p hp => o.own p (mem_drop.mp hp).1⟩
      · rcases List.mem_append.mp hx with z | z
        · exact nd.2.2 x z y (drop_sub.subset hy)
        · rw [List.mem_singleton.mp z]; exact fun w => ndr (by rw [w]; exact hy)
      · rcases List.mem_append.mp hx with z | z
        · rcases List.mem_append.mp z with z | z
          · exact o.ap x (List.mem_append_left _ z)
          · rw [List.mem_singleton.mp z]; exact o.notO (.inr ma)
        · exact o.ap x (List.mem_append_right _ (drop_sub.subset z))
      · by_cases hn : n < κ.length
        · rw [List.getElem?_append_left hn] at h1
          rw [List.getElem?_append_left (by rw [← o.len]; exact hn)] at h2
          exact (o.st n x s h1 h2).mono pre le rfl
        · have hn2 : n = κ.length := by
            have := (List.getElem?_eq_some_iff.mp h1).1
            simp at this; omega
          subst hn2
          rw [List.getElem?_append_right (Nat.le_refl _)] at h1
          rw [List.getElem?_append_right (by rw [o.len]; exact Nat.le_refl _), o.len] at h2
          simp at h1 h2
          subst h1 h2
          exact ⟨vs, hH, rs.mono pre le⟩
    refine ⟨O, κ ++ [a], Dp.drop i L, ρ.set i (.val (.ref st.length)), st ++ [.lst xs], ok', ⟨by rw [List.length_set]; exact e.len, fun j s hj => ?_, e.lk.sublist drop_sub1⟩, finS.step nx (show finS Γ W O κ L H (g (ρ.set i (.val (.ref st.length))) (st ++ [.lst xs])) Z from h)⟩
    by_cases z : i = j
    · subst z
      rw [List.getElem?_set_self (List.getElem?_eq_some_iff.mp hρ).1] at hj
      cases hj
      exact ⟨_, hσ, .ref (by rw [← o.len, List.getElem?_append_right (Nat.le_refl _)]; simp)⟩
    · rw [List.getElem?_set_ne z] at hj
      have q := e.sl j s hj
      cases s with
      | no => trivial
      | val d => obtain ⟨w, hw, r⟩ := q; exact ⟨w, hw, r.mono pre le⟩
      | own so => obtain ⟨b, m2, hw, r⟩ := q; exact ⟨b, mem_drop.mpr ⟨m2, fun y => z y.symm⟩, hw, r.mono pre le rfl⟩
      | exn _ _ => exact SlX.mono pre le rfl q
theorem kill_get : ∀ {is : List Nat} {ρ : Ev} {j : Nat} {s : Sl}, (is.foldl (fun ρ i => ρ.set i Sl.no) ρ)[j]? = some s → s = .no ∨ ρ[j]? = some s
  | [], _, _, _, h => .inr h
  | i :: is, ρ, j, s, h => by
    rw [List.foldl_cons] at h
    rcases kill_get h with z | z
    · exact .inl z
    · by_cases hj : i = j
      · subst hj
        have hl : i < (ρ.set i Sl.no).length := (List.getElem?_eq_some_iff.mp z).1
        rw [List.length_set] at hl
        rw [List.getElem?_set_self hl] at z
        cases z
        exact .inl rfl
      · rw [List.getElem?_set_ne hj] at z; exact .inr z
theorem kill_len : ∀ {is : List Nat} {ρ : Ev}, (is.foldl (fun ρ i => ρ.set i Sl.no) ρ).length = ρ.length
  | [], _ => rfl
  | i :: is, ρ => by rw [List.foldl_cons, kill_len, List.length_set]
theorem dS_kill {is : List Nat} {g : Ev → Sto → Out} (h : dS Γ W (fun ρ st => (evS P R (.kill is) ρ st).bind g) Z σ H) : dS Γ W g Z σ H := by
  obtain ⟨O, κ, L, ρ, st, o, e, h⟩ := h
  dsimp only at h
  rw [evS] at h
  refine ⟨O, κ, L, _, st, o, ⟨by rw [kill_len]; exact e.len, fun j s hj => ?_, e.lk⟩, h⟩
  rcases kill_get hj with z | z
  · subst z; trivial
  · exact e.sl j s z
/-- a fresh list, the frame's own from here on -/
theorem finS.own {xs : List D} {vs : List V} {p : Addr} (o : Ok Γ O κ L H st) (e : EnvR Γ O κ L H σ ρ) (rs : Reps Γ κ (imm O κ L H) vs xs) (hp : H p = none) (q : finS Γ W O κ L H (.nx (ρ.set i (.own (.lst xs))) st) Z) : Z.nx (σ.set i (some (.ref p))) (upd H p (.lst vs)) := by
  have nm := o.fresh hp
  have ne : ∀ {b : Addr} {u : HO}, H b = some u → b ≠ p := fun eb z => by rw [z, hp] at eb; cases eb
  have le : Le (imm O κ L H) (imm O κ ((i, p) :: Dp.drop i L) (upd H p (.lst vs))) := fun b u eb => by
    obtain ⟨h1, h2⟩ := cut_some.mp eb
    refine cut_some.mpr ⟨fun z => h1 ?_, by rw [upd_ne (ne h2)]; exact h2⟩
    rcases z with z | z | z
    · exact .inl z
    · exact .inr (.inl z)
    · rw [List.map_cons] at z
      rcases List.mem_cons.mp z with z | z
      · exact absurd z (ne h2)
      · exact .inr (.inr (drop_sub.subset z))
  have nd := List.nodup_append.mp o.nd
  refine q κ ((i, p) :: Dp.drop i L) _ _ ⟨List.prefix_rfl, fun b u eb _ => by rw [upd_ne (ne eb)]; exact eb, fun b hb => by obtain ⟨u, eb⟩ := o.oth b hb; rw [upd_ne (ne eb)], fun b hb => ?_⟩
    ⟨List.nodup_append.mpr ⟨nd.1, ?_, fun x hx y hy => ?_⟩, fun x hx => ?_, fun b hb => ?_, o.len, fun n b s h1 h2 => ?_, fun w hw => ?_⟩ ⟨by simp [e.len], fun j s hj => ?_, ?_⟩
  · rcases hb with hb | hb
    · exact .inl hb
    · rcases List.mem_cons.mp hb with z | z
      · right; right; rw [z]; exact hp
      · exact .inr (.inl (drop_sub.subset z))
  · rw [List.map_cons, List.nodup_cons]
    exact ⟨fun z => nm (.inr (.inr (drop_sub.subset z))), nd.2.1.sublist drop_sub⟩
  · rcases List.mem_cons.mp hy with z | z
    · intro w
      have e1 : x = p := w.trans z
      subst e1
      exact nm (.inr (.inl hx))
    · exact nd.2.2 x hx y (drop_sub.subset z)
  · rcases List.mem_append.mp hx with z | z
    · exact o.ap x (List.mem_append_left _ z)
    · rcases List.mem_cons.mp z with z | z
      · rw [z]; exact fun w => nm (.inl w)
      · exact o.ap x (List.mem_append_right _ (drop_sub.subset z))
  · obtain ⟨u, eb⟩ := o.oth b hb
    exact ⟨u, by rw [upd_ne (ne eb)]; exact eb⟩
  · have w := o.st n b s h1 h2
    obtain ⟨u, eb⟩ := w.some
    exact w.mono List.prefix_rfl le (upd_ne (ne eb))
  · rcases List.mem_cons.mp hw with z | z
    · rw [z]; exact ⟨_, upd_same⟩
    · obtain ⟨u, eb⟩ := o.own w (mem_drop.mp z).1
      exact ⟨u, by rw [upd_ne (ne eb)]; exact eb⟩
  · by_cases z : i = j
    · subst z
      have hl : i < (ρ.set i (.own (.lst xs))).length := (List.getElem?_eq_some_iff.mp hj).1
      rw [List.length_set] at hl
      rw [List.getElem?_set_self hl] at hj
      cases hj
      exact ⟨p, List.mem_cons_self, List.getElem?_set_self (by rw [e.len]; exact hl), vs, upd_same, rs.mono List.prefix_rfl le⟩
    · rw [List.getElem?_set_ne z] at hj
      have w := e.sl j s hj
      cases s with
      | no => trivial
      | val d => obtain ⟨v, hv, r⟩ := w; exact ⟨v, by rw [List.getElem?_set_ne z]; exact hv, r.mono List.prefix_rfl le⟩
      | own so =>
        obtain ⟨b, m2, hv, r⟩ := w
        obtain ⟨u, eb⟩ := o.own (j, b) m2
        exact ⟨b, List.mem_cons_of_mem _ (mem_drop.mpr ⟨m2, fun y => z y.symm⟩), by rw [List.getElem?_set_ne z]; exact hv, r.mono List.prefix_rfl le (upd_ne (ne eb))⟩
      | exn _ _ => exact SlX.mono List.prefix_rfl le (List.getElem?_set_ne z) w
  · rw [List.map_cons, List.nodup_cons]
    exact ⟨drop_notin, e.lk.sublist drop_sub1⟩
/-- an expression that makes a new list -/
def dF (Γ : Glob) (W : WX) (f : Ev → Sto → Res D) : TE := fun σ H Q => ∃ O κ L ρ st, Ok Γ O κ L H st ∧ EnvR Γ O κ L H σ ρ ∧ fin Γ (fun c d H' => W c d σ H') O κ L H (f ρ st) fun d st' κ' H' => ∃ xs, d = .lst xs ∧ ∀ κ2 H2 vs p, Nx O κ' L H' κ2 H2 → Ok Γ O κ2 L H2 st' → Reps Γ κ2 (imm O κ2 L H2) vs xs → H2 p = none → Q (.ref p) (upd H2 p (.lst vs))
theorem dS_own {t : Tm} (h : dS Γ W (evS P R (.own i t)) Z σ H) : tAsg (dF Γ W (evE P R t)) (gName i) Z σ H := by
  obtain ⟨O, κ, L, ρ, st, o, e, h⟩ := h
  rw [evS] at h
  refine ⟨O, κ, L, ρ, st, o, e, (h.out e).imp fun d st1 κ1 H1 n1 o1 q => ?_⟩
  split at q
  · rename_i xs
    exact ⟨xs, rfl, fun κ2 H2 vs p n2 o2 rs hp => finS.own o2 ((e.next n1).next n2) rs hp (finS.step n2.s q)⟩
  · exact q.elim
theorem pf_lst {ts : List Tm} {es : List Expr} {pos : Pos} (hl : ts.length ≤ 1000) (ha : PA X es (dA Γ W (evL P R ts))) : PE X (.List es pos) (dF Γ W (evE P R (.lst ts))) := by
  refine (pe_lst ha).weak fun σ H Q h => ?_
  obtain ⟨O, κ, L, ρ, st, o, e, h⟩ := h
  rw [evE] at h
  refine ⟨O, κ, L, ρ, st, o, e, (fin.bind o h).eqn fun ds st1 he κ1 H1 n1 o1 q1 vs r => ?_⟩
  obtain ⟨xs, ex, q2⟩ := q1 κ1 H1 .refl o1
  cases ex
  refine ⟨by rw [r.length, evL_len ts ρ st st1 ds he, sizeLine_eq]; omega, fun p hp => q2 κ1 H1 vs p .refl o1 r hp⟩
end
end Dp
end SDp18
set_option maxHeartbeats 4000000
/-! DpP: rows of stores, some of them of new lists. -/
noncomputable section SDpP
namespace Dp
open PySem PySem.Spec PyProof.Rows L2

section
variable {Γ : Glob} {W : WX} {S : Stat} {P : Prog} {R : String → List D → Sto → Res D}
variable {O : Addr → Prop} {κ κ' κ'' : List Addr} {L L' L'' : List (Nat × Addr)} {H H' H'' : Hp} {σ σ' : L2.St} {ρ ρ' : Ev} {st st' : Sto} {i : Nat} {p : Addr} {u : HO}
/-- onward, where the frame's own objects stay -/
structure NxO (O : Addr → Prop) (κ : List Addr) (L : List (Nat × Addr)) (H : Hp) (κ' : List Addr) (L' : List (Nat × Addr)) (H' : Hp) : Prop where
  s : NxS O κ L H κ' L' H'
  sub : ∀ q ∈ L, q ∈ L'
  stay : ∀ q ∈ L, H' q.2 = H q.2
theorem NxO.refl : NxO O κ L H κ L H := ⟨.refl, fun _ h => h, fun _ _ => rfl⟩
theorem NxO.trans (n : NxO O κ L H κ' L' H') (m : NxO O κ' L' H' κ'' L'' H'') : NxO O κ L H κ'' L'' H'' :=
  ⟨n.s.trans m.s, fun q h => m.sub q (n.sub q h), fun q h => (m.stay q (n.sub q h)).trans (n.stay q h)⟩
theorem Nx.o (n : Nx O κ L H κ' H') : NxO O κ L H κ' L H' := ⟨n.s, fun _ h => h, fun q h => n.own q.2 (List.mem_map.mpr ⟨q, h, rfl⟩)⟩
/-- a new object of the frame's own -/
theorem newOwn (o : Ok Γ O κ L H st) (e : EnvR Γ O κ L H σ ρ) (hp : H p = none) (hi : i ∉ L.map (·.1)) :
    NxO O κ L H κ ((i, p) :: L) (upd H p u) ∧ Ok Γ O κ ((i, p) :: L) (upd H p u) st ∧ EnvR Γ O κ ((i, p) :: L) (upd H p u) σ ρ := by
  have nm := o.fresh hp
  have ne : ∀ {b : Addr} {w : HO}, H b = some w → b ≠ p := fun eb z => by rw [z, hp] at eb; cases eb
  have nd := List.nodup_append.mp o.nd
  have nS : NxS O κ L H κ ((i, p) :: L) (upd H p u) := by
    refine ⟨List.prefix_rfl, fun b w eb _ => (upd_ne (ne eb)).trans eb, fun b hb => ?_, fun b hb => ?_⟩
    · obtain ⟨w, eb⟩ := o.oth b hb
      exact upd_ne (ne eb)
    · rcases hb with hb | hb
      · exact .inl hb
      · rw [List.map_cons] at hb
        rcases List.mem_cons.mp hb with z | z
        · right; right; rw [z]; exact hp
        · exact .inr (.inl z)
  have hL : ∀ q ∈ L, upd H p u q.2 = H q.2 := fun q hq => by
    obtain ⟨w, eb⟩ := o.own q hq
    exact upd_ne (ne eb)
  refine ⟨⟨nS, fun q hq => List.mem_cons_of_mem _ hq, hL⟩, ⟨?_, fun b hb => ?_, fun b hb => ?_, o.len, fun n b s h1 h2 => ?_, fun q hq => ?_⟩, ⟨e.len, fun j s hj => ?_, ?_⟩⟩
  · refine List.nodup_append.mpr ⟨nd.1, ?_, fun b hb c hc => ?_⟩
    · rw [List.map_cons, List.nodup_cons]
      exact ⟨fun z => nm (.inr (.inr z)), nd.2.1⟩
    · rw [List.map_cons] at hc
      rcases List.mem_cons.mp hc with z | z
      · intro y
        have ep : b = p := y.trans z
        rw [ep] at hb
        exact nm (.inr (.inl hb))
      · exact nd.2.2 b hb c z
  · rcases List.mem_append.mp hb with z | z
    · exact o.ap b (List.mem_append_left _ z)
    · rw [List.map_cons] at z
      rcases List.mem_cons.mp z with z | z
      · rw [z]; exact fun y => nm (.inl y)
      · exact o.ap b (List.mem_append_right _ z)
  · obtain ⟨w, eb⟩ := o.oth b hb
    exact ⟨w, (upd_ne (ne eb)).trans eb⟩
  · have w := o.st n b s h1 h2
    obtain ⟨x, eb⟩ := w.some
    exact w.mono List.prefix_rfl nS.le (upd_ne (ne eb))
  · rcases List.mem_cons.mp hq with z | z
    · rw [z]; exact ⟨_, upd_same⟩
    · rw [hL q z]; exact o.own q z
  · have w := e.sl j s hj
    cases s with
    | no => trivial
    | val d => obtain ⟨v, hv, r⟩ := w; exact ⟨v, hv, r.mono List.prefix_rfl nS.le⟩
    | own so => obtain ⟨b, m, hv, r⟩ := w; exact ⟨b, List.mem_cons_of_mem _ m, hv, r.mono List.prefix_rfl nS.le (hL _ m)⟩
    | exn _ _ => exact SlX.mono List.prefix_rfl nS.le rfl w
  · rw [List.map_cons, List.nodup_cons]
    exact ⟨hi, e.lk⟩
/-- the values of such a row -/
inductive VR (Γ : Glob) (O : Addr → Prop) (κ : List Addr) (L : List (Nat × Addr)) (H : Hp) : List Nat → List Bool → List V → List D → Prop
  | nil : VR Γ O κ L H [] [] [] []
  | val {i : Nat} {is : List Nat} {os : List Bool} {v : V} {vs : List V} {d : D} {ds : List D} : Rep Γ κ (imm O κ L H) v d → VR Γ O κ L H is os vs ds → VR Γ O κ L H (i :: is) (false :: os) (v :: vs) (d :: ds)
  | own {i : Nat} {p : Addr} {is : List Nat} {os : List Bool} {vs : List V} {xs ds : List D} : (i, p) ∈ L → SRep Γ κ (imm O κ L H) H p (.lst xs) → VR Γ O κ L H is os vs ds → VR Γ O κ L H (i :: is) (true :: os) (.ref p :: vs) (.lst xs :: ds)
/-- the slots of the new lists: free, unlike each other -/
def FrO (L : List (Nat × Addr)) : List Nat → List Bool → Prop
  | i :: is, true :: os => i ∉ L.map (·.1) ∧ i ∉ is ∧ FrO L is os
  | _ :: is, false :: os => FrO L is os
  | _, _ => True
theorem FrO.new : ∀ {is : List Nat} {os : List Bool}, FrO L is os → i ∉ is → FrO ((i, p) :: L) is os
  | [], _, _, _ => by unfold FrO; trivial
  | _ :: _, [], _, _ => by unfold FrO; trivial
  | j :: is, true :: os, h, hi => by
    rw [FrO] at h ⊢
    refine ⟨fun z => ?_, h.2.1, FrO.new h.2.2 fun z => hi (List.mem_cons_of_mem _ z)⟩
    rw [List.map_cons] at z
    rcases List.mem_cons.mp z with y | y
    · exact hi (by rw [show j = i from y]; exact List.mem_cons_self)
    · exact h.1 y
  | j :: is, false :: os, h, hi => by
    rw [FrO] at h ⊢
    exact FrO.new h fun z => hi (List.mem_cons_of_mem _ z)
def dAo (Γ : Glob) (W : WX) (is : List Nat) (os : List Bool) (f : Ev → Sto → Res (List D)) : TA := fun σ H Q => ∃ O κ L ρ st, Ok Γ O κ L H st ∧ EnvR Γ O κ L H σ ρ ∧ FrO L is os ∧ (match f ρ st with
  | .ok ds st' => ∀ κ' L' H' vs, NxO O κ L H κ' L' H' → Ok Γ O κ' L' H' st' → EnvR Γ O κ' L' H' σ ρ → VR Γ O κ' L' H' is os vs ds → Q vs H'
  | .exc c fs st' => ∀ κ' L' H' cls dd, NxO O κ L H κ' L' H' → Ok Γ O κ' L' H' st' → EnvR Γ O κ' L' H' σ ρ → XRep Γ κ' (imm O κ' L' H') cls dd c fs → W cls dd σ H'
  | .stuck => False)
theorem dAo_nil {Q : List V → Hp → Prop} (h : dAo Γ W [] [] (evL P R []) σ H Q) : Q [] H := by
  obtain ⟨O, κ, L, ρ, st, o, e, fr, h⟩ := h
  rw [evL] at h
  exact h κ L H [] .refl o e .nil
theorem dAo_val {is : List Nat} {os : List Bool} {t : Tm} {ts : List Tm} {Q : List V → Hp → Prop} (h : dAo Γ W (i :: is) (false :: os) (evL P R (t :: ts)) σ H Q) : tCons (dE Γ W (evE P R t)) (dAo Γ W is os (evL P R ts)) σ H Q := by
  obtain ⟨O, κ, L, ρ, st, o, e, fr, h⟩ := h
  rw [FrO] at fr
  rw [evL] at h
  refine ⟨O, κ, L, ρ, st, o, e, ?_⟩
  cases h1 : evE P R t ρ st with
  | stuck => rw [h1] at h; exact h
  | exc c fs st1 =>
    rw [h1] at h
    exact fun κ2 H2 cls dd n2 o2 x => h κ2 L H2 cls dd n2.o o2 (e.next n2) x
  | ok d st1 =>
    rw [h1, Res.bind_ok] at h
    refine fun κ1 H1 n1 o1 v r => ⟨O, κ1, L, ρ, st1, o1, e.next n1, fr, ?_⟩
    cases h2 : evL P R ts ρ st1 with
    | stuck => rw [h2] at h; exact h
    | exc c fs st2 =>
      rw [h2] at h
      exact fun κ2 L2 H2 cls dd n2 o2 e2 x => h κ2 L2 H2 cls dd (n1.o.trans n2) o2 e2 x
    | ok ds st2 =>
      rw [h2] at h
      exact fun κ2 L2 H2 vs n2 o2 e2 vr => h κ2 L2 H2 (v :: vs) (n1.o.trans n2) o2 e2 (.val (r.mono n2.s.pre n2.s.le) vr)
/-- what makes a new list -/
def isNew : Tm → Bool
  | .lst _ => true
  | .comp _ _ _ _ => true
  | .bin .mul (.lst _) _ => true
  | .bi .list _ => true
  | _ => false
theorem new_lst {t : Tm} (ht : isNew t = true) {d : D} (h : evE P R t ρ st = .ok d st') : ∃ xs, d = .lst xs := by
  have hL : ∀ {ts : List Tm} {ρ : Ev} {st st' : Sto} {d : D}, evE P R (.lst ts) ρ st = .ok d st' → ∃ xs, d = .lst xs := fun {ts ρ st st' d} h => by
    rw [evE] at h
    cases q : evL P R ts ρ st with
    | ok ds s => rw [q] at h; cases h; exact ⟨_, rfl⟩
    | exc c fs s => rw [q] at h; cases h
    | stuck => rw [q] at h; cases h
  have hl : ∀ {o : Option D} {s : Sto}, lift o s = .ok d st' → o = some d := fun {o s} h => by
    cases o with
    | none => cases h
    | some x => cases h; rfl
  cases t <;> try (cases ht; done)
  case bin op a b =>
    cases op <;> try (cases ht; done)
    cases a <;> try (cases ht; done)
    case lst ts =>
      rw [evE] at h
      cases q : evE P R (.lst ts) ρ st with
      | exc c fs s => rw [q] at h; cases h
      | stuck => rw [q] at h; cases h
      | ok x s =>
        obtain ⟨xs, rfl⟩ := hL q
        rw [q, Res.bind_ok] at h
        cases q2 : evE P R b ρ s with
        | exc c fs s => rw [q2] at h; cases h
        | stuck => rw [q2] at h; cases h
        | ok y s2 =>
          rw [q2, Res.bind_ok] at h
          have e := hl h
          cases y <;> try (simp [dBin] at e; done)
          case int j =>
            simp only [dBin] at e
            split at e
            · cases e; exact ⟨_, rfl⟩
            · cases e
  case bi f ts =>
    cases f <;> try (cases ht; done)
    rw [evE] at h
    cases q : evL P R ts ρ st with
    | exc c fs s => rw [q] at h; cases h
    | stuck => rw [q] at h; cases h
    | ok ds s =>
      rw [q, Res.bind_ok] at h
      have e := hl h
      cases ds with
      | nil => simp [dBi] at e
      | cons x r => cases r with
        | cons _ _ => cases x <;> simp [dBi] at e
        | nil =>
          cases x <;> try (simp [dBi] at e; done)
          case lst => simp only [dBi] at e; cases e; exact ⟨_, rfl⟩
          case tup => simp only [dBi] at e; cases e; exact ⟨_, rfl⟩
  case lst ts =>
    rw [evE] at h
    cases q : evL P R ts ρ st with
    | ok ds s => rw [q] at h; cases h; exact ⟨_, rfl⟩
    | exc c fs s => rw [q] at h; cases h
    | stuck => rw [q] at h; cases h
  case comp tg it cond el =>
    rw [evE] at h
    cases q : evI P R it ρ st with
    | exc c fs s => rw [q] at h; cases h
    | stuck => rw [q] at h; cases h
    | ok xs s =>
      rw [q, Res.bind_ok] at h
      generalize compR _ xs s = r at h
      cases r with
      | ok ys s2 => cases h; exact ⟨_, rfl⟩
      | exc c fs s => cases h
      | stuck => cases h
theorem dAo_own {is : List Nat} {os : List Bool} {t : Tm} {ts : List Tm} {Q : List V → Hp → Prop} (ht : isNew t = true) (h : dAo Γ W (i :: is) (true :: os) (evL P R (t :: ts)) σ H Q) : tCons (dF Γ W (evE P R t)) (dAo Γ W is os (evL P R ts)) σ H Q := by
  obtain ⟨O, κ, L, ρ, st, o, e, fr, h⟩ := h
  rw [FrO] at fr
  obtain ⟨f1, f2, f3⟩ := fr
  rw [evL] at h
  refine ⟨O, κ, L, ρ, st, o, e, ?_⟩
  cases h1 : evE P R t ρ st with
  | stuck => rw [h1] at h; exact h
  | exc c fs st1 =>
    rw [h1] at h
    exact fun κ2 H2 cls dd n2 o2 x => h κ2 L H2 cls dd n2.o o2 (e.next n2) x
  | ok d st1 =>
    obtain ⟨xs, rfl⟩ := new_lst ht h1
    rw [h1, Res.bind_ok] at h
    refine fun κ1 H1 n1 o1 => ⟨xs, rfl, fun κ2 H2 vs p n2 o2 rs hp => ?_⟩
    obtain ⟨m1, m2, m3⟩ := newOwn (u := .lst vs) o2 ((e.next n1).next n2) hp f1
    have n3 := (n1.o.trans n2.o).trans m1
    refine ⟨O, κ2, (i, p) :: L, ρ, st1, m2, m3, f3.new f2, ?_⟩
    cases h2 : evL P R ts ρ st1 with
    | stuck => rw [h2] at h; exact h
    | exc c fs st2 =>
      rw [h2] at h
      exact fun κ2 L2 H2 cls dd n2 o2 e2 x => h κ2 L2 H2 cls dd (n3.trans n2) o2 e2 x
    | ok ds st2 =>
      rw [h2] at h
      refine fun κ4 L4 H4 ws n4 o4 e4 vr => h κ4 L4 H4 (.ref p :: ws) (n3.trans n4) o4 e4 (.own (n4.sub _ List.mem_cons_self) ⟨vs, (n4.stay _ List.mem_cons_self).trans upd_same, ?_⟩ vr)
      exact (rs.mono List.prefix_rfl m1.s.le).mono n4.s.pre n4.s.le
/-- the slots given up ahead -/
theorem killO_ok : ∀ {is : List Nat} {os : List Bool} {L : List (Nat × Addr)} {ρ : Ev}, is.Nodup → Ok Γ O κ L H st → EnvR Γ O κ L H σ ρ → ∃ L', NxS O κ L H κ L' H ∧ Ok Γ O κ L' H st ∧ EnvR Γ O κ L' H σ (killO is os ρ) ∧ FrO L' is os ∧ L'.Sublist L
  | [], os, L, ρ, _, o, e => ⟨L, .refl, o, by unfold killO; exact e, by unfold FrO; trivial, List.Sublist.refl _⟩
  | _ :: _, [], L, ρ, _, o, e => ⟨L, .refl, o, by unfold killO; exact e, by unfold FrO; trivial, List.Sublist.refl _⟩
  | j :: is, false :: os, L, ρ, nd, o, e => by
    obtain ⟨L', a, b, c, d, s⟩ := killO_ok (os := os) (List.nodup_cons.mp nd).2 o e
    exact ⟨L', a, b, by rw [killO]; exact c, by rw [FrO]; exact d, s⟩
  | j :: is, true :: os, L, ρ, nd, o, e => by
    have e' : EnvR Γ O κ (Dp.drop j L) H σ (ρ.set j .no) := by
      refine ⟨by rw [List.length_set]; exact e.len, fun k s hk => ?_, e.lk.sublist drop_sub1⟩
      by_cases z : j = k
      · subst z
        have hl : j < (ρ.set j Sl.no).length := (List.getElem?_eq_some_iff.mp hk).1
        rw [List.length_set] at hl
        rw [List.getElem?_set_self hl] at hk
        cases hk
        trivial
      · rw [List.getElem?_set_ne z] at hk
        exact (e.sl k s hk).drop fun y => z y.symm
    obtain ⟨L', a, b, c, d, s⟩ := killO_ok (os := os) (List.nodup_cons.mp nd).2 (o.drop (i := j)) e'
    refine ⟨L', NxS.drop.trans a, b, by rw [killO]; exact c, by rw [FrO]; exact ⟨fun z => drop_notin ((s.map _).subset z), (List.nodup_cons.mp nd).1, d⟩, s.trans List.filter_sublist⟩
theorem EnvR.putOwn {xs : List D} (e : EnvR Γ O κ L H σ ρ) (m : (i, p) ∈ L) (r : SRep Γ κ (imm O κ L H) H p (.lst xs)) : EnvR Γ O κ L H (σ.set i (some (.ref p))) (ρ.set i (.own (.lst xs))) := by
  refine ⟨by simp [e.len], fun j s hj => ?_, e.lk⟩
  by_cases z : i = j
  · subst z
    have hl : i < (ρ.set i (.own (.lst xs))).length := (List.getElem?_eq_some_iff.mp hj).1
    rw [List.length_set] at hl
    rw [List.getElem?_set_self hl] at hj
    cases hj
    exact ⟨p, m, List.getElem?_set_self (by rw [e.len]; exact hl), r⟩
  · rw [List.getElem?_set_ne z] at hj
    have q := e.sl j s hj
    cases s with
    | no => trivial
    | val d => obtain ⟨w, hw, r⟩ := q; exact ⟨w, by rw [List.getElem?_set_ne z]; exact hw, r⟩
    | own so => obtain ⟨b, m2, hw, r⟩ := q; exact ⟨b, m2, by rw [List.getElem?_set_ne z]; exact hw, r⟩
    | exn _ _ => exact SlX.mono List.prefix_rfl Le.refl (List.getElem?_set_ne z) q
/-- the stores themselves -/
def setsV : List Nat → List V → L2.St → L2.St
  | i :: is, v :: vs, σ => setsV is vs (σ.set i (some v))
  | _, _, σ => σ
theorem setsO_ok : ∀ {is : List Nat} {os : List Bool} {vs : List V} {ds : List D} {σ : L2.St} {ρ ρ' : Ev}, VR Γ O κ L H is os vs ds → EnvR Γ O κ L H σ ρ → setsO is os ds ρ = some ρ' → EnvR Γ O κ L H (setsV is vs σ) ρ'
  | _, _, _, _, σ, ρ, ρ', .nil, e, h => by
    unfold setsO at h
    cases h
    unfold setsV
    exact e
  | _, _, _, _, σ, ρ, ρ', .val r vr, e, h => by
    rw [setsO] at h
    rw [setsV]
    exact setsO_ok vr (e.put r _) h
  | _, _, _, _, σ, ρ, ρ', .own m r vr, e, h => by
    rw [setsO] at h
    rw [setsV]
    exact setsO_ok vr (e.putOwn m r) h
theorem VR.len {is : List Nat} {os : List Bool} {vs : List V} {ds : List D} (h : VR Γ O κ L H is os vs ds) : vs.length = is.length := by
  induction h with
  | nil => rfl
  | val _ _ ih => simp [ih]
  | own _ _ _ ih => simp [ih]
theorem dS_parO {is : List Nat} {os : List Bool} {ts : List Tm} {D : Ends} (nd : is.Nodup) (h : dS Γ W (evS P R (.parO is os ts)) D σ H) : dAo Γ W is os (evL P R ts) σ H fun vs H1 => vs.length = is.length ∧ D.nx (setsV is vs σ) H1 ∧ ∀ p u, H1 p = none → D.nx (setsV is vs σ) (upd H1 p u) := by
  obtain ⟨O, κ, L, ρ, st, o, e, h⟩ := h
  rw [evS] at h
  obtain ⟨L', n, o', e', fr, _⟩ := killO_ok (os := os) nd o e
  refine ⟨O, κ, L', killO is os ρ, st, o', e', fr, ?_⟩
  have h := finS.step n h
  cases h1 : evL P R ts (killO is os ρ) st with
  | stuck => rw [h1] at h; exact h
  | exc c fs st1 =>
    rw [h1] at h
    exact fun κ2 L2 H2 cls dd n2 o2 e2 x => h κ2 L2 H2 σ cls dd n2.s o2 e2 x
  | ok ds st1 =>
    rw [h1, Res.out_ok] at h
    intro κ2 L2 H2 vs n2 o2 e2 vr
    cases h2 : setsO is os ds (killO is os ρ) with
    | none => rw [h2] at h; exact h.elim
    | some ρ2 =>
      rw [h2] at h
      refine ⟨vr.len, (finS.step n2.s h).here o2 (setsO_ok vr e2 h2), fun p u hp => ?_⟩
      obtain ⟨n3, o3, _⟩ := o2.laid (o := u) hp
      exact (finS.step n3.s (finS.step n2.s h)).here o3 ((setsO_ok vr e2 h2).next n3)
theorem dAo.imp {is : List Nat} {os : List Bool} {f : Ev → Sto → Res (List D)} {Q Q' : List V → Hp → Prop} (h : dAo Γ W is os f σ H Q) (k : ∀ vs H', Q vs H' → Q' vs H') : dAo Γ W is os f σ H Q' := by
  obtain ⟨O, κ, L, ρ, st, o, e, fr, h⟩ := h
  refine ⟨O, κ, L, ρ, st, o, e, fr, ?_⟩
  cases h1 : f ρ st with
  | stuck => rw [h1] at h; exact h
  | exc c fs st1 => rw [h1] at h; exact h
  | ok ds st1 =>
    rw [h1] at h
    exact fun κ' L' H' vs n o e r => k _ _ (h κ' L' H' vs n o e r)
theorem tPar_of {i j : Nat} {ta : TA} {D : Ends} (h : ta σ H fun vs H1 => vs.length = 2 ∧ D.nx (setsV [i, j] vs σ) H1 ∧ ∀ p u, H1 p = none → D.nx (setsV [i, j] vs σ) (upd H1 p u)) (hm : ∀ Q Q' : List V → Hp → Prop, (∀ vs H', Q vs H' → Q' vs H') → ta σ H Q → ta σ H Q') : tPar i j ta D σ H := by
  refine hm _ _ (fun vs H' q => ?_) h
  match vs, q with
  | [v, w], q => exact ⟨v, w, rfl, q.2.1⟩
  | [], q => cases q.1
  | [_], q => cases q.1
  | _ :: _ :: _ :: _, q => cases q.1
theorem tPar3_of {i j l : Nat} {ta : TA} {D : Ends} (h : ta σ H fun vs H1 => vs.length = 3 ∧ D.nx (setsV [i, j, l] vs σ) H1 ∧ ∀ p u, H1 p = none → D.nx (setsV [i, j, l] vs σ) (upd H1 p u)) (hm : ∀ Q Q' : List V → Hp → Prop, (∀ vs H', Q vs H' → Q' vs H') → ta σ H Q → ta σ H Q') : tPar3 i j l ta D σ H := by
  refine hm _ _ (fun vs H' q => ?_) h
  match vs, q with
  | [u, v, w], q => exact ⟨u, v, w, rfl, q.2.1⟩
  | [], q => cases q.1
  | [_], q => cases q.1
  | [_, _], q => cases q.1
  | _ :: _ :: _ :: _ :: _, q => cases q.1
theorem gNames_sets {Q : L2.St → Hp → Prop} : ∀ {is : List Nat} {vs : List V} {σ : L2.St}, vs.length = is.length → Q (setsV is vs σ) H → gNames is vs σ H Q
  | [], [], σ, _, q => by
    unfold setsV at q
    exact ⟨rfl, q⟩
  | [], _ :: _, _, h, _ => by cases h
  | _ :: _, [], _, h, _ => by cases h
  | i :: is, v :: vs, σ, h, q => by
    rw [setsV] at q
    exact ⟨v, vs, rfl, gNames_sets (by simpa using h) q⟩
theorem tAsgT_of {K : PySem.W.Frag} {is : List Nat} {ta : TA} {D : Ends} (hl : is.length ≤ 1000) (h : ta σ H fun vs H1 => vs.length = is.length ∧ D.nx (setsV is vs σ) H1 ∧ ∀ p u, H1 p = none → D.nx (setsV is vs σ) (upd H1 p u)) (hm : ∀ Q Q' : List V → Hp → Prop, (∀ vs H', Q vs H' → Q' vs H') → ta σ H Q → ta σ H Q') : tAsg (tTup ta) (gOf K (.many is)) D σ H := by
  refine hm _ _ (fun vs H' q => ?_) h
  refine ⟨by rw [q.1, sizeLine_eq]; omega, fun p hp => ⟨p, vs, rfl, .inl (.inl upd_same), q.1, ?_⟩⟩
  exact gNames_sets q.1 (q.2.2 p _ hp)
end
end Dp
end SDpP
set_option maxHeartbeats 4000000
/-! DpF: more expressions that make a new list: a display so many times, list(..). -/
noncomputable section SDpF
namespace Dp
open PySem PySem.Spec PyProof.Rows L2

section
variable {X : Cx} {Γ : Glob} {W : WX} {S : Stat} {P : Prog} {R : String → List D → Sto → Res D} {k : Nat} {c : SC}
/-- an operation that makes a new list -/
def rF2 (Γ : Glob) (g : D → D → Option D) : R2 := fun v u H Q => ∃ O κ L st x y xs, Ok Γ O κ L H st ∧ Rep Γ κ (imm O κ L H) v x ∧ Rep Γ κ (imm O κ L H) u y ∧ g x y = some (.lst xs) ∧
  ∀ vs p, Reps Γ κ (imm O κ L H) vs xs → H p = none → Q (.ref p) (upd H p (.lst vs))
theorem dF_op {fa fb : Ev → Sto → Res D} {g : D → D → Option D} {σ : L2.St} {H : Hp} {Q : VK} (h : dF Γ W (fun ρ st => (fa ρ st).bind fun x st1 => (fb ρ st1).bind fun y st2 => lift (g x y) st2) σ H Q) :
    tOp (rF2 Γ g) (dE Γ W fa) (dE Γ W fb) σ H Q := by
  obtain ⟨O, κ, L, ρ, st, o, e, h⟩ := h
  refine ⟨O, κ, L, ρ, st, o, e, (fin.bind o h).imp fun x st1 κ1 H1 n1 o1 h1 v rv => ?_⟩
  refine ⟨O, κ1, L, ρ, st1, o1, e.next n1, (fin.bind o1 h1).imp fun y st2 κ2 H2 n2 o2 h2 u ru => ?_⟩
  cases hg : g x y with
  | none => rw [hg] at h2; exact h2.elim
  | some d =>
    rw [hg] at h2
    obtain ⟨xs, rfl, k⟩ := h2 κ2 H2 .refl o2
    exact ⟨O, κ2, L, st2, x, y, xs, o2, rv.mono n2.pre n2.le, ru, hg, fun vs p rs hp => k κ2 H2 vs p .refl o2 rs hp⟩
theorem opMulF : OpR X (binaryOp .Mult) (rF2 Γ (dBin .mul)) := by
  intro pins s σ H x y v u Q I rx ry h
  obtain ⟨O, κ, L, st, a, b, xs, o, ra, rb, e, k⟩ := h
  cases a <;> cases b <;> try (simp [dBin] at e; done)
  case lst.int i j =>
    simp only [dBin] at e
    split at e
    · rename_i hj
      cases e
      simp only [Bool.and_eq_true, decide_eq_true_eq] at hj
      obtain ⟨p, vs, rfl, h1, r1⟩ := ra.lst_inv
      cases rb
      have hl := r1.length
      refine op_rep pins s σ H _ _ v u Q I rx ry ⟨p, j, vs, rfl, rfl, cut_le _ _ _ _ h1, by omega, by omega, ?_, fun z hz => k _ z (r1.rep _) hz⟩
      have a1 : vs.length * j.toNat ≤ 1000 * 1000 := Nat.mul_le_mul (by omega) (by omega)
      rw [sizeLine_eq]; omega
    · cases e
/-- list(..) -/
def biCallF (X : Cx) (Γ : Glob) : List V → Hp → VK → Prop := fun vs H Q => ∃ O κ L st ds xs, Ok Γ O κ L H st ∧ Reps Γ κ (imm O κ L H) vs ds ∧ dBi st .list ds = some (.lst xs) ∧
  ∀ ws p, Reps Γ κ (imm O κ L H) ws xs → H p = none → Q (.ref p) (upd H p (.lst ws))
theorem biListF (hK : X.K = Γ.K) : CallR X (.type "list") (biCallF X Γ) := by
  intro pins s σ H xs us Q I r h
  obtain ⟨O, κ, L, st, ds, ys, o, rs, e, A⟩ := h
  cases ds with
  | nil => simp [dBi] at e
  | cons x r2 => cases r2 with
    | cons _ _ => cases x <;> simp [dBi] at e
    | nil =>
      obtain ⟨v, rfl, rv⟩ := reps1 rs
      cases x <;> try (simp [dBi] at e; done)
      case lst zs =>
        simp only [dBi] at e; cases e
        obtain ⟨p, ws, rfl, h1, h2⟩ := rv.lst_inv
        exact call_list_of pins s σ H _ us Q I r ⟨p, ws, rfl, .inl (.of (cut_le _ _ _ _ h1)), fun q hq => A ws q h2 hq⟩
      case tup zs =>
        simp only [dBi] at e; cases e
        obtain ⟨p, ws, rfl, h1, h2⟩ := rv.tup_inv
        exact call_list_of pins s σ H _ us Q I r ⟨p, ws, rfl, .inr (by rw [hK]; exact (cut_le _ _).sqT h1), fun q hq => A ws q h2 hq⟩
theorem dF_list {ts : List Tm} {σ : L2.St} {H : Hp} {Q : VK} (h : dF Γ W (evE P R (.bi .list ts)) σ H Q) : tCB (biCallF X Γ) (dA Γ W (evL P R ts)) σ H Q := by
  have h' : dF Γ W (fun ρ st => (evL P R ts ρ st).bind fun ds st1 => lift (dBi st1 .list ds) st1) σ H Q := by simpa only [evE] using h
  obtain ⟨O, κ, L, ρ, st, o, e, h⟩ := h'
  refine ⟨O, κ, L, ρ, st, o, e, (fin.bind o h).imp fun ds st1 κ1 H1 n1 o1 h1 vs r => ?_⟩
  cases hg : dBi st1 .list ds with
  | none => rw [hg] at h1; exact h1.elim
  | some d =>
    rw [hg] at h1
    obtain ⟨xs, rfl, k⟩ := h1 κ1 H1 .refl o1
    exact ⟨O, κ1, L, st1, ds, xs, o1, r, hg, fun ws p rs hp => k κ1 H1 ws p .refl o1 rs hp⟩
theorem pf_list {ts : List Tm} {x : Str} {p pos : Pos} {es : List Expr} (C : CxOk c X) (U : Uni Γ S P R k X) (hx : okFree S c x "list" = true) (hl : okL S c ts es = true) (h0 : es.isEmpty = false) (ha : PA X es (dA Γ W (evL P R ts))) :
    PE X (.Call (.Name x p) es [] pos) (dF Γ W (evE P R (.bi .list ts))) := by
  obtain ⟨ex, g1, g2, g3, g4⟩ := free_of C U hx
  have hn := (okL_len hl).2
  cases es with
  | nil => cases h0
  | cons e es =>
    have s1 : ∀ env : Env, starEach (e :: es) env = (false, eval e env) :: starEach es env := fun env => star_cons (hn _ List.mem_cons_self)
    have s2 : (backTo pos (starEach es X.env)).any (·.1) = false := star_any fun e he => hn e (List.mem_cons_of_mem _ he)
    subst ex
    exact (pe_callTy (biListF U.K) g1 g4 (by decide +kernel) ha g3 g2 (s1 _) s2).weak fun σ H Q h => dF_list h
end
end Dp
end SDpF
set_option maxHeartbeats 4000000
/-! Dp19: new lists by comprehensions; fields stored; what names stores swap. -/
noncomputable section SDp19
namespace Dp
open PySem PySem.Spec PyProof.Rows L2

section
variable {X : Cx} {Γ : Glob} {W : WX} {S : Stat} {P : Prog} {R : String → List D → Sto → Res D} {k : Nat} {c : SC}
variable {O : Addr → Prop} {κ κ' : List Addr} {L L' : List (Nat × Addr)} {H H' : Hp} {σ σ' : L2.St} {ρ ρ' : Ev} {st st' : Sto} {r : Out} {Z Z' : Ends} {a : Addr} {o : HO} {i : Nat}
def delD (H : Hp) (a : Addr) : Hp := fun b => if b = a then none else H b
theorem delD_ne {b : Addr} (h : b ≠ a) : delD H a b = H b := if_neg h
theorem delD_same : delD H a a = none := if_pos rfl
theorem delD_upd (h : H a = some o) : upd (delD H a) a o = H := by
  funext b
  by_cases z : b = a
  · subst z; rw [upd_same, h]
  · rw [upd_ne z, delD_ne z]
theorem imm_del : imm O κ L (delD H a) = imm (oD O a) κ L H := by
  funext b
  unfold imm cut
  by_cases z : b = a
  · subst z
    have h1 : Mb (oD O b) κ L b := .inl (.inr rfl)
    rw [if_pos h1]
    split
    · rfl
    · exact delD_same
  · rw [delD_ne z]
    have : Mb O κ L b ↔ Mb (oD O a) κ L b := by
      unfold Mb oD
      constructor
      · rintro (h | h)
        · exact .inl (.inl h)
        · exact .inr h
      · rintro ((h | h) | h)
        · exact .inl h
        · exact absurd h z
        · exact .inr h
    by_cases h : Mb O κ L b
    · rw [if_pos h, if_pos (this.mp h)]
    · rw [if_neg h, if_neg (fun w => h (this.mpr w))]
theorem Ok.delD (h : Ok Γ (oD O a) κ L H st) (hO : ¬ O a) : Ok Γ O κ L (Dp.delD H a) st := by
  have nk : ∀ b ∈ κ ++ L.map (·.2), b ≠ a := fun b hb z => h.ap b hb (.inr z)
  refine ⟨h.nd, fun b hb z => h.ap b hb (.inl z), fun b z => ?_, h.len, fun n b s h1 h2 => ?_, fun p z => ?_⟩
  · rw [delD_ne (fun y => hO (by rw [← y]; exact z))]; exact h.oth b (.inl z)
  · rw [imm_del]
    exact (h.st n b s h1 h2).mono List.prefix_rfl Le.refl (delD_ne (nk b (List.mem_append_left _ (List.mem_iff_getElem?.mpr ⟨n, h1⟩))))
  · rw [delD_ne (nk p.2 (List.mem_append_right _ (List.mem_map.mpr ⟨p, z, rfl⟩)))]; exact h.own p z
theorem Nx.delD (n : Nx O κ L H κ' H') (hD : H a = none) (own : ∀ b ∈ L.map (·.2), ∃ u, H b = some u) (oth : ∀ b, O b → ∃ u, H b = some u) : Nx O κ L H κ' (Dp.delD H' a) := by
  have ne : ∀ {b : Addr} {u : HO}, H b = some u → b ≠ a := fun e z => by rw [z, hD] at e; cases e
  exact ⟨n.pre, fun b u e h => by rw [delD_ne (ne e)]; exact n.imm b u e h, fun b h => by obtain ⟨u, e⟩ := oth b h; rw [delD_ne (ne e)]; exact n.oth b h,
    fun b h => by obtain ⟨u, e⟩ := own b h; rw [delD_ne (ne e)]; exact n.own b h, n.new⟩
theorem tComp_dF {tg : Tg} {it el : Tm} {cond : Option Tm} {Q : VK} (h : dF Γ W (evE P R (.comp tg it cond el)) σ H Q) : tComp Γ W P R tg it cond el σ H Q := by
  obtain ⟨O, κ, L, ρ, st, o, e, h⟩ := h
  rw [evE] at h
  refine ⟨O, κ, L, ρ, st, o, e, (fin.bind o h).imp fun ds st1 κ1 H1 n1 o1 q1 => ?_⟩
  have q1' : fin Γ (fun c d H' => W c d σ H') O κ1 L H1 ((compR (compF P R tg cond el ρ) ds st1).bind fun ys st2 => (Res.ok (D.lst ys) st2 : Res D)) (fun d st' κ' H' => ∃ xs, d = D.lst xs ∧ ∀ κ2 H2 vs p, Nx O κ' L H' κ2 H2 → Ok Γ O κ2 L H2 st' → Reps Γ κ2 (imm O κ2 L H2) vs xs → H2 p = none → Q (.ref p) (upd H2 p (.lst vs))) := q1
  cases hr : compR (compF P R tg cond el ρ) ds st1 with
  | exc a b cc => exact absurd hr (compR_exc _ _)
  | stuck => rw [hr] at q1'; exact q1'.elim
  | ok tot stF =>
    rw [hr] at q1'
    refine ⟨tot, stF, rfl, fun κ' H' D vs nx ok hO hD hDv rs => ?_⟩
    have ok2 := ok.delD hO
    have nx2 := nx.delD hD o1.ownS o1.oth
    obtain ⟨xs, ex, q2⟩ := q1' κ' (Dp.delD H' D) nx2 ok2
    cases ex
    have := q2 κ' (Dp.delD H' D) vs D .refl ok2 (by rw [imm_del]; exact rs) delD_same
    rw [delD_upd hDv] at this
    exact this
/-! ### fields -/
theorem lookup_putA (f g : String) (d : D) : ∀ fs : List (String × D), (putA f d fs).lookup g = if g = f then some d else fs.lookup g
  | [] => by
    show List.lookup g [(f, d)] = _
    by_cases h : g = f
    · subst h; simp
    · simp [List.lookup, h, beq_eq_false_iff_ne.mpr h]
  | (k, x) :: r => by
    have ih := lookup_putA f g d r
    rw [show putA f d ((k, x) :: r) = (if k = f then (k, d) :: r else (k, x) :: putA f d r) from rfl]
    by_cases hk : k = f
    · rw [if_pos hk]
      by_cases h : g = k
      · have hb : (g == k) = true := beq_iff_eq.mpr h
        simp only [List.lookup, hb, if_pos (h.trans hk)]
      · have hb : (g == k) = false := beq_eq_false_iff_ne.mpr h
        simp only [List.lookup, hb, if_neg (fun e : g = f => h (e.trans hk.symm))]
    · rw [if_neg hk]
      by_cases h : g = k
      · have hb : (g == k) = true := beq_iff_eq.mpr h
        simp only [List.lookup, hb, if_neg (fun e : g = f => hk (h.symm.trans e))]
      · have hb : (g == k) = false := beq_eq_false_iff_ne.mpr h
        simp only [List.lookup, hb]
        exact ih
theorem len_putF (f : Str) (v : V) : ∀ fs : List (Str × V), (putF f v fs).length = if (fs.lookup f).isSome then fs.length else fs.length + 1
  | [] => rfl
  | (k, x) :: r => by
    have ih := len_putF f v r
    rw [show putF f v ((k, x) :: r) = (if k = f then (k, v) :: r else (k, x) :: putF f v r) from rfl]
    by_cases hk : k = f
    · rw [if_pos hk]
      subst hk
      simp [List.lookup]
    · rw [if_neg hk]
      have : (f == k) = false := beq_eq_false_iff_ne.mpr fun z => hk z.symm
      simp only [List.lookup, this, List.length_cons, ih]
      split <;> rfl
theorem len_putA (f : String) (d : D) : ∀ fs : List (String × D), (putA f d fs).length = if (fs.lookup f).isSome then fs.length else fs.length + 1
  | [] => rfl
  | (k, x) :: r => by
    have ih := len_putA f d r
    rw [show putA f d ((k, x) :: r) = (if k = f then (k, d) :: r else (k, x) :: putA f d r) from rfl]
    by_cases hk : k = f
    · rw [if_pos hk]
      subst hk
      simp [List.lookup]
    · rw [if_neg hk]
      have : (f == k) = false := beq_eq_false_iff_ne.mpr fun z => hk z.symm
      simp only [List.lookup, this, List.length_cons, ih]
      split <;> rfl
theorem FRep.len {I : Hp} {fvs : List (Str × V)} {fs : List (String × D)} {f : String} {d : D} {v : V} (h : FRep Γ κ I fvs fs) (hl : fvs.length ≤ fs.length) : (putF (Str.ofString f) v fvs).length ≤ (putA f d fs).length := by
  rw [len_putF, len_putA]
  cases e : fs.lookup f with
  | none => simp; split <;> omega
  | some x =>
    obtain ⟨w, hw, _⟩ := h.1 f x e
    rw [hw]
    simpa using hl
theorem FRep.put {I : Hp} {fvs : List (Str × V)} {fs : List (String × D)} {f : String} {d : D} {v : V} (h : FRep Γ κ I fvs fs) (hinj : ∀ g e, fs.lookup g = some e → Str.ofString g = Str.ofString f → g = f) (r : Rep Γ κ I v d) : FRep Γ κ I (putF (Str.ofString f) v fvs) (putA f d fs) := by
  refine ⟨fun g e he => ?_, fun g w hw => ?_⟩
  · rw [lookup_putA] at he
    by_cases z : g = f
    · rw [if_pos z] at he; cases he; subst z
      exact ⟨v, by rw [lookup_putF, if_pos rfl], r⟩
    · rw [if_neg z] at he
      obtain ⟨w, hw, rw'⟩ := h.1 g e he
      exact ⟨w, by rw [lookup_putF, if_neg (fun y => z (hinj g e he y))]; exact hw, rw'⟩
  · rw [lookup_putF] at hw
    by_cases z : g = Str.ofString f
    · exact ⟨f, d, by rw [lookup_putA, if_pos rfl], z⟩
    · rw [if_neg z] at hw
      obtain ⟨f', d', h1, h2⟩ := h.2 g w hw
      exact ⟨f', d', by rw [lookup_putA, if_neg (fun y => z (by rw [h2, y]))]; exact h1, h2⟩
theorem dS_setf {t : Tm} {f : String} (U : Uni Γ S P R k X) (h : dS Γ W (evS P R (.setf i f t)) Z σ H) : sFld X.K (tVar i) (dE Γ W (evE P R t)) (Str.ofString f) Z σ H := by
  obtain ⟨O, κ, L, ρ, st, o, e, h⟩ := h
  rw [evS] at h
  refine ⟨O, κ, L, ρ, st, o, e, (h.out e).imp fun d st1 κ1 H1 n1 o1 q v r => ?_⟩
  have e1 := e.next n1
  split at q
  · rename_i C fs hρ
    split at q
    · rename_i hc
      simp only [Bool.and_eq_true, decide_eq_true_eq] at hc
      obtain ⟨a, m, hσ, dx, fvs, hH, hF, hl, hk⟩ := e1.sl i _ hρ
      have ma : a ∈ L.map (·.2) := List.mem_map.mpr ⟨_, m, rfl⟩
      have hf : f ∈ Γ.fields C := by rw [← U.pf]; simpa using hc.1
      obtain ⟨c1, c2⟩ := U.fld C f hf
      refine ⟨_, hσ, a, Γ.cls C, dx, fvs, rfl, hH, c1, c2, by omega, ?_⟩
      refine q κ1 L _ σ (.upd o1 (.inr ma)) (o1.setOwn ma) (e1.setOwn o1 m hσ ⟨dx, _, upd_same, hF.put (fun g w hg hw => U.finj C g f (hk g w hg) hf hw) r, ?_, fun g w hg => ?_⟩)
      · exact hF.len hl
      · rw [lookup_putA] at hg
        by_cases z : g = f
        · rw [z]; exact hf
        · rw [if_neg z] at hg; exact hk g w hg
    · exact q.elim
  · rename_i n hρ
    split at q
    · rename_i C fs hn
      split at q
      · rename_i hc
        simp only [Bool.and_eq_true, decide_eq_true_eq] at hc
        obtain ⟨w, hσ, rw'⟩ := e1.sl i _ hρ
        obtain ⟨a, rfl, ha⟩ := rw'.ref_inv
        obtain ⟨dx, fvs, hH, hF, hl, hk⟩ := o1.st n a _ ha hn
        have ma : a ∈ κ1 := List.mem_iff_getElem?.mpr ⟨n, ha⟩
        have hf : f ∈ Γ.fields C := by rw [← U.pf]; simpa using hc.1
        obtain ⟨c1, c2⟩ := U.fld C f hf
        refine ⟨_, hσ, a, Γ.cls C, dx, fvs, rfl, hH, c1, c2, by omega, ?_⟩
        refine q κ1 L _ σ (.upd o1 (.inl ma)) (o1.setSt ha ⟨dx, _, upd_same, hF.put (fun g w hg hw => U.finj C g f (hk g w hg) hf hw) r, ?_, fun g w hg => ?_⟩) (e1.setSt o1 ma)
        · exact hF.len hl
        · rw [lookup_putA] at hg
          by_cases z : g = f
          · rw [z]; exact hf
          · rw [if_neg z] at hg; exact hk g w hg
      · exact q.elim
    · exact q.elim
  · exact q.elim
/-! ### what a store of a comprehension, of a tuple swaps -/
def swB (sc : Scope) (v : Expr) (x : Str) (px : Pos) : Bool := match v with
  | .ListComp _ _ s lp => sc.names.lookup x == some .local && px.line == lp.line && !(s.names.any fun (n, k) => n == x && (k == .local || k == .cell))
  | .SetComp _ _ _ _ => true
  | .DictComp _ _ _ _ _ => true
  | _ => false
def notSD : Expr → Bool
  | .SetComp _ _ _ _ => false
  | .DictComp _ _ _ _ _ => false
  | _ => true
theorem block_fn {env : Env} (hk : env.scope.kind = .function) : env.blockKind = .function := by unfold Env.blockKind; rw [hk]; rfl
theorem sw_of {env : Env} (hk : env.scope.kind = .function) {v : Expr} {x : Str} {px : Pos} {l : Nat} (hn : notSD v = true) : swapsWith v (some (.Name x px)) l env = pure (swB env.scope v x px) := by
  cases v <;> try rfl
  case ListComp e gs s lp =>
    unfold swapsWith swB
    simp only [block_fn hk]
    rfl
  case SetComp => cases hn
  case DictComp => cases hn
def nameLoc (sc : Scope) (line : Nat) : Expr → Option Str
  | .Name id pos => if sc.names.lookup id == some .local && pos.line == line then some id else none
  | _ => none
/-- the pair is stored as a tuple, from the left -/
def swNone (sc : Scope) (ts vs : List Expr) : Bool :=
  let names := ts.filterMap (nameLoc sc ((ts.head?.map (·.pos.line)).getD 0))
  (!(ts.length == 2 || ts.length == 3) || vs.length != ts.length) || (names.length != ts.length || names.eraseDups.length != names.length) || vs.all (foldedForSure 8)
/-- .. from the right, at once -/
def swSome (sc : Scope) (ts vs : List Expr) (xs : List Str) : Bool :=
  let names := ts.filterMap (nameLoc sc ((ts.head?.map (·.pos.line)).getD 0))
  (ts.length == 2 || ts.length == 3) && vs.length == ts.length && vs.all notStar && decide (names = xs) && names.length == ts.length && names.eraseDups.length == names.length && !(vs.all (foldedForSure 8)) && !(vs.all (constantsAlone 8))
theorem sw_eq {env : Env} (hk : env.scope.kind = .function) {ts vs : List Expr} {k k2 : Nat} {p p2 : Pos} {names : List Str} (hn : ts.filterMap (nameLoc env.scope ((ts.head?.map (·.pos.line)).getD 0)) = names) :
    swappedStores [.Tuple ts k p] (.Tuple vs k2 p2) env = (if (!(ts.length == 2 || ts.length == 3) || vs.length != ts.length || ScopeKind.function != ScopeKind.function) = true then pure none
      else if (vs.any fun x => match x with | .Starred _ _ => true | _ => false) = true then pure none
      else if (names.length != ts.length || names.eraseDups.length != names.length) = true then pure none
      else if vs.all (foldedForSure 8) = true then pure none
      else if vs.all (constantsAlone 8) = true then (do unsupported "assign.tuple-of-constant-expressions:order-of-the-stores"; pure (some names)) else pure (some names)) := by
  subst hn
  unfold swappedStores
  simp only [block_fn hk]
  rfl
theorem sw_none {env : Env} (hk : env.scope.kind = .function) {ts vs : List Expr} {k k2 : Nat} {p p2 : Pos} (h : swNone env.scope ts vs = true) : swappedStores [.Tuple ts k p] (.Tuple vs k2 p2) env = pure none := by
  rw [sw_eq hk rfl]
  unfold swNone at h
  simp only [Bool.or_eq_true] at h
  split
  · rfl
  · rename_i h1
    split
    · rfl
    · split
      · rfl
      · rename_i h3
        split
        · rfl
        · rename_i h4
          exfalso
          rcases h with (h | h) | h
          · apply h1
            simp only [Bool.or_eq_true]
            exact .inl h
          · apply h3
            simp only [Bool.or_eq_true]
            exact h
          · exact h4 h
theorem sw_some {env : Env} (hk : env.scope.kind = .function) {ts vs : List Expr} {xs : List Str} {k k2 : Nat} {p p2 : Pos} (h : swSome env.scope ts vs xs = true) : swappedStores [.Tuple ts k p] (.Tuple vs k2 p2) env = pure (some xs) := by
  rw [sw_eq hk rfl]
  unfold swSome at h
  simp only [Bool.and_eq_true, decide_eq_true_eq, Bool.not_eq_true'] at h
  obtain ⟨⟨⟨⟨⟨⟨⟨h1, h2⟩, h3⟩, h4⟩, h5⟩, h6⟩, h7⟩, h8⟩ := h
  have a1 : ¬ ((!(ts.length == 2 || ts.length == 3) || vs.length != ts.length || ScopeKind.function != ScopeKind.function) = true) := by
    rw [h1]
    simp [eq_of_beq h2]
  have a2 : ¬ ((vs.any fun x => match x with | .Starred _ _ => true | _ => false) = true) := by
    rw [Bool.not_eq_true, List.any_eq_false]
    intro x hx
    have := List.all_eq_true.mp h3 x hx
    cases x <;> simp_all [notStar]
  rw [if_neg a1, if_neg a2, h4] 
  rw [h4] at h5 h6
  have a3 : ¬ ((xs.length != ts.length || xs.eraseDups.length != xs.length) = true) := by
    simp [eq_of_beq h5, eq_of_beq h6]
  rw [if_neg a3, if_neg (by rw [h7]; exact Bool.false_ne_true), if_neg (by rw [h8]; exact Bool.false_ne_true)]
end
end Dp
end SDp19
set_option maxHeartbeats 4000000
/-! Dp20: raise, try. -/
noncomputable section SDp20
namespace Dp
open PySem PySem.Spec PyProof.Rows L2

/-! ### the exception being handled -/
def Glob.wx (Γ : Glob) (t : Option (Addr × Option (Value × Option Addr))) : Glob := { Γ with exn := t }
section
variable {Γ : Glob} {t : Option (Addr × Option (Value × Option Addr))} {κ : List Addr} {I : Hp}
mutual
theorem Rep.wx : ∀ {v : V} {d : D}, Rep Γ κ I v d → Rep (Γ.wx t) κ I v d
  | _, _, .non => .non
  | _, _, .bl b => .bl b
  | _, _, .int i => .int i
  | _, _, .str s => .str s
  | _, _, .tup h r => .tup h (Reps.wx r)
  | _, _, .lst h r => .lst h (Reps.wx r)
  | _, _, .frz h r => .frz h (Reps.wx r)
  | _, _, .obj b h e k r => .obj b h e k (Reps.wx r)
  | _, _, .ref e => .ref e
  | _, _, .fn e => .fn e
theorem Reps.wx : ∀ {vs : List V} {ds : List D}, Reps Γ κ I vs ds → Reps (Γ.wx t) κ I vs ds
  | _, _, .nil => .nil
  | _, _, .cons r s => .cons (Rep.wx r) (Reps.wx s)
end
theorem FRep.wx {fvs : List (Str × V)} {fs : List (String × D)} (h : FRep Γ κ I fvs fs) : FRep (Γ.wx t) κ I fvs fs := ⟨fun f d e => let ⟨v, a, r⟩ := h.1 f d e; ⟨v, a, r.wx⟩, h.2⟩
theorem SRep.wx {H : Hp} {a : Addr} : ∀ {o : SO}, SRep Γ κ I H a o → SRep (Γ.wx t) κ I H a o
  | .lst ds, ⟨vs, h, r⟩ => ⟨vs, h, r.wx⟩
  | .ins c fs, ⟨dx, fvs, h, r, l⟩ => ⟨dx, fvs, h, r.wx, l⟩
theorem XRep.wx {cls : Value} {dd : Option Addr} {c : String} {ds : List D} (h : XRep Γ κ I cls dd c ds) : XRep (Γ.wx t) κ I cls dd c ds := by
  obtain ⟨h0, h1, h2⟩ := h
  refine ⟨h0, h1, ?_⟩
  rcases h2 with h2 | ⟨d, fvs, vs, e1, e2, e3, e4⟩
  · exact .inl h2
  · exact .inr ⟨d, fvs, vs, e1, e2, e3, e4.wx⟩
variable {O : Addr → Prop} {L : List (Nat × Addr)} {H : Hp} {st : Sto} {σ : L2.St} {ρ : Ev}
theorem Ok.wx (h : Ok Γ O κ L H st) : Ok (Γ.wx t) O κ L H st := ⟨h.nd, h.ap, h.oth, h.len, fun n a o h1 h2 => (h.st n a o h1 h2).wx, h.own⟩
theorem noX_get {j : Nat} {s : Sl} (h : (noX ρ)[j]? = some s) : s = .no ∨ (ρ[j]? = some s ∧ ∀ c fs, s ≠ .exn c fs) := by
  unfold noX at h
  rw [List.getElem?_map] at h
  cases e : ρ[j]? with
  | none => rw [e] at h; cases h
  | some u =>
    rw [e] at h
    cases u <;> simp only [Option.map_some, Option.some.injEq] at h <;> subst h
    · exact .inl rfl
    · exact .inr ⟨rfl, fun c fs z => nomatch z⟩
    · exact .inr ⟨rfl, fun c fs z => nomatch z⟩
    · exact .inl rfl
theorem EnvR.wx (e : EnvR Γ O κ L H σ ρ) : EnvR (Γ.wx t) O κ L H σ (noX ρ) := by
  refine ⟨by rw [e.len]; simp [noX], fun j s hj => ?_, e.lk⟩
  rcases noX_get hj with z | ⟨z, nx⟩
  · subst z; trivial
  · have q := e.sl j s z
    cases s with
    | no => trivial
    | val d => obtain ⟨v, hv, r⟩ := q; exact ⟨v, hv, r.wx⟩
    | own o => obtain ⟨a, m, hv, r⟩ := q; exact ⟨a, m, hv, r.wx⟩
    | exn c fs => exact absurd rfl (nx c fs)
theorem EnvR.unwx (hn : Γ.exn = none) (e : EnvR (Γ.wx t) O κ L H σ ρ) : EnvR Γ O κ L H σ ρ := by
  refine ⟨e.len, fun j s hj => ?_, e.lk⟩
  have q := e.sl j s hj
  cases s with
  | no => trivial
  | val d => obtain ⟨v, hv, r⟩ := q; exact ⟨v, hv, Rep.wx (Γ := Γ.wx t) (t := Γ.exn) r⟩
  | own o => obtain ⟨a, m, hv, r⟩ := q; exact ⟨a, m, hv, SRep.wx (Γ := Γ.wx t) (t := Γ.exn) r⟩
  | exn c fs =>
    show SlX Γ κ (imm O κ L H) σ j c fs
    unfold SlX
    rw [hn]
    trivial
theorem Ok.unwx (h : Ok (Γ.wx t) O κ L H st) : Ok Γ O κ L H st := Ok.wx (Γ := Γ.wx t) (t := Γ.exn) h
end

section
variable {Γ : Glob} {t : Option (Addr × Option (Value × Option Addr))}
theorem fin.unwx {α : Type} {W : XK} {O : Addr → Prop} {κ : List Addr} {L : List (Nat × Addr)} {H : Hp} {r : Res α} {A B : α → Sto → List Addr → Hp → Prop} (h : fin (Γ.wx t) W O κ L H r A) (hk : ∀ a st' κ' H', A a st' κ' H' → B a st' κ' H') : fin Γ W O κ L H r B := by
  cases r with
  | ok a st' => exact fun κ2 H2 n2 o2 => hk _ _ _ _ (h κ2 H2 n2 o2.wx)
  | exc c fs st' => exact fun κ2 H2 cls dd n2 o2 x => h κ2 H2 cls dd n2 o2.wx x.wx
  | stuck => exact h
theorem spD_unwx {F : List D → Sto → Res D} {np : Nat} {vs : List V} {H : Hp} {Q : VK} {E : XK} (h : spD (Γ.wx t) F np vs H Q E) : spD Γ F np vs H Q E := by
  obtain ⟨h0, O, κ, ds, st, o, r, h⟩ := h
  exact ⟨h0, O, κ, ds, st, o.unwx, Reps.wx (Γ := Γ.wx t) (t := Γ.exn) r, h.unwx fun d st' κ' H' q v rv => q v rv.wx⟩
end
section
variable {X : Cx} {Γ : Glob} {W : WX} {S : Stat} {P : Prog} {R : String → List D → Sto → Res D} {k : Nat} {c : SC}
variable {O : Addr → Prop} {κ κ' : List Addr} {L L' : List (Nat × Addr)} {H H' : Hp} {σ σ' : L2.St} {ρ ρ' : Ev} {st st' : Sto} {r : Out} {Z Z' : Ends} {a : Addr} {o : HO} {i : Nat}
/-- C(..), an exception made: its class's address, its fields -/
def tMkX (a : Addr) (flds : List String) (t : TA) : L2.St → Hp → XK → Prop := fun σ H Q => t σ H fun vs H1 => vs.length = flds.length ∧ vs.length ≤ 1000 ∧ (flds = [] → Q (.ref a) none H1) ∧
  (flds ≠ [] → ∀ d fvs, H1 d = none → flds.map (fun f => fvs.lookup (Str.ofString f)) = vs.map some → Q (.ref a) (some d) (upd H1 d (.xd fvs)))
def MkX (X : Cx) (C : String) (a : Addr) (flds : List String) : Prop := ∀ (es : List Expr) (t : TA) (p pos : Pos), PA X es t → (∀ e ∈ es, notStar e = true) → Gl X (Str.ofString C) → ((Str.ofString C) == ("__debug__" : Str)) = false → PMk X (.Call (.Name (Str.ofString C) p) es [] pos) (tMkX a flds t)
/-- what the text tells of exceptions -/
structure UniX (Γ : Glob) (S : Stat) (P : Prog) (k : Nat) (X : Cx) : Prop where
  mkx : ∀ X' : Cx, X'.prog = X.prog → X'.w = X.w → X'.K = X.K → X'.mg = X.mg → X'.base = X.base → X'.calm = true → Room (k + 1) X'.A → ∀ C, S.excs.contains C = true → Γ.isX C = true ∧ MkX X' C (Γ.cls C) (Γ.xfields C)
  exm : ∀ C c, Γ.isX C = true → S.catches.contains c = true → PySem.W.exmOne X.K (.ref (Γ.cls C)) (.ref (Γ.cls c)) = some (P.subx C c)
  nam : ∀ c, S.catches.contains c = true → X.mg (Str.ofString c) = some (.ref (Γ.cls c))
  xf : ∀ C f, Γ.isX C = true → f ∈ Γ.xfields C → XfC X.K (Γ.cls C) ∧ PySem.W.findIn X.K (.ref (Γ.cls C)) (Str.ofString f) = some none
theorem UniX.tr (U : UniX Γ S P k X) (pn : List (Addr × Obj)) (xe : Value → Shared → Prop) : UniX Γ S P k (X.tr pn xe) := ⟨U.mkx, U.exm, U.nam, U.xf⟩
theorem UniX.suite (V : UniX Γ S P k X) (a : Addr) (cls : Value) (d : Option Addr) (pn : List (Addr × Obj)) : UniX (Γ.wx (some (a, some (cls, d)))) S P k (X.suite a pn) := ⟨V.mkx, V.exm, V.nam, V.xf⟩
theorem dS_raise {C : String} {ts : List Tm} (U : Uni Γ S P R k X) (hx : Γ.isX C = true) (hl : ts.length ≤ 1000) (h : dS Γ W (evS P R (.raise C ts)) Z σ H) : tMkX (Γ.cls C) (Γ.xfields C) (dA Γ W (evL P R ts)) σ H fun cls d H' => W cls d σ H' := by
  obtain ⟨O, κ, L, ρ, st, o, e, h⟩ := h
  rw [evS] at h
  refine ⟨O, κ, L, ρ, st, o, e, (h.out e).eqn fun ds st1 he κ1 H1 n1 o1 q vs r => ?_⟩
  have hlen := evL_len ts ρ st st1 ds he
  split at q
  · rename_i hd
    rw [U.px] at hd
    refine ⟨by rw [r.length]; exact hd, by rw [r.length, hlen]; exact hl, fun z => ?_, fun z d fvs hdn hm => ?_⟩
    · have e0 : ds = [] := by rw [z] at hd; exact List.length_eq_zero_iff.mp hd
      exact q κ1 L H1 σ _ _ .refl o1 (e.next n1) ⟨hx, rfl, .inl ⟨z, e0, rfl⟩⟩
    · obtain ⟨n2, o2, m2⟩ := o1.laid (o := .xd fvs) hdn
      exact q κ1 L _ σ _ _ n2.s o2 ((e.next n1).next n2) ⟨hx, rfl, .inr ⟨d, fvs, vs, rfl, cut_some.mpr ⟨m2, upd_same⟩, hm, r.mono n2.pre n2.le⟩⟩
  · exact q.elim

/-! ### try -/
theorem Uni.tr (U : Uni Γ S P R k X) (hc : X.calm = true) (pn : List (Addr × Obj)) (xe : Value → Shared → Prop) : Uni Γ S P R k (X.tr pn xe) :=
  ⟨U.K, U.hu, U.room, U.pf, U.px, U.free, U.con, U.fn, U.fnAt, U.clsV, U.cls, U.meth, U.fld, U.isi, U.objs, fun z => absurd (hc.symm.trans z) (by simp), U.exn0, U.eqm, U.finj, fun z => absurd (hc.symm.trans z) (by simp), U.hln⟩
theorem Uni.suite (U : Uni Γ S P R k X) (hc : X.calm = true) (V : UniX Γ S P k X) {oe : Obj} {cls : Value} {d : Option Addr} (pn : List (Addr × Obj)) (hz : Zc cls d oe) (hf : ∃ vs, oe.data = .fields vs) : Uni (Γ.wx (some (a, some (cls, d)))) S P R k (X.suite a ((a, oe) :: pn)) where
  K := U.K
  hu := U.hu
  room := fun z => absurd (show false = true from z) Bool.false_ne_true
  pf := U.pf
  px := U.px
  free := U.free
  con := fun n hn => by
    obtain ⟨d, u, v, e1, e2, e3, e4⟩ := U.con n hn
    exact ⟨d, u, v, e1, e2, e3, fun κ I => (e4 κ I).wx⟩
  fn := U.fn
  fnAt := fun z => absurd (show false = true from z) Bool.false_ne_true
  clsV := U.clsV
  cls := fun z => absurd (show false = true from z) Bool.false_ne_true
  meth := fun z => absurd (show false = true from z) Bool.false_ne_true
  fld := U.fld
  isi := U.isi
  objs := U.objs
  exn := fun _ => ⟨a, (cls, d), rfl, fun C f e te pos h1 h2 h3 h4 he => by
    obtain ⟨x1, x2⟩ := V.xf C f h2 h3
    exact pe_xf x1 x2 hz hf he (attr_base h4)⟩
  exn0 := fun z => absurd (show false = true from z) Bool.false_ne_true
  eqm := U.eqm
  finj := U.finj
  hrm := fun _ _ => L2H.RoomH.mk (U.room hc).dp (U.room hc).un
  hln := fun hl C h => by
    obtain ⟨g, np, M, ⟨fd, ps, hb, F⟩, hn⟩ := U.hln hl C h
    exact ⟨g, np, M, ⟨fd, ps, hb, F.imp fun vs H Q E q => spD_unwx q⟩, hn⟩
theorem CxOk.tr (C : CxOk c X) (pn : List (Addr × Obj)) (xe : Value → Shared → Prop) : CxOk c (X.tr pn xe) := ⟨C.N, C.sc, C.fn, C.calm, C.nd⟩
def suSC (c : SC) : SC := ⟨c.N, c.sc, c.fn, false⟩
theorem CxOk.suite (C : CxOk c X) (a : Addr) (pn : List (Addr × Obj)) : CxOk (suSC c) (X.suite a pn) := ⟨C.N, C.sc, C.fn, rfl, C.nd⟩
/-- the suite's reading, of the handler's end -/
theorem suite_as {cls : Value} {d : Option Addr} {cx : String} {fs : List D} {h : List Sm} (hn : Γ.exn = none) (o : Ok Γ O κ L H st) (e : EnvR Γ O κ L H σ ρ) (x : XRep Γ κ (imm O κ L H) cls d cx fs)
    (q : finS Γ W O κ L H ((evSs P R h ((noX ρ).set i (.exn cx fs)) st).quiet.bind fun ρ2 st2 => .nx (ρ2.set i .no) st2) Z) :
    dS (Γ.wx (some (a, some (cls, d)))) W0 (evSs P R h) { nx := fun σ' H' => Z.nx (σ'.set i none) H', rt := Z.rt, bk := fun σ' H' => Z.bk (σ'.set i none) H', ct := fun σ' H' => Z.ct (σ'.set i none) H' } (σ.set i (some (.ref a))) H := by
  have e2 : EnvR (Γ.wx (some (a, some (cls, d)))) O κ L H σ (noX ρ) := e.wx
  refine ⟨O, κ, L, (noX ρ).set i (.exn cx fs), st, o.wx, ⟨by simp [e2.len], fun j s hj => ?_, e2.lk⟩, ?_⟩
  · by_cases z : i = j
    · subst z
      have hl : i < ((noX ρ).set i (.exn cx fs)).length := (List.getElem?_eq_some_iff.mp hj).1
      rw [List.length_set] at hl
      rw [List.getElem?_set_self hl] at hj
      cases hj
      exact ⟨List.getElem?_set_self (by rw [e2.len]; exact hl), fun y hy => by cases hy; exact x.wx⟩
    · rw [List.getElem?_set_ne z] at hj
      have w := e2.sl j s hj
      cases s with
      | no => trivial
      | val d => obtain ⟨v, hv, r⟩ := w; exact ⟨v, by rw [List.getElem?_set_ne z]; exact hv, r⟩
      | own so => obtain ⟨b, m2, hv, r⟩ := w; exact ⟨b, m2, by rw [List.getElem?_set_ne z]; exact hv, r⟩
      | exn c' fs' =>
        have w' : SlX (Γ.wx (some (a, some (cls, d)))) κ (imm O κ L H) σ j c' fs' := w
        exact SlX.mono (σ' := σ.set i (some (.ref a))) List.prefix_rfl Le.refl (List.getElem?_set_ne z) w'
  · cases hr : evSs P R h ((noX ρ).set i (.exn cx fs)) st with
    | nx ρ2 st2 =>
      rw [hr] at q
      intro κ' L' H' σ' n' o' e'
      refine q κ' L' H' (σ'.set i none) n' o'.unwx ?_
      have e3 := EnvR.unwx hn e'
      refine ⟨by simp [e3.len], fun j s hj => ?_, e3.lk⟩
      by_cases z : i = j
      · subst z
        have hl : i < (ρ2.set i Sl.no).length := (List.getElem?_eq_some_iff.mp hj).1
        rw [List.length_set] at hl
        rw [List.getElem?_set_self hl] at hj
        cases hj
        trivial
      · rw [List.getElem?_set_ne z] at hj
        have w := e3.sl j s hj
        cases s with
        | no => trivial
        | val d => obtain ⟨v, hv, r⟩ := w; exact ⟨v, by rw [List.getElem?_set_ne z]; exact hv, r⟩
        | own so => obtain ⟨b, m2, hv, r⟩ := w; exact ⟨b, m2, by rw [List.getElem?_set_ne z]; exact hv, r⟩
        | exn c' fs' =>
          have w' : SlX Γ κ' (imm O κ' L' H') σ' j c' fs' := w
          exact SlX.mono (σ' := σ'.set i none) List.prefix_rfl Le.refl (List.getElem?_set_ne z) w'
    | ret v st2 =>
      rw [hr] at q
      intro κ' L' H' w n' o' r'
      exact q κ' L' H' w n' o'.unwx (Rep.wx (Γ := Γ.wx (some (a, some (cls, d)))) (t := Γ.exn) r')
    | exc _ _ _ _ => rw [hr] at q; exact q.elim
    | stuck => rw [hr] at q; exact q.elim
theorem suite_only {cls : Value} {d : Option Addr} {h : List Sm} (hn : Γ.exn = none) (o : Ok Γ O κ L H st) (e : EnvR Γ O κ L H σ ρ)
    (q : finS Γ W O κ L H (evSs P R h (noX ρ) st).quiet Z) : dS (Γ.wx (some (a, some (cls, d)))) W0 (evSs P R h) Z σ H := by
  have e2 : EnvR (Γ.wx (some (a, some (cls, d)))) O κ L H σ (noX ρ) := e.wx
  refine ⟨O, κ, L, noX ρ, st, o.wx, e2, ?_⟩
  cases hr : evSs P R h (noX ρ) st with
  | nx ρ2 st2 =>
    rw [hr] at q
    intro κ' L' H' σ' n' o' e'
    exact q κ' L' H' σ' n' o'.unwx (EnvR.unwx hn e')
  | ret v st2 =>
    rw [hr] at q
    intro κ' L' H' w n' o' r'
    exact q κ' L' H' w n' o'.unwx (Rep.wx (Γ := Γ.wx (some (a, some (cls, d)))) (t := Γ.exn) r')
  | exc _ _ _ _ => rw [hr] at q; exact q.elim
  | stuck => rw [hr] at q; exact q.elim
theorem dS_tryAs {b h : List Sm} {cn : String} (V : UniX Γ S P k X) (hn : Γ.exn = none) (hc : S.catches.contains cn = true) (q : dS Γ W (evS P R (.tryx b cn (some i) h)) Z σ H) :
    dS Γ (wAs X.K (.ref (Γ.cls cn)) i (fun a cls d => dS (Γ.wx (some (a, some (cls, d)))) W0 (evSs P R h)) W Z) (evSs P R b) Z σ H := by
  obtain ⟨O, κ, L, ρ, st, o, e, q⟩ := q
  rw [evS] at q
  refine ⟨O, κ, L, ρ, st, o, e, ?_⟩
  cases hr : evSs P R b ρ st with
  | nx ρ2 st2 => rw [hr] at q; exact q
  | ret v st2 => rw [hr] at q; exact q
  | stuck => rw [hr] at q; exact q
  | exc cx fs ρ1 st1 =>
    rw [hr] at q
    dsimp only at q
    intro κ' L' H' σ' cls dd n' o' e' x'
    obtain ⟨x0, x1, x2⟩ := id x'
    refine ⟨P.subx cx cn, by rw [x1]; exact V.exm cx cn x0 hc, fun hb a ha => ?_, fun hb => ?_⟩
    · rw [if_pos hb] at q
      exact suite_as hn o' e' x' (finS.step n' q)
    · rw [hb] at q
      exact q κ' L' H' σ' cls dd n' o' e' x'
theorem dS_tryOnly {b h : List Sm} {cn : String} (V : UniX Γ S P k X) (hn : Γ.exn = none) (hc : S.catches.contains cn = true) (q : dS Γ W (evS P R (.tryx b cn none h)) Z σ H) :
    dS Γ (wOnly X.K (.ref (Γ.cls cn)) (fun a cls d => dS (Γ.wx (some (a, some (cls, d)))) W0 (evSs P R h)) W Z) (evSs P R b) Z σ H := by
  obtain ⟨O, κ, L, ρ, st, o, e, q⟩ := q
  rw [evS] at q
  refine ⟨O, κ, L, ρ, st, o, e, ?_⟩
  cases hr : evSs P R b ρ st with
  | nx ρ2 st2 => rw [hr] at q; exact q
  | ret v st2 => rw [hr] at q; exact q
  | stuck => rw [hr] at q; exact q
  | exc cx fs ρ1 st1 =>
    rw [hr] at q
    dsimp only at q
    intro κ' L' H' σ' cls dd n' o' e' x'
    obtain ⟨x0, x1, x2⟩ := id x'
    refine ⟨P.subx cx cn, by rw [x1]; exact V.exm cx cn x0 hc, fun hb a ha => ?_, fun hb => ?_⟩
    · rw [if_pos hb] at q
      exact suite_only hn o' e' (finS.step n' q)
    · rw [hb] at q
      exact q κ' L' H' σ' cls dd n' o' e' x'
end
end Dp
end SDp20
set_option maxHeartbeats 4000000
/-! Dp21: statements checked against their small terms; what they do. -/
noncomputable section SDp21
namespace Dp
open PySem PySem.Spec PyProof.Rows L2

section
variable (S : Stat)
def okFr (t : Tm) : Bool := isNew t
/-- name = v: a swapped store is one of a comprehension -/
def okSw (c : SC) (x : Str) (px : Pos) (v : Expr) : Bool := notSD v
def notLC : Expr → Bool
  | .ListComp _ _ _ _ => false
  | _ => true
def okKey (op : Bop) (o : Operator) : Bool := match op, o with
  | .add, .Add => true
  | .sub, .Sub => true
  | _, _ => false
def isGhost : Sm → Bool
  | .frz _ => true
  | .shr _ => true
  | .kill _ => true
  | _ => false
/-- new lists where new lists are told -/
def newsO : List Bool → List Tm → Bool
  | [], [] => true
  | o :: os, t :: ts => (!o || isNew t) && newsO os ts
  | _, _ => false
/-- such a row stored by way of a tuple -/
def okParT (c : SC) (is : List Nat) (os : List Bool) (es : List Tm) (s : Stmt) : Bool := match s with
  | .Assign [.Tuple ts k tp] (.Tuple vs kv pv) p => okTg c (.many is) (.Tuple ts k tp) && okL S c es vs && newsO os es && swNone c.sc ts vs && decide (is.length = os.length) && decide (is.length ≤ 1000)
  | _ => false
mutual
def okS (c : SC) : Sm → Stmt → Bool
  | .asg i e, s => (match s with
    | .Assign [.Name x px] v p => okSlot c i x && okE S c e v && notSD v
    | _ => false)
  | .own i e, s => (match s with
    | .Assign [.Name x px] v p => okSlot c i x && okE S c e v && notSD v && okFr e
    | _ => false)
  | .asgT is e, s => (match s with
    | .Assign [.Tuple ts k tp] v p => okTg c (.many is) (.Tuple ts k tp) && okE S c e v && notSD v && notLC v && (match v with
      | .Tuple vs _ _ => swNone c.sc ts vs
      | _ => true)
    | _ => false)
  | .par [i, j] es, s => (match s with
    | .Assign [.Tuple [.Name x px, .Name y py] kt tp] (.Tuple [a, b] k2 p2) p => c.calm && okSlot c i x && okSlot c j y && decide (i ≠ j) && decide (c.sc.names.lookup x = some .local) && decide (c.sc.names.lookup y = some .local) && okL S c es [a, b] && swSome c.sc [.Name x px, .Name y py] [a, b] [x, y]
    | _ => false)
  | .par [i, j, l] es, s => (match s with
    | .Assign [.Tuple [.Name x px, .Name y py, .Name z pz] kt tp] (.Tuple [a, b, d] k2 p2) p => c.calm && okSlot c i x && okSlot c j y && okSlot c l z && decide (i ≠ j) && decide (i ≠ l) && decide (j ≠ l) && decide (c.sc.names.lookup x = some .local) && decide (c.sc.names.lookup y = some .local) && decide (c.sc.names.lookup z = some .local) && okL S c es [a, b, d] && swSome c.sc [.Name x px, .Name y py, .Name z pz] [a, b, d] [x, y, z]
    | _ => false)
  | .parO [i, j] os es, s => (match s with
    | .Assign [.Tuple [.Name x px, .Name y py] kt tp] (.Tuple [a, b] k2 p2) p => c.calm && okSlot c i x && okSlot c j y && decide (i ≠ j) && decide (c.sc.names.lookup x = some .local) && decide (c.sc.names.lookup y = some .local) && okL S c es [a, b] && newsO os es && swSome c.sc [.Name x px, .Name y py] [a, b] [x, y]
    | _ => false) || okParT S c [i, j] os es s
  | .parO [i, j, l] os es, s => (match s with
    | .Assign [.Tuple [.Name x px, .Name y py, .Name z pz] kt tp] (.Tuple [a, b, d] k2 p2) p => c.calm && okSlot c i x && okSlot c j y && okSlot c l z && decide (i ≠ j) && decide (i ≠ l) && decide (j ≠ l) && decide (c.sc.names.lookup x = some .local) && decide (c.sc.names.lookup y = some .local) && decide (c.sc.names.lookup z = some .local) && okL S c es [a, b, d] && newsO os es && swSome c.sc [.Name x px, .Name y py, .Name z pz] [a, b, d] [x, y, z]
    | _ => false) || okParT S c [i, j, l] os es s
  | .parO is os es, s => okParT S c is os es s
  | .par _ _, _ => false
  | .app i e, s => (match s with
    | .Expr (.Call (.Attribute (.Name x xp) m ap) [v] [] cp) p => okVar c i x && decide (m = Str.ofString "append") && okE S c e v && notStar v && decide (ap.endLine = cp.line)
    | _ => false)
  | .ext i e, s => (match s with
    | .Expr (.Call (.Attribute (.Name x xp) m ap) [v] [] cp) p => okVar c i x && decide (m = Str.ofString "extend") && okE S c e v && notStar v && decide (ap.endLine = cp.line)
    | _ => false)
  | .seti i e v, s => (match s with
    | .Assign [.Subscript (.Name x xp) ix sp] w p => okVar c i x && okE S c e ix && isPlainSlice ix && okE S c v w && notSD w
    | _ => false)
  | .setf i f e, s => (match s with
    | .Assign [.Attribute (.Name x xp) g ap] w p => okVar c i x && decide (g = Str.ofString f) && okE S c e w && notSD w
    | _ => false)
  | .aug i op e, s => (match s with
    | .AugAssign (.Name x xp) o w p => okSlot c i x && okKey op o && okE S c e w
    | _ => false)
  | .ex e, s => (match s with
    | .Expr v p => okE S c e v && notSD v && notLC v
    | _ => false)
  | .pass, s => (match s with
    | .Pass _ => true
    | .Expr (.Constant (.str _) _ _) _ => true
    | _ => false)
  | .cond t a b, s => (match s with
    | .If e p q _ => okE S c t e && okSs c a p && okSs c b q
    | _ => false)
  | .whil t b, s => (match s with
    | .While e p [] _ => c.calm && okE S c t e && okSs c b p
    | _ => false)
  | .loop tg it b, s => (match s with
    | .For t i p [] _ => c.calm && tgOk tg it && okI S c it i && notSetE i && okTg c tg t && okSs c b p
    | _ => false)
  | .ret e, s => (match s with
    | .Return (some v) _ => okE S c e v
    | _ => false)
  | .retN, s => (match s with
    | .Return none _ => true
    | _ => false)
  | .raise C args, s => (match s with
    | .Raise (some (.Call (.Name x p) es [] cp)) none _ => c.calm && decide (x = Str.ofString C) && okGl c x && S.excs.contains C && okL S c args es && decide (args.length ≤ 1000)
    | _ => false)
  | .tryx b cn (some i) h, s => (match s with
    | .Try body [.ExceptHandler (some (.Name x np)) (some n) (s0 :: su) hp] [] [] p => (c.calm && !S.ini) && okSs c b body && decide (x = Str.ofString cn) && okGl c x && S.catches.contains cn && decide (c.N[i]? = some n) && decide (c.sc.names.lookup n = some .local) && okSs (suSC c) h (s0 :: su)
    | _ => false)
  | .tryx b cn none h, s => (match s with
    | .Try body [.ExceptHandler (some (.Name x np)) none (s0 :: su) hp] [] [] p => (c.calm && !S.ini) && okSs c b body && decide (x = Str.ofString cn) && okGl c x && S.catches.contains cn && okSs (suSC c) h (s0 :: su)
    | _ => false)
  | .frz _, _ => false
  | .shr _, _ => false
  | .kill _, _ => false
def okSs (c : SC) : List Sm → List Stmt → Bool
  | [], ss => ss.isEmpty
  | s :: r, ss => if isGhost s then okSs c r ss else (match ss with
    | st :: ss => okS c s st && okSs c r ss
    | [] => false)
end
end

/-- a context of statements -/
structure CxS (c : SC) (X : Cx) : Prop extends CxOk c X where
  kind : X.env.scope.kind = .function
  stack : X.stack = X.env :: X.outer
  frame : X.env.frame = some X.env.locals
  owns : X.calm = true → PassesOwn (model X.prog X.w) X.A X.env X.xe
section
variable {X : Cx} {Γ : Glob} {W : WX} {S : Stat} {P : Prog} {R : String → List D → Sto → Res D} {k : Nat} {c : SC}
theorem takes_no {X : Cx} : Takes X W0 := fun _ _ x => by
  obtain ⟨_, _, _, _, _, _, _, _, _, _, _, _, _, _, _, _, z⟩ := x
  exact z.elim
/-- name = v -/
theorem ps_asgD {i : Nat} {e : Tm} {x : Str} {px p : Pos} {v : Expr} {t : TE} (C : CxS c X) (U : Uni Γ S P R k X) (hx : okSlot c i x = true) (hn : notSD v = true) (he : PE X v t)
    (hsw : swB X.env.scope v x px = true → swapsWith v (some (.Name x px)) p.line X.env = pure true → X.env.scope.names.lookup x = some .local → PS X (.Assign [.Name x px] v p) (tAsg t (gName i))) : PS X (.Assign [.Name x px] v p) (tAsg t (gName i)) := by
  obtain ⟨h1, h2, h3⟩ := slot_of C.toCxOk hx
  cases hb : swB X.env.scope v x px with
  | false => exact ps_set (by rw [C.N]; exact C.nd) h1 h2 he (by rw [sw_of C.kind hn, hb]) h3
  | true =>
    refine hsw hb (by rw [sw_of C.kind hn, hb]) ?_
    unfold swB at hb
    cases v <;> try (cases hb; done)
    case ListComp a b s lp =>
      simp only [Bool.and_eq_true] at hb
      exact eq_of_beq hb.1.1
    case SetComp => cases hn
    case DictComp => cases hn
theorem set_sw {v : Expr} {o i : Expr} {sp : Pos} {l : Nat} {env : Env} (h : notSD v = true) : swapsWithSole [.Subscript o i sp] v l env = pure false := by
  cases v <;> first | rfl | (cases h; done)
theorem fld_sw {v : Expr} {o : Expr} {f : Str} {sp : Pos} {l : Nat} {env : Env} (h : notSD v = true) : swapsWith v (some (.Attribute o f sp)) l env = pure false := by
  cases v <;> first | rfl | (cases h; done)
theorem tup_sw {v : Expr} {ts : List Expr} {k : Nat} {sp : Pos} {l : Nat} {env : Env} (h : notSD v = true) : swapsWithSole [.Tuple ts k sp] v l env = pure false := by
  cases v <;> first | rfl | (cases h; done)
theorem ex_sw {v : Expr} {l : Nat} {env : Env} (h : notSD v = true) (h2 : notLC v = true) : swapsWith v none l env = pure false := by
  cases v <;> first | rfl | (cases h; done) | (cases h2; done)
theorem dE_comp {tg : Tg} {it el : Tm} {cond : Option Tm} : True := trivial
end

section
variable {Γ : Glob} {S : Stat} {P : Prog} {R : String → List D → Sto → Res D} {k : Nat}
/-- a comprehension's two roads -/
theorem sComp {tg : Tg} {it el : Tm} {cond : Option Tm} {c : SC} {X : Cx} {W : WX} {v : Expr} (h : okE S c (.comp tg it cond el) v = true) (C : CxOk c X) (U : Uni Γ S P R k X) (tk : Takes X W) :
    PE X v (tComp Γ W P R tg it cond el) ∧ ∀ {y : Str} {j : Nat} {py spos : Pos}, X.N[j]? = some y → X.env.scope.names.lookup y = some .local → swapsWith v (some (.Name y py)) spos.line X.env = pure true →
        PS X (.Assign [.Name y py] v spos) (tAsg (tComp Γ W P R tg it cond el) (gName j)) := by
  unfold okE at h
  split at h
  · simp only [Bool.and_eq_true, decide_eq_true_eq] at h
    obtain ⟨⟨⟨⟨⟨⟨⟨⟨h0, h1⟩, h2⟩, h3⟩, h4⟩, h5⟩, h6⟩, h7⟩, h8⟩ := h
    refine pe_compG C U (C.calm.trans h0) (sI it h2 h1 h6 C U tk) h3 h4 h5 h6 (fun X' C' U' tk' => sE el h7 C' U' tk') fun X' C' U' tk' => ?_
    split at h8
    · cases cond with
      | none =>
        refine ⟨fun pins s σ H Q I q => pts_nil.run pins s σ H Q I ?_⟩
        obtain ⟨O, κ, L, ρ, st, o, e, q⟩ := q
        rw [evC] at q
        exact q κ H .refl o
      | some _ => cases h8
    · exact pts_one (sC cond h8 C' U' tk')
    · cases h8
  · cases h
theorem swB_comp {sc : Scope} {v : Expr} {x : Str} {px : Pos} {c : SC} {e : Tm} (h : swB sc v x px = true) (hn : notSD v = true) (ho : okE S c e v = true) : ∃ tg it cond el, e = .comp tg it cond el := by
  cases v <;> try (cases h; done)
  case ListComp a b s lp => 
    cases e <;> try (simp [okE] at ho; done)
    case comp tg it cond el => exact ⟨tg, it, cond, el, rfl⟩
  case SetComp => cases hn
  case DictComp => cases hn
theorem sF : ∀ (e : Tm) {c : SC} {X : Cx} {W : WX} {v : Expr}, okFr e = true → okE S c e v = true → CxOk c X → Uni Γ S P R k X → Takes X W → PE X v (dF Γ W (evE P R e))
  | .lst ts, c, X, W, v, hf, h, C, U, tk => by
    unfold okE at h
    split at h
    · simp only [Bool.and_eq_true, decide_eq_true_eq] at h
      exact pf_lst h.2 (sL ts h.1 C U tk)
    · cases h
  | .comp tg it cond el, c, X, W, v, hf, h, C, U, tk => (sComp h C U tk).1.weak fun σ H Q q => tComp_dF q
  | .var _, _, _, _, _, hf, _, _, _, _ => by cases hf
  | .con _, _, _, _, _, hf, _, _, _, _ => by cases hf
  | .glo _, _, _, _, _, hf, _, _, _, _ => by cases hf
  | .fnv _, _, _, _, _, hf, _, _, _, _ => by cases hf
  | .bin op a b, c, X, W, v, hf, h, C, U, tk => by
    have hop : op = .mul := by
      cases op <;> first | rfl | (cases a <;> cases hf)
    subst hop
    unfold okE at h
    split at h
    · simp only [Bool.and_eq_true] at h
      rw [okOp_eq h.1.1]
      exact (pe_op opMulF (sE a h.1.2 C U tk) (sE b h.2 C U tk)).weak fun σ H Q q => dF_op (by simpa only [evE] using q)
    · cases h
  | .neg _, _, _, _, _, hf, _, _, _, _ => by cases hf
  | .not _, _, _, _, _, hf, _, _, _, _ => by cases hf
  | .cmp _ _ _, _, _, _, _, hf, _, _, _, _ => by cases hf
  | .chain _ _ _ _ _, _, _, _, _, hf, _, _, _, _ => by cases hf
  | .and _ _, _, _, _, _, hf, _, _, _, _ => by cases hf
  | .or _ _, _, _, _, _, hf, _, _, _, _ => by cases hf
  | .ite _ _ _, _, _, _, _, hf, _, _, _, _ => by cases hf
  | .tup _, _, _, _, _, hf, _, _, _, _ => by cases hf
  | .idx _ _, _, _, _, _, hf, _, _, _, _ => by cases hf
  | .slc _ _ _, _, _, _, _, hf, _, _, _, _ => by cases hf
  | .rev _, _, _, _, _, hf, _, _, _, _ => by cases hf
  | .fld _ _, _, _, _, _, hf, _, _, _, _ => by cases hf
  | .call _ _, _, _, _, _, hf, _, _, _, _ => by cases hf
  | .callv _ _, _, _, _, _, hf, _, _, _, _ => by cases hf
  | .make _ _, _, _, _, _, hf, _, _, _, _ => by cases hf
  | .meth _ _ _, _, _, _, _, hf, _, _, _, _ => by cases hf
  | .bi f args, c, X, W, v, hf, h, C, U, tk => by
    have hop : f = .list := by
      cases f <;> first | rfl | cases hf
    subst hop
    unfold okE at h
    split at h
    · rw [Bool.and_eq_true, Bool.and_eq_true, Bool.and_eq_true, Bool.not_eq_true'] at h
      obtain ⟨⟨⟨h0, h1⟩, h2⟩, h3⟩ := h
      exact pf_list C U h1 h2 h3 (sL args h2 C U tk)
    · cases h
  | .isi _ _, _, _, _, _, hf, _, _, _, _ => by cases hf
  | .olen _, _, _, _, _, hf, _, _, _, _ => by cases hf
  | .oix _ _, _, _, _, _, hf, _, _, _, _ => by cases hf
  | .xfld _ _, _, _, _, _, hf, _, _, _, _ => by cases hf
  | .ocmp _ _ _, _, _, _, _, hf, _, _, _, _ => by cases hf
  | .lenm _, _, _, _, _, hf, _, _, _, _ => by cases hf
  | .dic _ _, _, _, _, _, hf, _, _, _, _ => by cases hf
  | .tcmp _ _ _, _, _, _, _, hf, _, _, _, _ => by cases hf
  | .range _, _, _, _, _, hf, _, _, _, _ => by cases hf
  | .enum _, _, _, _, _, hf, _, _, _, _ => by cases hf
  | .zip _, _, _, _, _, hf, _, _, _, _ => by cases hf
  | .seq _, _, _, _, _, hf, _, _, _, _ => by cases hf

theorem okFr_new {t : Tm} (h : isNew t = true) : okFr t = true := h
theorem sLo : ∀ (is : List Nat) (os : List Bool) (ts : List Tm) {c : SC} {X : Cx} {Γ : Glob} {W : WX} {es : List Expr}, is.length = os.length → okL S c ts es = true → newsO os ts = true → CxOk c X → Uni Γ S P R k X → Takes X W → PA X es (dAo Γ W is os (evL P R ts))
  | [], [], [], c, X, Γ, W, es, _, h, _, C, U, tk => by
    rw [okL] at h
    rw [List.isEmpty_iff.mp h]
    exact pa_nil.weak fun σ H Q q => dAo_nil q
  | [], [], _ :: _, _, _, _, _, _, _, _, h, _, _, _ => by cases h
  | _ :: _, _ :: _, [], _, _, _, _, _, _, _, h, _, _, _ => by cases h
  | _ :: _, [], _, _, _, _, _, _, hl, _, _, _, _, _ => by cases hl
  | [], _ :: _, _, _, _, _, _, _, hl, _, _, _, _, _ => by cases hl
  | _ :: _, _ :: _, t :: ts, c, X, Γ, W, [], _, h, _, C, U, tk => by rw [okL] at h; cases h
  | i :: is, false :: os, t :: ts, c, X, Γ, W, e :: es, hl, h, hn, C, U, tk => by
    rw [okL] at h
    simp only [Bool.and_eq_true] at h
    exact (pa_cons (sE t h.1.1 C U tk) (sLo is os ts (by simpa using hl) h.2 (Bool.and_eq_true_iff.mp hn).2 C U tk) (star_cons h.1.2)).weak fun σ H Q q => dAo_val q
  | i :: is, true :: os, t :: ts, c, X, Γ, W, e :: es, hl, h, hn, C, U, tk => by
    rw [okL] at h
    simp only [Bool.and_eq_true] at h
    have hn' := Bool.and_eq_true_iff.mp hn
    have ht : isNew t = true := by simpa using hn'.1
    exact (pa_cons (sF t (okFr_new ht) h.1.1 C U tk) (sLo is os ts (by simpa using hl) h.2 hn'.2 C U tk) (star_cons h.1.2)).weak fun σ H Q q => dAo_own ht q
theorem newsO_len : ∀ {os : List Bool} {ts : List Tm}, newsO os ts = true → os.length = ts.length
  | [], [], _ => rfl
  | _ :: os, _ :: ts, h => by
    have := newsO_len (Bool.and_eq_true_iff.mp h).2
    simp [this]
  | [], _ :: _, h => by cases h
  | _ :: _, [], h => by cases h
theorem sParT {is : List Nat} {os : List Bool} {es : List Tm} {c : SC} {X : Cx} {Γ : Glob} {W : WX} {st : Stmt} (h : okParT S c is os es st = true) (C : CxS c X) (U : Uni Γ S P R k X) (tk : Takes X W) : PS X st (dS Γ W (evS P R (.parO is os es))) := by
  unfold okParT at h
  split at h
  · rename_i ts kk tp vs kv pv p
    simp only [Bool.and_eq_true, decide_eq_true_eq] at h
    obtain ⟨⟨⟨⟨⟨h1, h2⟩, h3⟩, h4⟩, h5⟩, h6⟩ := h
    have nd : is.Nodup := by
      unfold okTg at h1
      simp only [Bool.and_eq_true, decide_eq_true_eq] at h1
      exact h1.2
    refine (ps_asg (pe_tup (sLo is os es h5 h2 h3 C.toCxOk U tk)) (pg_of C.toCxOk h1) (tup_sw (show notSD (.Tuple vs kv pv) = true from rfl)) (sw_none C.kind (by rw [C.sc]; exact h4))).weak fun D σ H q => tAsgT_of h6 (dS_parO nd q) fun _ _ k z => z.imp k
  · cases h
mutual
theorem sS : ∀ (s : Sm) {c : SC} {X : Cx} {Γ : Glob} {W : WX} {st : Stmt}, okS S c s st = true → CxS c X → Uni Γ S P R k X → UniX Γ S P k X → Takes X W → PS X st (dS Γ W (evS P R s))
  | .asg i e, c, X, Γ, W, st, h, C, U, V, tk => by
    unfold okS at h
    split at h
    · rename_i x px v p
      simp only [Bool.and_eq_true] at h
      obtain ⟨⟨h1, h2⟩, h3⟩ := h
      refine (ps_asgD (e := e) C U h1 h3 (sE e h2 C.toCxOk U tk) fun hb hs hl => ?_).weak fun D σ H q => dS_asg q
      obtain ⟨tg, it, cond, el, rfl⟩ := swB_comp hb h3 h2
      exact ((sComp h2 C.toCxOk U tk).2 (slot_of C.toCxOk h1).1 hl hs).weak fun D σ H q => tComp_dE q
    · cases h
  | .own i e, c, X, Γ, W, st, h, C, U, V, tk => by
    unfold okS at h
    split at h
    · rename_i x px v p
      simp only [Bool.and_eq_true] at h
      obtain ⟨⟨⟨h1, h2⟩, h3⟩, h4⟩ := h
      refine (ps_asgD (e := e) C U h1 h3 (sF e h4 h2 C.toCxOk U tk) fun hb hs hl => ?_).weak fun D σ H q => dS_own q
      obtain ⟨tg, it, cond, el, rfl⟩ := swB_comp hb h3 h2
      exact ((sComp h2 C.toCxOk U tk).2 (slot_of C.toCxOk h1).1 hl hs).weak fun D σ H q => tComp_dF q
    · cases h
  | .asgT is e, c, X, Γ, W, st, h, C, U, V, tk => by
    unfold okS at h
    split at h
    · rename_i ts kk tp v p
      simp only [Bool.and_eq_true] at h
      obtain ⟨⟨⟨⟨h1, h2⟩, h3⟩, h4⟩, h5⟩ := h
      refine (ps_asg (sE e h2 C.toCxOk U tk) (pg_of C.toCxOk h1) (tup_sw h3) ?_).weak fun D σ H q => dS_asgT U.K q
      split at h5
      · exact sw_none C.kind (by rw [C.sc]; exact h5)
      · rename_i hv
        cases v <;> first | rfl | exact absurd rfl (hv _ _ _)
    · cases h
  | .par [i, j] es, c, X, Γ, W, st, h, C, U, V, tk => by
    unfold okS at h
    split at h
    · simp only [Bool.and_eq_true, decide_eq_true_eq] at h
      obtain ⟨⟨⟨⟨⟨⟨⟨h0, h1⟩, h2⟩, h3⟩, h4⟩, h5⟩, h6⟩, h7⟩ := h
      exact (ps_par (C.calm.trans h0) (by rw [C.N]; exact C.nd) (slot_of C.toCxOk h1).1 (slot_of C.toCxOk h2).1 h3 (by rw [C.sc]; exact h4) (by rw [C.sc]; exact h5) (sL es h6 C.toCxOk U tk) (sw_some C.kind (by rw [C.sc]; exact h7))).weak fun D σ H q => dS_par2 q
    · cases h
  | .par [i, j, l] es, c, X, Γ, W, st, h, C, U, V, tk => by
    unfold okS at h
    split at h
    · simp only [Bool.and_eq_true, decide_eq_true_eq] at h
      obtain ⟨⟨⟨⟨⟨⟨⟨⟨⟨⟨⟨h0, h1⟩, h2⟩, h3⟩, h4⟩, h5⟩, h6⟩, h7⟩, h8⟩, h9⟩, h10⟩, h11⟩ := h
      exact (ps_par3 (C.calm.trans h0) (by rw [C.N]; exact C.nd) (slot_of C.toCxOk h1).1 (slot_of C.toCxOk h2).1 (slot_of C.toCxOk h3).1 h4 h5 h6 (by rw [C.sc]; exact h7) (by rw [C.sc]; exact h8) (by rw [C.sc]; exact h9) (sL es h10 C.toCxOk U tk) (sw_some C.kind (by rw [C.sc]; exact h11))).weak fun D σ H q => dS_par3 q
    · cases h
  | .par [] es, c, X, Γ, W, st, h, C, U, V, tk => by unfold okS at h; cases h
  | .par [_] es, c, X, Γ, W, st, h, C, U, V, tk => by unfold okS at h; cases h
  | .par (_ :: _ :: _ :: _ :: _) es, c, X, Γ, W, st, h, C, U, V, tk => by unfold okS at h; cases h
  | .parO [i, j] os es, c, X, Γ, W, st, h, C, U, V, tk => by
    unfold okS at h
    rcases Bool.or_eq_true_iff.mp h with h | h
    rotate_left
    · exact sParT h C U tk
    split at h
    · simp only [Bool.and_eq_true, decide_eq_true_eq] at h
      obtain ⟨⟨⟨⟨⟨⟨⟨⟨h0, h1⟩, h2⟩, h3⟩, h4⟩, h5⟩, h6⟩, h8⟩, h7⟩ := h
      have hl : ([i, j] : List Nat).length = os.length := by rw [newsO_len h8, (okL_len h6).1]; rfl
      exact (ps_par (C.calm.trans h0) (by rw [C.N]; exact C.nd) (slot_of C.toCxOk h1).1 (slot_of C.toCxOk h2).1 h3 (by rw [C.sc]; exact h4) (by rw [C.sc]; exact h5) (sLo [i, j] os es hl h6 h8 C.toCxOk U tk) (sw_some C.kind (by rw [C.sc]; exact h7))).weak fun D σ H q => tPar_of (dS_parO (by simp [h3]) q) fun _ _ k z => z.imp k
    · cases h
  | .parO [i, j, l] os es, c, X, Γ, W, st, h, C, U, V, tk => by
    unfold okS at h
    rcases Bool.or_eq_true_iff.mp h with h | h
    rotate_left
    · exact sParT h C U tk
    split at h
    · simp only [Bool.and_eq_true, decide_eq_true_eq] at h
      obtain ⟨⟨⟨⟨⟨⟨⟨⟨⟨⟨⟨⟨h0, h1⟩, h2⟩, h3⟩, h4⟩, h5⟩, h6⟩, h7⟩, h8⟩, h9⟩, h10⟩, h12⟩, h11⟩ := h
      have hl : ([i, j, l] : List Nat).length = os.length := by rw [newsO_len h12, (okL_len h10).1]; rfl
      exact (ps_par3 (C.calm.trans h0) (by rw [C.N]; exact C.nd) (slot_of C.toCxOk h1).1 (slot_of C.toCxOk h2).1 (slot_of C.toCxOk h3).1 h4 h5 h6 (by rw [C.sc]; exact h7) (by rw [C.sc]; exact h8) (by rw [C.sc]; exact h9) (sLo [i, j, l] os es hl h10 h12 C.toCxOk U tk) (sw_some C.kind (by rw [C.sc]; exact h11))).weak fun D σ H q => tPar3_of (dS_parO (by simp [h4, h5, h6]) q) fun _ _ k z => z.imp k
    · cases h
  | .parO [] _ es, c, X, Γ, W, st, h, C, U, V, tk => by unfold okS at h; exact sParT h C U tk
  | .parO [_] _ es, c, X, Γ, W, st, h, C, U, V, tk => by unfold okS at h; exact sParT h C U tk
  | .parO (_ :: _ :: _ :: _ :: _) _ es, c, X, Γ, W, st, h, C, U, V, tk => by unfold okS at h; exact sParT h C U tk
  | .app i e, c, X, Γ, W, st, h, C, U, V, tk => by
    unfold okS at h
    split at h
    · rename_i x xp m ap v cp p
      simp only [Bool.and_eq_true, decide_eq_true_eq] at h
      obtain ⟨⟨⟨⟨h1, h2⟩, h3⟩, h4⟩, h5⟩ := h
      obtain ⟨v1, v2, v3, v4⟩ := var_of C.toCxOk h1
      rw [h2]
      refine (ps_expr (pe_bm F.plainAttrs_list F.slot_list_append type_list_append mt_append (pe_var v1 v2 v3 v4) (pa_cons (sE e h3 C.toCxOk U tk) pa_nil (star_cons h4)) rfl ?_ (by rw [h5]; exact beq_self_eq_true _) (star_cons h4) rfl) rfl).weak fun D σ H q => dS_app q
      rw [star_cons h4]; rfl
    · cases h
  | .ext i e, c, X, Γ, W, st, h, C, U, V, tk => by
    unfold okS at h
    split at h
    · rename_i x xp m ap v cp p
      simp only [Bool.and_eq_true, decide_eq_true_eq] at h
      obtain ⟨⟨⟨⟨h1, h2⟩, h3⟩, h4⟩, h5⟩ := h
      obtain ⟨v1, v2, v3, v4⟩ := var_of C.toCxOk h1
      rw [h2]
      refine (ps_expr (pe_bm F.plainAttrs_list F.slot_list_extend F.type_list_extend mt_extend (pe_var v1 v2 v3 v4) (pa_cons (sE e h3 C.toCxOk U tk) pa_nil (star_cons h4)) rfl ?_ (by rw [h5]; exact beq_self_eq_true _) (star_cons h4) rfl) rfl).weak fun D σ H q => dS_ext q
      rw [star_cons h4]; rfl
    · cases h
  | .seti i e v, c, X, Γ, W, st, h, C, U, V, tk => by
    unfold okS at h
    split at h
    · rename_i x xp ix sp w p
      simp only [Bool.and_eq_true] at h
      obtain ⟨⟨⟨⟨h1, h2⟩, h3⟩, h4⟩, h5⟩ := h
      obtain ⟨v1, v2, v3, v4⟩ := var_of C.toCxOk h1
      exact (ps_asg (sE v h4 C.toCxOk U tk) (pg_sub (pe_var v1 v2 v3 v4) (sE e h2 C.toCxOk U tk) set_list (by intro u; cases ix <;> first | rfl | (cases h3; done))) (set_sw h5)).weak fun D σ H q => dS_seti q
    · cases h
  | .setf i f e, c, X, Γ, W, st, h, C, U, V, tk => by
    unfold okS at h
    split at h
    · simp only [Bool.and_eq_true, decide_eq_true_eq] at h
      obtain ⟨⟨⟨h1, h2⟩, h3⟩, h4⟩ := h
      obtain ⟨v1, v2, v3, v4⟩ := var_of C.toCxOk h1
      rw [h2]
      exact (ps_fld (pe_var v1 v2 v3 v4) (sE e h3 C.toCxOk U tk) (fld_sw h4)).weak fun D σ H q => dS_setf U q
    · cases h
  | .aug i op e, c, X, Γ, W, st, h, C, U, V, tk => by
    unfold okS at h
    split at h
    · rename_i x xp o w p
      simp only [Bool.and_eq_true] at h
      obtain ⟨⟨h1, h2⟩, h3⟩ := h
      obtain ⟨s1, s2, s3⟩ := slot_of C.toCxOk h1
      unfold okKey at h2
      split at h2
      · exact (ps_aug (by rw [C.N]; exact C.nd) s1 s2 (sE e h3 C.toCxOk U tk) ip_add s3).weak fun D σ H q => dS_augA q
      · exact (ps_aug (by rw [C.N]; exact C.nd) s1 s2 (sE e h3 C.toCxOk U tk) ip_sub s3).weak fun D σ H q => dS_augS q
      · cases h2
    · cases h
  | .ex e, c, X, Γ, W, st, h, C, U, V, tk => by
    unfold okS at h
    split at h
    · simp only [Bool.and_eq_true] at h
      exact (ps_expr (sE e h.1.1 C.toCxOk U tk) (ex_sw h.1.2 h.2)).weak fun D σ H q => dS_ex q
    · cases h
  | .pass, c, X, Γ, W, st, h, C, U, V, tk => by
    unfold okS at h
    split at h
    · exact ps_pass.weak fun D σ H q => dS_pass q
    · exact ps_doc.weak fun D σ H q => dS_pass q
    · cases h
  | .cond t a b, c, X, Γ, W, st, h, C, U, V, tk => by
    unfold okS at h
    split at h
    · simp only [Bool.and_eq_true] at h
      exact (ps_if (sT t h.1.1 C.toCxOk U tk) (sSs a h.1.2 C U V tk) (sSs b h.2 C U V tk)).weak fun D σ H q => dS_if q
    · cases h
  | .whil t b, c, X, Γ, W, st, h, C, U, V, tk => by
    unfold okS at h
    split at h
    · simp only [Bool.and_eq_true] at h
      exact (ps_while (C.owns (C.calm.trans h.1.1)) (sT t h.1.2 C.toCxOk U tk) (sSs b h.2 C U V tk)).weak fun D σ H q => dS_while q
    · cases h
  | .loop tg it b, c, X, Γ, W, st, h, C, U, V, tk => by
    unfold okS at h
    split at h
    · rename_i t i p pp
      simp only [Bool.and_eq_true] at h
      obtain ⟨⟨⟨⟨⟨h0, h1⟩, h2⟩, h3⟩, h4⟩, h5⟩ := h
      have hset : ∀ x, foldedSetIterable i X.env x = pure x := by
        intro x
        cases i <;> first | rfl | exact absurd (show false = true from h3) Bool.false_ne_true
      exact (ps_for (C.owns (C.calm.trans h0)) (C.calm.trans h0) (sI it h2 h1 h4 C.toCxOk U tk) (pg_of C.toCxOk h4) (sSs b h5 C U V tk) hset).weak fun D σ H q => dS_for U.K q
    · cases h
  | .ret e, c, X, Γ, W, st, h, C, U, V, tk => by
    unfold okS at h
    split at h
    · exact (ps_ret (sE e h C.toCxOk U tk)).weak fun D σ H q => dS_ret q
    · cases h
  | .retN, c, X, Γ, W, st, h, C, U, V, tk => by
    unfold okS at h
    split at h
    · exact ps_retN.weak fun D σ H q => dS_retN q
    · cases h
  | .raise cn args, c, X, Γ, W, st, h, C, U, V, tk => by
    unfold okS at h
    split at h
    · simp only [Bool.and_eq_true, decide_eq_true_eq] at h
      obtain ⟨⟨⟨⟨⟨h0, h1⟩, h2⟩, h3⟩, h4⟩, h5⟩ := h
      have hc := C.calm.trans h0
      obtain ⟨g1, g2, g3⟩ := gl_of C.toCxOk h2
      obtain ⟨x1, x2⟩ := V.mkx X rfl rfl rfl rfl rfl hc (U.room hc) cn h3
      rw [h1] at g1 g2 ⊢
      exact (ps_raise hc tk (x2 _ _ _ _ (sL args h4 C.toCxOk U tk) (okL_len h4).2 g1 g2)).weak fun D σ H q => dS_raise U x1 h5 q
    · cases h
  | .tryx b cn (some i) su, c, X, Γ, W, st, h, C, U, V, tk => by
    unfold okS at h
    split at h
    · simp only [Bool.and_eq_true, decide_eq_true_eq, Bool.not_eq_true'] at h
      obtain ⟨⟨⟨⟨⟨⟨⟨⟨h0, hini⟩, h1⟩, h2⟩, h3⟩, h4⟩, h5⟩, h6⟩, h7⟩ := h
      have hc := C.calm.trans h0
      obtain ⟨g1, g2, g3⟩ := gl_of C.toCxOk h3
      refine (ps_try_as C.stack C.frame (by rw [C.N]; exact C.nd) (by rw [C.N]; exact h5) (show X.env.scope.names.lookup _ = _ by rw [C.sc]; exact h6) ⟨g1, g2, .inl (by rw [h2]; exact V.nam cn h4)⟩ tk
        (fun W' pn xe tk' ow => sSs b h1 ⟨C.toCxOk.tr pn xe, C.kind, C.stack, C.frame, fun _ => ow⟩ (U.tr hc pn xe) (V.tr pn xe) tk')
        (fun a oe cls d pn hz hf => sSs su h7 ⟨C.toCxOk.suite a _, C.kind, C.stack, C.frame, fun z => absurd (show false = true from z) Bool.false_ne_true⟩ (U.suite hc V pn hz hf) (V.suite a cls d _) takes_no)).weak fun D σ H q => dS_tryAs V (U.exn0 hc hini) h4 q
    · cases h
  | .tryx b cn none su, c, X, Γ, W, st, h, C, U, V, tk => by
    unfold okS at h
    split at h
    · simp only [Bool.and_eq_true, decide_eq_true_eq, Bool.not_eq_true'] at h
      obtain ⟨⟨⟨⟨⟨⟨h0, hini⟩, h1⟩, h2⟩, h3⟩, h4⟩, h7⟩ := h
      have hc := C.calm.trans h0
      obtain ⟨g1, g2, g3⟩ := gl_of C.toCxOk h3
      refine (ps_try_only C.stack C.frame ⟨g1, g2, .inl (by rw [h2]; exact V.nam cn h4)⟩ tk
        (fun W' pn xe tk' ow => sSs b h1 ⟨C.toCxOk.tr pn xe, C.kind, C.stack, C.frame, fun _ => ow⟩ (U.tr hc pn xe) (V.tr pn xe) tk')
        (fun a oe cls d pn hz hf => sSs su h7 ⟨C.toCxOk.suite a _, C.kind, C.stack, C.frame, fun z => absurd (show false = true from z) Bool.false_ne_true⟩ (U.suite hc V pn hz hf) (V.suite a cls d _) takes_no)).weak fun D σ H q => dS_tryOnly V (U.exn0 hc hini) h4 q
    · cases h
  | .frz _, c, X, Γ, W, st, h, C, U, V, tk => by unfold okS at h; cases h
  | .shr _, c, X, Γ, W, st, h, C, U, V, tk => by unfold okS at h; cases h
  | .kill _, c, X, Γ, W, st, h, C, U, V, tk => by unfold okS at h; cases h
termination_by s => (sizeOf s, 0)
theorem sSs : ∀ (ss : List Sm) {c : SC} {X : Cx} {Γ : Glob} {W : WX} {sts : List Stmt}, okSs S c ss sts = true → CxS c X → Uni Γ S P R k X → UniX Γ S P k X → Takes X W → PSs X sts (dS Γ W (evSs P R ss))
  | [], c, X, Γ, W, sts, h, C, U, V, tk => by
    rw [okSs] at h
    rw [List.isEmpty_iff.mp h]
    refine pss_nil.weak fun D σ H q => dS_nil (by simpa only [evSs] using q)
  | s :: r, c, X, Γ, W, sts, h, C, U, V, tk => by
    have ev : (evSs P R (s :: r)) = fun ρ st => (evS P R s ρ st).bind fun ρ' st' => evSs P R r ρ' st' := by funext ρ st; rw [evSs]
    unfold okSs at h
    rw [ev]
    split at h
    · rename_i hg
      have rest := sSs r h C U V tk (W := W)
      cases s <;> try (cases hg; done)
      case frz i => exact rest.weak fun D σ H q => dS_frz q
      case shr i => exact rest.weak fun D σ H q => dS_shr q
      case kill i => exact rest.weak fun D σ H q => dS_kill q
    · cases sts with
      | nil => cases h
      | cons st ss =>
        simp only [Bool.and_eq_true] at h
        exact (pss_cons (sS s h.1 C U V tk) (sSs r h.2 C U V tk)).weak fun D σ H q => dS_seq q
termination_by ss => (sizeOf ss, 0)
end
end
end Dp
end SDp21
set_option maxHeartbeats 4000000
/-! Dp22: the text's defs do what the evaluator says. -/
noncomputable section SDp22
namespace Dp
open PySem PySem.Spec PyProof.Rows L2

section
variable {Γ : Glob} {S : Stat} {P : Prog} {t : Option (Addr × Option (Value × Option Addr))}
theorem spM_unwx {C : String} {F : List D → Sto → Res D} {np : Nat} {vs : List V} {H : Hp} {Q : VK} {E : XK} (h : spM (Γ.wx t) C F np vs H Q E) : spM Γ C F np vs H Q E := by
  obtain ⟨h0, x, dx, rest, H0, O, κ, ds, st, e1, e2, e3, e4, e5, o, r, h⟩ := h
  exact ⟨h0, x, dx, rest, H0, O, κ, ds, st, e1, e2, e3, e4, e5, o.unwx, Reps.wx (Γ := Γ.wx t) (t := Γ.exn) r, h.unwx fun d st' κ' H' q rv => q rv.wx⟩
def iniS (S : Stat) : Stat := { S with ini := true }
theorem FnAt.imp {X : Cx} {k : Nat} {a : Addr} {sp sp' : Sp} (F : FnAt X k a sp) (h : ∀ vs H Q E, sp' vs H Q E → sp vs H Q E) : FnAt X k a sp' := by
  obtain ⟨fd, ps, h1, h2, h3⟩ := F
  exact ⟨fd, ps, h1, h2, h3.imp h⟩
theorem Uni.ini {R : String → List D → Sto → Res D} {k : Nat} {X : Cx} (U : Uni Γ S P R k X) (hc : X.calm = true) : Uni (Γ.wx t) (iniS S) P R k X where
  K := U.K
  hu := U.hu
  room := U.room
  pf := U.pf
  px := U.px
  free := U.free
  con := fun n hn => by
    obtain ⟨d, u, v, e1, e2, e3, e4⟩ := U.con n hn
    exact ⟨d, u, v, e1, e2, e3, fun κ I => (e4 κ I).wx⟩
  fn := U.fn
  fnAt := fun hc f a h => by
    obtain ⟨np, F, hn⟩ := U.fnAt hc f a h
    exact ⟨np, F.imp fun vs H Q E q => spD_unwx q, hn⟩
  clsV := U.clsV
  cls := fun hc C h => by
    obtain ⟨fI, np, M, F, hn⟩ := U.cls hc C h
    exact ⟨fI, np, M, F.imp fun vs H Q E q => spM_unwx q, hn⟩
  meth := fun hc C m h => by
    obtain ⟨c1, c2, g, np, c3, F, hn⟩ := U.meth hc C m h
    exact ⟨c1, c2, g, np, c3, F.imp fun vs H Q E q => spD_unwx q, hn⟩
  fld := U.fld
  isi := U.isi
  objs := U.objs
  exn := fun z => absurd (hc.symm.trans z) (by simp)
  exn0 := fun _ z => absurd (show true = false from z) (by simp)
  eqm := U.eqm
  finj := U.finj
  hrm := fun z => absurd (hc.symm.trans z) (by simp)
  hln := fun hl C h => by
    obtain ⟨g, np, M, ⟨fd, ps, hb, F⟩, hn⟩ := U.hln hl C h
    exact ⟨g, np, M, ⟨fd, ps, hb, F.imp fun vs H Q E q => spD_unwx q⟩, hn⟩
theorem UniX.ini {k : Nat} {X : Cx} (V : UniX Γ S P k X) : UniX (Γ.wx t) (iniS S) P k X := ⟨V.mkx, V.exm, V.nam, V.xf⟩
end

/-! ### the end of a frame -/
section
variable {Γ : Glob} {O : Addr → Prop} {κ κ' : List Addr} {L L' : List (Nat × Addr)} {H H' : Hp} {σ : L2.St} {ρ : Ev} {st : Sto}
theorem le_all : Le (imm O κ L H) (imm O κ [] H) := fun a u e => by
  obtain ⟨h, e⟩ := cut_some.mp e
  refine cut_some.mpr ⟨fun z => h ?_, e⟩
  rcases z with z | z | z
  · exact .inl z
  · exact .inr (.inl z)
  · cases z
theorem Ok.all (h : Ok Γ O κ L H st) : Ok Γ O κ [] H st := by
  have nd := List.nodup_append.mp h.nd
  exact ⟨by simpa using nd.1, fun a ha => h.ap a (List.mem_append_left _ (by simpa using ha)), h.oth, h.len, fun n a s h1 h2 => (h.st n a s h1 h2).mono List.prefix_rfl le_all rfl, fun p hp => nomatch hp⟩
theorem NxS.nx (n : NxS O κ [] H κ' L' H') : Nx O κ [] H κ' H' := ⟨n.pre, n.imm, n.oth, (fun a h => nomatch h), fun a h hk => by
  rcases n.new a (.inl h) with z | z | z
  · exact absurd z hk
  · cases z
  · exact z⟩
theorem startD_get {n : Nat} {ds : List D} {j : Nat} {s : Sl} (h : (startD n ds)[j]? = some s) : s = .no ∨ ∃ d, ds[j]? = some d ∧ s = .val d := by
  unfold startD at h
  by_cases hj : j < ds.length
  · rw [List.getElem?_append_left (by simpa using hj), List.getElem?_map] at h
    cases e : ds[j]? with
    | none => rw [e] at h; cases h
    | some d => rw [e] at h; cases h; exact .inr ⟨d, rfl, rfl⟩
  · rw [List.getElem?_append_right (by simpa using hj)] at h
    exact .inl (List.eq_of_mem_replicate (List.mem_of_getElem? h))
theorem EnvR.start {N : List Str} {vs : List V} {ds : List D} (r : Reps Γ κ (imm O κ [] H) vs ds) (hl : vs.length ≤ N.length) : EnvR Γ O κ [] H (L2.start N vs) (startD N.length ds) := by
  refine ⟨by simp [L2.start, startD, r.length], fun j s h => ?_, by simp⟩
  rcases startD_get h with z | ⟨d, hd, z⟩
  · subst z; trivial
  · subst z
    obtain ⟨v, hv, rv⟩ := r.get' hd
    refine ⟨v, ?_, rv⟩
    have hj : j < vs.length := (List.getElem?_eq_some_iff.mp hv).1
    show (vs.map some ++ _)[j]? = _
    rw [List.getElem?_append_left (by simpa using hj), List.getElem?_map, hv]
    rfl
end

/-! ### a def of the text -/
section
variable (S : Stat) (K : PySem.W.Frag)
def defSC (N : List Str) (st : Stmt) : SC := ⟨N, defScope st, fun _ => true, true⟩
/-- the def at a is the small text d -/
def FnF (a : Addr) (d : Def) : Prop := ∃ (x qual : Str) (st : Stmt) (fd : FuncData) (N ps : List Str), FunD K x qual (defArgs st) (defBody st) (defScope st) [] [] a fd ∧ FnScope N ps (defScope st) ∧ ps.length = d.np ∧ N.length = d.nl ∧ ps.length ≤ N.length ∧ Binds K fd ps [] ∧ okSs S (defSC N st) d.body (defBody st) = true
def okFs (c : SC) : List (String × Tm) → List Stmt → Bool
  | [], ss => ss.isEmpty
  | (f, e) :: r, ss => (match ss with
    | .Assign [.Attribute (.Name x xp) g ap] w p :: ss => okVar c 0 x && decide (g = Str.ofString f) && okE S c e w && notSD w && okFs c r ss
    | _ => false)
/-- how many statements a small text takes -/
def nSt (b : List Sm) : Nat := (b.filter fun s => !isGhost s).length
/-- .. of an __init__: what goes ahead, the fields -/
def FnI (fields : List String) (a : Addr) (d : Def) : Prop := ∃ (x qual : Str) (st : Stmt) (fd : FuncData) (N ps : List Str), FunD K x qual (defArgs st) (defBody st) (defScope st) [] [] a fd ∧ FnScope N ps (defScope st) ∧ ps.length = d.np ∧ N.length = d.nl ∧ ps.length ≤ N.length ∧ 0 < ps.length ∧ Binds K fd ps [] ∧
  okSs (iniS S) (defSC N st) d.body ((defBody st).take (nSt d.body)) = true ∧ okFs (iniS S) (defSC N st) d.inits ((defBody st).drop (nSt d.body)) = true ∧ d.inits.map (·.1) = fields ∧ fields.Nodup ∧ fields.length ≤ 90
end

section
variable {Γ : Glob} {S : Stat} {P : Prog} {prog : Program} {w : World} {K : PySem.W.Frag} {mg : Str → Option Value} {base : Heap} {R : String → List D → Sto → Res D} {k : Nat}
/-- a context of the text's module -/
structure Same (prog : Program) (w : World) (K : PySem.W.Frag) (mg : Str → Option Value) (base : Heap) (X : Cx) : Prop where
  prog : X.prog = prog
  w : X.w = w
  K : X.K = K
  mg : X.mg = mg
  base : X.base = base
def FnA (prog : Program) (w : World) (K : PySem.W.Frag) (mg : Str → Option Value) (base : Heap) (k : Nat) (a : Addr) (sp : Sp) : Prop := ∃ fd ps, PySem.W.keepIn K (.ref a) = true ∧ Binds K fd ps [] ∧ FnOk prog w K mg base (CX prog w) k a fd ps sp
/-- a def, its callees given -/
theorem fn_defK {a : Addr} {d : Def} {x qual : Str} {stm : Stmt} {fd : FuncData} {N ps : List Str} (Fu : FunD K x qual (defArgs stm) (defBody stm) (defScope stm) [] [] a fd) (Sc : FnScope N ps (defScope stm)) (hps : ps.length = d.np) (hN : N.length = d.nl) (hle : ps.length ≤ N.length) (hok : okSs S (defSC N stm) d.body (defBody stm) = true)
    (hU : ∀ X : Cx, Same prog w K mg base X → X.calm = true → Room (k + 1) X.A → Uni Γ S P R k X ∧ UniX Γ S P k X) : FnOk prog w K mg base (L2.CX prog w) (k + 2) a fd ps (spD Γ (fun ds st => if ds.length = d.np then callB P R d ds st else .stuck) d.np) := by
  refine Fu.ok (CX := L2.CX prog w) Sc (fun vs H Q E h => by rw [hps]; exact h.1) fun cdv A outer s H vs Q E hr h => ?_
  obtain ⟨hlen, O, κ, ds, st, o, r, h⟩ := h
  generalize hX : cxOf (L2.CX prog w) prog w K mg base N qual (defScope stm) a cdv A outer s H E = X
  have hc : X.calm = true := by rw [← hX]; rfl
  have hA : X.A = A.deeper (envOfC qual (defScope stm) s.heap.objs.size a cdv) := by rw [← hX]; rfl
  obtain ⟨U, V⟩ := hU X (by rw [← hX]; exact ⟨rfl, rfl, rfl, rfl, rfl⟩) hc (by rw [hA]; exact hr)
  have C : CxS (defSC N stm) X := by
    rw [← hX]
    exact ⟨⟨rfl, rfl, rfl, rfl, Sc.nd⟩, Sc.kind, rfl, rfl, fun _ => passes_of rfl⟩
  have tk : Takes X (fun cls d _ H' => E cls d H') := by
    rw [← hX]
    exact takes_of rfl rfl rfl rfl
  refine ⟨_, sSs d.body hok C U V tk, O, κ, [], startD d.nl ds, st, o, ?_, ?_⟩
  · rw [← hN]
    exact .start r (by rw [hlen, ← hps]; exact hle)
  · have hdl : ds.length = d.np := by rw [← r.length]; exact hlen
    dsimp only at h
    rw [if_pos hdl] at h
    unfold callB at h
    cases hr2 : evSs P R d.body (startD d.nl ds) st with
    | nx ρ' st' =>
      rw [hr2] at h
      intro κ' L' H' σ' n' o' e'
      exact h κ' H' n'.nx o'.all _ .non
    | ret v st' =>
      rw [hr2] at h
      intro κ' L' H' u n' o' r'
      exact h κ' H' n'.nx o'.all _ (r'.mono List.prefix_rfl le_all)
    | exc c fs ρ' st' =>
      rw [hr2] at h
      intro κ' L' H' σ' cls dd n' o' e' x'
      exact h κ' H' cls dd n'.nx o'.all (x'.mono List.prefix_rfl le_all)
    | stuck => rw [hr2] at h; exact h

/-- a def that may be called while an exception is being handled -/
def FnFQ (S : Stat) (K : PySem.W.Frag) (a : Addr) (d : Def) : Prop := ∃ (x qual : Str) (st : Stmt) (fd : FuncData) (N ps : List Str), FunD K x qual (defArgs st) (defBody st) (defScope st) [] [] a fd ∧ FnScope N ps (defScope st) ∧ ps.length = d.np ∧ N.length = d.nl ∧ ps.length ≤ N.length ∧ Binds K fd ps [] ∧ okSs { S with hlen := false } (suSC (defSC N st)) d.body (defBody st) = true
def FnQA (prog : Program) (w : World) (K : PySem.W.Frag) (mg : Str → Option Value) (base : Heap) (k : Nat) (a : Addr) (sp : Sp) : Prop := ∃ fd ps, Binds K fd ps [] ∧ FnQ prog w K mg base (CX prog w) k a fd ps sp
def tQ : Option (Addr × Option (Value × Option Addr)) := some (0, some (.none, none))
theorem fn_defQ {a : Addr} {d : Def} (F : FnFQ S K a d)
    (hU : ∀ X : Cx, Same prog w K mg base X → X.calm = false → L2H.RoomH (k + 1) X.A → Uni (Γ.wx tQ) { S with hlen := false } P R k X ∧ UniX (Γ.wx tQ) { S with hlen := false } P k X) : FnQA prog w K mg base (k + 2) a (spD Γ (fun ds st => if ds.length = d.np then callB P R d ds st else .stuck) d.np) := by
  obtain ⟨x, qual, stm, fd, N, ps, Fu, Sc, hps, hN, hle, hB, hok⟩ := F
  refine ⟨fd, ps, hB, ?_⟩
  refine FunD.okQ (CX := L2.CX prog w) Fu Sc (fun vs H Q E h => by rw [hps]; exact h.1) fun cdv A outer s H vs Q E p hr h => ?_
  obtain ⟨hlen, O, κ, ds, st, o, r, h⟩ := h
  generalize hX : L2H.cxH (L2.CX prog w) prog w K mg base N qual (defScope stm) a cdv A outer s H E p = X
  have hc : X.calm = false := by rw [← hX]; rfl
  have hA : X.A = A.deeper (envOfC qual (defScope stm) s.heap.objs.size a cdv) := by rw [← hX]; rfl
  obtain ⟨U, V⟩ := hU X (by rw [← hX]; exact ⟨rfl, rfl, rfl, rfl, rfl⟩) hc (by rw [hA]; exact hr)
  have C : CxS (suSC (defSC N stm)) X := by
    rw [← hX]
    exact ⟨⟨rfl, rfl, rfl, rfl, Sc.nd⟩, Sc.kind, rfl, rfl, fun z => absurd (show false = true from z) (by simp)⟩
  have tk : Takes X (fun cls d _ H' => E cls d H') := by
    rw [← hX]
    exact takesQ
  refine ⟨_, sSs d.body hok C U V tk, O, κ, [], startD d.nl ds, st, o.wx, ?_, ?_⟩
  · rw [← hN]
    exact .start r.wx (by rw [hlen, ← hps]; exact hle)
  · have hdl : ds.length = d.np := by rw [← r.length]; exact hlen
    dsimp only at h
    rw [if_pos hdl] at h
    unfold callB at h
    cases hr2 : evSs P R d.body (startD d.nl ds) st with
    | nx ρ' st' =>
      rw [hr2] at h
      intro κ' L' H' σ' n' o' e'
      exact h κ' H' n'.nx o'.unwx.all _ .non
    | ret v st' =>
      rw [hr2] at h
      intro κ' L' H' u n' o' r'
      exact h κ' H' n'.nx o'.unwx.all _ (Rep.mono List.prefix_rfl le_all (Rep.wx (Γ := Γ.wx tQ) (t := Γ.exn) r'))
    | exc c fs ρ' st' =>
      rw [hr2] at h
      intro κ' L' H' σ' cls dd n' o' e' x'
      exact h κ' H' cls dd n'.nx o'.unwx.all (XRep.mono List.prefix_rfl le_all (XRep.wx (Γ := Γ.wx tQ) (t := Γ.exn) x'))
    | stuck => rw [hr2] at h; exact h

theorem fn_def {a : Addr} {d : Def} (F : FnF S K a d)
    (hU : ∀ X : Cx, Same prog w K mg base X → X.calm = true → Room (k + 1) X.A → Uni Γ S P R k X ∧ UniX Γ S P k X) : FnA prog w K mg base (k + 2) a (spD Γ (fun ds st => if ds.length = d.np then callB P R d ds st else .stuck) d.np) := by
  obtain ⟨x, qual, stm, fd, N, ps, Fu, Sc, hps, hN, hle, hB, hok⟩ := F
  exact ⟨fd, ps, Fu.kp, hB, fn_defK Fu Sc hps hN hle hok hU⟩

/-! ### an instance in the making -/
theorem NxS.thenD {O : Addr → Prop} {κ κ' κ'' : List Addr} {L L' L'' : List (Nat × Addr)} {H H' H'' : Hp} {x : Addr} (n : NxS O κ L H κ' L' H') (hx : H x = none) (m : NxS (oD O x) κ' L' H' κ'' L'' H'') : NxS O κ L H κ'' L'' H'' where
  pre := n.pre.trans m.pre
  imm := fun a o e h => m.imm a o (n.imm a o e h) (by
    rintro ((z | z) | z)
    · exact h (.inl z)
    · rw [z, hx] at e; cases e
    · exact n.not e h (.inr z))
  oth := fun a h => (m.oth a (.inl h)).trans (n.oth a h)
  new := fun a h => by
    rcases m.new a h with z | z | z
    · exact n.new a (.inl z)
    · exact n.new a (.inr z)
    · cases q : H a with
      | none => exact .inr (.inr rfl)
      | some u =>
        by_cases hm : Mb O κ L a
        · rcases hm with y | y | y
          · rw [n.oth a y, q] at z; cases z
          · exact .inl y
          · exact .inr (.inl y)
        · rw [n.imm a u q hm] at z; cases z
theorem NxS.setD {O : Addr → Prop} {κ κ' : List Addr} {L L' : List (Nat × Addr)} {H H' : Hp} {x : Addr} {o : HO} (n : NxS O κ L H κ' L' H') (hx : H x = none) (oth : ∀ a, O a → ∃ u, H a = some u) : NxS O κ L H κ' L' (L2.upd H' x o) := by
  have ne : ∀ {b : Addr} {u : HO}, H b = some u → b ≠ x := fun e z => by rw [z, hx] at e; cases e
  exact ⟨n.pre, fun b u e h => by rw [upd_ne (ne e)]; exact n.imm b u e h, fun b h => by obtain ⟨u, e⟩ := oth b h; rw [upd_ne (ne e)]; exact n.oth b h, n.new⟩
/-- what is left to be done when the fields are set -/
def IniEnd (Γ : Glob) (E : XK) (O : Addr → Prop) (κ0 : List Addr) (H0 : Hp) (x cl dx : Addr) (names : List String) (dvs : List D) (N : Hp → Prop) : Res (List D) → Prop
  | .ok ds st' => ∀ κ' L' H' fvs ws, NxS O κ0 [] H0 κ' L' H' → Ok Γ (oD O x) κ' L' H' st' → H' x = some (.ins cl dx fvs) → names.map (fun f => fvs.lookup (Str.ofString f)) = ws.map some → (∀ g v, fvs.lookup g = some v → ∃ f ∈ names, g = Str.ofString f) → Reps Γ κ' (imm (oD O x) κ' L' H') ws (dvs ++ ds) → N H'
  | .exc c fs st' => ∀ κ' L' H' cls dd, NxS O κ0 [] H0 κ' L' H' → Ok Γ (oD O x) κ' L' H' st' → XRep Γ κ' (imm (oD O x) κ' L' H') cls dd c fs → E cls dd H'
  | .stuck => False
def iniT (K : PySem.W.Frag) (W : WX) (Γ : Glob) (P : Prog) (R : String → List D → Sto → Res D) : List (String × Tm) → TS
  | [] => tNext
  | (f, e) :: r => tSeq (sFld K (tVar 0) (dE Γ W (evE P R e)) (Str.ofString f)) (iniT K W Γ P R r)
theorem ini_chain {X : Cx} {E : XK} {O : Addr → Prop} {κ0 : List Addr} {H0 : Hp} {x dx : Addr} {C : String} {σ : L2.St} {Z : Ends} {ρ : Ev} (U : Uni Γ S P R k X) (hσ : σ[0]? = some (some (.ref x))) (hx0 : H0 x = none) (hO0 : ∀ a, O a → ∃ u, H0 a = some u) :
    ∀ (inits : List (String × Tm)) (done : List String) (dvs : List D) (κ : List Addr) (L : List (Nat × Addr)) (H : Hp) (st : Sto) (fvs : List (Str × V)) (ws : List V), done ++ inits.map (·.1) = Γ.fields C → (Γ.fields C).Nodup → (Γ.fields C).length ≤ 90 → NxS O κ0 [] H0 κ L H → Ok Γ (oD O x) κ L H st → EnvR Γ (oD O x) κ L H σ ρ →
      H x = some (.ins (Γ.cls C) dx fvs) → done.map (fun f => fvs.lookup (Str.ofString f)) = ws.map some → (∀ g v, fvs.lookup g = some v → ∃ f ∈ done, g = Str.ofString f) → fvs.length ≤ done.length → Reps Γ κ (imm (oD O x) κ L H) ws dvs →
      IniEnd Γ E O κ0 H0 x (Γ.cls C) dx (Γ.fields C) dvs (fun H' => Z.nx σ H') (evL P R (inits.map (·.2)) ρ st) → iniT X.K (fun c d _ H' => E c d H') Γ P R inits Z σ H
  | [], done, dvs, κ, L, H, st, fvs, ws, hd, nd, h90, n, o, e, hH, hm, hk, hl, rs, q => by
    rw [List.map_nil, evL] at q
    rw [List.map_nil, List.append_nil] at hd
    exact q κ L H fvs ws n o hH (by rw [← hd]; exact hm) (by rw [← hd]; exact hk) (by rw [List.append_nil]; exact rs)
  | (f, t) :: r, done, dvs, κ, L, H, st, fvs, ws, hd, nd, h90, n, o, e, hH, hm, hk, hl, rs, q => by
    rw [List.map_cons, evL] at q
    have hf : f ∈ Γ.fields C := by rw [← hd]; simp
    obtain ⟨c1, c2⟩ := U.fld C f hf
    have hlen : done.length + r.length + 1 ≤ 90 := by
      have := congrArg List.length hd
      simp at this
      omega
    have hfd : f ∉ done := fun z => by
      rw [← hd] at nd
      exact (List.nodup_append.mp nd).2.2 f z f (by simp) rfl
    refine ⟨oD O x, κ, L, ρ, st, o, e, ?_⟩
    cases hr : evE P R t ρ st with
    | exc c fs st' =>
      rw [hr] at q
      intro κ' H' cls dd n' o' x'
      exact q κ' L H' cls dd (n.thenD hx0 n'.s) o' x'
    | stuck => rw [hr] at q; exact q
    | ok d st1 =>
      rw [hr, Res.bind_ok] at q
      intro κ1 H1 n1 o1 v rv
      have hH1 : H1 x = some (.ins (Γ.cls C) dx fvs) := (n1.oth x (.inr rfl)).trans hH
      refine ⟨_, hσ, x, Γ.cls C, dx, fvs, rfl, hH1, c1, c2, by omega, ?_⟩
      have im : imm (oD O x) κ1 L (upd H1 x (.ins (Γ.cls C) dx (putF (Str.ofString f) v fvs))) = imm (oD O x) κ1 L H1 := by
        funext b
        unfold imm cut
        by_cases z : b = x
        · subst z
          have : Mb (oD O b) κ1 L b := .inl (.inr rfl)
          rw [if_pos this, if_pos this]
        · rw [upd_ne z]
      have nfd : ∀ g ∈ done, Str.ofString g ≠ Str.ofString f := fun g hg z => hfd (by
        have := U.finj C g f (by rw [← hd]; exact List.mem_append_left _ hg) hf z
        rw [← this]; exact hg)
      refine ini_chain U hσ hx0 hO0 r (done ++ [f]) (dvs ++ [d]) κ1 L _ st1 (putF (Str.ofString f) v fvs) (ws ++ [v]) (by rw [← hd]; simp) nd h90 ((n.thenD hx0 n1.s).setD hx0 hO0) o1.setD ((e.next n1).mono List.prefix_rfl (by rw [im]; exact Le.refl) fun a ha => upd_ne fun z => o1.notO (.inr ha) (.inr z)) upd_same ?_ ?_ ?_ ?_ ?_
      · rw [List.map_append, List.map_append]
        congr 1
        · rw [← hm]
          refine List.map_congr_left fun g hg => ?_
          rw [lookup_putF, if_neg (nfd g hg)]
        · simp [lookup_putF]
      · intro g u hg
        rw [lookup_putF] at hg
        by_cases z : g = Str.ofString f
        · exact ⟨f, by simp, z⟩
        · rw [if_neg z] at hg
          obtain ⟨f', h1, h2⟩ := hk g u hg
          exact ⟨f', by simp [h1], h2⟩
      · have := length_putF (Str.ofString f) v fvs
        rw [List.length_append]
        simp
        omega
      · rw [im]
        exact ((rs.mono n1.pre n1.le).append (.cons rv .nil))
      · cases hr2 : evL P R (r.map (·.2)) ρ st1 with
        | ok ds st2 =>
          rw [hr2] at q
          intro κ' L' H' fvs' ws' n' o' hH' hm' hk' rs'
          exact q κ' L' H' fvs' ws' n' o' hH' hm' hk' (by rw [List.append_assoc] at rs'; exact rs')
        | exc c fs st2 => rw [hr2] at q; exact q
        | stuck => rw [hr2] at q; exact q
theorem pss_ini {X : Cx} {W : WX} {c : SC} : ∀ (inits : List (String × Tm)) {sts : List Stmt}, okFs S c inits sts = true → CxS c X → Uni Γ S P R k X → Takes X W → PSs X sts (iniT X.K W Γ P R inits)
  | [], sts, h, C, U, tk => by
    rw [okFs] at h
    rw [List.isEmpty_iff.mp h]
    exact pss_nil
  | (f, e) :: r, sts, h, C, U, tk => by
    unfold okFs at h
    split at h
    · simp only [Bool.and_eq_true, decide_eq_true_eq] at h
      obtain ⟨⟨⟨⟨h1, h2⟩, h3⟩, h4⟩, h5⟩ := h
      obtain ⟨v1, v2, v3, v4⟩ := var_of C.toCxOk h1
      rw [h2]
      exact pss_cons (ps_fld (pe_var v1 v2 v3 v4) (sE e h3 C.toCxOk U tk) (fld_sw h4)) (pss_ini r h5 C U tk)
    · cases h
theorem sSsK {X : Cx} {W : WX} {c : SC} {u : TS} {rest : List Stmt} : ∀ (b : List Sm) {pre : List Stmt}, okSs S c b pre = true → CxS c X → Uni Γ S P R k X → UniX Γ S P k X → Takes X W → PSs X rest u → PSs X (pre ++ rest) (tSeq (dS Γ W (evSs P R b)) u)
  | [], pre, h, C, U, V, tk, hu => by
    rw [okSs] at h
    rw [List.isEmpty_iff.mp h]
    refine hu.weak fun D σ H q => ?_
    have q' : dS Γ W (fun ρ st => .nx ρ st) { D with nx := u D } σ H := by simpa only [evSs] using (show dS Γ W (evSs P R []) { D with nx := u D } σ H from q)
    exact dS_nil q'
  | s :: b, pre, h, C, U, V, tk, hu => by
    have ev : (evSs P R (s :: b)) = fun ρ st => (evS P R s ρ st).bind fun ρ' st' => evSs P R b ρ' st' := by funext ρ st; rw [evSs]
    unfold okSs at h
    rw [ev]
    split at h
    · rename_i hg
      have ih := sSsK b h C U V tk hu
      cases s <;> try (cases hg; done)
      case frz i => exact ih.weak fun D σ H q => dS_frz (show dS Γ W _ _ σ H from q)
      case shr i => exact ih.weak fun D σ H q => dS_shr (show dS Γ W _ _ σ H from q)
      case kill i => exact ih.weak fun D σ H q => dS_kill (show dS Γ W _ _ σ H from q)
    · cases pre with
      | nil => cases h
      | cons st ss =>
        simp only [Bool.and_eq_true] at h
        refine (pss_cons (sS s h.1 C U V tk) (sSsK b h.2 C U V tk hu)).weak fun D σ H q => ?_
        exact dS_seq (show dS Γ W _ _ σ H from q)
theorem startI_env {O : Addr → Prop} {κ : List Addr} {H : Hp} {N : List Str} {x : Addr} {rest : List V} {ds : List D} {y : Option (Value × Option Addr)} (hex : Γ.exn = some (x, none)) (r : Reps Γ κ (imm O κ [] H) rest ds) (hl : rest.length + 1 ≤ N.length) : EnvR Γ O κ [] H (L2.start N (.ref x :: rest)) (.exn "" [] :: startD (N.length - 1) ds) := by
  refine ⟨?_, fun j s h => ?_, by simp⟩
  · simp [L2.start, startD, r.length]
    have := r.length
    omega
  · cases j with
    | zero =>
      simp at h
      subst h
      show SlX Γ κ (imm O κ [] H) _ 0 "" []
      unfold SlX
      rw [hex]
      exact ⟨rfl, fun y hy => by cases hy⟩
    | succ j =>
      rw [List.getElem?_cons_succ] at h
      rcases startD_get h with z | ⟨d, hd, z⟩
      · subst z; trivial
      · subst z
        obtain ⟨v, hv, rv⟩ := r.get' hd
        refine ⟨v, ?_, rv⟩
        have hj : j < rest.length := (List.getElem?_eq_some_iff.mp hv).1
        show ((.ref x :: rest).map some ++ _)[j + 1]? = _
        rw [List.getElem?_append_left (by simpa using hj), List.getElem?_map, List.getElem?_cons_succ, hv]
        rfl
/-- C(..) of a class whose instances stay as made -/
theorem fn_make {a : Addr} {d : Def} {C : String} (F : FnI S K (Γ.fields C) a d) (hisC : Γ.isC C = true)
    (hU : ∀ X : Cx, Same prog w K mg base X → X.calm = true → Room (k + 1) X.A → Uni Γ S P R k X ∧ UniX Γ S P k X) : FnA prog w K mg base (k + 2) a (spM Γ C (fun ds st => if ds.length + 1 = d.np then makeB P R C d ds st else .stuck) d.np) := by
  obtain ⟨x0, qual, stm, fd, N, ps, Fu, Sc, hps, hN, hle, hpos, hB, hok, hok2, hfl, hnd, h90⟩ := F
  refine ⟨fd, ps, Fu.kp, hB, Fu.ok (CX := L2.CX prog w) Sc (fun vs H Q E h => by rw [hps]; exact h.1) fun cdv A outer s H vs Q E hr h => ?_⟩
  obtain ⟨hlen, x, dx, rest, H0, O, κ, ds, st, rfl, rfl, hx, hdx, hne, o, r, h⟩ := h
  generalize hX : cxOf (L2.CX prog w) prog w K mg base N qual (defScope stm) a cdv A outer s (upd (upd H0 dx (.own x)) x (.ins (Γ.cls C) dx [])) E = X
  have hc : X.calm = true := by rw [← hX]; rfl
  have hA : X.A = A.deeper (envOfC qual (defScope stm) s.heap.objs.size a cdv) := by rw [← hX]; rfl
  obtain ⟨U, V⟩ := hU X (by rw [← hX]; exact ⟨rfl, rfl, rfl, rfl, rfl⟩) hc (by rw [hA]; exact hr)
  have Cx' : CxS (defSC N stm) X := by
    rw [← hX]
    exact ⟨⟨rfl, rfl, rfl, rfl, Sc.nd⟩, Sc.kind, rfl, rfl, fun _ => passes_of rfl⟩
  have tk : Takes X (fun cls d _ H' => E cls d H') := by
    rw [← hX]
    exact takes_of rfl rfl rfl rfl
  have U' : Uni (Γ.wx (some (x, none))) (iniS S) P R k X := U.ini hc
  have pss := sSsK (W := fun cls d _ H' => E cls d H') d.body hok Cx' U' V.ini tk (pss_ini d.inits hok2 Cx' U' tk)
  rw [List.take_append_drop] at pss
  refine ⟨_, pss, ?_⟩
  -- the state at the start
  obtain ⟨n1, o1, m1⟩ := o.laid (o := .own x) hdx
  have hx1 : (upd H0 dx (.own x)) x = none := by rw [upd_ne (Ne.symm hne)]; exact hx
  obtain ⟨o2, le2⟩ := o1.toD (o := .ins (Γ.cls C) dx []) hx1
  have oth0 : ∀ b, O b → ∃ u, H0 b = some u := o.oth
  have n2 : NxS O κ [] H0 κ [] (upd (upd H0 dx (.own x)) x (.ins (Γ.cls C) dx [])) := n1.s.setD hx o.oth
  have hdl : ds.length + 1 = d.np := by
    rw [← r.length]; exact hlen
  dsimp only at h
  rw [if_pos hdl] at h
  unfold makeB at h
  refine ⟨oD O x, κ, [], .exn "" [] :: startD (d.nl - 1) ds, st, o2.wx, ?_, ?_⟩
  · rw [← hN]
    exact startI_env (y := none) rfl ((r.mono List.prefix_rfl (n1.le.trans le2)).wx) (by
      have : rest.length + 1 = d.np := hlen
      omega)
  -- the end
  have done : ∀ κ' L' H' st' fvs ws vs, NxS O κ [] H0 κ' L' H' → Ok Γ (oD O x) κ' L' H' st' → H' x = some (.ins (Γ.cls C) dx fvs) → (Γ.fields C).map (fun f => fvs.lookup (Str.ofString f)) = ws.map some → (∀ g v, fvs.lookup g = some v → ∃ f ∈ Γ.fields C, g = Str.ofString f) →
      Reps Γ κ' (imm (oD O x) κ' L' H') ws vs → Rep Γ κ' (imm O κ' [] H') (.ref x) (.obj C vs) := fun κ' L' H' st' fvs ws vs n' o' hH' hm hk rs => by
    have hOx : ¬ O x := fun z => by obtain ⟨u, eu⟩ := o.oth x z; rw [hx] at eu; cases eu
    have nm := o'.notD hOx
    refine .obj hisC (cut_some.mpr ⟨?_, hH'⟩) hm hk (rs.mono List.prefix_rfl (le_oD.trans le_all))
    rintro (z | z | z)
    · exact nm (.inl z)
    · exact nm (.inr (.inl z))
    · cases z
  cases hr2 : evSs P R d.body (.exn "" [] :: startD (d.nl - 1) ds) st with
  | stuck => rw [hr2] at h; exact h
  | ret v st' => rw [hr2] at h; exact h.elim
  | exc c fs ρ' st' =>
    rw [hr2] at h
    intro κ' L' H' σ' cls dd n' o' e' x'
    have x2 : XRep Γ κ' (imm (oD O x) κ' L' H') cls dd c fs := XRep.wx (Γ := Γ.wx (some (x, none))) (t := Γ.exn) x'
    exact h κ' H' cls dd (n2.thenD hx n').nx o'.unwx.ofD.all (x2.mono List.prefix_rfl (le_oD.trans le_all))
  | nx ρ' st' =>
    rw [hr2] at h
    intro κ' L' H' σ' n' o' e'
    cases ρ' with
    | nil => exact h.elim
    | cons s0 ρ'' =>
      cases s0 <;> try exact h.elim
      case exn c0 f0 =>
        dsimp only at h
        have hs : SlX (Γ.wx (some (x, none))) κ' (imm (oD O x) κ' L' H') σ' 0 c0 f0 := e'.sl 0 _ rfl
        have hσ : σ'[0]? = some (some (.ref x)) := hs.1
        -- x as it was laid: nothing ahead of the fields touches it
        have hH' : H' x = some (.ins (Γ.cls C) dx []) := (n'.oth x (.inr rfl)).trans upd_same
        have nn := n2.thenD hx n'
        refine ini_chain (E := E) (κ0 := κ) (H0 := H0) (C := C) (dx := dx) U' hσ hx o.oth d.inits [] [] κ' L' H' st' [] [] hfl hnd h90 nn o' e' hH' rfl (fun g v z => by cases z) (Nat.le_refl _) .nil ?_
        cases hr3 : evL P R (d.inits.map (·.2)) (.exn c0 f0 :: ρ'') st' with
        | stuck => rw [hr3] at h; exact h
        | exc c fs st2 =>
          rw [hr3] at h
          intro κ2 L2' H2 cls dd n2' o2' x2'
          have x3 : XRep Γ κ2 (imm (oD O x) κ2 L2' H2) cls dd c fs := XRep.wx (Γ := Γ.wx (some (x, none))) (t := Γ.exn) x2'
          exact h κ2 H2 cls dd n2'.nx o2'.unwx.ofD.all (x3.mono List.prefix_rfl (le_oD.trans le_all))
        | ok vs st2 =>
          rw [hr3] at h
          intro κ2 L2' H2 fvs ws n2' o2' hH2 hm hk rs
          have rs' : Reps Γ κ2 (imm (oD O x) κ2 L2' H2) ws vs := Reps.wx (Γ := Γ.wx (some (x, none))) (t := Γ.exn) rs
          exact h κ2 H2 n2'.nx o2'.unwx.ofD.all (done κ2 L2' H2 st2 fvs ws vs n2' o2'.unwx hH2 hm hk rs')
end
end Dp
end SDp22
set_option maxHeartbeats 4000000
/-! Dp23: the whole text, by the depth of calls. -/
noncomputable section SDp23
namespace Dp
open PySem PySem.Spec PyProof.Rows L2

/-- what the head tells of the text -/
structure Wld (Γ : Glob) (S : Stat) (P : Prog) (prog : Program) (w : World) (K : PySem.W.Frag) (mg : Str → Option Value) (base : Heap) : Prop where
  eqK : K = Γ.K
  pf : P.fields = Γ.fields
  px : P.xfields = Γ.xfields
  ini : S.ini = false
  exn0 : Γ.exn = none
  free : ∀ n, S.frees.contains n = true → mg (Str.ofString n) = none
  con : ∀ n, S.consts.contains n = true → ∃ d u v, P.consts n = some d ∧ mg (Str.ofString n) = some u ∧ RelV v u ∧ ∀ κ I, Rep Γ κ I v d
  fn : ∀ f, S.funs.contains f = true → ∃ a, mg (Str.ofString f) = some (.ref a) ∧ Γ.fnAt f = some a
  fnF : ∀ f a, Γ.fnAt f = some a → ∃ d, P.defs f = some d ∧ FnF S K a d
  clsV : ∀ C, S.clss.contains C = true → mg (Str.ofString C) = some (.ref (Γ.cls C))
  clsF : ∀ C, S.clss.contains C = true → P.defs C = none ∧ P.muta C = false ∧ ∃ fI d, Mk K (Γ.cls C) fI ∧ P.defs (C ++ ".__init__") = some d ∧ FnI S K (Γ.fields C) fI d ∧ Γ.isC C = true
  methF : ∀ C m, P.isMeth C m = true → Cls K (Γ.cls C) ∧ (∀ f ∈ Γ.fields C, Str.ofString f ≠ Str.ofString m) ∧ ∃ g d, Meth K (Γ.cls C) (Str.ofString m) g ∧ P.defs (C ++ "." ++ m) = some d ∧ FnF S K g d
  fld : ∀ C f, f ∈ Γ.fields C → Cls K (Γ.cls C) ∧ NoAttr K (Γ.cls C) (Str.ofString f)
  isi : ∀ C, S.clss.contains C = true → (∀ H (a dx : Addr) fs, H a = some (.ins (Γ.cls C) dx fs) → TyX K H (.ref a) (.ref (Γ.cls C))) ∧
    (∀ T, T ∈ ["NoneType", "bool", "int", "str", "list", "tuple"] → PySem.W.kitOne K (.type T) (.ref (Γ.cls C)) = some false ∧ PySem.W.kitOne K (.ref (Γ.cls C)) (.type T) = some false) ∧
    ∀ C', S.clss.contains C' = true → PySem.W.kitOne K (.ref (Γ.cls C)) (.ref (Γ.cls C')) = some (C == C')
  objs : ∀ C, Γ.isC C = true → S.clss.contains C = true
  eqm : ∀ C, P.isMeth C "__eq__" = true → PySem.W.findIn K (.ref (Γ.cls C)) "__ne__" = some (some (.builtin "object.__ne__")) ∧ PySem.W.mroIn K (Γ.cls C) (.type "object") = some true ∧
    ∀ tb, ((∃ T ∈ ["NoneType", "bool", "int", "str", "list", "tuple"], tb = .type T) ∨ ∃ C', S.clss.contains C' = true ∧ tb = .ref (Γ.cls C')) → PySem.W.notFirst K (Γ.cls C) tb = true
  finj : ∀ C f g, f ∈ Γ.fields C → g ∈ Γ.fields C → Str.ofString f = Str.ofString g → f = g
  exc : ∀ X : Cx, Same prog w K mg base X → X.calm = true → Room 3 X.A → ∀ C, S.excs.contains C = true → Γ.isX C = true ∧ MkX X C (Γ.cls C) (Γ.xfields C)
  exm : ∀ C c, Γ.isX C = true → S.catches.contains c = true → PySem.W.exmOne K (.ref (Γ.cls C)) (.ref (Γ.cls c)) = some (P.subx C c)
  nam : ∀ c, S.catches.contains c = true → mg (Str.ofString c) = some (.ref (Γ.cls c))
  xf : ∀ C f, Γ.isX C = true → f ∈ Γ.xfields C → XfC K (Γ.cls C) ∧ PySem.W.findIn K (.ref (Γ.cls C)) (Str.ofString f) = some none
  hln : S.hlen = true → ∀ C, P.isMeth C "__len__" = true → ∃ g d, Meth K (Γ.cls C) "__len__" g ∧ P.defs (C ++ "." ++ "__len__") = some d ∧ FnFQ S K g d

section
variable {Γ : Glob} {S : Stat} {P : Prog} {prog : Program} {w : World} {K : PySem.W.Frag} {mg : Str → Option Value} {base : Heap}
def lv (n : Nat) : Nat := 2 * n + 2
/-- all defs of the text do what the evaluator says, n calls deep -/
structure All (Γ : Glob) (S : Stat) (P : Prog) (prog : Program) (w : World) (K : PySem.W.Frag) (mg : Str → Option Value) (base : Heap) (n : Nat) : Prop where
  fn : ∀ f a, Γ.fnAt f = some a → ∃ d, P.defs f = some d ∧ FnA prog w K mg base (lv n) a (spD Γ (run P n f) d.np)
  cls : ∀ C, S.clss.contains C = true → ∃ fI d, P.defs C = none ∧ P.defs (C ++ ".__init__") = some d ∧ Mk K (Γ.cls C) fI ∧ FnA prog w K mg base (lv n) fI (spM Γ C (run P n C) d.np)
  meth : ∀ C m, P.isMeth C m = true → ∃ g d, Meth K (Γ.cls C) (Str.ofString m) g ∧ P.defs (C ++ "." ++ m) = some d ∧ FnA prog w K mg base (lv n) g (spD Γ (run P n (C ++ "." ++ m)) d.np)
  hln : S.hlen = true → ∀ C, P.isMeth C "__len__" = true → ∃ g d, Meth K (Γ.cls C) "__len__" g ∧ P.defs (C ++ "." ++ "__len__") = some d ∧ FnQA prog w K mg base (lv n) g (spD Γ (run P n (C ++ "." ++ "__len__")) d.np)
theorem run_len {f : String} {d : Def} {n : Nat} {ds : List D} {st : Sto} (hd : P.defs f = some d) (h : run P n f ds st ≠ .stuck) : ds.length = d.np := by
  cases n with
  | zero => exact absurd rfl h
  | succ n =>
    unfold run at h
    rw [hd] at h
    dsimp only at h
    by_cases z : ds.length = d.np
    · exact z
    · rw [if_neg z] at h; exact absurd rfl h
theorem run_lenM {f : String} {d : Def} {n : Nat} {ds : List D} {st : Sto} (h0 : P.defs f = none) (hd : P.defs (f ++ ".__init__") = some d) (h : run P n f ds st ≠ .stuck) : ds.length + 1 = d.np := by
  cases n with
  | zero => exact absurd rfl h
  | succ n =>
    unfold run at h
    rw [h0] at h
    dsimp only at h
    rw [hd] at h
    dsimp only at h
    by_cases z : ds.length + 1 = d.np
    · exact z
    · rw [if_neg z] at h; exact absurd rfl h
theorem All.uni {n : Nat} (Wd : Wld Γ S P prog w K mg base) (A : All Γ S P prog w K mg base n) {X : Cx} (Sm : Same prog w K mg base X) (hc : X.calm = true) (hr : Room (lv n + 1) X.A) : Uni Γ S P (run P n) (lv n) X ∧ UniX Γ S P (lv n) X := by
  obtain ⟨e1, e2, e3, e4, e5⟩ := Sm
  subst e1 e2 e3 e4 e5
  refine ⟨?_, ?_⟩
  · exact {
      K := Wd.eqK
      hu := by have := hr.un; omega
      room := fun _ => hr
      pf := Wd.pf
      px := Wd.px
      free := Wd.free
      con := Wd.con
      fn := Wd.fn
      fnAt := fun _ f a h => by
        obtain ⟨d, hd, F⟩ := A.fn f a h
        exact ⟨d.np, F, fun ds st hs => run_len hd hs⟩
      clsV := Wd.clsV
      cls := fun _ C h => by
        obtain ⟨fI, d, h0, hd, M, F⟩ := A.cls C h
        exact ⟨fI, d.np, M, F, fun ds st hs => run_lenM h0 hd hs⟩
      meth := fun _ C m h => by
        obtain ⟨c1, c2, _⟩ := Wd.methF C m h
        obtain ⟨g, d, M, hd, F⟩ := A.meth C m h
        exact ⟨c1, c2, g, d.np, M, F, fun ds st hs => run_len hd hs⟩
      fld := Wd.fld
      isi := Wd.isi
      objs := Wd.objs
      exn := fun z => absurd (hc.symm.trans z) (by simp)
      exn0 := fun _ _ => Wd.exn0
      eqm := Wd.eqm
      finj := Wd.finj
      hrm := fun z => absurd (hc.symm.trans z) (by simp)
      hln := fun hl C h => by
        obtain ⟨g, d, M, hd, F⟩ := A.hln hl C h
        exact ⟨g, d.np, M, F, fun ds st hs => run_len hd hs⟩ }
  · exact ⟨fun X' a1 a2 a3 a4 a5 hc' hr' C hC => Wd.exc X' ⟨a1, a2, a3, a4, a5⟩ hc' (hr'.mono (by unfold lv; omega)) C hC, Wd.exm, Wd.nam, Wd.xf⟩
theorem FnA.imp {k : Nat} {a : Addr} {sp sp' : Sp} (F : FnA prog w K mg base k a sp) (h : ∀ vs H Q E, sp' vs H Q E → sp vs H Q E) : FnA prog w K mg base k a sp' := by
  obtain ⟨fd, ps, h1, h2, h3⟩ := F
  exact ⟨fd, ps, h1, h2, h3.imp h⟩
theorem spD_congr {F G : List D → Sto → Res D} {np : Nat} (h : ∀ ds st, F ds st = G ds st) : spD Γ F np = spD Γ G np := by
  have : F = G := by funext ds st; exact h ds st
  rw [this]
/-- the context of a def that is called while an exception is being handled -/
theorem uniQ (Wd : Wld Γ S P prog w K mg base) {X : Cx} {n : Nat} (Sm : Same prog w K mg base X) (hc : X.calm = false) (hr : L2H.RoomH (lv n + 1) X.A) : Uni (Γ.wx tQ) { S with hlen := false } P (run P n) (lv n) X ∧ UniX (Γ.wx tQ) { S with hlen := false } P (lv n) X := by
  obtain ⟨e1, e2, e3, e4, e5⟩ := Sm
  subst e1 e2 e3 e4 e5
  have nc : X.calm = true → False := fun z => by rw [hc] at z; cases z
  refine ⟨?_, ?_⟩
  · exact {
      K := Wd.eqK
      hu := by have := hr.un; omega
      room := fun z => (nc z).elim
      pf := Wd.pf
      px := Wd.px
      free := Wd.free
      con := fun m hm => by
        obtain ⟨d, u, v, e1, e2, e3, e4⟩ := Wd.con m hm
        exact ⟨d, u, v, e1, e2, e3, fun κ I => (e4 κ I).wx⟩
      fn := Wd.fn
      fnAt := fun z => (nc z).elim
      clsV := Wd.clsV
      cls := fun z => (nc z).elim
      meth := fun z => (nc z).elim
      fld := Wd.fld
      isi := Wd.isi
      objs := Wd.objs
      exn := fun _ => ⟨0, (.none, none), rfl, fun C f e te pos h1 => nomatch h1⟩
      exn0 := fun z => (nc z).elim
      eqm := Wd.eqm
      finj := Wd.finj
      hrm := fun _ z => nomatch z
      hln := fun z => nomatch z }
  · exact ⟨fun X' a1 a2 a3 a4 a5 hc' hr' C hC => Wd.exc X' ⟨a1, a2, a3, a4, a5⟩ hc' (hr'.mono (by unfold lv; omega)) C hC, Wd.exm, Wd.nam, Wd.xf⟩
theorem all_ok (Wd : Wld Γ S P prog w K mg base) : ∀ n, All Γ S P prog w K mg base n
  | 0 => by
    refine ⟨fun f a h => ?_, fun C h => ?_, fun C m h => ?_, fun hl C h => ?_⟩
    · obtain ⟨d, hd, x, qual, st, fd, N, ps, Fu, _, hps, _, _, hB, _⟩ := Wd.fnF f a h
      refine ⟨d, hd, fd, ps, Fu.kp, hB, ⟨fun vs H Q E q => by rw [hps]; exact q.1, fun A outer s H args us vs Q E _ _ _ _ q => ?_⟩⟩
      obtain ⟨_, _, _, _, _, _, _, q⟩ := q
      exact q.elim
    · obtain ⟨h0, _, fI, d, M, hd, ⟨x, qual, st, fd, N, ps, Fu, _, hps, _, _, _, hB, _⟩, _⟩ := Wd.clsF C h
      refine ⟨fI, d, h0, hd, M, fd, ps, Fu.kp, hB, ⟨fun vs H Q E q => by rw [hps]; exact q.1, fun A outer s H args us vs Q E _ _ _ _ q => ?_⟩⟩
      obtain ⟨_, _, _, _, _, _, _, _, _, _, _, _, _, _, _, _, q⟩ := q
      exact q.elim
    · obtain ⟨_, _, g, d, M, hd, x, qual, st, fd, N, ps, Fu, _, hps, _, _, hB, _⟩ := Wd.methF C m h
      refine ⟨g, d, M, hd, fd, ps, Fu.kp, hB, ⟨fun vs H Q E q => by rw [hps]; exact q.1, fun A outer s H args us vs Q E _ _ _ _ q => ?_⟩⟩
      obtain ⟨_, _, _, _, _, _, _, q⟩ := q
      exact q.elim
    · obtain ⟨g, d, M, hd, x, qual, st, fd, N, ps, Fu, _, hps, _, _, hB, _⟩ := Wd.hln hl C h
      refine ⟨g, d, M, hd, fd, ps, hB, ⟨fun vs H Q E q => by rw [hps]; exact q.1, fun A outer s H args us vs Q E _ _ _ _ q => ?_⟩⟩
      obtain ⟨_, _, _, _, _, _, _, q⟩ := q
      exact q.elim
  | n + 1 => by
    have ih := all_ok Wd n
    have hU : ∀ X : Cx, Same prog w K mg base X → X.calm = true → Room (lv n + 1) X.A → Uni Γ S P (run P n) (lv n) X ∧ UniX Γ S P (lv n) X := fun X sm hc hr => ih.uni Wd sm hc hr
    refine ⟨fun f a h => ?_, fun C h => ?_, fun C m h => ?_, fun hl C h => ?_⟩
    · obtain ⟨d, hd, F⟩ := Wd.fnF f a h
      refine ⟨d, hd, ?_⟩
      have q := fn_def F hU
      rw [spD_congr (G := run P (n + 1) f) (fun ds st => by unfold run; rw [hd])] at q
      exact q
    · obtain ⟨h0, hm, fI, d, M, hd, F, hC⟩ := Wd.clsF C h
      refine ⟨fI, d, h0, hd, M, ?_⟩
      have q := fn_make F hC hU
      have e : (fun (ds : List D) (st : Sto) => if ds.length + 1 = d.np then makeB P (run P n) C d ds st else .stuck) = run P (n + 1) C := by
        funext ds st
        unfold run
        rw [h0]
        dsimp only
        rw [hd]
        dsimp only
        rw [hm]
        rfl
      rw [e] at q
      exact q
    · obtain ⟨c1, c2, g, d, M, hd, F⟩ := Wd.methF C m h
      refine ⟨g, d, M, hd, ?_⟩
      have q := fn_def F hU
      rw [spD_congr (G := run P (n + 1) (C ++ "." ++ m)) (fun ds st => by unfold run; rw [hd])] at q
      exact q
    · obtain ⟨g, d, M, hd, F⟩ := Wd.hln hl C h
      refine ⟨g, d, M, hd, ?_⟩
      have q := fn_defQ (R := run P n) (k := lv n) F (fun X sm hc hr => uniQ Wd sm hc hr)
      rw [spD_congr (G := run P (n + 1) (C ++ "." ++ "__len__")) (fun ds st => by unfold run; rw [hd])] at q
      exact q
end
end Dp
end SDp23
set_option maxHeartbeats 4000000
/-! Dp24: own exceptions over ValueError whose __init__ says super().__init__(..). -/
noncomputable section SDp24
namespace Dp
open PySem PySem.Spec PyProof.Rows L2 NdefX

/-- the tree of o.m(..), the object by attributeBase -/
theorem meth_treeS {o : Expr} {m : Str} {apos pos : Pos} {es : List Expr} {env : Env} (hst : ∀ e ∈ es, notStar e = true) (hl : es.length < 30) (hp : apos.endLine = pos.line) :
    ∃ pl : Sem Bool, eval (.Call (.Attribute o m apos) es [] pos) env = (do
      let ov ← attributeBase o m env (eval o env)
      standAt apos.atName
      let (f, first) ← holding [ov] (getMethod ov m pl)
      callWith pos f first (backTo pos (starEach es env)) []) := by
  have hform : methodCallForm (es.length + ([] : List Keyword).length) (backTo pos (starEach es env)) (backToKw pos (keywordEach [] env)) = true := by
    unfold methodCallForm
    have h1 : (backTo pos (starEach es env)).all (fun x => !x.1) = true := by
      have := star_any (pos := pos) (env := env) hst
      rw [List.any_eq_false] at this
      rw [List.all_eq_true]
      intro y hy
      have := this y hy
      simpa using this
    rw [h1]
    simp [backToKw, keywordEach]
    omega
  refine ⟨(do return (← importBound o env).getD true), ?_⟩
  rw [arm_eval_Call]
  unfold methodCall
  rw [hform]
  have hcal : ∀ ov, calleeOf true o env ov m = getMethod ov m (do return (← importBound o env).getD true) := fun _ => rfl
  have hpos : methodCallPos true o env apos pos = pure pos := by
    unfold methodCallPos
    rw [if_pos (by simp [hp])]
  simp only [hcal, hpos, pure_bind]
  rfl
/-- the facts of one such class -/
structure XFacts (K : PySem.W.Frag) (prog : Program) (mg : Str → Option Value) (C fI cc cda : Addr) (qual nm : Str) (st : Stmt) (fd : FuncData) (N ps : List Str) : Prop where
  T : OexC K C
  iC : PySem.W.findIn K (.ref C) "__init__" = some (some (.ref fI))
  tI : PySem.W.typeIn K (.ref fI) = some (.type "function")
  kI : PySem.W.keepIn K (.ref fI) = true
  lk : ∃ oc od kV doc pm an ct osl, fd = PySem.W.ksFn nm qual (defArgs st) (defBody st) (defScope st) .none kV doc pm an (.ref cda) ct cc ∧ K.lookup fI = some ⟨oc, od, .func fd, osl⟩
  hcd : PySem.W.codeIn K (.ref cda) qual = true
  cell : ∃ cl cld csl, K.lookup cc = some ⟨cl, cld, .cell (some (.ref C)), csl⟩
  code : ∃ ccl cdd vs ccs file tf, K.lookup cda = some ⟨ccl, cdd, .fields vs, ccs⟩ ∧ vs[2]? = some (.str file tf) ∧ ((prog.main.file : Str) == file) = true
  sup : PySem.W.ks_superIn K C C "__init__" = some (some (.builtin "ValueError.__init__"))
  sub : PySem.W.mroIn K C (.ref C) = some true
  hB : PySem.W.subIn K (.ref C) (.type "ValueError") = some true
  op : PySem.W.nsIn K cStatics "thirdparty.any" = some none
  nosup : mg "super" = none
  htop : (prog.main.scope.names.lookup ("super" : Str)).isSome = false
  hs : (defScope st).names.lookup ("super" : Str) = some .globalImplicit
  Sc : NScope N ps ["__class__"] (defScope st)
  hp : ∃ ar, (((defArgs st).posonlyargs ++ (defArgs st).args).head? = some ar) ∧ ps[0]? = some ar.arg
  B : Binds K fd ps []
section
variable {X : Cx} {pins : List (Addr × Obj)} {σ : L2.St} {H : Hp} {s : Shared} {E : Value → Shared → Prop} {K : PySem.W.Frag} {C fI cc cda : Addr} {qual nm : Str} {st : Stmt} {fd : FuncData} {N ps : List Str}
theorem call_mw {prog : Program} {w : World} {A : Around} {E : Value → Shared → Prop} {h : Heap} {g : Array GenState} {d : Drawn} {t : Nat} {os : OsState} {K : PySem.W.Frag} {C u e t0 : Addr} {rest : List Value} {Q : Value → Shared → Prop} (KX : K.In h) (T : OexC K C)
    (he : h.get? e = some (PySem.HandSPX.excO C t0)) (hu : h.get? u = some (PySem.W.kxs_mw "ValueError.__init__" e)) (hrest : rest.length ≤ sizeLine)
    (hq : ∀ h' t1, (∀ b o, b ≠ e → h.get? b = some o → h'.get? b = some o) → h'.get? e = some (PySem.HandSPX.excO C t1) → Q .none ⟨h', g, d, t, os⟩) :
    wpAny (model prog w) A (call (.ref u) rest) Q E ⟨h, g, d, t, os⟩ := by
  obtain ⟨nm, q, N, bs, bm, sn, sub, ab, col, dd, k0, k1, k2, k3, k5, hC, hbm⟩ := T.cls
  refine wpAny_call (codeAny_of_tree ?_)
  show wpAny _ A.in1 (callAny (.ref u) ⟨rest, []⟩) _ _ _
  simp only [callAny]
  refine wpAny_bind (wpAny_load hu ?_)
  simp only [PySem.W.kxs_mw, show (Value.type "method-wrapper" == Value.type "method" || Value.type "method-wrapper" == Value.type "builtin_function_or_method" || Value.type "method-wrapper" == Value.type "method-wrapper") = true by decide, if_true]
  refine PySem.W.KFB.if_so (by decide) ?_
  refine wpAny_bind (PySem.W.check_bound_init F.excBase_ValueError.toExcCallFacts (KX _ _ hC) he rfl ?_)
  refine wpAny_bind (wpAny_pure (wpAny_pure ?_))
  refine ⟨plainId_quiet F.excBase_ValueError.init.plain _, codeAny_builtin F.excBase_ValueError.initEntry ?_⟩
  exact PySem.W.exc_init_tree (cls := .ref C) (t0 := t0) (dv := none) (c2 := .none) (c3 := .none) (b4 := .bool false) he hrest fun h' k e' _ => hq h' _ k e'
/-- super().__init__(..), in that frame -/
theorem super_stmt {a : Addr} {es : List Expr} {p0 p1 ap cp p : Pos} {t : TA} {Q : Flow → Shared → Prop} (Fc : XFacts X.K X.prog X.mg C fI cc cda qual nm st fd N ps) (hN : X.N = N) (henv : X.env = PySem.W.ksEnv qual (defScope st) X.env.locals fI (.ref cda) cc)
    (I : Inv X pins σ H s) (hσ : σ[0]? = some (some (.ref a))) (hH : H a = some (exo a C none)) (ha : PA X es t) (hst : ∀ e ∈ es, notStar e = true) (hl : es.length < 30) (hne : es ≠ []) (hap : ap.endLine = cp.line)
    (h : t σ H fun vs H1 => vs.length ≤ 1000 ∧ H1 = H) (hQ : ∀ s', Inv X pins σ H s' → Q .next s') :
    _root_.PySem.wpAt (model X.prog X.w) X.A (.func (defBody st) X.env) (exec (.Expr (.Call (.Attribute (.Call (.Name "super" p0) [] [] p1) "__init__" ap) es [] cp) p) X.env) Q X.xe s := by
  obtain ⟨pl, htree⟩ := meth_treeS (o := .Call (.Name "super" p0) [] [] p1) (m := "__init__") (apos := ap) (pos := cp) (env := X.env) hst hl hap
  refine ks_wpAt_Expr_any (ks_wpAt_MethodCall (pl := pl) ?_ htree) I.quiet rfl
  obtain ⟨oc, od, kV, doc, pm, an, ct, osl, rfl, lk⟩ := Fc.lk
  obtain ⟨cl, cld, csl, hcell⟩ := Fc.cell
  obtain ⟨ccl, cdd, vs, ccs, file, tf, hcode, hvs, hfile⟩ := Fc.code
  obtain ⟨ar, hp1, hp2⟩ := Fc.hp
  have KX := I.kIn
  -- the class
  have hsup := Fc.sup
  unfold PySem.W.ks_superIn at hsup
  cases hD : PySem.W.clsIn X.K C with
  | none => rw [hD] at hsup; cases hsup
  | some cdD =>
    rw [hD] at hsup
    obtain ⟨oD, hD1, hD2⟩ : ∃ oD, s.heap.get? C = some oD ∧ oD.data = .cls cdD := by
      unfold PySem.W.clsIn at hD
      split at hD
      · rename_i c d cd' sl ho
        cases hD
        exact ⟨_, KX _ _ ho, rfl⟩
      · cases hD
    obtain ⟨t1, ho⟩ := exo_at I.hok hH
    have hkind : ∀ x, X.env.kindOf x = (defScope st).names.lookup x := fun x => by rw [henv]; rfl
    have hcls : X.env.kindOf "__class__" = some .free := by rw [hkind]; exact Fc.Sc.frk _ (by simp)
    have hself : X.env.kindOf ar.arg = some .local := by rw [hkind]; exact Fc.Sc.par _ (List.mem_iff_getElem?.mpr ⟨0, hp2⟩)
    obtain ⟨m, hn, hl2⟩ := id I.loc
    have hN0 : X.N[0]? = some ar.arg := by
      rw [hN]
      have this : (N.take (ps.length + (["__class__"] : List Str).length))[0]? = (ps ++ (["__class__"] : List Str))[0]? := by rw [Fc.Sc.pre]
      rw [List.getElem?_take, List.getElem?_append_left (List.getElem?_eq_some_iff.mp hp2).1, hp2] at this
      split at this
      · exact this
      · cases this
    obtain ⟨u, ru, lku⟩ := hl2 0 ar.arg _ hN0 hσ (.inl (by have := hself; exact this))
    obtain rfl : u = .ref a := ru
    have hm : m ar.arg = some (.ref a) := by
      rcases lku with ⟨_, q⟩ | ⟨q, _⟩
      · exact q
      · rw [hself] at q
        rcases q with q | q <;> cases q
    have hkf : X.env.scope.kind = .function := I.ok.kind
    have hcellat : X.env.cells.lookup ("__class__" : Str) = some cc := by rw [henv]; rfl
    obtain ⟨mb, hb1, hb2⟩ := I.mod.blt
    refine ks_wpAt_super_base (f := fI) (cc := cda) (of := ⟨oc, od, .func (PySem.W.ksFn nm qual (defArgs st) (defBody st) (defScope st) .none kV doc pm an (.ref cda) ct cc), osl⟩) (ar := ar) (by rw [hkind]; exact Fc.hs) hcls rfl (by rw [henv]) (KX _ _ lk) rfl hp1 (by rw [henv]) (KX _ _ hcode) rfl hvs hfile Fc.htop ?_
    refine PySem.W.ks_loadName_global hkf (by rw [hkind]; exact Fc.hs) (Calls.loadGlobal_builtin (by rw [I.ok.glob]; exact I.mod.glob.keeps I.bk) Fc.nosup (by rw [I.ok.blt]; exact hb1.keeps I.bk) ((hb2 _ (by decide)).trans (show bootBuiltins "super" = some (.type "super") by decide +kernel)) ⟨rfl, ?_⟩)
    refine wpAny_loadName_free hkf hcls hcellat ⟨_, KX _ _ hcell, rfl⟩ ?_
    refine wpAny_loadName_local hkf hself hn hm ?_
    have L1 : PySem.W.Looks (model X.prog X.w) s.heap (isSubtype (.ref C) (.ref C)) true := PySem.W.looks_mroIn KX Fc.sub
    obtain ⟨hh, g, d, tk, os⟩ := s
    refine ks_wpAny_isType_cls hD1 hD2 ⟨rfl, ?_⟩
    refine ks_wpAny_call_super hD1 hD2 ho rfl (fun c e => by cases e) L1 (fun h' e k => ?_)
    have I2 : Inv X pins σ H ⟨h', g, d, tk, os⟩ := I.kept (t' := tk) k
    have KX2 := I2.kIn
    -- the bound __init__
    have hxC : a ≠ C := fun z => by
      have e1 := k _ _ ho
      have e2 := k _ _ hD1
      rw [z] at e1
      rw [e1] at e2
      cases e2
      cases hD2
    have ho2 := k _ _ ho
    have LT : PySem.W.Looks (model X.prog X.w) h' (typeOf (.ref a)) (.ref C) := fun A Q E s k q => wpAny_typeOf_ref (k _ _ ho2) q
    have hI : PySem.W.Looks (model X.prog X.w) h' (isInstance (.ref a) (.type "ValueError")) true := LT.andThen (PySem.W.looks_subIn KX2 Fc.hB)
    refine PySem.W.kxs_getMethod PySem.W.kxs_ValueError e (PySem.W.looks_opaque KX2 Fc.op) (l₀ := cdD.mro) (fun A Q E s k q => wpAny_bind ((PySem.W.looks_clsIn KX2 hD) A _ E s k (wpAny_pure q))) rfl KX2 hsup hI hxC rfl ?_
    have I3 : Inv X pins σ H ⟨h'.push (PySem.W.kxs_mw "ValueError.__init__" a), g, d, tk + 1, os⟩ := I2.kept (t' := tk + 1) fun b o e => Heap.get?_push_of_some _ e
    have hu : (h'.push (PySem.W.kxs_mw "ValueError.__init__" a)).get? h'.objs.size = some (PySem.W.kxs_mw "ValueError.__init__" a) := Heap.get?_push_size _ rfl
    have hfp : ∀ b ∈ [h'.objs.size], FpOk X pins H b := fun b hb => by
      rw [List.mem_singleton.mp hb]
      exact I2.fpOk (Nat.le_refl _) (I2.hok.fresh (Nat.le_refl _))
    have I4 := I3.pinned hfp (fun b hb => by rw [List.mem_singleton.mp hb]; exact ⟨_, hu, fun v z => nomatch z⟩)
    have fin : ∀ (us : List Value) (s4 : Shared) (vs : List V) (H4 : Hp), Inv X (pins ++ pinsAt [h'.objs.size] (h'.push (PySem.W.kxs_mw "ValueError.__init__" a))) σ H4 s4 → Vals vs us → (vs.length ≤ 1000 ∧ H4 = H) → wpAny (model X.prog X.w) X.A (call (.ref h'.objs.size) us) (fun _ => Q .next) X.xe s4 ∧ PySem.W.KxsAt "ValueError.__init__" h'.objs.size a s4.heap := by
      intro us s4 vs H4 I5 r5 q5
      obtain ⟨q5, rfl⟩ := q5
      have hp5 := (I5.pin (h'.objs.size, _) (List.mem_append_right _ (List.mem_append_right _ (mem_pinsAt (List.mem_singleton.mpr rfl) hu)))).1
      have I6 := I5.unpinned
      obtain ⟨t5, ho5⟩ := exo_at I6.hok hH
      refine ⟨?_, hp5⟩
      obtain ⟨h5, g5, d5, tk5, os5⟩ := s4
      refine call_mw I6.kIn Fc.T ho5 hp5 (by rw [← r5.length, sizeLine_eq]; omega) fun h6 t6 k6 e6 => ?_
      have J := I6.write (t' := tk5) (x := a) (e := a) (o := exo a C none) (by rw [hH]; exact True.intro) (.inl rfl) k6 ⟨_, e6⟩ (exo_ok e6)
      have eu : upd H4 a (exo a C none) = H4 := by
        funext b
        by_cases hb : b = a
        · rw [hb, upd_same, hH]
        · rw [upd_ne hb]
      rw [eu] at J
      exact hQ _ J
    have run := ha.run cp _ _ σ H _ I4 h
    cases es with
    | nil => exact absurd rfl hne
    | cons e0 es0 =>
      have hs0 : starEach (e0 :: es0) X.env = (false, eval e0 X.env) :: starEach es0 X.env := star_cons (hst _ List.mem_cons_self)
      rw [hs0] at run ⊢
      refine PySem.W.kxs_callWith (i := "ValueError.__init__") (x := a) (by show (false || (backTo cp (starEach es0 X.env)).any (·.1)) = false; rw [star_any fun y hy => hst y (List.mem_cons_of_mem _ hy)]; rfl) (Calls.evalArgs_plain ?_)
      exact thn run fun us s4 ⟨vs, H4, I5, r5, q5⟩ => ⟨(fin us s4 vs H4 I5 r5 q5).2, (fin us s4 vs H4 I5 r5 q5).1⟩

/-! ### the __init__ as a def -/
/-- the body's form, of the fields f1 .. -/
def xAsg (N : List Str) (sc : Scope) (f : String) (i : Nat) : Stmt → Bool
  | .Assign [.Attribute (.Name x _) g _] (.Name y _) _ => decide (g = Str.ofString f) && decide (N[0]? = some x) && decide (N[i]? = some y) && decide (sc.names.lookup x = some .local) && decide (sc.names.lookup y = some .local) && !(x == ("__debug__" : Str)) && !(y == ("__debug__" : Str)) && !(x == ("__classdict__" : Str)) && !(y == ("__classdict__" : Str))
  | _ => false
def xNm (N : List Str) (sc : Scope) (i : Nat) : Expr → Bool
  | .Name y _ => decide (N[i]? = some y) && decide (sc.names.lookup y = some .local) && !(y == ("__debug__" : Str)) && !(y == ("__classdict__" : Str))
  | _ => false
def xBody (N : List Str) (sc : Scope) (flds : List String) : List Stmt → Bool
  | [.Expr (.Call (.Attribute (.Call (.Name s _) [] [] _) m ap) [e1] [] cp) _, a1] => decide (s = ("super" : Str)) && decide (m = ("__init__" : Str)) && decide (ap.endLine = cp.line) && xNm N sc 1 e1 && (match flds with
    | [f] => xAsg N sc f 1 a1
    | _ => false)
  | [.Expr (.Call (.Attribute (.Call (.Name s _) [] [] _) m ap) [e1, e2] [] cp) _, a1, a2] => decide (s = ("super" : Str)) && decide (m = ("__init__" : Str)) && decide (ap.endLine = cp.line) && xNm N sc 1 e1 && xNm N sc 2 e2 && (match flds with
    | [f, g] => xAsg N sc f 1 a1 && xAsg N sc g 2 a2 && !(Str.ofString f == Str.ofString g)
    | _ => false)
  | _ => false
def spX (C : Addr) (flds : List String) : Sp := fun vs H Q E => vs.length = flds.length + 1 ∧ ∃ a ws H1, vs = .ref a :: ws ∧ H1 a = none ∧ H = upd H1 a (exo a C none) ∧
  ∀ d fvs, H1 d = none → d ≠ a → flds.map (fun f => fvs.lookup (Str.ofString f)) = ws.map some → Q .non (upd (upd H1 d (exd d fvs)) a (exo a C (some d)))
theorem xNm_pe {X : Cx} {N : List Str} {sc : Scope} {i : Nat} {e : Expr} (hN : X.N = N) (hs : X.env.scope = sc) (h : xNm N sc i e = true) : PE X e (tVar i) ∧ notStar e = true := by
  unfold xNm at h
  split at h
  · simp only [Bool.and_eq_true, decide_eq_true_eq, Bool.not_eq_true'] at h
    exact ⟨pe_var (by rw [hN]; exact h.1.1.1) (.inl (by rw [hs]; exact h.1.1.2)) h.1.2 h.2, rfl⟩
  · cases h
theorem xAsg_ps {X : Cx} {N : List Str} {sc : Scope} {f : String} {i : Nat} {s : Stmt} (hN : X.N = N) (hs : X.env.scope = sc) (h : xAsg N sc f i s = true) : PS X s (tOst X.K (Str.ofString f) (tVar 0) (tVar i)) := by
  unfold xAsg at h
  split at h
  · simp only [Bool.and_eq_true, decide_eq_true_eq, Bool.not_eq_true'] at h
    obtain ⟨⟨⟨⟨⟨⟨⟨⟨h1, h2⟩, h3⟩, h4⟩, h5⟩, h6⟩, h7⟩, h8⟩, h9⟩ := h
    rw [h1]
    exact ps_ost (pe_var (by rw [hN]; exact h2) (.inl (by rw [hs]; exact h4)) h6 h8) (pe_var (by rw [hN]; exact h3) (.inl (by rw [hs]; exact h5)) h7 h9) rfl
  · cases h
theorem upd_swap {H : Hp} {a d : Addr} {u v w : HO} (h : d ≠ a) : upd (upd (upd H a u) d v) a w = upd (upd H d v) a w := by
  funext b
  by_cases h1 : b = a
  · subst h1; rw [upd_same, upd_same]
  · rw [upd_ne h1, upd_ne h1]
    by_cases h2 : b = d
    · subst h2; rw [upd_same, upd_same]
    · rw [upd_ne h2, upd_ne h2, upd_ne h1]
theorem upd_swap2 {H : Hp} {a d : Addr} {u v w : HO} (h : d ≠ a) : upd (upd (upd H d v) a u) d w = upd (upd H d w) a u := by
  funext b
  by_cases h1 : b = d
  · subst h1; rw [upd_same, upd_ne h, upd_same]
  · rw [upd_ne h1]
    by_cases h2 : b = a
    · subst h2; rw [upd_same, upd_same]
    · rw [upd_ne h2, upd_ne h2, upd_ne h1, upd_ne h1]
theorem fn_exc {prog : Program} {w : World} {K : PySem.W.Frag} {mg : Str → Option Value} {base : Heap} {C fI cc cda : Addr} {qual nm : Str} {st : Stmt} {fd : FuncData} {N ps : List Str} {flds : List String} (Fc : XFacts K prog mg C fI cc cda qual nm st fd N ps)
    (hb : xBody N (defScope st) flds (defBody st) = true) (hps : ps.length = flds.length + 1) (hfin : ∀ f ∈ flds, PySem.W.findIn K (.ref C) (Str.ofString f) = some none) : FnOk prog w K mg base (L2.CX prog w) 1 fI fd ps (spX C flds) := by
  have Fc' := Fc
  obtain ⟨oc, od, kV, doc, pm, an, ct, osl, rfl, lk⟩ := Fc.lk
  obtain ⟨cl, cld, csl, hcell⟩ := Fc.cell
  refine ⟨fun vs H Q E h => by rw [hps]; exact h.1, fun A outer s H args us vs Q E hr e0 hbd r hsp => ?_⟩
  obtain ⟨hlen, a, ws, H1, rfl, hHa, rfl, hq⟩ := hsp
  have KX : K.In s.heap := e0.mod.kin.keeps fun b o e => (e0.bs b o e).1
  have lim : s.heap.NoLimit := e0.mod.nolimit.keeps fun b o e => (e0.bs b o e).1
  have hl : (V.ref a :: ws).length = ps.length := by rw [hps]; exact hlen
  let F : NF := ⟨nm, qual, defArgs st, defBody st, defScope st, [("__class__", cc)], cda⟩
  have Cl : CellsAt F.cl ["__class__"] [some (.ref C)] s.heap (upd H1 a (exo a C none)) := by
    have hK := e0.mod.kin cc _ hcell
    refine ⟨rfl, fun y c hy => ?_, fun x y c hx hy => ?_, fun i y hy => ?_⟩
    · have hy : List.lookup y [(("__class__" : Str), cc)] = some c := hy
      simp only [List.lookup] at hy
      split at hy
      · cases hy
        exact ⟨(e0.bs _ _ hK).2, _, _, (e0.bs _ _ hK).1, rfl⟩
      · cases hy
    · have hx : List.lookup x [(("__class__" : Str), cc)] = some c := hx
      have hy : List.lookup y [(("__class__" : Str), cc)] = some c := hy
      simp only [List.lookup] at hx hy
      split at hx
      · rename_i e1
        split at hy
        · rename_i e2
          rw [eq_of_beq e1, eq_of_beq e2]
        · cases hy
      · cases hx
    · cases i with
      | zero =>
        simp at hy
        subst hy
        refine ⟨cc, rfl, fun v hv => ?_⟩
        simp at hv
        subst hv
        exact ⟨.ref C, rfl, _, (e0.bs _ _ hK).1, rfl⟩
      | succ i => simp at hy
  refine ks_codeAny_call_defAt (fd := PySem.W.ksFn nm qual (defArgs st) (defBody st) (defScope st) .none kV doc pm an (.ref cda) ct cc) (body := defBody st) (binds := ps.zip us) hr.depth (KX _ _ lk) rfl lim (PySem.W.codeRec_of KX Fc.hcd) rfl hbd Fc.Sc.nocell (fun ⟨n, _⟩ hy => Fc.Sc.par n (List.of_mem_zip hy).1) (fun h₁ hns kp => ?_) Fc.Sc.co Fc.Sc.gen Fc.Sc.kind
  generalize hX : ncx (L2.CX prog w) prog w K mg base N F fI A outer s (upd H1 a (exo a C none)) E = X
  have I : Inv X [] (startF N (.ref a :: ws) [some (.ref C)]) (upd H1 a (exo a C none)) { s with heap := h₁, toks := s.toks + (ps.zip us).length } := by
    rw [← hX]
    exact inv_startN Fc.Sc hr.hd e0 hl r Cl hns kp
  have x1 : X.prog = prog := by rw [← hX]; rfl
  have x2 : X.w = w := by rw [← hX]; rfl
  have x3 : X.K = K := by rw [← hX]; rfl
  have x4 : X.mg = mg := by rw [← hX]; rfl
  have x5 : X.N = N := by rw [← hX]; rfl
  have x6 : X.env = callEnv (PySem.W.ksFn nm qual (defArgs st) (defBody st) (defScope st) .none kV doc pm an (.ref cda) ct cc) s.heap.objs.size fI := by rw [← hX]; rfl
  have x7 : X.A = A.deeper (callEnv (PySem.W.ksFn nm qual (defArgs st) (defBody st) (defScope st) .none kV doc pm an (.ref cda) ct cc) s.heap.objs.size fI) := by rw [← hX]; rfl
  have x8 : X.env.scope = defScope st := by rw [x6]; rfl
  have x9 : X.xe = fun e s' => wpAny (model prog w) X.A (leaving X.env e) (fun _ s'' => L2.CX prog w outer (upd H1 a (exo a C none)) s E e s'') (fun e' s'' => L2.CX prog w outer (upd H1 a (exo a C none)) s E e' s'') s' := by rw [← hX]; rfl
  have x10 : X.H_0 = upd H1 a (exo a C none) := by rw [← hX]; rfl
  have x11 : X.s_0 = s := by rw [← hX]; rfl
  have x12 : X.outer = outer := by rw [← hX]; rfl
  have x13 : X.ex = [] := by rw [← hX]; rfl
  rw [← x7, ← x6]
  generalize hσe : startF N (.ref a :: ws) [some (.ref C)] = σ at I
  have hσ0 : σ[0]? = some (some (.ref a)) := by rw [← hσe]; rfl
  have hσi : ∀ i v, ws[i]? = some v → σ[i + 1]? = some (some v) := fun i v hv => by
    rw [← hσe]
    show ((V.ref a :: ws).map some ++ _)[i + 1]? = _
    have hlt : i < ws.length := (List.getElem?_eq_some_iff.mp hv).1
    rw [List.getElem?_append_left (by simpa using hlt), List.getElem?_map, List.getElem?_cons_succ, hv]
    rfl
  clear hX Cl
  subst x1 x2 x3 x4
  have henv : X.env = PySem.W.ksEnv qual (defScope st) X.env.locals fI (.ref cda) cc := by rw [x6]; rfl
  have e0 : ∀ (f : Flow) (s' : Shared), (f = .next ∧ ∃ σ' H', Inv X [] σ' H' s' ∧ Q .non H') → CR (L2.CX X.prog X.w) outer X.prog X.w (upd H1 a (exo a C none)) s Q E (.ok (.ret (match f with | .ret v => v | _ => .none))) s' := fun f s' hf => by
    obtain ⟨rfl, σ', H', J, q⟩ := hf
    refine ⟨.non, H', by rw [J.os, x11], J.bare, ?_, J.hok, rfl, q⟩
    have := J.base
    rw [x13, x10, x11] at this
    rw [← x12]
    exact this
  refine ks_wpAt_mono (E := X.xe) (Q := fun f s' => f = .next ∧ ∃ σ' H', Inv X [] σ' H' s' ∧ Q .non H') ?_ (fun f s' hf => e0 f s' hf) (fun e s' he => by rw [x9] at he; exact he)
  -- the doc, then super, then the fields
  have start : ∀ {d1 : Stmt} {rest : List Stmt} {tt : TS},
      (∀ (Qq : Flow → Shared → Prop) (s2 : Shared), Inv X [] σ (upd H1 a (exo a C none)) s2 → (∀ s', Inv X [] σ (upd H1 a (exo a C none)) s' → Qq .next s') → _root_.PySem.wpAt (model X.prog X.w) X.A (.func (defBody st) X.env) (exec d1 X.env) Qq X.xe s2) →
      PSs X rest tt → tt { nx := fun _ H' => Q .non H', rt := fun _ _ => False } σ (upd H1 a (exo a C none)) →
      _root_.PySem.wpAt (model X.prog X.w) X.A (.func (defBody st) X.env) (execs (d1 :: rest) X.env) (fun f s' => f = .next ∧ ∃ σ' H', Inv X [] σ' H' s' ∧ Q .non H') X.xe { s with heap := h₁, toks := s.toks + (ps.zip us).length } := by
    intro d1 rest tt hd1 hr htt
    refine ks_wpAt_execs_cons (hd1 _ _ I fun s3 I3 => ?_)
    refine wpAt_of_wpAny (thn (hr.run [] s3 σ _ _ I3 htt) fun f s4 hs4 => ?_)
    cases f with
    | next => obtain ⟨σ4, H4, I4, q4⟩ := hs4; exact ⟨rfl, σ4, H4, I4, q4⟩
    | ret u => obtain ⟨_, _, _, _, _, z⟩ := hs4; exact z.elim
    | brk => obtain ⟨_, _, _, z⟩ := hs4; exact z.elim
    | cont => obtain ⟨_, _, _, z⟩ := hs4; exact z.elim
  have hH : (upd H1 a (exo a C none)) a = some (exo a C none) := upd_same
  have frd : ∀ {dx : Addr}, (upd H1 a (exo a C none)) dx = none → dx ≠ a → H1 dx = none := fun h1 h2 => by rw [upd_ne h2] at h1; exact h1
  unfold xBody at hb
  split at hb
  · rename_i sn sp1 sp2 m ap e1 cp p3 a1 heq
    simp only [Bool.and_eq_true, decide_eq_true_eq] at hb
    obtain ⟨⟨⟨⟨h1, h2⟩, h3⟩, h4⟩, h5⟩ := hb
    split at h5
    · rename_i f
      subst h1 h2
      obtain ⟨pe1, ns1⟩ := xNm_pe x5 x8 h4
      have hxs : execs (defBody st) X.env = execs [Stmt.Expr (.Call (.Attribute (.Call (.Name "super" sp1) [] [] sp2) "__init__" ap) [e1] [] cp) p3, a1] X.env := by rw [heq]
      rw [hxs]
      obtain ⟨v1, rfl⟩ : ∃ v1, ws = [v1] := by
        match ws, hlen with
        | [v], _ => exact ⟨v, rfl⟩
      refine start (fun Qq s2 I2 hq2 => super_stmt Fc' x5 henv I2 hσ0 hH (pa_cons pe1 pa_nil (star_cons ns1)) (fun e he => by rw [List.mem_singleton.mp he]; exact ns1) (by simp) (by simp) h3 ⟨v1, hσi 0 v1 rfl, by simp, rfl⟩ hq2) (pss_one (xAsg_ps x5 x8 h5)) ?_
      refine ⟨v1, hσi 0 v1 rfl, _, hσ0, a, C, rfl, Fc'.T, hfin f (by simp), .inl ⟨hH, fun dx hdx hne => ?_⟩⟩
      show Q .non _
      rw [upd_swap hne]
      exact hq dx _ (frd hdx hne) hne (by simp)
    · cases h5
  · rename_i sn sp1 sp2 m ap e1 e2 cp p3 a1 a2 heq
    simp only [Bool.and_eq_true, decide_eq_true_eq] at hb
    obtain ⟨⟨⟨⟨⟨h1, h2⟩, h3⟩, h4⟩, h4b⟩, h5⟩ := hb
    split at h5
    · rename_i f g
      simp only [Bool.and_eq_true, Bool.not_eq_true'] at h5
      obtain ⟨⟨h5, h6⟩, h7⟩ := h5
      subst h1 h2
      obtain ⟨pe1, ns1⟩ := xNm_pe x5 x8 h4
      obtain ⟨pe2, ns2⟩ := xNm_pe x5 x8 h4b
      have hxs : execs (defBody st) X.env = execs [Stmt.Expr (.Call (.Attribute (.Call (.Name "super" sp1) [] [] sp2) "__init__" ap) [e1, e2] [] cp) p3, a1, a2] X.env := by rw [heq]
      rw [hxs]
      obtain ⟨v1, v2, rfl⟩ : ∃ v1 v2, ws = [v1, v2] := by
        match ws, hlen with
        | [v, u], _ => exact ⟨v, u, rfl⟩
      have hfg : Str.ofString f ≠ Str.ofString g := beq_eq_false_iff_ne.mp h7
      refine start (fun Qq s2 I2 hq2 => super_stmt Fc' x5 henv I2 hσ0 hH (pa_cons pe1 (pa_cons pe2 pa_nil (star_cons ns2)) (star_cons ns1)) (fun e he => ?_) (by simp) (by simp) h3 ⟨v1, hσi 0 v1 rfl, v2, hσi 1 v2 rfl, by simp, rfl⟩ hq2) (pss_cons (xAsg_ps x5 x8 h5) (pss_one (xAsg_ps x5 x8 h6))) ?_
      · rcases List.mem_cons.mp he with z | z
        · rw [z]; exact ns1
        · rw [List.mem_singleton.mp z]; exact ns2
      refine ⟨v1, hσi 0 v1 rfl, _, hσ0, a, C, rfl, Fc'.T, hfin f (by simp), .inl ⟨hH, fun dx hdx hne => ?_⟩⟩
      refine ⟨v2, hσi 1 v2 rfl, _, hσ0, a, C, rfl, Fc'.T, hfin g (by simp), .inr ⟨dx, [(Str.ofString f, v1)], upd_same, by rw [upd_ne hne, upd_same], by simp, ?_⟩⟩
      show Q .non _
      rw [upd_swap hne, upd_swap2 hne]
      refine hq dx _ (frd hdx hne) hne ?_
      have hb1 : (Str.ofString f == Str.ofString g) = false := h7
      simp [List.lookup, hb1]
    · cases h5
  · cases hb

/-- C(..) makes the exception -/
theorem mkX_ok {prog : Program} {w : World} {K : PySem.W.Frag} {mg : Str → Option Value} {base : Heap} {C fI cc cda : Addr} {qual nm : Str} {st : Stmt} {fd : FuncData} {N ps : List Str} {flds : List String} {cn : String} (Fc : XFacts K prog mg C fI cc cda qual nm st fd N ps)
    (hb : xBody N (defScope st) flds (defBody st) = true) (hps : ps.length = flds.length + 1) (hne : flds ≠ []) (hfin : ∀ f ∈ flds, PySem.W.findIn K (.ref C) (Str.ofString f) = some none) (hm : mg (Str.ofString cn) = some (.ref C))
    {X : Cx} (sm : Same prog w K mg base X) (hr : Room 3 X.A) : MkX X cn C flds := by
  have F1 := fn_exc (w := w) (base := base) Fc hb hps hfin
  obtain ⟨e1, e2, e3, e4, e5⟩ := sm
  subst e1 e2 e3 e4 e5
  intro es t p pos ha hst hg hdb pins s σ H Q I h
  refine wpAny_Call_Name_kw (ld_glob I hg hm ?_ hdb)
  refine callWithD (first := []) I Fc.T.kC hst ha h fun vs us H1 s1 I1 r1 q1 => ?_
  obtain ⟨hlen, hz, _, q1⟩ := q1
  have T := Fc.T
  obtain ⟨nm', q, Na, bs, bm, sn, sub, ab, col, dd, k0, k1, k2, k3, k5, hC, hbm⟩ := T.cls
  show wpAny _ _ (call (.ref C) us) _ _ _
  obtain ⟨hp, g, dr, tk, os⟩ := s1
  have hsz : hp.objs.size ≤ hp.objs.size + 1 := Nat.le_succ _
  have hn : H1 (hp.objs.size + 1) = none := I1.hok.fresh hsz
  have kk : ∀ b o, hp.get? b = some o → ((hp.push (PySem.W.kdv_tup us)).push (PySem.HandSPX.excO C hp.objs.size)).get? b = some o := fun b o e => Heap.get?_push_of_some _ (Heap.get?_push_of_some _ e)
  have hget : ((hp.push (PySem.W.kdv_tup us)).push (PySem.HandSPX.excO C hp.objs.size)).get? (hp.objs.size + 1) = some (PySem.HandSPX.excO C hp.objs.size) := by heap_get
  have I2 : Inv X pins σ (upd H1 (hp.objs.size + 1) (exo (hp.objs.size + 1) C none)) ⟨(hp.push (PySem.W.kdv_tup us)).push (PySem.HandSPX.excO C hp.objs.size), g, dr, tk, os⟩ :=
    I1.laid (t' := tk) (a := hp.objs.size + 1) (o := exo (hp.objs.size + 1) C none) (h' := (hp.push (PySem.W.kdv_tup us)).push (PySem.HandSPX.excO C hp.objs.size)) kk hsz (exo_ok hget)
  have r2 : Vals (V.ref (hp.objs.size + 1) :: vs) (Value.ref (hp.objs.size + 1) :: us) := .cons rfl r1
  have hsp : spX C flds (V.ref (hp.objs.size + 1) :: vs) (upd H1 (hp.objs.size + 1) (exo (hp.objs.size + 1) C none)) (fun v H2 => v = .non ∧ ∃ (d : Addr) (fs : List (Str × V)), H2 (hp.objs.size + 1) = some (exo (hp.objs.size + 1) C (some d)) ∧ H2 d = some (exd d fs) ∧ H1 d = none ∧ Q (.ref C) (some d) (upd (del H2 (hp.objs.size + 1)) d (.xd fs))) (fun _ _ _ => False) := by
    refine ⟨by simp [hlen], hp.objs.size + 1, vs, H1, rfl, hn, rfl, fun d fvs hd hda hm' => ⟨rfl, d, fvs, upd_same, by rw [upd_ne hda, upd_same], hd, ?_⟩⟩
    have e : upd (del (upd (upd H1 d (exd d fvs)) (hp.objs.size + 1) (exo (hp.objs.size + 1) C (some d))) (hp.objs.size + 1)) d (.xd fvs) = upd H1 d (.xd fvs) := by
      funext b
      by_cases h1 : b = d
      · rw [h1, upd_same, upd_same]
      · rw [upd_ne h1, upd_ne h1]
        by_cases h2 : b = hp.objs.size + 1
        · rw [h2, del_same, hn]
        · rw [del_ne h2, upd_ne h2, upd_ne h1]
    rw [e]
    exact q1 hne d fvs hd hm'
  have hl : (Value.ref (hp.objs.size + 1) :: us ++ ([] : List Value)).length = ps.length := by
    rw [List.append_nil, ← r2.length, hps]
    simp [hlen]
  have hus : us.length ≤ sizeLine := by
    rw [← Paired.length r1, sizeLine_eq]
    omega
  have hr2 : Room (1 + 1) X.A := hr.mono (by omega)
  refine wpAny_call (PySem.HandSPX.call_own F.excBase_ValueError (fun Y => PySem.HandSPX.refsVE_contains Y bm hbm) (I1.kIn _ _ hC) (PySem.W.looks_findIn I1.kIn Fc.iC) (fun self => PySem.W.bind_fn I1.kIn self Fc.tI) hus
    (codeAny_mono (F1.run _ X.stack _ _ ⟨Value.ref (hp.objs.size + 1) :: us, []⟩ (Value.ref (hp.objs.size + 1) :: us) _ _ (fun _ _ _ => False) (hr2.make C us []) (I2.env0.make C us []) (by have := Fc.B _ (Value.ref (hp.objs.size + 1) :: us) I2.kIn hl; rwa [List.append_nil] at this) r2 hsp) fun r s' hq' => ?_))
  cases r with
  | error er =>
    obtain ⟨_, _, _, _, _, _, _, _, _, _, _, _, z⟩ := hq'
    exact z.elim
  | ok fl =>
    cases fl with
    | ret u =>
      obtain ⟨v, H2, os2, bare2, un2, hok2, rv, ev, d, fs, ea, ed, hd1, q2⟩ := hq'
      subst ev
      obtain ⟨h2, g2, d2, t2, os'⟩ := s'
      exact ⟨rv, mk_end (raises_own T.exC T.tyC) I1 hsz kk un2 hok2 os2 bare2 ea ed hd1 q2⟩
    | next => exact False.elim hq'
    | brk => exact False.elim hq'
    | cont => exact False.elim hq'
end
end Dp
end SDp24
set_option maxHeartbeats 4000000
/-! Dp25: what the head tells, from one look at the module's objects. -/
noncomputable section SDp25
namespace Dp
open PySem PySem.Spec PyProof.Rows L2

/-- a def of the text -/
structure Ent where
  cls : Option String
  nm : String
  st : Stmt
  N : List Str
  ps : List Str
  d : Def
def keyOf (cls : Option String) (nm : String) : String := match cls with
  | none => nm
  | some C => C ++ "." ++ nm
def Ent.key (e : Ent) : String := keyOf e.cls e.nm
def atOf (cls : Option String) (nm : String) : Str × Option Str := match cls with
  | none => (Str.ofString nm, none)
  | some C => (Str.ofString C, some (Str.ofString nm))
def ddOf (cls : Option String) (nm : String) (st : Stmt) : He.DefD := ⟨atOf cls nm, Str.ofString nm, Str.ofString (keyOf cls nm), defArgs st, defBody st, defScope st, [], []⟩
def Ent.dd (e : Ent) : He.DefD := ddOf e.cls e.nm e.st
/-- an own exception, by its __init__ -/
structure XEnt where
  C : String
  st : Stmt
  N : List Str
  ps : List Str
  flds : List String
structure LawD where
  S : Stat
  ents : List Ent
  xents : List XEnt
  fields : List (String × List String)
  subx : List (String × String)
  consts : List (String × D)
def LawD.P (L : LawD) : Prog where
  defs := fun k => (L.ents.find? fun e => e.key == k).map (·.d)
  fields := fun C => (L.fields.lookup C).getD []
  xfields := fun C => ((L.xents.find? fun x => x.C == C).map (·.flds)).getD []
  subx := fun C c => L.subx.contains (C, c)
  consts := fun n => L.consts.lookup n
  isMeth := fun C m => L.ents.any fun e => e.cls == some C && e.nm == m && e.nm != "__init__"
  muta := fun _ => false
def LawD.Γ (L : LawD) (K : PySem.W.Frag) (mg : Str → Option Value) : Glob where
  K := K
  mg := mg
  cls := fun C => He.ga K (Str.ofString C)
  fields := L.P.fields
  xfields := L.P.xfields
  fnAt := fun f => if L.S.funs.contains f then some (He.ga K (Str.ofString f)) else none
  isC := fun C => L.S.clss.contains C
  isX := fun C => L.S.excs.contains C
  exn := none
/-! ### the static part, def by def -/
def BindT (e : Ent) : Prop := ∀ (kV doc pm : Value) (an : Option Addr) (cdv ct : Value) (us : List Value), us.length = e.ps.length → bindArgs (PySem.W.fnOf (Str.ofString e.nm) (Str.ofString e.key) (defArgs e.st) (defBody e.st) (defScope e.st) .none kV doc pm an cdv ct) ⟨us, []⟩ = pure (e.ps.zip us)
def entB (S : Stat) (fields : List (String × List String)) (e : Ent) : Bool := C8.scC e.N e.ps (defScope e.st) && decide (e.ps.length = e.d.np) && decide (e.N.length = e.d.nl) && decide (e.ps.length ≤ e.N.length) &&
  (if e.nm == "__init__" then decide (0 < e.ps.length) && (okSs (iniS S) (defSC e.N e.st) e.d.body ((defBody e.st).take (nSt e.d.body)) && (okFs (iniS S) (defSC e.N e.st) e.d.inits ((defBody e.st).drop (nSt e.d.body)) &&
    (decide (e.d.inits.map (·.1) = (fields.lookup (e.cls.getD "")).getD []) && (decide ((e.d.inits.map (·.1)).Nodup) && decide (e.d.inits.length ≤ 90)))))
  else okSs S (defSC e.N e.st) e.d.body (defBody e.st))
structure EntOk (L : LawD) (e : Ent) : Prop where
  chk : entB L.S L.fields e = true
  bnd : BindT e
theorem EntOk.fnF {L : LawD} {e : Ent} {K : PySem.W.Frag} {a : Addr} {fd : FuncData} (o : EntOk L e) (hn : (e.nm == "__init__") = false) (F : FunD K (Str.ofString e.nm) (Str.ofString e.key) (defArgs e.st) (defBody e.st) (defScope e.st) [] [] a fd) : FnF L.S K a e.d := by
  have h := o.chk
  unfold entB at h
  simp only [Bool.and_eq_true, decide_eq_true_eq, hn, Bool.false_eq_true, if_false] at h
  obtain ⟨⟨⟨⟨h1, h2⟩, h3⟩, h4⟩, h5⟩ := h
  exact ⟨_, _, e.st, fd, e.N, e.ps, F, C8.fnScope_by h1, h2, h3, h4, F.bindsN o.bnd, h5⟩
theorem EntOk.fnI {L : LawD} {e : Ent} {K : PySem.W.Frag} {a : Addr} {fd : FuncData} {C : String} (o : EntOk L e) (hn : e.nm = "__init__") (hC : e.cls = some C) (F : FunD K (Str.ofString e.nm) (Str.ofString e.key) (defArgs e.st) (defBody e.st) (defScope e.st) [] [] a fd) : FnI L.S K (L.P.fields C) a e.d := by
  have h := o.chk
  unfold entB at h
  have hn' : (e.nm == "__init__") = true := beq_iff_eq.mpr hn
  simp only [Bool.and_eq_true, decide_eq_true_eq, hn', if_true] at h
  obtain ⟨⟨⟨⟨h1, h2⟩, h3⟩, h4⟩, h5, h6, h7, h8, h9, h10⟩ := h
  rw [hC] at h8
  refine ⟨_, _, e.st, fd, e.N, e.ps, F, C8.fnScope_by h1, h2, h3, h4, h5, F.bindsN o.bnd, h6, h7, h8, ?_, ?_⟩
  · exact (congrArg List.Nodup h8).mp h9
  · have := congrArg List.length h8
    rw [List.length_map] at this
    exact (show (L.P.fields C).length ≤ 90 from by
      show ((L.fields.lookup C).getD []).length ≤ 90
      rw [show (L.fields.lookup C).getD [] = (L.fields.lookup (Option.getD (some C) "")).getD [] from rfl, ← this]
      exact h10)

/-! ### what is seen of the objects -/
abbrev FnZ : Type := Option (Str × Str × Arguments × FuncBody × Scope × Addr × List Str × Addr)
def fnZ (K : PySem.W.Frag) (p : Str × Option Str) : FnZ := match K.lookup (He.fAd K p) with
  | some ⟨_, _, .func fd, _⟩ => some (fd.name, fd.qualname, fd.params, fd.body, fd.scope, fd.globals, fd.closure.map (·.1), fd.builtins)
  | _ => none
def zVal (cl : List Str) (d : He.DefD) : FnZ := some (d.name, d.qual, d.params, .stmts d.body, d.scope, mainGlobals, cl, builtinsNs)
theorem fnW_of {K : PySem.W.Frag} {d : He.DefD} (h : fnZ K d.at_ = zVal [] d) : He.fnW K d.at_ = d.val := by
  unfold fnZ at h
  unfold He.fnW
  split at h
  · rename_i fd _ q
    rw [q]
    have e := Option.some.inj h
    simp only [Prod.mk.injEq, List.map_eq_nil_iff] at e
    obtain ⟨h1, h2, h3, h4, h5, h6, h7, h8⟩ := e
    show some (_, _, _, _, _, _, _, _) = some (_, _, _, _, _, _, _, _)
    rw [h1, h2, h3, h4, h5, h6, h7, h8]
  · cases h
/-- a constant of the module -/
def conS : D → Value → Option V
  | .non, .none => some .non
  | .bl b, .bool c => if b = c then some (.bl b) else none
  | .int i, .int j _ => if i = j then some (.int i) else none
  | .str s, .str y _ => if y = ⟨s.toArray⟩ then some (.str y) else none
  | _, _ => none
def conL : List D → List Value → Option (List V)
  | [], [] => some []
  | d :: ds, u :: us => (conS d u).bind fun v => (conL ds us).map (v :: ·)
  | _, _ => none
def conV (K : PySem.W.Frag) : D → Value → Option V
  | .tup ds, .ref a => (match K.lookup a with
    | some ⟨.type c, _, .seq its _, _⟩ => if c = "tuple" ∧ its.size ≤ 1000 then (conL ds its.toList).map fun _ => .ref a else none
    | _ => none)
  | d, u => conS d u
section
variable {Γ : Glob} {κ : List Addr} {I : Hp}
theorem conS_ok {d : D} {u : Value} {v : V} (h : conS d u = some v) : RelV v u ∧ Rep Γ κ I v d := by
  unfold conS at h
  split at h
  · cases h; exact ⟨rfl, .non⟩
  · split at h
    · rename_i z; cases h; subst z; exact ⟨rfl, .bl _⟩
    · cases h
  · split at h
    · rename_i z; cases h; subst z; exact ⟨⟨_, rfl⟩, .int _⟩
    · cases h
  · split at h
    · rename_i z; cases h; subst z; exact ⟨⟨_, rfl⟩, .str _⟩
    · cases h
  · cases h
theorem conL_ok : ∀ {ds : List D} {us : List Value} {vs : List V}, conL ds us = some vs → Vals vs us ∧ Reps Γ κ I vs ds
  | [], [], vs, h => by cases h; exact ⟨.nil, .nil⟩
  | [], _ :: _, vs, h => by cases h
  | _ :: _, [], vs, h => by cases h
  | d :: ds, u :: us, vs, h => by
    obtain ⟨v, h1, h2⟩ := Option.bind_eq_some_iff.mp h
    obtain ⟨ws, h3, rfl⟩ := Option.map_eq_some_iff.mp h2
    obtain ⟨a1, a2⟩ := conS_ok (Γ := Γ) (κ := κ) (I := I) h1
    obtain ⟨b1, b2⟩ := conL_ok h3
    exact ⟨.cons a1 b1, .cons a2 b2⟩
theorem conV_ok {d : D} {u : Value} {v : V} (h : conV Γ.K d u = some v) : RelV v u ∧ Rep Γ κ I v d := by
  unfold conV at h
  split at h
  · rename_i ds a
    split at h
    · rename_i c dd its n sl q
      split at h
      · rename_i z
        obtain ⟨z1, z2⟩ := z
        obtain ⟨vs, h1, rfl⟩ := Option.map_eq_some_iff.mp h
        obtain ⟨r1, r2⟩ := conL_ok (Γ := Γ) (κ := κ) (I := I) h1
        refine ⟨rfl, .tup (.inr ⟨_, its, n, q, congrArg Value.type z1, rfl, ?_, r1⟩) r2⟩
        rw [sizeLine_eq]
        omega
      · cases h
    · cases h
  · exact conS_ok h
end
end Dp
end SDp25
set_option maxHeartbeats 4000000
/-! Dp26: facts of the module's objects as one Bool. -/
noncomputable section SDp26
namespace Dp
open PySem PySem.Spec PyProof.Rows L2

def oexB (K : PySem.W.Frag) (C : Addr) : Bool := (match K.lookup C with
  | some ⟨.type t, _, .cls cd, sl⟩ => (match cd.mro, sl.toList with
    | .ref C' :: bm, [_, _, _, _, some (.builtin n), _] => t == "type" && C' == C && n == "ValueError.__new__" && !cd.hasDel && cd.hasDict && PySem.HandSPX.refsVE bm
    | _, _ => false)
  | _ => false) && He.eqO (PySem.W.findIn K (.ref C) "__setattr__") (some (some (.builtin "object.__setattr__"))) && decide (PySem.W.subIn K (.ref C) (.type "BaseException") = some true) && decide (PySem.W.typeIn K (.ref C) = some (.type "type")) && PySem.W.keepIn K (.ref C)
theorem oexB_ok {K : PySem.W.Frag} {C : Addr} (h : oexB K C = true) : OexC K C := by
  unfold oexB at h
  simp only [Bool.and_eq_true, decide_eq_true_eq] at h
  obtain ⟨⟨⟨⟨q, h2⟩, h3⟩, h4⟩, h5⟩ := h
  refine ⟨?_, He.eqO_ok h2, h3, h4, h5⟩
  split at q
  · rename_i t dd cd sl ho
    split at q
    · rename_i C' bm k0 k1 k2 k3 n k5 hm hs
      simp only [Bool.and_eq_true, beq_iff_eq, Bool.not_eq_true'] at q
      obtain ⟨⟨⟨⟨⟨rfl, rfl⟩, rfl⟩, hdel⟩, hdi⟩, ht⟩ := q
      obtain ⟨nm, bs, mro, ns, qn, hd, sn, sub, ab, col, del⟩ := cd
      dsimp only at hm hdel hdi
      subst hm hdel hdi
      have hsl : sl = #[k0, k1, k2, k3, some (.builtin "ValueError.__new__"), k5] := by
        obtain ⟨l⟩ := sl
        simp only at hs
        rw [hs]
      subst hsl
      exact ⟨_, _, _, _, _, _, _, _, _, _, _, _, _, _, _, ho, ht⟩
    · cases q
  · cases q

def tys : List String := ["NoneType", "bool", "int", "str", "list", "tuple"]
def clsB (L : LawD) (K : PySem.W.Frag) (C : String) : Bool :=
  (He.Fa.glo (Str.ofString C)).ok K && (He.Fa.cls (Str.ofString C)).ok K && (He.Fa.mkr (Str.ofString C)).ok K && (L.P.fields C).all (fun f => (He.Fa.noat (Str.ofString C) (Str.ofString f)).ok K) &&
  He.eqO (PySem.W.findIn K (.ref (He.ga K (Str.ofString C))) "__class__") (some (some (.builtin "object.__class__"))) && He.eqO (PySem.W.specialIn K (.builtin "object.__class__") "__get__") (some (some (.builtin "getset_descriptor.__get__"))) && decide (PySem.W.takesIn K (.builtin "object.__class__") = some true) &&
  decide (PySem.W.mroIn K (He.ga K (Str.ofString C)) (.type "object") = some true) &&
  tys.all (fun T => decide (PySem.W.kitOne K (.type T) (.ref (He.ga K (Str.ofString C))) = some false) && decide (PySem.W.kitOne K (.ref (He.ga K (Str.ofString C))) (.type T) = some false)) &&
  L.S.clss.all (fun C' => decide (PySem.W.kitOne K (.ref (He.ga K (Str.ofString C))) (.ref (He.ga K (Str.ofString C'))) = some (C == C')))
def eqB (L : LawD) (K : PySem.W.Frag) (C : String) : Bool := !(L.P.isMeth C "__eq__") || (He.eqO (PySem.W.findIn K (.ref (He.ga K (Str.ofString C))) "__ne__") (some (some (.builtin "object.__ne__"))) && decide (PySem.W.mroIn K (He.ga K (Str.ofString C)) (.type "object") = some true) && tys.all (fun T => PySem.W.notFirst K (He.ga K (Str.ofString C)) (.type T)) &&
  L.S.clss.all (fun C' => PySem.W.notFirst K (He.ga K (Str.ofString C)) (.ref (He.ga K (Str.ofString C')))))
def conB (L : LawD) (K : PySem.W.Frag) (n : String) : Bool := match L.consts.lookup n, PySem.W.nsIn K mainGlobals (Str.ofString n) with
  | some d, some (some u) => (conV K d u).isSome
  | _, _ => false
def entK (K : PySem.W.Frag) (e : Ent) : Bool := e.dd.ok K && (match e.cls with
  | none => true
  | some C => e.nm == "__init__" || (He.Fa.meth (Str.ofString C) (Str.ofString e.nm)).ok K)
def cellB (K : PySem.W.Frag) (file : Str) (qual : Str) (C fI : Addr) : Bool := match K.lookup fI with
  | some ⟨_, _, .func fd, _⟩ => (match fd.closure, fd.code, fd.defaults with
    | [(_, cc)], .ref cda, .none => (match K.lookup cc, K.lookup cda with
      | some ⟨_, _, .cell (some (.ref C')), _⟩, some ⟨_, _, .fields vs, _⟩ => C' == C && PySem.W.codeIn K (.ref cda) qual && (match (vs[2]? : Option Value) with
        | some (.str f _) => f == file
        | _ => false)
      | _, _ => false)
    | _, _, _ => false)
  | _ => false
def xB (L : LawD) (file : Str) (K : PySem.W.Frag) (x : XEnt) : Bool :=
  (He.Fa.glo (Str.ofString x.C)).ok K && oexB K (He.ga K (Str.ofString x.C)) && He.eqO (PySem.W.findIn K (.ref (He.ga K (Str.ofString x.C))) "__init__") (some (some (.ref (He.ma K (He.ga K (Str.ofString x.C)) "__init__")))) &&
  decide (PySem.W.typeIn K (.ref (He.ma K (He.ga K (Str.ofString x.C)) "__init__")) = some (.type "function")) && PySem.W.keepIn K (.ref (He.ma K (He.ga K (Str.ofString x.C)) "__init__")) &&
  cellB K file (Str.ofString (keyOf (some x.C) "__init__")) (He.ga K (Str.ofString x.C)) (He.ma K (He.ga K (Str.ofString x.C)) "__init__") &&
  He.eqO (PySem.W.ks_superIn K (He.ga K (Str.ofString x.C)) (He.ga K (Str.ofString x.C)) "__init__") (some (some (.builtin "ValueError.__init__"))) &&
  decide (PySem.W.mroIn K (He.ga K (Str.ofString x.C)) (.ref (He.ga K (Str.ofString x.C))) = some true) && decide (PySem.W.subIn K (.ref (He.ga K (Str.ofString x.C))) (.type "ValueError") = some true) &&
  x.flds.all (fun f => He.eqO (PySem.W.findIn K (.ref (He.ga K (Str.ofString x.C))) (Str.ofString f)) (some none)) && xfB K (He.ga K (Str.ofString x.C)) &&
  L.S.catches.all (fun c => decide (PySem.W.exmOne K (.ref (He.ga K (Str.ofString x.C))) (.ref (He.ga K (Str.ofString c))) = some (L.P.subx x.C c)))
/-- all that is asked of the objects -/
def lawB (L : LawD) (file : Str) (K : PySem.W.Frag) : Bool :=
  L.S.funs.all (fun f => (He.Fa.glo (Str.ofString f)).ok K) && L.S.frees.all (fun n => (He.Fa.free (Str.ofString n)).ok K) && L.S.consts.all (conB L K) && L.S.clss.all (clsB L K) && L.S.clss.all (eqB L K) &&
  L.ents.all (entK K) && L.xents.all (xB L file K) && L.S.catches.all (fun c => (He.Fa.glo (Str.ofString c)).ok K) && (L.xents.isEmpty || ((He.Fa.free "super").ok K && He.eqO (PySem.W.nsIn K cStatics "thirdparty.any") (some none)))
def asks (L : LawD) : List (List Str × He.DefD) := (L.ents.map fun e => (([] : List Str), e.dd)) ++ L.xents.map fun x => (([("__class__" : Str)] : List Str), ddOf (some x.C) "__init__" x.st)
abbrev AlP : Type := Bool × List FnZ
def obsK (L : LawD) (file : Str) (K : PySem.W.Frag) : AlP := (lawB L file K, (asks L).map fun q => fnZ K q.2.at_)
def valK (L : LawD) : AlP := (true, (asks L).map fun q => zVal q.1 q.2)
/-- where to look: the module's names, what they lead to -/
def refsP (o : Obj) : List Addr := match o.data with
  | .dict es _ => es.toList.flatMap fun e => He.refV e.val
  | .func fd => He.refV fd.code ++ He.refV fd.defaults ++ fd.closure.map (·.2)
  | .cls cd => [cd.ns]
  | .seq its _ => its.toList.flatMap He.refV
  | _ => []
def stepP (g : Addr → Option Obj) (as : List Addr) : List Addr := as.flatMap fun a => match g a with
  | some o => refsP o
  | none => []
def addrs (g : Addr → Option Obj) : List Addr :=
  let l1 := stepP g [mainGlobals]
  let l2 := stepP g l1
  let l3 := stepP g l2
  let l4 := stepP g l3
  mainGlobals :: cStatics :: (l1 ++ (l2 ++ (l3 ++ l4)))
def obsP (L : LawD) (file : Str) (g : Addr → Option Obj) : AlP := obsK L file (He.frG g (addrs g))
def hookP (L : LawD) (file : Str) : PySem.W.Hook where
  α := AlP
  obs := fun s => obsP L file s.heap.get?
  val := fun _ => valK L
  says := fun _ h => ∃ K : PySem.W.Frag, K.In h ∧ obsK L file K = valK L
  of := fun _ _ e => ⟨_, He.frG_in, e⟩
  keeps := fun _ _ _ ⟨K, hK, c⟩ k => ⟨K, PySem.W.Frag.In.keeps hK k, c⟩
theorem obsP_eq {L : LawD} {file : Str} {g : Addr → Option Obj} {s : Shared} (h : ∀ a, g a = s.heap.get? a) : obsP L file g = (hookP L file).obs s := by
  have e : g = s.heap.get? := funext h
  rw [e] <;> rfl
end Dp
end SDp26
set_option maxHeartbeats 4000000
/-! Dp27: the world of a law, from its data. -/
noncomputable section SDp27
namespace Dp
open PySem PySem.Spec PyProof.Rows L2 NdefX

/-- the data hang together -/
def statB (L : LawD) : Bool :=
  L.S.funs.all (fun f => match L.ents.find? (fun e => e.key == f) with
    | some e => e.cls == none && e.nm == f && !(f == "__init__")
    | none => false) &&
  L.S.clss.all (fun C => (L.ents.find? (fun e => e.key == C)).isNone && (match L.ents.find? (fun e => e.key == C ++ ".__init__") with
    | some e => e.cls == some C && e.nm == "__init__"
    | none => false)) &&
  L.ents.all (fun e => match e.cls with
    | none => true
    | some C => e.nm == "__init__" || (L.S.clss.contains C && (L.P.fields C).all (fun f => !(Str.ofString f == Str.ofString e.nm)) && (match L.ents.find? (fun e' => e'.key == C ++ "." ++ e.nm) with
      | some e' => e'.cls == some C && e'.nm == e.nm
      | none => false))) &&
  L.fields.all (fun q => L.S.clss.contains q.1 && q.2.all (fun f => q.2.all fun g => f == g || !(Str.ofString f == Str.ofString g))) &&
  L.S.excs.all (fun C => (L.xents.find? (fun x => x.C == C)).isSome) && !L.S.ini && (!L.S.hlen || L.ents.all fun e => e.cls.isNone || e.nm != "__len__" || okSs { L.S with hlen := false } (suSC (defSC e.N e.st)) e.d.body (defBody e.st))
structure XEntOk (L : LawD) (main : Scope) (x : XEnt) : Prop where
  Sc : nscB x.N x.ps ["__class__"] (defScope x.st) = true
  body : xBody x.N (defScope x.st) x.flds (defBody x.st) = true
  len : x.ps.length = x.flds.length + 1
  ne : x.flds ≠ []
  hs : (defScope x.st).names.lookup ("super" : Str) = some .globalImplicit
  htop : (main.names.lookup ("super" : Str)).isSome = false
  hp : ∃ ar, (((defArgs x.st).posonlyargs ++ (defArgs x.st).args).head? = some ar) ∧ x.ps[0]? = some ar.arg
  bnd : ∀ (kV doc pm : Value) (an : Option Addr) (cdv ct : Value) (cc : Addr) (us : List Value), us.length = x.ps.length → bindArgs (PySem.W.ksFn "__init__" (Str.ofString (keyOf (some x.C) "__init__")) (defArgs x.st) (defBody x.st) (defScope x.st) .none kV doc pm an cdv ct cc) ⟨us, []⟩ = pure (x.ps.zip us)
structure LawOk (L : LawD) (prog : Program) : Prop where
  stat : statB L = true
  ents : ∀ e ∈ L.ents, EntOk L e
  xents : ∀ x ∈ L.xents, XEntOk L prog.main.scope x

theorem EntOk.fnFQ {L : LawD} {e : Ent} {K : PySem.W.Frag} {a : Addr} {fd : FuncData} (o : EntOk L e) (hn : (e.nm == "__init__") = false) (hq : okSs { L.S with hlen := false } (suSC (defSC e.N e.st)) e.d.body (defBody e.st) = true) (F : FunD K (Str.ofString e.nm) (Str.ofString e.key) (defArgs e.st) (defBody e.st) (defScope e.st) [] [] a fd) : FnFQ L.S K a e.d := by
  have h := o.chk
  unfold entB at h
  simp only [Bool.and_eq_true, decide_eq_true_eq, hn, Bool.false_eq_true, if_false] at h
  obtain ⟨⟨⟨⟨h1, h2⟩, h3⟩, h4⟩, h5⟩ := h
  exact ⟨_, _, e.st, fd, e.N, e.ps, F, C8.fnScope_by h1, h2, h3, h4, F.bindsN o.bnd, hq⟩
section
variable {L : LawD} {prog : Program} {w : World} {K : PySem.W.Frag} {mg : Str → Option Value} {base h : Heap}
theorem find_key {k : String} {e : Ent} (h : L.ents.find? (fun e => e.key == k) = some e) : e ∈ L.ents ∧ e.key = k ∧ L.P.defs k = some e.d := by
  refine ⟨List.mem_of_find?_eq_some h, by have := List.find?_some h; exact beq_iff_eq.mp this, ?_⟩
  show ((L.ents.find? fun e => e.key == k).map (·.d)) = _
  rw [h]
  rfl
/-- the objects, as the look told -/
structure Told (L : LawD) (file : Str) (K : PySem.W.Frag) : Prop where
  all : lawB L file K = true
  ent : ∀ e ∈ L.ents, fnZ K e.dd.at_ = zVal [] e.dd
  xent : ∀ x ∈ L.xents, fnZ K (Str.ofString x.C, some "__init__") = zVal ["__class__"] (ddOf (some x.C) "__init__" x.st)
theorem told_of {file : Str} (e : obsK L file K = valK L) : Told L file K := by
  have e1 : lawB L file K = true := congrArg (fun z : AlP => z.1) e
  have e2 : ((asks L).map fun q => fnZ K q.2.at_) = (asks L).map fun q => zVal q.1 q.2 := congrArg (fun z : AlP => z.2) e
  have e3 : ∀ q ∈ asks L, fnZ K q.2.at_ = zVal q.1 q.2 := List.map_inj_left.mp e2
  refine ⟨e1, fun e he => e3 ([], e.dd) ?_, fun x hx => e3 (["__class__"], ddOf (some x.C) "__init__" x.st) ?_⟩
  · unfold asks
    exact List.mem_append_left _ (List.mem_map.mpr ⟨e, he, rfl⟩)
  · unfold asks
    exact List.mem_append_right _ (List.mem_map.mpr ⟨x, hx, rfl⟩)
theorem Told.funD {file : Str} (T : Told L file K) {e : Ent} (he : e ∈ L.ents) : ∃ fd, FunD K (Str.ofString e.nm) (Str.ofString e.key) (defArgs e.st) (defBody e.st) (defScope e.st) [] [] (He.fAd K (atOf e.cls e.nm)) fd := by
  have h := T.all
  unfold lawB at h
  simp only [Bool.and_eq_true] at h
  obtain ⟨⟨⟨⟨⟨⟨⟨⟨a1, a2⟩, a3⟩, a4⟩, a5⟩, a6⟩, a7⟩, a8⟩, a9⟩ := h
  have := List.all_eq_true.mp a6 e he
  unfold entK at this
  exact He.DefD.funD (fnW_of (T.ent e he)) (Bool.and_eq_true_iff.mp this).1
theorem Told.xfacts {x : XEnt} (T : Told L prog.main.file K) (X : K.In h) (G : h.Ns mainGlobals mg) (hx : x ∈ L.xents) (o : XEntOk L prog.main.scope x) : ∃ cc cda fd, XFacts K prog mg (He.ga K (Str.ofString x.C)) (He.ma K (He.ga K (Str.ofString x.C)) "__init__") cc cda (Str.ofString (keyOf (some x.C) "__init__")) "__init__" x.st fd x.N x.ps ∧
    (∀ f ∈ x.flds, PySem.W.findIn K (.ref (He.ga K (Str.ofString x.C))) (Str.ofString f) = some none) ∧ mg (Str.ofString x.C) = some (.ref (He.ga K (Str.ofString x.C))) ∧ XfC K (He.ga K (Str.ofString x.C)) ∧
    (∀ c ∈ L.S.catches, PySem.W.exmOne K (.ref (He.ga K (Str.ofString x.C))) (.ref (He.ga K (Str.ofString c))) = some (L.P.subx x.C c)) := by
  have h0 := T.all
  unfold lawB at h0
  simp only [Bool.and_eq_true] at h0
  obtain ⟨⟨⟨⟨⟨⟨⟨⟨a1, a2⟩, a3⟩, a4⟩, a5⟩, a6⟩, a7⟩, a8⟩, a9⟩ := h0
  have q := List.all_eq_true.mp a7 x hx
  have ne : L.xents.isEmpty = false := by
    cases z : L.xents with
    | nil => rw [z] at hx; cases hx
    | cons => rfl
  rw [ne, Bool.false_or] at a9
  obtain ⟨n1, n2⟩ := Bool.and_eq_true_iff.mp a9
  unfold xB at q
  simp only [Bool.and_eq_true, decide_eq_true_eq] at q
  obtain ⟨⟨⟨⟨⟨⟨⟨⟨⟨⟨⟨b1, b2⟩, b3⟩, b4⟩, b5⟩, b6⟩, b7⟩, b8⟩, b9⟩, b10⟩, b11⟩, b12⟩ := q
  have z := T.xent x hx
  unfold cellB at b6
  unfold fnZ at z
  have hat : He.fAd K (Str.ofString x.C, some "__init__") = He.ma K (He.ga K (Str.ofString x.C)) "__init__" := rfl
  rw [hat] at z
  generalize hfI : He.ma K (He.ga K (Str.ofString x.C)) "__init__" = fI at *
  generalize hC : He.ga K (Str.ofString x.C) = C at *
  split at b6
  · rename_i oc od fd osl lk
    rw [lk] at z
    have e := Option.some.inj z
    simp only [Prod.mk.injEq] at e
    obtain ⟨h1, h2, h3, h4, h5, h6, h7, h8⟩ := e
    split at b6
    · rename_i nm cc cda hcl hco hdf
      rw [hcl] at h7
      split at b6
      · rename_i o1 o2 C' o3 c1 c2 vs c3 lcc lcd
        simp only [Bool.and_eq_true, beq_iff_eq] at b6
        obtain ⟨⟨rfl, b62⟩, b63⟩ := b6
        split at b63
        · rename_i f tf hvs
          refine ⟨cc, cda, fd, ⟨oexB_ok b2, He.eqO_ok b3, b4, b5, ⟨oc, od, fd.kwdefaults, fd.doc, fd.pyModule, fd.annotations, fd.closureTuple, osl, ?_, lk⟩, b62, ⟨_, _, _, lcc⟩, ⟨_, _, vs, _, f, tf, lcd, hvs, ?_⟩, He.eqO_ok b7, b8, b9, He.eqO_ok n2, He.free_ok X G n1, o.htop, o.hs, nscope_by o.Sc, o.hp, ?_⟩, fun f hf => He.eqO_ok (List.all_eq_true.mp b10 f hf), ?_, xfB_ok b11, fun c hc => of_decide_eq_true (List.all_eq_true.mp b12 c hc)⟩
          · obtain ⟨n1, n2, n3, n4, n5, n6, n7, n8, n9, n10, n11, n12, n13, n14, n15⟩ := fd
            dsimp only at h1 h2 h3 h4 h5 h6 h7 h8 hcl hco hdf
            subst hcl hco hdf
            simp only [List.map_cons, List.map_nil, List.cons.injEq, and_true] at h7
            subst h7
            subst h8
            subst h1 h2 h3 h4 h5 h6
            rfl
          · exact beq_iff_eq.mpr (beq_iff_eq.mp b63).symm
          · obtain ⟨n1, n2, n3, n4, n5, n6, n7, n8, n9, n10, n11, n12, n13, n14, n15⟩ := fd
            dsimp only at h1 h2 h3 h4 h5 h6 h7 h8 hcl hco hdf
            subst hcl hco hdf
            simp only [List.map_cons, List.map_nil, List.cons.injEq, and_true] at h7
            subst h7
            subst h8
            subst h1 h2 h3 h4 h5 h6
            exact .all (o.bnd n9 n10 n11 n12 (.ref cda) n14 cc)
          · rw [← hC]; exact He.glo_ok X G b1
        · cases b63
      · cases b6
    · cases b6
  · cases b6

theorem lookup_memS {α : Type} {C : String} {o : α} : ∀ {l : List (String × α)}, l.lookup C = some o → (C, o) ∈ l
  | [], h => by cases h
  | (b, u) :: r, h => by
    rw [List.lookup_cons] at h
    split at h
    · rename_i q
      cases h
      rw [beq_iff_eq.mp q]
      exact List.mem_cons_self
    · exact List.mem_cons_of_mem _ (lookup_memS h)
theorem all_find {α : Type} {p : α → Bool} {l : List α} {x : α} (h : l.all p = true) (hx : x ∈ l) : p x = true := List.all_eq_true.mp h x hx
theorem wld_of (o : LawOk L prog) (T : Told L prog.main.file K) (X : K.In h) (G : h.Ns mainGlobals mg) : Wld (L.Γ K mg) L.S L.P prog w K mg base := by
  have h0 := T.all
  unfold lawB at h0
  simp only [Bool.and_eq_true] at h0
  obtain ⟨⟨⟨⟨⟨⟨⟨⟨a1, a2⟩, a3⟩, a4⟩, a5⟩, a6⟩, a7⟩, a8⟩, a9⟩ := h0
  have hs := o.stat
  unfold statB at hs
  simp only [Bool.and_eq_true, Bool.not_eq_true'] at hs
  obtain ⟨⟨⟨⟨⟨⟨s1, s2⟩, s3⟩, s4⟩, s5⟩, s6⟩, s7⟩ := hs
  have mem : ∀ {l : List String} {x : String}, l.contains x = true → x ∈ l := fun h => List.contains_iff_mem.mp h
  have hcls : ∀ C, L.S.clss.contains C = true → _ := fun C hC => all_find a4 (mem hC)
  have hfl : ∀ C f, f ∈ L.P.fields C → L.S.clss.contains C = true ∧ (L.P.fields C).all (fun f => (L.P.fields C).all fun g => f == g || !(Str.ofString f == Str.ofString g)) = true := fun C f hf => by
    have hf' : f ∈ (L.fields.lookup C).getD [] := hf
    cases q : L.fields.lookup C with
    | none => rw [q] at hf'; cases hf'
    | some fs =>
      have hm : (C, fs) ∈ L.fields := lookup_memS q
      have := all_find s4 hm
      dsimp only at this
      obtain ⟨z1, z2⟩ := Bool.and_eq_true_iff.mp this
      refine ⟨z1, ?_⟩
      have e : L.P.fields C = fs := by
        show (L.fields.lookup C).getD [] = fs
        rw [q]; rfl
      rw [e]
      exact z2
  have hx : ∀ C, L.S.excs.contains C = true → ∃ x ∈ L.xents, x.C = C ∧ L.P.xfields C = x.flds := fun C hC => by
    have := all_find s5 (mem hC)
    cases q : L.xents.find? (fun x => x.C == C) with
    | none => rw [q] at this; cases this
    | some x =>
      refine ⟨x, List.mem_of_find?_eq_some q, beq_iff_eq.mp (List.find?_some (p := fun x : XEnt => x.C == C) q), ?_⟩
      show ((L.xents.find? fun x => x.C == C).map (·.flds)).getD [] = _
      rw [q]
      rfl
  refine ⟨rfl, rfl, rfl, s6, rfl, fun n hn => He.free_ok X G (List.all_eq_true.mp a2 n (mem hn)), ?_, ?_, ?_, ?_, ?_, ?_, ?_, ?_, ?_, ?_, ?_, ?_, ?_, ?_, ?_, ?_⟩
  · -- con
    intro n hn
    have := all_find a3 (mem hn)
    unfold conB at this
    split at this
    · rename_i d u e1 e2
      cases q : conV K d u with
      | none => rw [q] at this; cases this
      | some v => exact ⟨d, u, v, e1, PySem.W.mg_of X G e2, (conV_ok (Γ := L.Γ K mg) (κ := []) (I := fun _ => none) q).1, fun κ I => (conV_ok (Γ := L.Γ K mg) q).2⟩
    · cases this
  · -- fn
    intro f hf
    exact ⟨He.ga K (Str.ofString f), He.glo_ok X G (List.all_eq_true.mp a1 f (mem hf)), if_pos hf⟩
  · -- fnF
    intro f a hf
    have hf' : (if L.S.funs.contains f then some (He.ga K (Str.ofString f)) else none) = some a := hf
    split at hf'
    · rename_i hc
      cases hf'
      have := all_find s1 (mem hc)
      cases q : L.ents.find? (fun e => e.key == f) with
      | none => rw [q] at this; cases this
      | some e =>
        rw [q] at this
        simp only [Bool.and_eq_true, beq_iff_eq, Bool.not_eq_true'] at this
        obtain ⟨⟨z1, z2⟩, z3⟩ := this
        obtain ⟨m1, m2, m3⟩ := find_key q
        obtain ⟨fd, F⟩ := T.funD m1
        refine ⟨e.d, m3, ?_⟩
        have hat : He.fAd K (atOf e.cls e.nm) = He.ga K (Str.ofString f) := by rw [z1, z2]; rfl
        rw [hat] at F
        exact (o.ents e m1).fnF (by rw [z2]; exact z3) F
    · cases hf'
  · -- clsV
    intro C hC
    have := hcls C hC
    unfold clsB at this
    simp only [Bool.and_eq_true] at this
    obtain ⟨⟨⟨⟨⟨⟨⟨⟨⟨c1, c2⟩, c3⟩, c4⟩, c5⟩, c6⟩, c7⟩, c8⟩, c9⟩, c10⟩ := this
    exact He.glo_ok X G c1
  · -- clsF
    intro C hC
    have := hcls C hC
    unfold clsB at this
    simp only [Bool.and_eq_true] at this
    obtain ⟨⟨⟨⟨⟨⟨⟨⟨⟨c1, c2⟩, c3⟩, c4⟩, c5⟩, c6⟩, c7⟩, c8⟩, c9⟩, c10⟩ := this
    have z := all_find s2 (mem hC)
    obtain ⟨z1, z2⟩ := Bool.and_eq_true_iff.mp z
    cases q : L.ents.find? (fun e => e.key == C ++ ".__init__") with
    | none => rw [q] at z2; cases z2
    | some e =>
      rw [q] at z2
      simp only [Bool.and_eq_true, beq_iff_eq] at z2
      obtain ⟨z3, z4⟩ := z2
      obtain ⟨m1, m2, m3⟩ := find_key q
      obtain ⟨fd, F⟩ := T.funD m1
      have hat : He.fAd K (atOf e.cls e.nm) = He.ma K (He.ga K (Str.ofString C)) "__init__" := by rw [z3, z4]; rfl
      rw [hat] at F
      refine ⟨?_, rfl, He.ma K (He.ga K (Str.ofString C)) "__init__", e.d, He.mkr_ok c3, m3, (o.ents e m1).fnI z4 z3 F, hC⟩
      show ((L.ents.find? fun e => e.key == C).map (·.d)) = none
      rw [Option.isNone_iff_eq_none.mp z1]
      rfl
  · -- methF
    intro C m hm
    have hm' : (L.ents.any fun e => e.cls == some C && e.nm == m && e.nm != "__init__") = true := hm
    obtain ⟨e, he, z⟩ := List.any_eq_true.mp hm'
    simp only [Bool.and_eq_true, beq_iff_eq, bne_iff_ne] at z
    obtain ⟨⟨z1, z2⟩, z3⟩ := z
    have y := all_find s3 he
    rw [z1] at y
    have nb : (e.nm == "__init__") = false := beq_eq_false_iff_ne.mpr z3
    dsimp only at y
    rw [nb, Bool.false_or] at y
    simp only [Bool.and_eq_true] at y
    obtain ⟨⟨y1, y2⟩, y3⟩ := y
    rw [z2] at y3
    cases q : L.ents.find? (fun e' => e'.key == C ++ "." ++ m) with
    | none => rw [q] at y3; cases y3
    | some e' =>
      rw [q] at y3
      simp only [Bool.and_eq_true, beq_iff_eq] at y3
      obtain ⟨y3, y4⟩ := y3
      obtain ⟨m1, m2, m3⟩ := find_key q
      obtain ⟨fd, F⟩ := T.funD m1
      have hat : He.fAd K (atOf e'.cls e'.nm) = He.ma K (He.ga K (Str.ofString C)) (Str.ofString m) := by rw [y3, y4]; rfl
      rw [hat] at F
      have k := all_find a6 he
      unfold entK at k
      rw [z1] at k
      dsimp only at k
      rw [nb, Bool.false_or] at k
      have c := hcls C y1
      unfold clsB at c
      simp only [Bool.and_eq_true] at c
      obtain ⟨⟨⟨⟨⟨⟨⟨⟨⟨c1, c2⟩, c3⟩, c4⟩, c5⟩, c6⟩, c7⟩, c8⟩, c9⟩, c10⟩ := c
      refine ⟨He.cls_ok c2, fun f hf => ?_, _, e'.d, ?_, m3, (o.ents e' m1).fnF (by rw [y4, ← z2]; exact nb) F⟩
      · have := all_find y2 hf
        rw [z2] at this
        simpa using this
      · have := (Bool.and_eq_true_iff.mp k).2
        rw [z2] at this
        exact He.meth_ok this
  · -- fld
    intro C f hf
    have c := hcls C (hfl C f hf).1
    unfold clsB at c
    simp only [Bool.and_eq_true] at c
    obtain ⟨⟨⟨⟨⟨⟨⟨⟨⟨c1, c2⟩, c3⟩, c4⟩, c5⟩, c6⟩, c7⟩, c8⟩, c9⟩, c10⟩ := c
    exact ⟨He.cls_ok c2, He.noat_ok (List.all_eq_true.mp c4 f hf)⟩
  · -- isi
    intro C hC
    have c := hcls C hC
    unfold clsB at c
    simp only [Bool.and_eq_true, decide_eq_true_eq] at c
    obtain ⟨⟨⟨⟨⟨⟨⟨⟨⟨c1, c2⟩, c3⟩, c4⟩, c5⟩, c6⟩, c7⟩, c8⟩, c9⟩, c10⟩ := c
    refine ⟨fun H a dx fs e => .base (.ins e (He.cls_ok c2) (He.eqO_ok c5) (He.eqO_ok c6) c7 c8), fun T hT => ?_, fun C' hC' => ?_⟩
    · have := all_find c9 (show T ∈ tys from hT)
      simp only [Bool.and_eq_true, decide_eq_true_eq] at this
      exact this
    · exact of_decide_eq_true (List.all_eq_true.mp c10 C' (mem hC'))
  · -- objs
    exact fun C hC => hC
  · -- eqm
    intro C hC
    have hm' : (L.ents.any fun e => e.cls == some C && e.nm == "__eq__" && e.nm != "__init__") = true := hC
    obtain ⟨e, he, z⟩ := List.any_eq_true.mp hm'
    simp only [Bool.and_eq_true, beq_iff_eq, bne_iff_ne] at z
    obtain ⟨⟨z1, z2⟩, z3⟩ := z
    have y := all_find s3 he
    rw [z1] at y
    have nb : (e.nm == "__init__") = false := beq_eq_false_iff_ne.mpr z3
    dsimp only at y
    rw [nb, Bool.false_or] at y
    simp only [Bool.and_eq_true] at y
    obtain ⟨⟨y1, y2⟩, y3⟩ := y
    have q := all_find a5 (mem y1)
    unfold eqB at q
    rw [show L.P.isMeth C "__eq__" = true from hC] at q
    simp only [Bool.not_true, Bool.false_or, Bool.and_eq_true, decide_eq_true_eq] at q
    obtain ⟨⟨⟨q1, q2⟩, q3⟩, q4⟩ := q
    refine ⟨He.eqO_ok q1, q2, fun tb htb => ?_⟩
    rcases htb with ⟨T, hT, rfl⟩ | ⟨C', hC', rfl⟩
    · exact List.all_eq_true.mp q3 T hT
    · exact List.all_eq_true.mp q4 C' (mem hC')
  · -- finj
    intro C f g hf hg e
    have z := List.all_eq_true.mp (List.all_eq_true.mp (hfl C f hf).2 f hf) g hg
    rcases Bool.or_eq_true_iff.mp z with z | z
    · exact beq_iff_eq.mp z
    · rw [e] at z
      simp at z
  · -- exc
    intro Y sm hc hr C hC
    obtain ⟨x, hx1, hx2, hx3⟩ := hx C hC
    obtain ⟨cc, cda, fd, F, f1, f2, f3, f4⟩ := T.xfacts X G hx1 (o.xents x hx1)
    refine ⟨hC, ?_⟩
    rw [show (L.Γ K mg).xfields C = x.flds from hx3]
    subst hx2
    exact mkX_ok F (o.xents x hx1).body (o.xents x hx1).len (o.xents x hx1).ne f1 f2 sm hr
  · -- exm
    intro C c hC hc
    obtain ⟨x, hx1, hx2, hx3⟩ := hx C hC
    obtain ⟨cc, cda, fd, F, f1, f2, f3, f4⟩ := T.xfacts X G hx1 (o.xents x hx1)
    subst hx2
    exact f4 c (mem hc)
  · -- nam
    intro c hc
    exact He.glo_ok X G (List.all_eq_true.mp a8 c (mem hc))
  · -- xf
    intro C f hC hf
    obtain ⟨x, hx1, hx2, hx3⟩ := hx C hC
    obtain ⟨cc, cda, fd, F, f1, f2, f3, f4⟩ := T.xfacts X G hx1 (o.xents x hx1)
    rw [show (L.Γ K mg).xfields C = x.flds from hx3] at hf
    subst hx2
    exact ⟨f3, f1 f hf⟩
  · -- hln
    intro hl C hm
    have hm' : (L.ents.any fun e => e.cls == some C && e.nm == "__len__" && e.nm != "__init__") = true := hm
    obtain ⟨e, he, z⟩ := List.any_eq_true.mp hm'
    simp only [Bool.and_eq_true, beq_iff_eq, bne_iff_ne] at z
    obtain ⟨⟨z1, z2⟩, z3⟩ := z
    have y := all_find s3 he
    rw [z1] at y
    have nb : (e.nm == "__init__") = false := beq_eq_false_iff_ne.mpr z3
    dsimp only at y
    rw [nb, Bool.false_or] at y
    simp only [Bool.and_eq_true] at y
    obtain ⟨⟨y1, y2⟩, y3⟩ := y
    rw [z2] at y3
    cases q : L.ents.find? (fun e' => e'.key == C ++ "." ++ "__len__") with
    | none => rw [q] at y3; cases y3
    | some e' =>
      rw [q] at y3
      simp only [Bool.and_eq_true, beq_iff_eq] at y3
      obtain ⟨y3, y4⟩ := y3
      obtain ⟨m1, m2, m3⟩ := find_key q
      obtain ⟨fd, F⟩ := T.funD m1
      have hat : He.fAd K (atOf e'.cls e'.nm) = He.ma K (He.ga K (Str.ofString C)) (Str.ofString "__len__") := by rw [y3, y4]; rfl
      rw [hat] at F
      have k := all_find a6 he
      unfold entK at k
      rw [z1] at k
      dsimp only at k
      rw [nb, Bool.false_or] at k
      have q7 := all_find (Bool.or_eq_true_iff.mp s7 |>.resolve_left (by rw [hl]; simp)) m1
      rw [y3, y4] at q7
      simp only [Option.isNone_some, Bool.false_or, bne_self_eq_false] at q7
      refine ⟨_, e'.d, ?_, m3, (o.ents e' m1).fnFQ (by rw [y4]; decide) q7 F⟩
      have := (Bool.and_eq_true_iff.mp k).2
      rw [z2] at this
      exact He.meth_ok this
end
end Dp
end SDp27
set_option maxHeartbeats 4000000
/-! Dp28: the end of a law. -/
noncomputable section SDp28
namespace Dp
open PySem PySem.Spec PyProof.Rows L2 NdefX

/-- the law's plain fact -/
def Law (P : Prog) (n : Nat) : Prop := ∀ ns : List Int, ns.length ≤ 63 → (∀ z ∈ ns, Builtin.Int.intBits z ≤ 1048576) → ∃ st, run P (n + 1) "law" [.frz (ns.map D.int)] [] = .ok (.bl true) st
theorem reps_ints {Γ : Glob} {κ : List Addr} {I : Hp} : ∀ ns : List Int, Reps Γ κ I (ns.map V.int) (ns.map D.int)
  | [] => .nil
  | n :: ns => .cons (.int n) (reps_ints ns)
theorem ok_start {Γ : Glob} {H : Hp} : Ok Γ (fun _ => False) [] [] H [] where
  nd := by simp
  ap := fun a h => by simp at h
  oth := fun a h => h.elim
  len := rfl
  st := fun n a o h => by simp at h
  own := fun p h => by simp at h
section
variable {L : LawD} {prog : Program} {w : World} {K : PySem.W.Frag} {mg : Str → Option Value} {h : Heap}
theorem facts {n : Nat} {e : Ent} (o : LawOk L prog) (T : Told L prog.main.file K) (X : K.In h) (G : h.Ns mainGlobals mg) (he : L.ents.find? (fun e => e.key == "law") = some e) (hcl : e.cls = none) (hnm : e.nm = "law") (hps : e.ps = [("script" : Str)]) (hpl : Law L.P n) :
    ∃ fd sp, (∀ (s : Shared) (u : Value), BindsTo s fd ⟨[u], []⟩ [(("script" : Str), u)]) ∧
      (∀ (H : Hp) (a : Addr) (ns : List Int), ns.length ≤ 63 → (∀ z ∈ ns, Builtin.Int.intBits z ≤ 1048576) → Only H → SqL K H a (ns.map V.int) → sp [.ref a] H (fun v _ => v = .bl true) fun _ _ _ => False) ∧
      ∀ base : Heap, K.In base → base.Ns mainGlobals mg → FnOk prog w K mg base (L2.CX prog w) (lv n + 2) (He.ga K "law") fd ["script"] sp := by
  obtain ⟨m1, m2, m3⟩ := find_key he
  obtain ⟨fd, F⟩ := T.funD m1
  have ee := o.ents e m1
  have hat : He.fAd K (atOf e.cls e.nm) = He.ga K "law" := by rw [hcl, hnm]; rfl
  rw [hat] at F
  have hb := FunD.bindsA F ee.bnd
  have hchk := ee.chk
  unfold entB at hchk
  rw [show (e.nm == "__init__") = false by rw [hnm]; decide] at hchk
  simp only [Bool.and_eq_true, decide_eq_true_eq, Bool.false_eq_true, if_false] at hchk
  obtain ⟨⟨⟨⟨h1, h2⟩, h3⟩, h4⟩, h5⟩ := hchk
  have hnp : e.d.np = 1 := by rw [← h2, hps]; rfl
  refine ⟨fd, spD (L.Γ K mg) (run L.P (n + 1) "law") e.d.np, fun s u => by have := hb s [u] (by rw [hps]; rfl); rw [hps] at this; exact this, fun H a ns hl hbits hO hS => ?_, fun base KB GB => ?_⟩
  · refine ⟨by rw [hnp]; rfl, fun _ => False, [], [.frz (ns.map D.int)], [], ok_start, .cons (.frz ?_ (reps_ints ns)) .nil, ?_⟩
    · have hle : imm (fun _ => False) [] [] H = H := by
        funext b
        unfold imm cut
        rw [if_neg]
        rintro (z | z | z)
        · exact z
        · cases z
        · cases z
      rw [hle]
      exact hS
    · obtain ⟨st, e⟩ := hpl ns hl hbits
      rw [e]
      intro κ' H' n' o' v r
      cases r
      rfl
  · have A := all_ok (wld_of (w := w) (base := base) o T X G) n
    have q := fn_defK (w := w) (base := base) (mg := mg) (k := lv n) F (C8.fnScope_by h1) h2 h3 h4 h5 (fun Y sm hc hr => A.uni (wld_of o T X G) sm hc hr)
    rw [spD_congr (G := run L.P (n + 1) "law") (fun ds st => by unfold run; rw [m3])] at q
    rw [hps] at q
    exact q
end
/-- a law over the layer: its data, its plain fact -/
theorem walk_law {l : PySem.W.OpenLaw} {n : Nat} {q : Program} {loose : List Str} {XP : (Str → Option Value) → Heap → Prop} {d : DefRec} {L : LawD} {e : Ent}
    (hn : l.most = some 63) (hdf : d.params.defaults = []) (hdn : d.name = ("law" : Str)) (hr : Room (lv n + 2) callerA) (o : LawOk L l.prog) (he : L.ents.find? (fun e => e.key == "law") = some e) (hcl : e.cls = none) (hnm : e.nm = "law") (hps : e.ps = [("script" : Str)]) (hlf : L.S.funs.contains "law" = true) (hpl : Law L.P n) :
    PySem.W.WalkO q loose XP (hookP L l.prog.main.file).says l.row.toRowW d [] (fun f vs => PySem.call f vs) := by
  refine Att.attach_callB hn hdf fun w s₀ s₁ mg mb fa ob pm cd doc a vs ns G Y ho hd hcd hmg hobj hints hlen hbits hg => ?_
  obtain ⟨K, KX, c⟩ := Y
  have T := told_of c
  have W := wld_of (w := w) (base := s₁.heap) o T KX G.T.g
  obtain ⟨a2, e1, e2⟩ := W.fn "law" hlf
  have e2' : (if L.S.funs.contains "law" then some (He.ga K (Str.ofString "law")) else none) = some a2 := e2
  rw [if_pos hlf] at e2'
  cases e2'
  rw [hdn] at hmg
  have ea := hmg.symm.trans e1
  cases ea
  obtain ⟨fd, sp, hb, hsp, hF⟩ := facts (w := w) o T KX G.T.g he hcl hnm hps hpl
  refine law_call KX G.T.g G.T.b G.T.builtins G.T.nolimit hg hobj hints (Nat.le_trans hlen (by rw [sizeLine_eq]; decide)) hr hF hb (fun H hO hS => hsp H a ns hlen hbits hO hS) fun H e s' hx => ?_
  obtain ⟨_, _, _, _, _, _, _, _, _, _, _, _, z⟩ := hx
  exact z
end Dp
end SDp28
set_option maxHeartbeats 0
noncomputable section SK14H
namespace Dp
open PySem PySem.Spec PyProof.Rows L2 NdefX
def top (i : Nat) : Stmt := PySem.Challenge.pw_picturescales_k14_whole_makers.main.body.getD i (.Pass ⟨0, 0, 0, 0⟩)
def meth (i j : Nat) : Stmt := match top i with
  | .ClassDef _ _ _ b _ _ _ _ _ _ _ => b.getD j (.Pass ⟨0, 0, 0, 0⟩)
  | _ => .Pass ⟨0, 0, 0, 0⟩
def SS : Stat := ⟨["_law_alike", "_law_dot", "_law_drawn", "_law_evened", "_law_frac", "_law_led", "_law_less", "_law_mixed", "_law_moves", "_law_pairs", "_law_part", "_law_pick", "_law_plus", "_law_refused", "_law_sums", "_law_taken", "_law_times", "_law_ways", "around", "between", "blur", "box", "cut", "differences", "divisor", "evened", "every", "fraction", "is_fraction", "is_less", "is_number", "is_row", "is_weights", "is_whole", "joined", "law", "led", "middle_of", "minus", "mirror", "moved", "nearest", "over", "picked", "plus", "repeated", "runs", "shared", "shortest_period", "tent", "times", "total", "unit_row", "want_long", "wider"], ["Table"], ["BadItem", "BadNumber", "Refused"], ["abs", "all", "bool", "enumerate", "int", "isinstance", "len", "list", "max", "min", "range", "str", "tuple", "zip"], ["MOST_LONG", "NOTHING", "ONE"], ["BadItem", "BadNumber"], false, false⟩
def d_law : Def := ⟨1, 5, [.own 1 (.lst [.var 0, .con (.int 0), .con (.int 127), .con (.int 0)]), .shr 1, .par [3, 4] [.bin .add (.con (.int 1)) (.call "_law_taken" [.var 1, .con (.int 7)]), .bin .add (.con (.int 1)) (.call "_law_taken" [.var 1, .con (.int 7)])], .asg 2 (.idx (.call "_law_drawn" [.var 1, .con (.int 1), .var 3]) (.con (.int 0))), .cond (.or (.not (.call "_law_ways" [.var 3, .var 4])) (.or (.not (.call "_law_moves" [.var 1, .var 3, .var 2])) (.not (.call "_law_sums" [.var 1, .var 3, .var 2])))) [.ret (.con (.bl false))] [], .ret (.and (.call "_law_evened" [.var 1, .var 3]) (.call "_law_refused" []))], []⟩
def e_law : Ent := ⟨none, "law", top 69, ["script", "row", "parts", "wide", "long"], ["script"], d_law⟩
def d__law_taken : Def := ⟨2, 4, [.cond (.cmp .gt (.idx (.var 0) (.con (.int 3))) (.con (.int 0))) [.asg 3 (.bin .mod (.bi .int [.idx (.var 0) (.con (.int 3))]) (.var 1)), .seti 0 (.con (.int 3)) (.bin .fdiv (.idx (.var 0) (.con (.int 3))) (.var 1)), .ret (.var 3)] [], .seti 0 (.con (.int 1)) (.bin .add (.idx (.var 0) (.con (.int 1))) (.con (.int 1))), .cond (.cmp .gt (.idx (.var 0) (.con (.int 1))) (.bi .len [.idx (.var 0) (.con (.int 0))])) [.seti 0 (.con (.int 2)) (.bin .mod (.bi .int [.bin .add (.bin .mul (.idx (.var 0) (.con (.int 2))) (.con (.int 48271))) (.con (.int 11))]) (.con (.int 2147483647))), .ret (.bin .mod (.bi .int [.bin .fdiv (.idx (.var 0) (.con (.int 2))) (.con (.int 7))]) (.var 1))] [], .asg 2 (.idx (.idx (.var 0) (.con (.int 0))) (.bin .sub (.idx (.var 0) (.con (.int 1))) (.con (.int 1)))), .seti 0 (.con (.int 2)) (.bin .mod (.bi .int [.bin .add (.bin .add (.bin .mul (.idx (.var 0) (.con (.int 2))) (.con (.int 48271))) (.var 2)) (.con (.int 11))]) (.con (.int 2147483647))), .cond (.cmp .ge (.var 2) (.bin .pow (.con (.int 10)) (.con (.int 18)))) [.seti 0 (.con (.int 3)) (.bin .fdiv (.var 2) (.var 1))] [], .ret (.bin .mod (.bi .int [.var 2]) (.var 1))], []⟩
def e__law_taken : Ent := ⟨none, "_law_taken", top 51, ["row", "many", "cell", "found"], ["row", "many"], d__law_taken⟩
def d__law_drawn : Def := ⟨3, 5, [.ret (.bi .tuple [.comp (.one 3) (.range [.var 1]) none (.bi .tuple [.comp (.one 4) (.range [.var 2]) none (.call "_law_part" [.var 0])])])], []⟩
def e__law_drawn : Ent := ⟨none, "_law_drawn", top 62, ["row", "high", "wide", "at", "k"], ["row", "high", "wide"], d__law_drawn⟩
def d__law_sums : Def := ⟨3, 12, [.parO [6, 7] [false, true] [.tup [.con (.int 0), .con (.int 1)], .lst []], .loop (.one 3) (.seq (.var 2)) [.asg 6 (.call "_law_plus" [.var 6, .var 3]), .app 7 (.var 6)], .frz 7, .cond (.or (.cmp .ne (.meth (.call "runs" [.var 1]) "made" [.var 2]) (.bi .tuple [.var 7])) (.or (.cmp .ne (.meth (.call "differences" [.var 1]) "made" [.bi .tuple [.var 7]]) (.var 2)) (.ocmp .ne (.meth (.call "runs" [.var 1]) "then" [.call "differences" [.var 1]]) (.meth (.call "mirror" [.var 1]) "then" [.call "mirror" [.var 1]])))) [.ret (.con (.bl false))] [], .asg 4 (.idx (.call "_law_drawn" [.var 0, .con (.int 1), .idx (.lst [.con (.int 1), .con (.int 3), .con (.int 5)]) (.call "_law_taken" [.var 0, .con (.int 3)])]) (.con (.int 0))), .parO [8, 9] [false, true] [.bin .fdiv (.bi .len [.var 4]) (.con (.int 2)), .lst []], .loop (.one 5) (.range [.var 1]) [.asg 10 (.comp (.one 11) (.range [.bi .len [.var 4]]) none (.idx (.var 2) (.bi .max [.con (.int 0), .bi .min [.bin .sub (.var 1) (.con (.int 1)), .bin .sub (.bin .add (.var 5) (.var 11)) (.var 8)]]))), .app 9 (.call "_law_dot" [.var 4, .var 10])], .frz 9, .ret (.cmp .eq (.meth (.call "blur" [.var 1, .call "_law_mixed" [.var 0, .var 4]]) "made" [.var 2]) (.bi .tuple [.var 9]))], []⟩
def e__law_sums : Ent := ⟨none, "_law_sums", top 66, ["row", "wide", "parts", "part", "weights", "at", "here", "found", "half", "due", "told", "k"], ["row", "wide", "parts"], d__law_sums⟩
def d__law_moves : Def := ⟨3, 15, [.asgT [10, 11, 12] (.tup [.bin .sub (.call "_law_taken" [.var 0, .con (.int 11)]) (.con (.int 5)), .call "_law_taken" [.var 0, .con (.int 4)], .call "_law_taken" [.var 0, .con (.int 4)]]), .asg 3 (.bin .add (.var 2) (.tup [.tup [.con (.int 0), .con (.int 1)]])), .own 4 (.lst []), .loop (.one 5) (.range [.var 1]) [.asg 13 (.and (.cmp .gt (.bin .sub (.var 5) (.var 10)) (.neg (.con (.int 1)))) (.cmp .lt (.bin .sub (.var 5) (.var 10)) (.var 1))), .app 4 (.idx (.var 3) (.idx (.lst [.var 1, .bin .sub (.var 5) (.var 10)]) (.bi .int [.var 13])))], .frz 4, .cond (.cmp .ne (.meth (.call "moved" [.var 1, .var 10]) "made" [.var 2]) (.bi .tuple [.var 4])) [.ret (.con (.bl false))] [], .asg 6 (.meth (.call "around" [.var 1, .var 10]) "made" [.var 2]), .cond (.cmp .ne (.comp (.one 5) (.range [.var 1]) (some (.cmp .ne (.idx (.var 6) (.var 5)) (.idx (.var 2) (.bin .sub (.bin .sub (.var 5) (.var 10)) (.bin .mul (.bin .fdiv (.bin .sub (.var 5) (.var 10)) (.var 1)) (.var 1)))))) (.var 5)) (.lst [])) [.ret (.con (.bl false))] [], .cond (.or (.cmp .ne (.meth (.call "mirror" [.var 1]) "made" [.var 2]) (.rev (.var 2))) (.cmp .ne (.meth (.call "wider" [.var 1, .var 11, .var 12, .con (.bl true)]) "made" [.var 2]) (.bin .add (.bin .add (.bin .mul (.slc (.var 2) none (some (.con (.int 1)))) (.var 11)) (.var 2)) (.bin .mul (.slc (.var 2) (some (.neg (.con (.int 1)))) none) (.var 12))))) [.ret (.con (.bl false))] [], .cond (.cmp .ne (.meth (.call "wider" [.var 1, .var 11, .var 12, .con (.bl false)]) "made" [.var 2]) (.bin .add (.bin .add (.bin .mul (.tup [.tup [.con (.int 0), .con (.int 1)]]) (.var 11)) (.var 2)) (.bin .mul (.tup [.tup [.con (.int 0), .con (.int 1)]]) (.var 12)))) [.ret (.con (.bl false))] [], .asg 7 (.call "_law_taken" [.var 0, .var 1]), .asg 8 (.bin .add (.bin .add (.var 7) (.con (.int 1))) (.call "_law_taken" [.var 0, .bin .sub (.var 1) (.var 7)])), .cond (.or (.cmp .ne (.meth (.call "cut" [.var 1, .var 7, .var 8]) "made" [.var 2]) (.slc (.var 2) (some (.var 7)) (some (.var 8)))) (.cmp .ne (.meth (.call "cut" [.bin .add (.var 1) (.var 11), .var 11, .bin .add (.var 11) (.var 1)]) "made" [.bin .add (.bin .mul (.tup [.tup [.con (.int 0), .con (.int 1)]]) (.var 11)) (.var 2)]) (.var 2))) [.ret (.con (.bl false))] [], .asg 9 (.meth (.call "repeated" [.var 1, .con (.int 3)]) "made" [.var 2]), .ret (.and (.cmp .eq (.comp (.one 5) (.range [.var 1]) none (.slc (.var 9) (some (.bin .mul (.con (.int 3)) (.var 5))) (some (.bin .add (.bin .mul (.con (.int 3)) (.var 5)) (.con (.int 3)))))) (.comp (.one 14) (.seq (.var 2)) none (.bin .mul (.tup [.var 14]) (.con (.int 3))))) (.cmp .eq (.meth (.call "every" [.bin .mul (.con (.int 3)) (.var 1), .con (.int 3)]) "made" [.var 9]) (.var 2)))], []⟩
def e__law_moves : Ent := ⟨none, "_law_moves", top 65, ["row", "wide", "parts", "long", "due", "k", "turned", "first", "end", "again", "many", "ahead", "behind", "inside", "part"], ["row", "wide", "parts"], d__law_moves⟩
def d__law_ways : Def := ⟨2, 10, [.loop (.many [3, 4]) (.seq (.lst [.tup [.con (.str [110, 101, 97, 114, 101, 115, 116]), .call "nearest" [.var 0, .var 1]], .tup [.con (.str [98, 111, 120]), .call "box" [.var 0, .var 1]], .tup [.con (.str [116, 101, 110, 116]), .call "tent" [.var 0, .var 1]]])) [.cond (.or (.not (.call "_law_alike" [.fld (.var 4) "rows", .call "_law_led" [.var 3, .var 0, .var 1]])) (.ocmp .ne (.call "led" [.var 3, .var 0, .var 1]) (.var 4))) [.ret (.con (.bl false))] [], .cond (.or (.cmp .ne (.meth (.var 4) "sums" []) (.bin .mul (.tup [.tup [.con (.int 1), .con (.int 1)]]) (.var 1))) (.ocmp .ne (.meth (.var 4) "mirrored" []) (.idx (.lst [.var 4, .meth (.var 4) "mirrored" []]) (.bi .int [.cmp .eq (.var 3) (.con (.str [110, 101, 97, 114, 101, 115, 116]))])))) [.ret (.con (.bl false))] []], .cond (.cmp .ne (.meth (.call "box" [.var 0, .var 1]) "column_sums" []) (.bin .mul (.tup [.call "_law_frac" [.var 1, .var 0]]) (.var 0))) [.ret (.con (.bl false))] [], .loop (.many [5, 6]) (.enum (.fld (.call "tent" [.var 0, .var 1]) "rows")) [.asg 7 (.call "_law_frac" [.bin .sub (.bin .mul (.bin .add (.bin .mul (.con (.int 2)) (.var 5)) (.con (.int 1))) (.var 0)) (.var 1), .bin .mul (.con (.int 2)) (.var 1)]), .cond (.cmp .ne (.call "between" [.var 0, .call "_law_plus" [.var 7, .tup [.con (.int 1), .con (.int 2)]]]) (.bi .list [.var 6])) [.ret (.con (.bl false))] [], .cond (.and (.not (.call "_law_less" [.var 7, .tup [.con (.int 0), .con (.int 1)]])) (.and (.not (.call "_law_less" [.tup [.bin .sub (.var 0) (.con (.int 1)), .con (.int 1)], .var 7])) (.cmp .ne (.call "middle_of" [.var 6]) (.var 7)))) [.ret (.con (.bl false))] []], .loop (.many [5, 8]) (.seq (.call "_law_pairs" [.var 1, .var 0])) [.cond (.cmp .ne (.call "shared" [.var 5, .var 8, .var 0, .var 1]) (.idx (.meth (.call "box" [.var 0, .var 1]) "row" [.var 5]) (.var 8))) [.ret (.con (.bl false))] []], .asg 2 (.call "shortest_period" [.var 0, .var 1]), .ret (.and (.cmp .eq (.bin .mul (.idx (.var 2) (.con (.int 0))) (.var 0)) (.bin .mul (.idx (.var 2) (.con (.int 1))) (.var 1))) (.cmp .eq (.comp (.one 9) (.range [.con (.int 1), .idx (.var 2) (.con (.int 0))]) (some (.cmp .eq (.bin .mul (.bin .fdiv (.bin .mul (.var 9) (.var 0)) (.var 1)) (.var 1)) (.bin .mul (.var 9) (.var 0)))) (.var 9)) (.lst [])))], []⟩
def e__law_ways : Ent := ⟨none, "_law_ways", top 64, ["wide", "long", "period", "way", "made", "at", "line", "spot", "place", "k"], ["wide", "long"], d__law_ways⟩
def d__law_refused : Def := ⟨0, 2, [.loop (.one 0) (.range [.con (.int 8)]) [.tryx [.cond (.cmp .eq (.var 0) (.con (.int 0))) [.ex (.call "nearest" [.con (.int 0), .con (.int 3)])] [], .cond (.cmp .eq (.var 0) (.con (.int 1))) [.ex (.call "box" [.con (.int 3), .con (.int 25)])] [], .cond (.cmp .eq (.var 0) (.con (.int 2))) [.ex (.call "tent" [.con (.str [97]), .con (.int 2)])] [], .cond (.cmp .eq (.var 0) (.con (.int 3))) [.ex (.call "moved" [.con (.int 3), .con (.int 25)])] [], .cond (.cmp .eq (.var 0) (.con (.int 4))) [.ex (.call "repeated" [.con (.int 9), .con (.int 3)])] [], .cond (.cmp .eq (.var 0) (.con (.int 5))) [.ex (.call "wider" [.con (.int 3), .neg (.con (.int 1)), .con (.int 0), .con (.bl true)])] [], .cond (.cmp .eq (.var 0) (.con (.int 6))) [.ex (.call "around" [.con (.int 2), .con .non])] [], .cond (.cmp .eq (.var 0) (.con (.int 7))) [.ex (.call "want_long" [.con (.bl true)])] [], .ret (.con (.bl false))] "BadNumber" (some 1) [.cond (.cmp .ne (.xfld 1 "value") (.idx (.lst [.con (.int 0), .con (.int 25), .con (.str [97]), .con (.int 25), .con (.int 27), .neg (.con (.int 1)), .con .non, .con (.bl true)]) (.var 0))) [.ret (.con (.bl false))] []]], .loop (.one 0) (.range [.con (.int 5)]) [.tryx [.cond (.cmp .eq (.var 0) (.con (.int 0))) [.ex (.call "cut" [.con (.int 3), .con (.int 2), .con (.int 2)])] [], .cond (.cmp .eq (.var 0) (.con (.int 1))) [.ex (.call "cut" [.con (.int 3), .con (.int 0), .con (.int 4)])] [], .cond (.cmp .eq (.var 0) (.con (.int 2))) [.ex (.call "blur" [.con (.int 3), .lst [.tup [.con (.int 1), .con (.int 2)], .tup [.con (.int 1), .con (.int 2)]]])] [], .cond (.cmp .eq (.var 0) (.con (.int 3))) [.ex (.call "blur" [.con (.int 3), .lst [.con (.int 1)]])] [], .cond (.cmp .eq (.var 0) (.con (.int 4))) [.ex (.call "led" [.con (.str [102, 97, 114]), .con (.int 2), .con (.int 2)])] [], .ret (.con (.bl false))] "BadItem" (some 1) [.cond (.cmp .notN (.xfld 1 "index") (.con .non)) [.ret (.con (.bl false))] []]], .ret (.con (.bl true))], []⟩
def e__law_refused : Ent := ⟨none, "_law_refused", top 68, ["turn", "e"], [], d__law_refused⟩
def d__law_evened : Def := ⟨2, 8, [.asg 2 (.call "_law_drawn" [.var 0, .con (.int 2), .var 1]), .asgT [3, 4] (.tup [.comp (.one 5) (.seq (.var 2)) none (.call "_law_dot" [.var 5, .bin .mul (.tup [.tup [.con (.int 1), .con (.int 1)]]) (.var 1)]), .call "evened" [.make "Table" [.var 1, .var 2]]]), .cond (.cmp .isin (.tup [.con (.int 0), .con (.int 1)]) (.var 3)) [.ret (.cmp .isN (.var 4) (.con .non))] [], .ret (.and (.cmp .eq (.comp (.one 6) (.range [.con (.int 2)]) (some (.cmp .ne (.bi .tuple [.comp (.one 7) (.seq (.meth (.var 4) "row" [.var 6])) none (.call "_law_times" [.idx (.var 3) (.var 6), .var 7])]) (.idx (.var 2) (.var 6)))) (.var 6)) (.lst [])) (.cmp .isN (.call "middle_of" [.bin .mul (.tup [.tup [.con (.int 0), .con (.int 1)]]) (.con (.int 3))]) (.con .non)))], []⟩
def e__law_evened : Ent := ⟨none, "_law_evened", top 67, ["row", "wide", "rows", "sums", "told", "line", "at", "part"], ["row", "wide"], d__law_evened⟩
def d__law_part : Def := ⟨1, 1, [.ret (.call "_law_pick" [.var 0, .lst [.tup [.con (.int 0), .con (.int 1)], .tup [.con (.int 1), .con (.int 1)], .tup [.con (.int 1), .con (.int 1)], .tup [.con (.int 1), .con (.int 2)], .tup [.neg (.con (.int 1)), .con (.int 1)], .tup [.con (.int 2), .con (.int 3)], .tup [.neg (.con (.int 3)), .con (.int 4)], .tup [.con (.int 3), .con (.int 1)], .call "_law_frac" [.bin .sub (.call "_law_taken" [.var 0, .con (.int 19)]) (.con (.int 9)), .bin .add (.con (.int 1)) (.call "_law_taken" [.var 0, .con (.int 5)])]]])], []⟩
def e__law_part : Ent := ⟨none, "_law_part", top 61, ["row"], ["row"], d__law_part⟩
def d__law_plus : Def := ⟨2, 2, [.ret (.call "_law_frac" [.bin .add (.bin .mul (.idx (.var 0) (.con (.int 0))) (.idx (.var 1) (.con (.int 1)))) (.bin .mul (.idx (.var 1) (.con (.int 0))) (.idx (.var 0) (.con (.int 1)))), .bin .mul (.idx (.var 0) (.con (.int 1))) (.idx (.var 1) (.con (.int 1)))])], []⟩
def e__law_plus : Ent := ⟨none, "_law_plus", top 57, ["one", "other"], ["one", "other"], d__law_plus⟩
def d_Table_then : Def := ⟨2, 6, [.cond (.cmp .ne (.fld (.var 1) "wide") (.bi .len [.fld (.var 0) "rows"])) [.raise "Refused" [.con (.str [108, 101, 110, 103, 116, 104]), .tup []]] [], .asg 2 (.comp (.one 3) (.range [.fld (.var 0) "wide"]) none (.meth (.var 0) "column" [.var 3])), .ret (.make "Table" [.fld (.var 0) "wide", .comp (.one 4) (.seq (.fld (.var 1) "rows")) none (.comp (.one 5) (.seq (.var 2)) none (.call "joined" [.var 4, .var 5]))])], []⟩
def e_Table_then : Ent := ⟨some "Table", "then", meth 26 9, ["self", "other", "columns", "place", "row", "column"], ["self", "other"], d_Table_then⟩
def d_runs : Def := ⟨1, 3, [.ex (.call "want_long" [.var 0]), .ret (.make "Table" [.var 0, .comp (.one 1) (.range [.var 0]) none (.comp (.one 2) (.range [.var 0]) none (.ite (.cmp .le (.var 2) (.var 1)) (.glo "ONE") (.glo "NOTHING")))])], []⟩
def e_runs : Ent := ⟨none, "runs", top 46, ["wide", "at", "place"], ["wide"], d_runs⟩
def d_differences : Def := ⟨1, 4, [.ex (.call "want_long" [.var 0]), .own 1 (.lst []), .loop (.one 2) (.range [.var 0]) [.own 3 (.bi .list [.call "unit_row" [.var 0, .var 2]]), .cond (.cmp .gt (.var 2) (.con (.int 0))) [.seti 3 (.bin .sub (.var 2) (.con (.int 1))) (.tup [.neg (.con (.int 1)), .con (.int 1)])] [], .frz 3, .app 1 (.var 3)], .frz 1, .ret (.make "Table" [.var 0, .var 1])], []⟩
def e_differences : Ent := ⟨none, "differences", top 45, ["wide", "rows", "at", "row"], ["wide"], d_differences⟩
def d_mirror : Def := ⟨1, 2, [.ex (.call "want_long" [.var 0]), .ret (.call "picked" [.var 0, .comp (.one 1) (.range [.var 0]) none (.bin .sub (.bin .sub (.var 0) (.con (.int 1))) (.var 1))])], []⟩
def e_mirror : Ent := ⟨none, "mirror", top 39, ["wide", "at"], ["wide"], d_mirror⟩
def d_Table_made : Def := ⟨2, 3, [.cond (.cmp .ne (.bi .len [.var 1]) (.fld (.var 0) "wide")) [.raise "BadItem" [.con .non]] [], .ret (.bi .tuple [.comp (.one 2) (.seq (.fld (.var 0) "rows")) none (.call "joined" [.var 2, .var 1])])], []⟩
def e_Table_made : Ent := ⟨some "Table", "made", meth 26 7, ["self", "parts", "row"], ["self", "parts"], d_Table_made⟩
def d__law_dot : Def := ⟨2, 4, [.asg 2 (.tup [.con (.int 0), .con (.int 1)]), .loop (.one 3) (.range [.bi .len [.var 0]]) [.asg 2 (.call "_law_plus" [.var 2, .call "_law_times" [.idx (.var 0) (.var 3), .idx (.var 1) (.var 3)]])], .ret (.var 2)], []⟩
def e__law_dot : Ent := ⟨none, "_law_dot", top 60, ["weights", "parts", "found", "k"], ["weights", "parts"], d__law_dot⟩
def d_blur : Def := ⟨2, 9, [.ex (.call "want_long" [.var 0]), .cond (.or (.not (.call "is_row" [.var 1])) (.or (.cmp .eq (.bin .mod (.bi .len [.var 1]) (.con (.int 2))) (.con (.int 0))) (.not (.bi .all [.comp (.one 7) (.seq (.var 1)) none (.call "is_fraction" [.var 7])])))) [.raise "BadItem" [.con .non]] [], .parO [3, 4] [false, true] [.bin .fdiv (.bi .len [.var 1]) (.con (.int 2)), .lst []], .loop (.one 2) (.range [.var 0]) [.own 5 (.bin .mul (.lst [.glo "NOTHING"]) (.var 0)), .loop (.many [6, 7]) (.enum (.var 1)) [.asg 8 (.bi .max [.con (.int 0), .bi .min [.bin .sub (.var 0) (.con (.int 1)), .bin .sub (.bin .add (.var 2) (.var 6)) (.var 3)]]), .seti 5 (.var 8) (.call "plus" [.oix 5 (.var 8), .bi .tuple [.var 7]])], .frz 5, .app 4 (.var 5)], .frz 4, .ret (.make "Table" [.var 0, .var 4])], []⟩
def e_blur : Ent := ⟨none, "blur", top 44, ["wide", "weights", "at", "half", "rows", "row", "step", "part", "place"], ["wide", "weights"], d_blur⟩
def d__law_mixed : Def := ⟨2, 2, [.cond (.cmp .eq (.call "_law_taken" [.var 0, .con (.int 2)]) (.con (.int 0))) [.ret (.bi .list [.var 1])] [], .ret (.bi .tuple [.var 1])], []⟩
def e__law_mixed : Ent := ⟨none, "_law_mixed", top 54, ["row", "value"], ["row", "value"], d__law_mixed⟩
def d_moved : Def := ⟨2, 3, [.ex (.call "want_long" [.var 0]), .cond (.not (.call "is_number" [.var 1, .bin .sub (.con (.int 0)) (.glo "MOST_LONG"), .glo "MOST_LONG"])) [.raise "BadNumber" [.var 1]] [], .ret (.call "picked" [.var 0, .comp (.one 2) (.range [.var 0]) none (.ite (.chain .le .lt (.con (.int 0)) (.bin .sub (.var 2) (.var 1)) (.var 0)) (.bin .sub (.var 2) (.var 1)) (.con .non))])], []⟩
def e_moved : Ent := ⟨none, "moved", top 40, ["wide", "many", "at"], ["wide", "many"], d_moved⟩
def d_around : Def := ⟨2, 3, [.ex (.call "want_long" [.var 0]), .cond (.not (.call "is_number" [.var 1, .bin .sub (.con (.int 0)) (.glo "MOST_LONG"), .glo "MOST_LONG"])) [.raise "BadNumber" [.var 1]] [], .ret (.call "picked" [.var 0, .comp (.one 2) (.range [.var 0]) none (.bin .mod (.bin .sub (.var 2) (.var 1)) (.var 0))])], []⟩
def e_around : Ent := ⟨none, "around", top 41, ["wide", "many", "at"], ["wide", "many"], d_around⟩
def d_wider : Def := ⟨4, 8, [.ex (.call "want_long" [.var 0]), .loop (.one 4) (.seq (.tup [.var 1, .var 2])) [.cond (.not (.call "is_number" [.var 4, .con (.int 0), .glo "MOST_LONG"])) [.raise "BadNumber" [.var 4]] []], .ex (.call "want_long" [.bin .add (.bin .add (.var 0) (.var 1)) (.var 2)]), .asgT [5, 6] (.ite (.var 3) (.tup [.con (.int 0), .bin .sub (.var 0) (.con (.int 1))]) (.tup [.con .non, .con .non])), .ret (.call "picked" [.var 0, .bin .add (.bin .add (.bin .mul (.lst [.var 5]) (.var 1)) (.comp (.one 7) (.range [.var 0]) none (.var 7))) (.bin .mul (.lst [.var 6]) (.var 2))])], []⟩
def e_wider : Ent := ⟨none, "wider", top 43, ["wide", "ahead", "behind", "edge", "many", "first", "last", "at"], ["wide", "ahead", "behind", "edge"], d_wider⟩
def d_cut : Def := ⟨3, 4, [.ex (.call "want_long" [.var 0]), .cond (.or (.not (.call "is_number" [.var 2, .con (.int 1), .var 0])) (.not (.call "is_number" [.var 1, .con (.int 0), .bin .sub (.var 2) (.con (.int 1))]))) [.raise "BadItem" [.con .non]] [], .ret (.call "picked" [.var 0, .comp (.one 3) (.range [.var 1, .var 2]) none (.var 3)])], []⟩
def e_cut : Ent := ⟨none, "cut", top 42, ["wide", "first", "end", "at"], ["wide", "first", "end"], d_cut⟩
def d_repeated : Def := ⟨2, 3, [.ex (.call "want_long" [.var 0]), .ex (.call "want_long" [.var 1]), .ex (.call "want_long" [.bin .mul (.var 0) (.var 1)]), .ret (.call "picked" [.var 0, .comp (.one 2) (.range [.bin .mul (.var 0) (.var 1)]) none (.bin .fdiv (.var 2) (.var 1))])], []⟩
def e_repeated : Ent := ⟨none, "repeated", top 37, ["wide", "many", "at"], ["wide", "many"], d_repeated⟩
def d_every : Def := ⟨2, 3, [.ex (.call "want_long" [.var 0]), .ex (.call "want_long" [.var 1]), .ret (.call "picked" [.var 0, .comp (.one 2) (.range [.var 0]) (some (.cmp .eq (.bin .mod (.var 2) (.var 1)) (.con (.int 0)))) (.var 2)])], []⟩
def e_every : Ent := ⟨none, "every", top 38, ["wide", "many", "at"], ["wide", "many"], d_every⟩
def d_nearest : Def := ⟨2, 3, [.ex (.call "want_long" [.var 0]), .ex (.call "want_long" [.var 1]), .ret (.call "picked" [.var 0, .comp (.one 2) (.range [.var 1]) none (.bi .min [.bin .sub (.var 0) (.con (.int 1)), .bin .fdiv (.bin .mul (.bin .add (.bin .mul (.con (.int 2)) (.var 2)) (.con (.int 1))) (.var 0)) (.bin .mul (.con (.int 2)) (.var 1))])])], []⟩
def e_nearest : Ent := ⟨none, "nearest", top 31, ["wide", "long", "at"], ["wide", "long"], d_nearest⟩
def d_box : Def := ⟨2, 5, [.ex (.call "want_long" [.var 0]), .ex (.call "want_long" [.var 1]), .own 2 (.lst []), .loop (.one 3) (.range [.var 1]) [.app 2 (.comp (.one 4) (.range [.var 0]) none (.call "shared" [.var 3, .var 4, .var 0, .var 1]))], .frz 2, .ret (.make "Table" [.var 0, .var 2])], []⟩
def e_box : Ent := ⟨none, "box", top 33, ["wide", "long", "rows", "at", "place"], ["wide", "long"], d_box⟩
def d_tent : Def := ⟨2, 3, [.ex (.call "want_long" [.var 0]), .ex (.call "want_long" [.var 1]), .ret (.make "Table" [.var 0, .comp (.one 2) (.range [.var 1]) none (.call "between" [.var 0, .call "fraction" [.bin .mul (.bin .add (.bin .mul (.con (.int 2)) (.var 2)) (.con (.int 1))) (.var 0), .bin .mul (.con (.int 2)) (.var 1)]])])], []⟩
def e_tent : Ent := ⟨none, "tent", top 35, ["wide", "long", "at"], ["wide", "long"], d_tent⟩
def d_led : Def := ⟨3, 3, [.cond (.cmp .eq (.var 0) (.con (.str [110, 101, 97, 114, 101, 115, 116]))) [.ret (.call "nearest" [.var 1, .var 2])] [], .cond (.cmp .eq (.var 0) (.con (.str [98, 111, 120]))) [.ret (.call "box" [.var 1, .var 2])] [], .cond (.cmp .eq (.var 0) (.con (.str [116, 101, 110, 116]))) [.ret (.call "tent" [.var 1, .var 2])] [], .raise "BadItem" [.con .non]], []⟩
def e_led : Ent := ⟨none, "led", top 36, ["way", "wide", "long"], ["way", "wide", "long"], d_led⟩
def d__law_alike : Def := ⟨2, 3, [.cond (.isi (.var 1) [.tuple, .list]) [.cond (.or (.not (.isi (.var 0) [.tuple, .list])) (.cmp .ne (.isi (.var 0) [.list]) (.isi (.var 1) [.list]))) [.ret (.con (.bl false))] [], .cond (.cmp .ne (.bi .len [.var 0]) (.bi .len [.var 1])) [.ret (.con (.bl false))] [], .ret (.cmp .eq (.comp (.one 2) (.range [.bi .len [.var 1]]) (some (.not (.call "_law_alike" [.idx (.var 0) (.var 2), .idx (.var 1) (.var 2)]))) (.var 2)) (.lst []))] [], .cond (.or (.cmp .isN (.var 1) (.con .non)) (.isi (.var 1) [.str])) [.ret (.and (.cmp .eq (.var 0) (.var 1)) (.cmp .eq (.isi (.var 0) [.str]) (.isi (.var 1) [.str])))] [], .ret (.and (.isi (.var 0) [.int]) (.and (.cmp .eq (.isi (.var 0) [.bool]) (.isi (.var 1) [.bool])) (.cmp .eq (.var 0) (.var 1))))], []⟩
def e__law_alike : Ent := ⟨none, "_law_alike", top 53, ["found", "due", "k"], ["found", "due"], d__law_alike⟩
def d__law_led : Def := ⟨3, 13, [.own 3 (.lst []), .loop (.one 4) (.range [.var 2]) [.own 5 (.bin .mul (.lst [.tup [.con (.int 0), .con (.int 1)]]) (.var 1)), .cond (.cmp .eq (.var 0) (.con (.str [110, 101, 97, 114, 101, 115, 116]))) [.seti 5 (.bi .min [.bin .sub (.var 1) (.con (.int 1)), .bin .fdiv (.bin .mul (.bin .add (.bin .mul (.con (.int 2)) (.var 4)) (.con (.int 1))) (.var 1)) (.bin .mul (.con (.int 2)) (.var 2))]) (.tup [.con (.int 1), .con (.int 1)])] [], .cond (.cmp .eq (.var 0) (.con (.str [98, 111, 120]))) [.loop (.one 6) (.range [.var 1]) [.asg 10 (.bin .sub (.bi .min [.bin .mul (.bin .add (.var 4) (.con (.int 1))) (.var 1), .bin .mul (.bin .add (.var 6) (.con (.int 1))) (.var 2)]) (.bi .max [.bin .mul (.var 4) (.var 1), .bin .mul (.var 6) (.var 2)])), .seti 5 (.var 6) (.call "_law_frac" [.bi .max [.con (.int 0), .var 10], .var 1])]] [], .cond (.cmp .eq (.var 0) (.con (.str [116, 101, 110, 116]))) [.asg 7 (.bin .sub (.bin .mul (.bin .add (.bin .mul (.con (.int 2)) (.var 4)) (.con (.int 1))) (.var 1)) (.var 2)), .asg 8 (.bin .fdiv (.var 7) (.bin .mul (.con (.int 2)) (.var 2))), .asg 9 (.call "_law_frac" [.bin .sub (.var 7) (.bin .mul (.bin .mul (.con (.int 2)) (.var 2)) (.var 8)), .bin .mul (.con (.int 2)) (.var 2)]), .par [11, 12] [.bi .max [.con (.int 0), .bi .min [.bin .sub (.var 1) (.con (.int 1)), .var 8]], .bi .max [.con (.int 0), .bi .min [.bin .sub (.var 1) (.con (.int 1)), .bin .add (.var 8) (.con (.int 1))]]], .seti 5 (.var 11) (.call "_law_plus" [.oix 5 (.var 11), .call "_law_plus" [.tup [.con (.int 1), .con (.int 1)], .tup [.neg (.idx (.var 9) (.con (.int 0))), .idx (.var 9) (.con (.int 1))]]]), .seti 5 (.var 12) (.call "_law_plus" [.oix 5 (.var 12), .var 9])] [], .frz 5, .app 3 (.bi .tuple [.var 5])], .frz 3, .ret (.bi .tuple [.var 3])], []⟩
def e__law_led : Ent := ⟨none, "_law_led", top 63, ["way", "wide", "long", "found", "at", "weights", "place", "top", "low", "part", "common", "first", "second"], ["way", "wide", "long"], d__law_led⟩
def d_Table_mirrored : Def := ⟨1, 2, [.ret (.make "Table" [.fld (.var 0) "wide", .comp (.one 1) (.seq (.rev (.fld (.var 0) "rows"))) none (.rev (.var 1))])], []⟩
def e_Table_mirrored : Ent := ⟨some "Table", "mirrored", meth 26 11, ["self", "row"], ["self"], d_Table_mirrored⟩
def d_Table_sums : Def := ⟨1, 2, [.ret (.bi .tuple [.comp (.one 1) (.seq (.fld (.var 0) "rows")) none (.call "total" [.var 1])])], []⟩
def e_Table_sums : Ent := ⟨some "Table", "sums", meth 26 15, ["self", "row"], ["self"], d_Table_sums⟩
def d_Table_column_sums : Def := ⟨1, 2, [.ret (.bi .tuple [.comp (.one 1) (.range [.fld (.var 0) "wide"]) none (.call "total" [.meth (.var 0) "column" [.var 1]])])], []⟩
def e_Table_column_sums : Ent := ⟨some "Table", "column_sums", meth 26 16, ["self", "place"], ["self"], d_Table_column_sums⟩
def d__law_frac : Def := ⟨2, 4, [.cond (.cmp .lt (.var 1) (.con (.int 0))) [.par [0, 1] [.neg (.var 0), .neg (.var 1)]] [], .par [2, 3] [.bi .abs [.var 0], .var 1], .whil (.cmp .ne (.var 3) (.con (.int 0))) [.par [2, 3] [.var 3, .bin .sub (.var 2) (.bin .mul (.bin .fdiv (.var 2) (.var 3)) (.var 3))]], .ret (.tup [.bin .fdiv (.var 0) (.var 2), .bin .fdiv (.var 1) (.var 2)])], []⟩
def e__law_frac : Ent := ⟨none, "_law_frac", top 56, ["top", "bottom", "one", "other"], ["top", "bottom"], d__law_frac⟩
def d_between : Def := ⟨2, 8, [.asg 2 (.call "minus" [.var 1, .tup [.con (.int 1), .con (.int 2)]]), .asg 3 (.bin .fdiv (.idx (.var 2) (.con (.int 0))) (.idx (.var 2) (.con (.int 1)))), .asg 4 (.call "minus" [.var 2, .tup [.var 3, .con (.int 1)]]), .par [6, 7] [.bi .max [.con (.int 0), .bi .min [.bin .sub (.var 0) (.con (.int 1)), .var 3]], .bi .max [.con (.int 0), .bi .min [.bin .sub (.var 0) (.con (.int 1)), .bin .add (.var 3) (.con (.int 1))]]], .own 5 (.bin .mul (.lst [.glo "NOTHING"]) (.var 0)), .seti 5 (.var 6) (.call "plus" [.oix 5 (.var 6), .call "minus" [.glo "ONE", .var 4]]), .seti 5 (.var 7) (.call "plus" [.oix 5 (.var 7), .var 4]), .frz 5, .ret (.var 5)], []⟩
def e_between : Ent := ⟨none, "between", top 34, ["wide", "spot", "back", "low", "part", "found", "first", "second"], ["wide", "spot"], d_between⟩
def d_middle_of : Def := ⟨1, 6, [.asg 1 (.call "total" [.var 0]), .cond (.ocmp .eq (.var 1) (.glo "NOTHING")) [.ret (.con .non)] [], .asg 2 (.comp (.many [3, 4]) (.enum (.var 0)) none (.tup [.bin .mul (.var 3) (.idx (.var 4) (.con (.int 0))), .idx (.var 4) (.con (.int 1))])), .ret (.call "over" [.call "total" [.comp (.one 5) (.seq (.var 2)) none (.call "fraction" [.idx (.var 5) (.con (.int 0)), .idx (.var 5) (.con (.int 1))])], .var 1])], []⟩
def e_middle_of : Ent := ⟨none, "middle_of", top 49, ["row", "whole", "moved_by", "at", "weight", "part"], ["row"], d_middle_of⟩
def d__law_less : Def := ⟨2, 2, [.ret (.cmp .lt (.bin .mul (.idx (.var 0) (.con (.int 0))) (.idx (.var 1) (.con (.int 1)))) (.bin .mul (.idx (.var 1) (.con (.int 0))) (.idx (.var 0) (.con (.int 1)))))], []⟩
def e__law_less : Ent := ⟨none, "_law_less", top 59, ["one", "other"], ["one", "other"], d__law_less⟩
def d__law_pairs : Def := ⟨2, 5, [.asg 2 (.lst []), .loop (.one 3) (.range [.var 0]) [.asg 2 (.bin .add (.var 2) (.comp (.one 4) (.range [.var 1]) none (.tup [.var 3, .var 4])))], .ret (.var 2)], []⟩
def e__law_pairs : Ent := ⟨none, "_law_pairs", top 55, ["firsts", "seconds", "found", "one", "two"], ["firsts", "seconds"], d__law_pairs⟩
def d_shared : Def := ⟨4, 10, [.par [6, 7] [.call "fraction" [.var 0, .var 3], .call "fraction" [.bin .add (.var 0) (.con (.int 1)), .var 3]], .par [8, 9] [.call "fraction" [.var 1, .var 2], .call "fraction" [.bin .add (.var 1) (.con (.int 1)), .var 2]], .asg 4 (.ite (.call "is_less" [.var 6, .var 8]) (.var 8) (.var 6)), .asg 5 (.ite (.call "is_less" [.var 9, .var 7]) (.var 9) (.var 7)), .ret (.ite (.call "is_less" [.var 4, .var 5]) (.call "over" [.call "minus" [.var 5, .var 4], .call "fraction" [.con (.int 1), .var 3]]) (.glo "NOTHING"))], []⟩
def e_shared : Ent := ⟨none, "shared", top 32, ["one", "other", "wide", "long", "low", "high", "begin", "end", "first", "last"], ["one", "other", "wide", "long"], d_shared⟩
def d_Table_row : Def := ⟨2, 2, [.cond (.not (.call "is_number" [.var 1, .con (.int 0), .bin .sub (.bi .len [.fld (.var 0) "rows"]) (.con (.int 1))])) [.raise "BadItem" [.var 1]] [], .ret (.idx (.fld (.var 0) "rows") (.var 1))], []⟩
def e_Table_row : Ent := ⟨some "Table", "row", meth 26 3, ["self", "at"], ["self", "at"], d_Table_row⟩
def d_shortest_period : Def := ⟨2, 3, [.ex (.call "want_long" [.var 0]), .ex (.call "want_long" [.var 1]), .asg 2 (.call "divisor" [.var 0, .var 1]), .ret (.tup [.bin .fdiv (.var 1) (.var 2), .bin .fdiv (.var 0) (.var 2)])], []⟩
def e_shortest_period : Ent := ⟨none, "shortest_period", top 48, ["wide", "long", "part"], ["wide", "long"], d_shortest_period⟩
def d_want_long : Def := ⟨1, 1, [.cond (.not (.call "is_number" [.var 0, .con (.int 1), .glo "MOST_LONG"])) [.raise "BadNumber" [.var 0]] [], .ret (.var 0)], []⟩
def e_want_long : Ent := ⟨none, "want_long", top 30, ["value"], ["value"], d_want_long⟩
def d_evened : Def := ⟨1, 6, [.asg 1 (.meth (.var 0) "sums" []), .cond (.cmp .isin (.glo "NOTHING") (.var 1)) [.ret (.con .non)] [], .own 2 (.lst []), .loop (.many [3, 4]) (.zip [.fld (.var 0) "rows", .var 1]) [.app 2 (.comp (.one 5) (.seq (.var 3)) none (.call "over" [.var 5, .var 4]))], .frz 2, .ret (.make "Table" [.fld (.var 0) "wide", .var 2])], []⟩
def e_evened : Ent := ⟨none, "evened", top 47, ["table", "sums", "rows", "row", "part", "weight"], ["table"], d_evened⟩
def d_Table___init__ : Def := ⟨3, 6, [.cond (.or (.not (.call "is_number" [.var 1, .con (.int 1), .glo "MOST_LONG"])) (.or (.not (.call "is_row" [.var 2])) (.not (.chain .le .le (.con (.int 1)) (.bi .len [.var 2]) (.glo "MOST_LONG"))))) [.raise "BadItem" [.con .non]] [], .loop (.many [3, 4]) (.enum (.var 2)) [.cond (.not (.call "is_weights" [.var 4, .var 1])) [.raise "BadItem" [.var 3]] []]], [("wide", .var 1), ("rows", .bi .tuple [.comp (.one 4) (.seq (.var 2)) none (.bi .tuple [.comp (.one 5) (.seq (.var 4)) none (.bi .tuple [.var 5])])])]⟩
def e_Table___init__ : Ent := ⟨some "Table", "__init__", meth 26 0, ["self", "wide", "rows", "at", "row", "part"], ["self", "wide", "rows"], d_Table___init__⟩
def d_Table___eq__ : Def := ⟨2, 2, [.ret (.and (.isi (.var 1) [.cls "Table"]) (.cmp .eq (.fld (.var 0) "rows") (.fld (.var 1) "rows")))], []⟩
def e_Table___eq__ : Ent := ⟨some "Table", "__eq__", meth 26 1, ["self", "other"], ["self", "other"], d_Table___eq__⟩
def d_Table___len__ : Def := ⟨1, 1, [.ret (.bi .len [.fld (.var 0) "rows"])], []⟩
def e_Table___len__ : Ent := ⟨some "Table", "__len__", meth 26 2, ["self"], ["self"], d_Table___len__⟩
def d__law_times : Def := ⟨2, 2, [.ret (.call "_law_frac" [.bin .mul (.idx (.var 0) (.con (.int 0))) (.idx (.var 1) (.con (.int 0))), .bin .mul (.idx (.var 0) (.con (.int 1))) (.idx (.var 1) (.con (.int 1)))])], []⟩
def e__law_times : Ent := ⟨none, "_law_times", top 58, ["one", "other"], ["one", "other"], d__law_times⟩
def d__law_pick : Def := ⟨2, 2, [.ret (.idx (.var 1) (.call "_law_taken" [.var 0, .lenm (.var 1)]))], []⟩
def e__law_pick : Ent := ⟨none, "_law_pick", top 52, ["row", "kinds"], ["row", "kinds"], d__law_pick⟩
def d_Table_column : Def := ⟨2, 3, [.cond (.not (.call "is_number" [.var 1, .con (.int 0), .bin .sub (.fld (.var 0) "wide") (.con (.int 1))])) [.raise "BadItem" [.var 1]] [], .ret (.bi .tuple [.comp (.one 2) (.seq (.fld (.var 0) "rows")) none (.idx (.var 2) (.var 1))])], []⟩
def e_Table_column : Ent := ⟨some "Table", "column", meth 26 4, ["self", "place", "row"], ["self", "place"], d_Table_column⟩
def d_joined : Def := ⟨2, 4, [.ret (.call "total" [.comp (.many [2, 3]) (.zip [.var 0, .var 1]) none (.call "times" [.var 2, .var 3])])], []⟩
def e_joined : Ent := ⟨none, "joined", top 22, ["weights", "parts", "weight", "part"], ["weights", "parts"], d_joined⟩
def d_unit_row : Def := ⟨2, 3, [.ret (.bi .tuple [.comp (.one 2) (.range [.var 0]) none (.ite (.cmp .eq (.var 2) (.var 1)) (.glo "ONE") (.glo "NOTHING"))])], []⟩
def e_unit_row : Ent := ⟨none, "unit_row", top 27, ["wide", "place", "at"], ["wide", "place"], d_unit_row⟩
def d_picked : Def := ⟨2, 5, [.cond (.or (.not (.call "is_number" [.var 0, .con (.int 1), .glo "MOST_LONG"])) (.not (.call "is_row" [.var 1]))) [.raise "BadItem" [.con .non]] [], .own 2 (.lst []), .loop (.many [3, 4]) (.enum (.var 1)) [.cond (.and (.cmp .notN (.var 4) (.con .non)) (.not (.call "is_number" [.var 4, .con (.int 0), .bin .sub (.var 0) (.con (.int 1))]))) [.raise "BadItem" [.var 3]] [], .app 2 (.ite (.cmp .isN (.var 4) (.con .non)) (.call "unit_row" [.var 0, .var 0]) (.call "unit_row" [.var 0, .var 4]))], .frz 2, .ret (.make "Table" [.var 0, .var 2])], []⟩
def e_picked : Ent := ⟨none, "picked", top 28, ["wide", "places", "rows", "at", "place"], ["wide", "places"], d_picked⟩
def d_is_fraction : Def := ⟨1, 1, [.cond (.or (.not (.call "is_row" [.var 0])) (.or (.cmp .ne (.bi .len [.var 0]) (.con (.int 2))) (.or (.not (.call "is_whole" [.idx (.var 0) (.con (.int 0))])) (.not (.call "is_whole" [.idx (.var 0) (.con (.int 1))]))))) [.ret (.con (.bl false))] [], .ret (.and (.cmp .gt (.idx (.var 0) (.con (.int 1))) (.con (.int 0))) (.cmp .eq (.call "divisor" [.idx (.var 0) (.con (.int 0)), .idx (.var 0) (.con (.int 1))]) (.con (.int 1))))], []⟩
def e_is_fraction : Ent := ⟨none, "is_fraction", top 15, ["value"], ["value"], d_is_fraction⟩
def d_is_row : Def := ⟨1, 1, [.ret (.isi (.var 0) [.list, .tuple])], []⟩
def e_is_row : Ent := ⟨none, "is_row", top 9, ["value"], ["value"], d_is_row⟩
def d_plus : Def := ⟨2, 2, [.ret (.call "fraction" [.bin .add (.bin .mul (.idx (.var 0) (.con (.int 0))) (.idx (.var 1) (.con (.int 1)))) (.bin .mul (.idx (.var 1) (.con (.int 0))) (.idx (.var 0) (.con (.int 1)))), .bin .mul (.idx (.var 0) (.con (.int 1))) (.idx (.var 1) (.con (.int 1)))])], []⟩
def e_plus : Ent := ⟨none, "plus", top 16, ["one", "other"], ["one", "other"], d_plus⟩
def d_is_number : Def := ⟨3, 3, [.ret (.and (.call "is_whole" [.var 0]) (.chain .le .le (.var 1) (.var 0) (.var 2)))], []⟩
def e_is_number : Ent := ⟨none, "is_number", top 8, ["value", "least", "most"], ["value", "least", "most"], d_is_number⟩
def d_fraction : Def := ⟨2, 3, [.cond (.not (.call "is_whole" [.var 0])) [.raise "BadNumber" [.var 0]] [], .cond (.or (.not (.call "is_whole" [.var 1])) (.cmp .eq (.var 1) (.con (.int 0)))) [.raise "BadNumber" [.var 1]] [], .cond (.cmp .lt (.var 1) (.con (.int 0))) [.par [0, 1] [.bin .sub (.con (.int 0)) (.var 0), .bin .sub (.con (.int 0)) (.var 1)]] [], .asg 2 (.call "divisor" [.var 0, .var 1]), .ret (.tup [.bin .fdiv (.var 0) (.var 2), .bin .fdiv (.var 1) (.var 2)])], []⟩
def e_fraction : Ent := ⟨none, "fraction", top 14, ["top", "bottom", "part"], ["top", "bottom"], d_fraction⟩
def d_total : Def := ⟨1, 3, [.asg 1 (.glo "NOTHING"), .loop (.one 2) (.seq (.var 0)) [.asg 1 (.call "plus" [.var 1, .var 2])], .ret (.var 1)], []⟩
def e_total : Ent := ⟨none, "total", top 21, ["rows", "found", "part"], ["rows"], d_total⟩
def d_minus : Def := ⟨2, 2, [.ret (.call "fraction" [.bin .sub (.bin .mul (.idx (.var 0) (.con (.int 0))) (.idx (.var 1) (.con (.int 1)))) (.bin .mul (.idx (.var 1) (.con (.int 0))) (.idx (.var 0) (.con (.int 1)))), .bin .mul (.idx (.var 0) (.con (.int 1))) (.idx (.var 1) (.con (.int 1)))])], []⟩
def e_minus : Ent := ⟨none, "minus", top 17, ["one", "other"], ["one", "other"], d_minus⟩
def d_over : Def := ⟨2, 2, [.cond (.cmp .eq (.idx (.var 1) (.con (.int 0))) (.con (.int 0))) [.raise "BadNumber" [.con (.int 0)]] [], .ret (.call "fraction" [.bin .mul (.idx (.var 0) (.con (.int 0))) (.idx (.var 1) (.con (.int 1))), .bin .mul (.idx (.var 0) (.con (.int 1))) (.idx (.var 1) (.con (.int 0)))])], []⟩
def e_over : Ent := ⟨none, "over", top 19, ["one", "other"], ["one", "other"], d_over⟩
def d_is_less : Def := ⟨2, 2, [.ret (.cmp .lt (.bin .mul (.idx (.var 0) (.con (.int 0))) (.idx (.var 1) (.con (.int 1)))) (.bin .mul (.idx (.var 1) (.con (.int 0))) (.idx (.var 0) (.con (.int 1)))))], []⟩
def e_is_less : Ent := ⟨none, "is_less", top 20, ["one", "other"], ["one", "other"], d_is_less⟩
def d_divisor : Def := ⟨2, 2, [.par [0, 1] [.bi .abs [.var 0], .bi .abs [.var 1]], .whil (.cmp .ne (.var 1) (.con (.int 0))) [.par [0, 1] [.var 1, .bin .mod (.var 0) (.var 1)]], .ret (.var 0)], []⟩
def e_divisor : Ent := ⟨none, "divisor", top 13, ["one", "other"], ["one", "other"], d_divisor⟩
def d_is_weights : Def := ⟨2, 3, [.ret (.and (.call "is_row" [.var 0]) (.and (.cmp .eq (.bi .len [.var 0]) (.var 1)) (.bi .all [.comp (.one 2) (.seq (.var 0)) none (.call "is_fraction" [.var 2])])))], []⟩
def e_is_weights : Ent := ⟨none, "is_weights", top 25, ["value", "wide", "part"], ["value", "wide"], d_is_weights⟩
def d_times : Def := ⟨2, 2, [.ret (.call "fraction" [.bin .mul (.idx (.var 0) (.con (.int 0))) (.idx (.var 1) (.con (.int 0))), .bin .mul (.idx (.var 0) (.con (.int 1))) (.idx (.var 1) (.con (.int 1)))])], []⟩
def e_times : Ent := ⟨none, "times", top 18, ["one", "other"], ["one", "other"], d_times⟩
def d_is_whole : Def := ⟨1, 1, [.ret (.and (.isi (.var 0) [.int]) (.not (.isi (.var 0) [.bool])))], []⟩
def e_is_whole : Ent := ⟨none, "is_whole", top 7, ["value"], ["value"], d_is_whole⟩
def x_BadItem : XEnt := ⟨"BadItem", meth 4 0, ["self", "index", "__class__"], ["self", "index"], ["index"]⟩
def x_BadNumber : XEnt := ⟨"BadNumber", meth 3 0, ["self", "value", "__class__"], ["self", "value"], ["value"]⟩
def x_Refused : XEnt := ⟨"Refused", meth 5 0, ["self", "reason", "names", "__class__"], ["self", "reason", "names"], ["reason", "names"]⟩
def LL : LawD := ⟨SS, [e_law, e__law_taken, e__law_drawn, e__law_sums, e__law_moves, e__law_ways, e__law_refused, e__law_evened, e__law_part, e__law_plus, e_Table_then, e_runs, e_differences, e_mirror, e_Table_made, e__law_dot, e_blur, e__law_mixed, e_moved, e_around, e_wider, e_cut, e_repeated, e_every, e_nearest, e_box, e_tent, e_led, e__law_alike, e__law_led, e_Table_mirrored, e_Table_sums, e_Table_column_sums, e__law_frac, e_between, e_middle_of, e__law_less, e__law_pairs, e_shared, e_Table_row, e_shortest_period, e_want_long, e_evened, e_Table___init__, e_Table___eq__, e_Table___len__, e__law_times, e__law_pick, e_Table_column, e_joined, e_unit_row, e_picked, e_is_fraction, e_is_row, e_plus, e_is_number, e_fraction, e_total, e_minus, e_over, e_is_less, e_divisor, e_is_weights, e_times, e_is_whole], [x_BadItem, x_BadNumber, x_Refused], [("Table", ["wide", "rows"])], [("BadItem", "BadItem"), ("BadNumber", "BadNumber")], [("MOST_LONG", .int (24)), ("NOTHING", .tup [.int (0), .int (1)]), ("ONE", .tup [.int (1), .int (1)])]⟩
theorem k_law : EntOk LL e_law := ⟨by decide +kernel, fun _ _ _ _ _ _ us hl => match us, hl with | [_], _ => rfl⟩
theorem k__law_taken : EntOk LL e__law_taken := ⟨by decide +kernel, fun _ _ _ _ _ _ us hl => match us, hl with | [_, _], _ => rfl⟩
theorem k__law_drawn : EntOk LL e__law_drawn := ⟨by decide +kernel, fun _ _ _ _ _ _ us hl => match us, hl with | [_, _, _], _ => rfl⟩
theorem k__law_sums : EntOk LL e__law_sums := ⟨by decide +kernel, fun _ _ _ _ _ _ us hl => match us, hl with | [_, _, _], _ => rfl⟩
theorem k__law_moves : EntOk LL e__law_moves := ⟨by decide +kernel, fun _ _ _ _ _ _ us hl => match us, hl with | [_, _, _], _ => rfl⟩
theorem k__law_ways : EntOk LL e__law_ways := ⟨by decide +kernel, fun _ _ _ _ _ _ us hl => match us, hl with | [_, _], _ => rfl⟩
theorem k__law_refused : EntOk LL e__law_refused := ⟨by decide +kernel, fun _ _ _ _ _ _ us hl => match us, hl with | [], _ => rfl⟩
theorem k__law_evened : EntOk LL e__law_evened := ⟨by decide +kernel, fun _ _ _ _ _ _ us hl => match us, hl with | [_, _], _ => rfl⟩
theorem k__law_part : EntOk LL e__law_part := ⟨by decide +kernel, fun _ _ _ _ _ _ us hl => match us, hl with | [_], _ => rfl⟩
theorem k__law_plus : EntOk LL e__law_plus := ⟨by decide +kernel, fun _ _ _ _ _ _ us hl => match us, hl with | [_, _], _ => rfl⟩
theorem k_Table_then : EntOk LL e_Table_then := ⟨by decide +kernel, fun _ _ _ _ _ _ us hl => match us, hl with | [_, _], _ => rfl⟩
theorem k_runs : EntOk LL e_runs := ⟨by decide +kernel, fun _ _ _ _ _ _ us hl => match us, hl with | [_], _ => rfl⟩
theorem k_differences : EntOk LL e_differences := ⟨by decide +kernel, fun _ _ _ _ _ _ us hl => match us, hl with | [_], _ => rfl⟩
theorem k_mirror : EntOk LL e_mirror := ⟨by decide +kernel, fun _ _ _ _ _ _ us hl => match us, hl with | [_], _ => rfl⟩
theorem k_Table_made : EntOk LL e_Table_made := ⟨by decide +kernel, fun _ _ _ _ _ _ us hl => match us, hl with | [_, _], _ => rfl⟩
theorem k__law_dot : EntOk LL e__law_dot := ⟨by decide +kernel, fun _ _ _ _ _ _ us hl => match us, hl with | [_, _], _ => rfl⟩
theorem k_blur : EntOk LL e_blur := ⟨by decide +kernel, fun _ _ _ _ _ _ us hl => match us, hl with | [_, _], _ => rfl⟩
theorem k__law_mixed : EntOk LL e__law_mixed := ⟨by decide +kernel, fun _ _ _ _ _ _ us hl => match us, hl with | [_, _], _ => rfl⟩
theorem k_moved : EntOk LL e_moved := ⟨by decide +kernel, fun _ _ _ _ _ _ us hl => match us, hl with | [_, _], _ => rfl⟩
theorem k_around : EntOk LL e_around := ⟨by decide +kernel, fun _ _ _ _ _ _ us hl => match us, hl with | [_, _], _ => rfl⟩
theorem k_wider : EntOk LL e_wider := ⟨by decide +kernel, fun _ _ _ _ _ _ us hl => match us, hl with | [_, _, _, _], _ => rfl⟩
theorem k_cut : EntOk LL e_cut := ⟨by decide +kernel, fun _ _ _ _ _ _ us hl => match us, hl with | [_, _, _], _ => rfl⟩
theorem k_repeated : EntOk LL e_repeated := ⟨by decide +kernel, fun _ _ _ _ _ _ us hl => match us, hl with | [_, _], _ => rfl⟩
theorem k_every : EntOk LL e_every := ⟨by decide +kernel, fun _ _ _ _ _ _ us hl => match us, hl with | [_, _], _ => rfl⟩
theorem k_nearest : EntOk LL e_nearest := ⟨by decide +kernel, fun _ _ _ _ _ _ us hl => match us, hl with | [_, _], _ => rfl⟩
theorem k_box : EntOk LL e_box := ⟨by decide +kernel, fun _ _ _ _ _ _ us hl => match us, hl with | [_, _], _ => rfl⟩
theorem k_tent : EntOk LL e_tent := ⟨by decide +kernel, fun _ _ _ _ _ _ us hl => match us, hl with | [_, _], _ => rfl⟩
theorem k_led : EntOk LL e_led := ⟨by decide +kernel, fun _ _ _ _ _ _ us hl => match us, hl with | [_, _, _], _ => rfl⟩
theorem k__law_alike : EntOk LL e__law_alike := ⟨by decide +kernel, fun _ _ _ _ _ _ us hl => match us, hl with | [_, _], _ => rfl⟩
theorem k__law_led : EntOk LL e__law_led := ⟨by decide +kernel, fun _ _ _ _ _ _ us hl => match us, hl with | [_, _, _], _ => rfl⟩
theorem k_Table_mirrored : EntOk LL e_Table_mirrored := ⟨by decide +kernel, fun _ _ _ _ _ _ us hl => match us, hl with | [_], _ => rfl⟩
theorem k_Table_sums : EntOk LL e_Table_sums := ⟨by decide +kernel, fun _ _ _ _ _ _ us hl => match us, hl with | [_], _ => rfl⟩
theorem k_Table_column_sums : EntOk LL e_Table_column_sums := ⟨by decide +kernel, fun _ _ _ _ _ _ us hl => match us, hl with | [_], _ => rfl⟩
theorem k__law_frac : EntOk LL e__law_frac := ⟨by decide +kernel, fun _ _ _ _ _ _ us hl => match us, hl with | [_, _], _ => rfl⟩
theorem k_between : EntOk LL e_between := ⟨by decide +kernel, fun _ _ _ _ _ _ us hl => match us, hl with | [_, _], _ => rfl⟩
theorem k_middle_of : EntOk LL e_middle_of := ⟨by decide +kernel, fun _ _ _ _ _ _ us hl => match us, hl with | [_], _ => rfl⟩
theorem k__law_less : EntOk LL e__law_less := ⟨by decide +kernel, fun _ _ _ _ _ _ us hl => match us, hl with | [_, _], _ => rfl⟩
theorem k__law_pairs : EntOk LL e__law_pairs := ⟨by decide +kernel, fun _ _ _ _ _ _ us hl => match us, hl with | [_, _], _ => rfl⟩
theorem k_shared : EntOk LL e_shared := ⟨by decide +kernel, fun _ _ _ _ _ _ us hl => match us, hl with | [_, _, _, _], _ => rfl⟩
theorem k_Table_row : EntOk LL e_Table_row := ⟨by decide +kernel, fun _ _ _ _ _ _ us hl => match us, hl with | [_, _], _ => rfl⟩
theorem k_shortest_period : EntOk LL e_shortest_period := ⟨by decide +kernel, fun _ _ _ _ _ _ us hl => match us, hl with | [_, _], _ => rfl⟩
theorem k_want_long : EntOk LL e_want_long := ⟨by decide +kernel, fun _ _ _ _ _ _ us hl => match us, hl with | [_], _ => rfl⟩
theorem k_evened : EntOk LL e_evened := ⟨by decide +kernel, fun _ _ _ _ _ _ us hl => match us, hl with | [_], _ => rfl⟩
theorem k_Table___init__ : EntOk LL e_Table___init__ := ⟨by decide +kernel, fun _ _ _ _ _ _ us hl => match us, hl with | [_, _, _], _ => rfl⟩
theorem k_Table___eq__ : EntOk LL e_Table___eq__ := ⟨by decide +kernel, fun _ _ _ _ _ _ us hl => match us, hl with | [_, _], _ => rfl⟩
theorem k_Table___len__ : EntOk LL e_Table___len__ := ⟨by decide +kernel, fun _ _ _ _ _ _ us hl => match us, hl with | [_], _ => rfl⟩
theorem k__law_times : EntOk LL e__law_times := ⟨by decide +kernel, fun _ _ _ _ _ _ us hl => match us, hl with | [_, _], _ => rfl⟩
theorem k__law_pick : EntOk LL e__law_pick := ⟨by decide +kernel, fun _ _ _ _ _ _ us hl => match us, hl with | [_, _], _ => rfl⟩
theorem k_Table_column : EntOk LL e_Table_column := ⟨by decide +kernel, fun _ _ _ _ _ _ us hl => match us, hl with | [_, _], _ => rfl⟩
theorem k_joined : EntOk LL e_joined := ⟨by decide +kernel, fun _ _ _ _ _ _ us hl => match us, hl with | [_, _], _ => rfl⟩
theorem k_unit_row : EntOk LL e_unit_row := ⟨by decide +kernel, fun _ _ _ _ _ _ us hl => match us, hl with | [_, _], _ => rfl⟩
theorem k_picked : EntOk LL e_picked := ⟨by decide +kernel, fun _ _ _ _ _ _ us hl => match us, hl with | [_, _], _ => rfl⟩
theorem k_is_fraction : EntOk LL e_is_fraction := ⟨by decide +kernel, fun _ _ _ _ _ _ us hl => match us, hl with | [_], _ => rfl⟩
theorem k_is_row : EntOk LL e_is_row := ⟨by decide +kernel, fun _ _ _ _ _ _ us hl => match us, hl with | [_], _ => rfl⟩
theorem k_plus : EntOk LL e_plus := ⟨by decide +kernel, fun _ _ _ _ _ _ us hl => match us, hl with | [_, _], _ => rfl⟩
theorem k_is_number : EntOk LL e_is_number := ⟨by decide +kernel, fun _ _ _ _ _ _ us hl => match us, hl with | [_, _, _], _ => rfl⟩
theorem k_fraction : EntOk LL e_fraction := ⟨by decide +kernel, fun _ _ _ _ _ _ us hl => match us, hl with | [_, _], _ => rfl⟩
theorem k_total : EntOk LL e_total := ⟨by decide +kernel, fun _ _ _ _ _ _ us hl => match us, hl with | [_], _ => rfl⟩
theorem k_minus : EntOk LL e_minus := ⟨by decide +kernel, fun _ _ _ _ _ _ us hl => match us, hl with | [_, _], _ => rfl⟩
theorem k_over : EntOk LL e_over := ⟨by decide +kernel, fun _ _ _ _ _ _ us hl => match us, hl with | [_, _], _ => rfl⟩
theorem k_is_less : EntOk LL e_is_less := ⟨by decide +kernel, fun _ _ _ _ _ _ us hl => match us, hl with | [_, _], _ => rfl⟩
theorem k_divisor : EntOk LL e_divisor := ⟨by decide +kernel, fun _ _ _ _ _ _ us hl => match us, hl with | [_, _], _ => rfl⟩
theorem k_is_weights : EntOk LL e_is_weights := ⟨by decide +kernel, fun _ _ _ _ _ _ us hl => match us, hl with | [_, _], _ => rfl⟩
theorem k_times : EntOk LL e_times := ⟨by decide +kernel, fun _ _ _ _ _ _ us hl => match us, hl with | [_, _], _ => rfl⟩
theorem k_is_whole : EntOk LL e_is_whole := ⟨by decide +kernel, fun _ _ _ _ _ _ us hl => match us, hl with | [_], _ => rfl⟩
theorem kx_BadItem : XEntOk LL PySem.Challenge.pw_picturescales_k14_whole_makers.main.scope x_BadItem := ⟨by decide +kernel, by decide +kernel, by decide +kernel, by decide +kernel, by decide +kernel, by decide +kernel, ⟨_, rfl, rfl⟩, fun _ _ _ _ _ _ _ us hl => match us, hl with | [_, _], _ => rfl⟩
theorem kx_BadNumber : XEntOk LL PySem.Challenge.pw_picturescales_k14_whole_makers.main.scope x_BadNumber := ⟨by decide +kernel, by decide +kernel, by decide +kernel, by decide +kernel, by decide +kernel, by decide +kernel, ⟨_, rfl, rfl⟩, fun _ _ _ _ _ _ _ us hl => match us, hl with | [_, _], _ => rfl⟩
theorem kx_Refused : XEntOk LL PySem.Challenge.pw_picturescales_k14_whole_makers.main.scope x_Refused := ⟨by decide +kernel, by decide +kernel, by decide +kernel, by decide +kernel, by decide +kernel, by decide +kernel, ⟨_, rfl, rfl⟩, fun _ _ _ _ _ _ _ us hl => match us, hl with | [_, _, _], _ => rfl⟩
theorem stat_ok : statB LL = true := by decide +kernel
theorem law_ok : LawOk LL PySem.Challenge.pw_picturescales_k14_whole_makers := ⟨stat_ok, List.forall_mem_cons.mpr ⟨k_law, List.forall_mem_cons.mpr ⟨k__law_taken, List.forall_mem_cons.mpr ⟨k__law_drawn, List.forall_mem_cons.mpr ⟨k__law_sums, List.forall_mem_cons.mpr ⟨k__law_moves, List.forall_mem_cons.mpr ⟨k__law_ways, List.forall_mem_cons.mpr ⟨k__law_refused, List.forall_mem_cons.mpr ⟨k__law_evened, List.forall_mem_cons.mpr ⟨k__law_part, List.forall_mem_cons.mpr ⟨k__law_plus, List.forall_mem_cons.mpr ⟨k_Table_then, List.forall_mem_cons.mpr ⟨k_runs, List.forall_mem_cons.mpr ⟨k_differences, List.forall_mem_cons.mpr ⟨k_mirror, List.forall_mem_cons.mpr ⟨k_Table_made, List.forall_mem_cons.mpr ⟨k__law_dot, List.forall_mem_cons.mpr ⟨k_blur, List.forall_mem_cons.mpr ⟨k__law_mixed, List.forall_mem_cons.mpr ⟨k_moved, List.forall_mem_cons.mpr ⟨k_around, List.forall_mem_cons.mpr ⟨k_wider, List.forall_mem_cons.mpr ⟨k_cut, List.forall_mem_cons.mpr ⟨k_repeated, List.forall_mem_cons.mpr ⟨k_every, List.forall_mem_cons.mpr ⟨k_nearest, List.forall_mem_cons.mpr ⟨k_box, List.forall_mem_cons.mpr ⟨k_tent, List.forall_mem_cons.mpr ⟨k_led, List.forall_mem_cons.mpr ⟨k__law_alike, List.forall_mem_cons.mpr ⟨k__law_led, List.forall_mem_cons.mpr ⟨k_Table_mirrored, List.forall_mem_cons.mpr ⟨k_Table_sums, List.forall_mem_cons.mpr ⟨k_Table_column_sums, List.forall_mem_cons.mpr ⟨k__law_frac, List.forall_mem_cons.mpr ⟨k_between, List.forall_mem_cons.mpr ⟨k_middle_of, List.forall_mem_cons.mpr ⟨k__law_less, List.forall_mem_cons.mpr ⟨k__law_pairs, List.forall_mem_cons.mpr ⟨k_shared, List.forall_mem_cons.mpr ⟨k_Table_row, List.forall_mem_cons.mpr ⟨k_shortest_period, List.forall_mem_cons.mpr ⟨k_want_long, List.forall_mem_cons.mpr ⟨k_evened, List.forall_mem_cons.mpr ⟨k_Table___init__, List.forall_mem_cons.mpr ⟨k_Table___eq__, List.forall_mem_cons.mpr ⟨k_Table___len__, List.forall_mem_cons.mpr ⟨k__law_times, List.forall_mem_cons.mpr ⟨k__law_pick, List.forall_mem_cons.mpr ⟨k_Table_column, List.forall_mem_cons.mpr ⟨k_joined, List.forall_mem_cons.mpr ⟨k_unit_row, List.forall_mem_cons.mpr ⟨k_picked, List.forall_mem_cons.mpr ⟨k_is_fraction, List.forall_mem_cons.mpr ⟨k_is_row, List.forall_mem_cons.mpr ⟨k_plus, List.forall_mem_cons.mpr ⟨k_is_number, List.forall_mem_cons.mpr ⟨k_fraction, List.forall_mem_cons.mpr ⟨k_total, List.forall_mem_cons.mpr ⟨k_minus, List.forall_mem_cons.mpr ⟨k_over, List.forall_mem_cons.mpr ⟨k_is_less, List.forall_mem_cons.mpr ⟨k_divisor, List.forall_mem_cons.mpr ⟨k_is_weights, List.forall_mem_cons.mpr ⟨k_times, List.forall_mem_cons.mpr ⟨k_is_whole, fun _ h => nomatch h⟩⟩⟩⟩⟩⟩⟩⟩⟩⟩⟩⟩⟩⟩⟩⟩⟩⟩⟩⟩⟩⟩⟩⟩⟩⟩⟩⟩⟩⟩⟩⟩⟩⟩⟩⟩⟩⟩⟩⟩⟩⟩⟩⟩⟩⟩⟩⟩⟩⟩⟩⟩⟩⟩⟩⟩⟩⟩⟩⟩⟩⟩⟩⟩⟩, List.forall_mem_cons.mpr ⟨kx_BadItem, List.forall_mem_cons.mpr ⟨kx_BadNumber, List.forall_mem_cons.mpr ⟨kx_Refused, fun _ h => nomatch h⟩⟩⟩⟩
abbrev RR : PySem.W.OpenRow := PySem.W.OpenLaw.row PySem.Challenge.rw_picturescales_k14_whole_makers
def loose0 : List Str := ["_wall", "ScaleError", "BadNumber", "BadItem", "Refused", "is_whole", "is_number", "is_row", "NOTHING", "ONE", "divisor", "fraction", "is_fraction", "plus", "minus", "times", "over", "is_less", "total", "joined", "MOST_LONG", "is_weights", "Table", "unit_row", "picked"]
def loose1 : List Str := ["want_long", "nearest", "shared", "box", "between", "tent", "led", "repeated", "every", "mirror", "moved", "around", "cut", "wider", "blur", "differences", "runs", "evened", "shortest_period", "middle_of", "_law_taken", "_law_pick", "_law_alike", "_law_mixed", "_law_pairs"]
def loose2 : List Str := ["_law_frac", "_law_plus", "_law_times", "_law_less", "_law_dot", "_law_part", "_law_drawn", "_law_led", "_law_ways", "_law_moves", "_law_sums", "_law_evened", "_law_refused"]
def loose : List Str := loose0 ++ loose1 ++ loose2
abbrev fl : Str := PySem.Challenge.pw_picturescales_k14_whole_makers.main.file
def ob (s : PySem.W.SharedT) : AlP := obsP LL fl (HandSHeadRun.getT s)
theorem ob_eq (s : PySem.W.SharedT) : ob s = (hookP LL fl).obs s.abs := obsP_eq (HandSHeadRun.getT_eq s)
theorem head_run (w : World) : HandSHeadRun.RunEq RR (PySem.W.view RR.prog [69]) (hookP LL fl) ob 4000 loose w := by
  intro os
  kernel_rfl
end Dp
end SK14H
set_option maxHeartbeats 4000000
/-! Dp29: the evaluator by equations; plain reasoning. -/
noncomputable section SDp29
set_option autoImplicit false
namespace Dp
open PySem PySem.Spec PyProof.Rows L2
section
variable (P : Prog) (R : String → List D → Sto → Res D)
theorem Res.bind_congr {α β : Type} {r r' : Res α} (k : α → Sto → Res β) (h : r = r') : r.bind k = r'.bind k := by rw [h]
theorem Out.bind_congr {r r' : Out} (k : Ev → Sto → Out) (h : r = r') : r.bind k = r'.bind k := by rw [h]
theorem Res.out_congr {α : Type} {r r' : Res α} (ρ : Ev) (k : α → Sto → Out) (h : r = r') : r.out ρ k = r'.out ρ k := by rw [h]
theorem compR_congr' (f : D → Sto → Res (Option D)) {xs xs' : List D} {st st' : Sto} (h : xs = xs') (h2 : st = st') : compR f xs st = compR f xs' st' := by rw [h, h2]
theorem forR_congr' (f : D → Ev → Sto → Out) {xs xs' : List D} {ρ ρ' : Ev} {st st' : Sto} (h : xs = xs') (h2 : ρ = ρ') (h3 : st = st') : forR f xs ρ st = forR f xs' ρ' st' := by rw [h, h2, h3]
variable (ρ : Ev) (st : Sto)
@[simp] theorem evE_var (i : Nat) : evE P R (.var i) ρ st = lift (slotD ρ i) st := by rw [evE]
@[simp] theorem evE_con (d : D) : evE P R (.con d) ρ st = .ok d st := by rw [evE]
@[simp] theorem evE_glo (x : String) : evE P R (.glo x) ρ st = lift (P.consts x) st := by rw [evE]
@[simp] theorem evE_fnv (x : String) : evE P R (.fnv x) ρ st = .ok (.fn x) st := by rw [evE]
def kBin2 (P : Prog) (R : String → List D → Sto → Res D) (op : Bop) (x : D) : D → Sto → Res D := fun y s2 => lift (dBin op x y) s2
@[simp] theorem kBin2_app (op : Bop) (x : D) (y : D) (s2 : Sto) : kBin2 P R op x y s2 = lift (dBin op x y) s2 := rfl
def kBin (P : Prog) (R : String → List D → Sto → Res D) (op : Bop) (b : Tm) (ρ : Ev) : D → Sto → Res D := fun x s1 => (evE P R b ρ s1).bind (kBin2 P R op x)
@[simp] theorem kBin_app (op : Bop) (b : Tm) (ρ : Ev) (x : D) (s1 : Sto) : kBin P R op b ρ x s1 = (evE P R b ρ s1).bind (kBin2 P R op x) := rfl
@[simp] theorem evE_bin (op : Bop) (a b : Tm) : evE P R (.bin op a b) ρ st = (evE P R a ρ st).bind (kBin P R op b ρ) := by rw [evE]; rfl
def kNeg (P : Prog) (R : String → List D → Sto → Res D) : D → Sto → Res D := fun x s1 => lift (dNeg x) s1
@[simp] theorem kNeg_app (x : D) (s1 : Sto) : kNeg P R  x s1 = lift (dNeg x) s1 := rfl
@[simp] theorem evE_neg (a : Tm) : evE P R (.neg a) ρ st = (evE P R a ρ st).bind (kNeg P R) := by rw [evE]; rfl
def kNot2 (P : Prog) (R : String → List D → Sto → Res D) : Bool → Sto → Res D := fun c s2 => Res.ok (D.bl (!c)) s2
@[simp] theorem kNot2_app (c : Bool) (s2 : Sto) : kNot2 P R  c s2 = Res.ok (D.bl (!c)) s2 := rfl
def kNot (P : Prog) (R : String → List D → Sto → Res D) : D → Sto → Res D := fun x s1 => (asTru x s1).bind (kNot2 P R)
@[simp] theorem kNot_app (x : D) (s1 : Sto) : kNot P R  x s1 = (asTru x s1).bind (kNot2 P R) := rfl
@[simp] theorem evE_not (a : Tm) : evE P R (.not a) ρ st = (evE P R a ρ st).bind (kNot P R) := by rw [evE]; rfl
def kCmp2 (P : Prog) (R : String → List D → Sto → Res D) (op : Cop) (x : D) : D → Sto → Res D := fun y s2 => liftB (dCmp op x y) s2
@[simp] theorem kCmp2_app (op : Cop) (x : D) (y : D) (s2 : Sto) : kCmp2 P R op x y s2 = liftB (dCmp op x y) s2 := rfl
def kCmp (P : Prog) (R : String → List D → Sto → Res D) (op : Cop) (b : Tm) (ρ : Ev) : D → Sto → Res D := fun x s1 => (evE P R b ρ s1).bind (kCmp2 P R op x)
@[simp] theorem kCmp_app (op : Cop) (b : Tm) (ρ : Ev) (x : D) (s1 : Sto) : kCmp P R op b ρ x s1 = (evE P R b ρ s1).bind (kCmp2 P R op x) := rfl
@[simp] theorem evE_cmp (op : Cop) (a b : Tm) : evE P R (.cmp op a b) ρ st = (evE P R a ρ st).bind (kCmp P R op b ρ) := by rw [evE]; rfl
def chainR (o1 o2 : Cop) (x y : D) (k : Sto → Res D) (st : Sto) : Res D := match dCmp o1 x y with
    | some true => (k st).bind fun z st3 => liftB (dCmp o2 y z) st3
    | some false => .ok (.bl false) st
    | none => .stuck
def kCh3 (P : Prog) (R : String → List D → Sto → Res D) (o2 : Cop) (y : D) (k : Sto → Res D) : D → Sto → Res D := fun d s => match d with
    | .bl b => if b then (k s).bind (kCmp2 P R o2 y) else .ok (.bl false) s
    | _ => .stuck
@[simp] theorem kCh3_app (o2 : Cop) (y : D) (k : Sto → Res D) (b : Bool) (s : Sto) : kCh3 P R o2 y k (.bl b) s = if b then (k s).bind (kCmp2 P R o2 y) else .ok (.bl false) s := rfl
theorem chainR_eq (o1 o2 : Cop) (x y : D) (k : Sto → Res D) (st : Sto) : chainR o1 o2 x y k st = (liftB (dCmp o1 x y) st).bind (kCh3 P R o2 y k) := by
  unfold chainR
  cases h : dCmp o1 x y with
  | none => rfl
  | some b => cases b <;> rfl
def kEv (P : Prog) (R : String → List D → Sto → Res D) (c : Tm) (ρ : Ev) : Sto → Res D := fun s => evE P R c ρ s
@[simp] theorem kEv_app (c : Tm) (ρ : Ev) (s : Sto) : kEv P R c ρ s = evE P R c ρ s := rfl
def kCh2 (P : Prog) (R : String → List D → Sto → Res D) (o1 o2 : Cop) (c : Tm) (ρ : Ev) (x : D) : D → Sto → Res D := fun y s2 => (liftB (dCmp o1 x y) s2).bind (kCh3 P R o2 y (kEv P R c ρ))
@[simp] theorem kCh2_app (o1 o2 : Cop) (c : Tm) (ρ : Ev) (x : D) (y : D) (s2 : Sto) : kCh2 P R o1 o2 c ρ x y s2 = (liftB (dCmp o1 x y) s2).bind (kCh3 P R o2 y (kEv P R c ρ)) := rfl
def kCh (P : Prog) (R : String → List D → Sto → Res D) (o1 o2 : Cop) (b c : Tm) (ρ : Ev) : D → Sto → Res D := fun x s1 => (evE P R b ρ s1).bind (kCh2 P R o1 o2 c ρ x)
@[simp] theorem kCh_app (o1 o2 : Cop) (b c : Tm) (ρ : Ev) (x : D) (s1 : Sto) : kCh P R o1 o2 b c ρ x s1 = (evE P R b ρ s1).bind (kCh2 P R o1 o2 c ρ x) := rfl
@[simp] theorem evE_chain (o1 o2 : Cop) (a b c : Tm) : evE P R (.chain o1 o2 a b c) ρ st = (evE P R a ρ st).bind (kCh P R o1 o2 b c ρ) := by
  rw [evE]
  congr 1; funext x s1
  rw [kCh_app]
  congr 1; funext y s2
  rw [kCh2_app, ← chainR_eq]
  rfl
def kAnd2 (P : Prog) (R : String → List D → Sto → Res D) (b : Tm) (ρ : Ev) : Bool → Sto → Res D := fun c s2 => if c then evE P R b ρ s2 else .ok (.bl false) s2
@[simp] theorem kAnd2_app (b : Tm) (ρ : Ev) (c : Bool) (s2 : Sto) : kAnd2 P R b ρ c s2 = if c then evE P R b ρ s2 else .ok (.bl false) s2 := rfl
def kAnd (P : Prog) (R : String → List D → Sto → Res D) (b : Tm) (ρ : Ev) : D → Sto → Res D := fun x s1 => (asBool x s1).bind (kAnd2 P R b ρ)
@[simp] theorem kAnd_app (b : Tm) (ρ : Ev) (x : D) (s1 : Sto) : kAnd P R b ρ x s1 = (asBool x s1).bind (kAnd2 P R b ρ) := rfl
@[simp] theorem evE_and (a b : Tm) : evE P R (.and a b) ρ st = (evE P R a ρ st).bind (kAnd P R b ρ) := by rw [evE]; rfl
def kOr2 (P : Prog) (R : String → List D → Sto → Res D) (b : Tm) (ρ : Ev) : Bool → Sto → Res D := fun c s2 => if c then .ok (.bl true) s2 else evE P R b ρ s2
@[simp] theorem kOr2_app (b : Tm) (ρ : Ev) (c : Bool) (s2 : Sto) : kOr2 P R b ρ c s2 = if c then .ok (.bl true) s2 else evE P R b ρ s2 := rfl
def kOr (P : Prog) (R : String → List D → Sto → Res D) (b : Tm) (ρ : Ev) : D → Sto → Res D := fun x s1 => (asBool x s1).bind (kOr2 P R b ρ)
@[simp] theorem kOr_app (b : Tm) (ρ : Ev) (x : D) (s1 : Sto) : kOr P R b ρ x s1 = (asBool x s1).bind (kOr2 P R b ρ) := rfl
@[simp] theorem evE_or (a b : Tm) : evE P R (.or a b) ρ st = (evE P R a ρ st).bind (kOr P R b ρ) := by rw [evE]; rfl
def kIte (P : Prog) (R : String → List D → Sto → Res D) (a b : Tm) (ρ : Ev) : Bool → Sto → Res D := fun c s2 => if c then evE P R a ρ s2 else evE P R b ρ s2
@[simp] theorem kIte_app (a b : Tm) (ρ : Ev) (c : Bool) (s2 : Sto) : kIte P R a b ρ c s2 = if c then evE P R a ρ s2 else evE P R b ρ s2 := rfl
@[simp] theorem evE_ite (c a b : Tm) : evE P R (.ite c a b) ρ st = ((evE P R c ρ st).bind asTru).bind (kIte P R a b ρ) := by rw [evE]; rfl
def kTup (P : Prog) (R : String → List D → Sto → Res D) : List D → Sto → Res D := fun ds s1 => Res.ok (.tup ds) s1
@[simp] theorem kTup_app (ds : List D) (s1 : Sto) : kTup P R  ds s1 = Res.ok (.tup ds) s1 := rfl
@[simp] theorem evE_tup (xs : List Tm) : evE P R (.tup xs) ρ st = (evL P R xs ρ st).bind (kTup P R) := by rw [evE]; rfl
def kLst (P : Prog) (R : String → List D → Sto → Res D) : List D → Sto → Res D := fun ds s1 => Res.ok (.lst ds) s1
@[simp] theorem kLst_app (ds : List D) (s1 : Sto) : kLst P R  ds s1 = Res.ok (.lst ds) s1 := rfl
@[simp] theorem evE_lst (xs : List Tm) : evE P R (.lst xs) ρ st = (evL P R xs ρ st).bind (kLst P R) := by rw [evE]; rfl
def kIdx2 (P : Prog) (R : String → List D → Sto → Res D) (x : D) : D → Sto → Res D := fun y s2 => lift (dIdx s2 x y) s2
@[simp] theorem kIdx2_app (x : D) (y : D) (s2 : Sto) : kIdx2 P R x y s2 = lift (dIdx s2 x y) s2 := rfl
def kIdx (P : Prog) (R : String → List D → Sto → Res D) (b : Tm) (ρ : Ev) : D → Sto → Res D := fun x s1 => (evE P R b ρ s1).bind (kIdx2 P R x)
@[simp] theorem kIdx_app (b : Tm) (ρ : Ev) (x : D) (s1 : Sto) : kIdx P R b ρ x s1 = (evE P R b ρ s1).bind (kIdx2 P R x) := rfl
@[simp] theorem evE_idx (a b : Tm) : evE P R (.idx a b) ρ st = (evE P R a ρ st).bind (kIdx P R b ρ) := by rw [evE]; rfl
def kSlc3 (P : Prog) (R : String → List D → Sto → Res D) (x : D) (l : Option Int) : Option Int → Sto → Res D := fun h s3 => lift (dSlc x l h) s3
@[simp] theorem kSlc3_app (x : D) (l : Option Int) (h : Option Int) (s3 : Sto) : kSlc3 P R x l h s3 = lift (dSlc x l h) s3 := rfl
def kSlc2 (P : Prog) (R : String → List D → Sto → Res D) (hi : Option Tm) (ρ : Ev) (x : D) : Option Int → Sto → Res D := fun l s2 => (evO P R hi ρ s2).bind (kSlc3 P R x l)
@[simp] theorem kSlc2_app (hi : Option Tm) (ρ : Ev) (x : D) (l : Option Int) (s2 : Sto) : kSlc2 P R hi ρ x l s2 = (evO P R hi ρ s2).bind (kSlc3 P R x l) := rfl
def kSlc (P : Prog) (R : String → List D → Sto → Res D) (lo hi : Option Tm) (ρ : Ev) : D → Sto → Res D := fun x s1 => (evO P R lo ρ s1).bind (kSlc2 P R hi ρ x)
@[simp] theorem kSlc_app (lo hi : Option Tm) (ρ : Ev) (x : D) (s1 : Sto) : kSlc P R lo hi ρ x s1 = (evO P R lo ρ s1).bind (kSlc2 P R hi ρ x) := rfl
@[simp] theorem evE_slc (a : Tm) (lo hi : Option Tm) : evE P R (.slc a lo hi) ρ st = (evE P R a ρ st).bind (kSlc P R lo hi ρ) := by rw [evE]; rfl
def kRev (P : Prog) (R : String → List D → Sto → Res D) : D → Sto → Res D := fun x s1 => lift (dRev x) s1
@[simp] theorem kRev_app (x : D) (s1 : Sto) : kRev P R  x s1 = lift (dRev x) s1 := rfl
@[simp] theorem evE_rev (a : Tm) : evE P R (.rev a) ρ st = (evE P R a ρ st).bind (kRev P R) := by rw [evE]; rfl
def kFld (P : Prog) (R : String → List D → Sto → Res D) (f : String) : D → Sto → Res D := fun x s1 => lift (dFld P.fields s1 f x) s1
@[simp] theorem kFld_app (f : String) (x : D) (s1 : Sto) : kFld P R f x s1 = lift (dFld P.fields s1 f x) s1 := rfl
@[simp] theorem evE_fld (a : Tm) (f : String) : evE P R (.fld a f) ρ st = (evE P R a ρ st).bind (kFld P R f) := by rw [evE]; rfl
@[simp] theorem evE_call (f : String) (args : List Tm) : evE P R (.call f args) ρ st = (evL P R args ρ st).bind (R f) := by rw [evE]
def callvR (o : Option D) (k : String → Res D) : Res D := match o with
    | some (.fn f) => k f
    | _ => .stuck
@[simp] theorem callvR_fn (f : String) (k : String → Res D) : callvR (some (.fn f)) k = k f := rfl
def kCallv (P : Prog) (R : String → List D → Sto → Res D) (args : List Tm) (ρ : Ev) (st : Sto) : String → Res D := fun f => (evL P R args ρ st).bind (R f)
@[simp] theorem kCallv_app (args : List Tm) (ρ : Ev) (st : Sto) (f : String) : kCallv P R args ρ st f = (evL P R args ρ st).bind (R f) := rfl
@[simp] theorem evE_callv (i : Nat) (args : List Tm) : evE P R (.callv i args) ρ st = callvR (slotD ρ i) (kCallv P R args ρ st) := by rw [evE]; unfold callvR; rfl
@[simp] theorem evE_make (c : String) (args : List Tm) : evE P R (.make c args) ρ st = (evL P R args ρ st).bind (R c) := by rw [evE]
def methR (m : String) (o : Option String) (k : String → Res D) : Res D := match o with
    | some c => if P.isMeth c m then k (c ++ "." ++ m) else .stuck
    | none => .stuck
@[simp] theorem methR_some (m c : String) (k : String → Res D) : methR P m (some c) k = if P.isMeth c m then k (c ++ "." ++ m) else .stuck := rfl
def kMeth3 (P : Prog) (R : String → List D → Sto → Res D) (f : String) (x : D) : List D → Sto → Res D := fun ds s1 => R f (x :: ds) s1
@[simp] theorem kMeth3_app (f : String) (x : D) (ds : List D) (s1 : Sto) : kMeth3 P R f x ds s1 = R f (x :: ds) s1 := rfl
def kMeth2 (P : Prog) (R : String → List D → Sto → Res D) (args : List Tm) (ρ : Ev) (x : D) (st1 : Sto) : String → Res D := fun f => (evL P R args ρ st1).bind (kMeth3 P R f x)
@[simp] theorem kMeth2_app (args : List Tm) (ρ : Ev) (x : D) (st1 : Sto) (f : String) : kMeth2 P R args ρ x st1 f = (evL P R args ρ st1).bind (kMeth3 P R f x) := rfl
def kMeth (P : Prog) (R : String → List D → Sto → Res D) (m : String) (args : List Tm) (ρ : Ev) : D → Sto → Res D := fun x s1 => methR P m (mcls s1 x) (kMeth2 P R args ρ x s1)
@[simp] theorem kMeth_app (m : String) (args : List Tm) (ρ : Ev) (x : D) (s1 : Sto) : kMeth P R m args ρ x s1 = methR P m (mcls s1 x) (kMeth2 P R args ρ x s1) := rfl
@[simp] theorem evE_meth (o : Tm) (m : String) (args : List Tm) : evE P R (.meth o m args) ρ st = (evE P R o ρ st).bind (kMeth P R m args ρ) := by rw [evE]; rfl
def kBi (P : Prog) (R : String → List D → Sto → Res D) (f : Bi) : List D → Sto → Res D := fun ds s1 => lift (dBi s1 f ds) s1
@[simp] theorem kBi_app (f : Bi) (ds : List D) (s1 : Sto) : kBi P R f ds s1 = lift (dBi s1 f ds) s1 := rfl
@[simp] theorem evE_bi (f : Bi) (args : List Tm) : evE P R (.bi f args) ρ st = (evL P R args ρ st).bind (kBi P R f) := by rw [evE]; rfl
def kIsi (P : Prog) (R : String → List D → Sto → Res D) (cs : List Ty) : D → Sto → Res D := fun x s1 => liftB (dIsis s1 x cs) s1
@[simp] theorem kIsi_app (cs : List Ty) (x : D) (s1 : Sto) : kIsi P R cs x s1 = liftB (dIsis s1 x cs) s1 := rfl
@[simp] theorem evE_isi (a : Tm) (cs : List Ty) : evE P R (.isi a cs) ρ st = (evE P R a ρ st).bind (kIsi P R cs) := by rw [evE]; rfl
/-- one turn of a comprehension -/
def cStep (tg : Tg) (cond : Option Tm) (e : Tm) (ρ : Ev) (x : D) (s : Sto) : Res (Option D) := match bindT tg x (wipeT tg ρ) with
    | some ρ' => (evC P R cond ρ' s).bind fun c s1 => if c then (evE P R e ρ' s1).bind fun y s2 => .ok (some y) s2 else .ok none s1
    | none => .stuck
def kSm (P : Prog) (R : String → List D → Sto → Res D) : D → Sto → Res (Option D) := fun x s1 => Res.ok (some x) s1
@[simp] theorem kSm_app (x : D) (s1 : Sto) : kSm P R  x s1 = Res.ok (some x) s1 := rfl
def kCst (P : Prog) (R : String → List D → Sto → Res D) (e : Tm) (ρ : Ev) : Bool → Sto → Res (Option D) := fun c s2 => if c then (evE P R e ρ s2).bind (kSm P R) else .ok none s2
@[simp] theorem kCst_app (e : Tm) (ρ : Ev) (c : Bool) (s2 : Sto) : kCst P R e ρ c s2 = if c then (evE P R e ρ s2).bind (kSm P R) else .ok none s2 := rfl
def kComp (P : Prog) (R : String → List D → Sto → Res D) (tg : Tg) (cond : Option Tm) (e : Tm) (ρ : Ev) : List D → Sto → Res D := fun ds s1 => (compR (cStep P R tg cond e ρ) ds s1).bind (kLst P R)
@[simp] theorem kComp_app (tg : Tg) (cond : Option Tm) (e : Tm) (ρ : Ev) (ds : List D) (s1 : Sto) : kComp P R tg cond e ρ ds s1 = (compR (cStep P R tg cond e ρ) ds s1).bind (kLst P R) := rfl
@[simp] theorem evE_comp (tg : Tg) (it : Tm) (cond : Option Tm) (e : Tm) : evE P R (.comp tg it cond e) ρ st = (evI P R it ρ st).bind (kComp P R tg cond e ρ) := by rw [evE]; rfl
def oleR (o : Option (List D)) (st : Sto) : Res D := match o with
    | some xs => .ok (.int xs.length) st
    | none => .stuck
@[simp] theorem oleR_some (xs : List D) (st : Sto) : oleR (some xs) st = .ok (.int xs.length) st := rfl
@[simp] theorem evE_olen (i : Nat) : evE P R (.olen i) ρ st = oleR (ownL ρ i) st := by rw [evE]; rfl
def oixR (o : Option (List D)) (k : List D → Res D) : Res D := match o with
    | some xs => k xs
    | none => .stuck
@[simp] theorem oixR_some (xs : List D) (k : List D → Res D) : oixR (some xs) k = k xs := rfl
def kOix (P : Prog) (R : String → List D → Sto → Res D) (e : Tm) (ρ : Ev) (st : Sto) : List D → Res D := fun xs => (evE P R e ρ st).bind (kIdx2 P R (.lst xs))
@[simp] theorem kOix_app (e : Tm) (ρ : Ev) (st : Sto) (xs : List D) : kOix P R e ρ st xs = (evE P R e ρ st).bind (kIdx2 P R (.lst xs)) := rfl
@[simp] theorem evE_oix (i : Nat) (e : Tm) : evE P R (.oix i e) ρ st = oixR (ownL ρ i) (kOix P R e ρ st) := by rw [evE]; rfl
def xfR (xf : String → List String) (f : String) (o : Option Sl) (st : Sto) : Res D := match o with
    | some (.exn c fs) => lift (((xf c).zip fs).lookup f) st
    | _ => .stuck
@[simp] theorem xfR_some (xf : String → List String) (f c : String) (fs : List D) (st : Sto) : xfR xf f (some (.exn c fs)) st = lift (((xf c).zip fs).lookup f) st := rfl
@[simp] theorem evE_xfld (i : Nat) (f : String) : evE P R (.xfld i f) ρ st = xfR P.xfields f ρ[i]? st := by rw [evE]; unfold xfR; rfl
def kOcmp2 (P : Prog) (R : String → List D → Sto → Res D) (op : Cop) (x : D) : D → Sto → Res D := fun y s2 => ocmpR P R op x y s2
@[simp] theorem kOcmp2_app (op : Cop) (x : D) (y : D) (s2 : Sto) : kOcmp2 P R op x y s2 = ocmpR P R op x y s2 := rfl
def kOcmp (P : Prog) (R : String → List D → Sto → Res D) (op : Cop) (b : Tm) (ρ : Ev) : D → Sto → Res D := fun x s1 => (evE P R b ρ s1).bind (kOcmp2 P R op x)
@[simp] theorem kOcmp_app (op : Cop) (b : Tm) (ρ : Ev) (x : D) (s1 : Sto) : kOcmp P R op b ρ x s1 = (evE P R b ρ s1).bind (kOcmp2 P R op x) := rfl
@[simp] theorem evE_ocmp (op : Cop) (a b : Tm) : evE P R (.ocmp op a b) ρ st = (evE P R a ρ st).bind (kOcmp P R op b ρ) := by rw [evE]; rfl
def kDic (P : Prog) (R : String → List D → Sto → Res D) (i : Nat) (ρ : Ev) : D → Sto → Res D := fun x st1 => lift (dDic x (slotD ρ i)) st1
@[simp] theorem kDic_app (i : Nat) (x : D) (st1 : Sto) : kDic P R i ρ x st1 = lift (dDic x (slotD ρ i)) st1 := rfl
@[simp] theorem evE_dic (a : Tm) (i : Nat) : evE P R (.dic a i) ρ st = (evE P R a ρ st).bind (kDic P R i ρ) := by rw [evE]; rfl
def kTcmp2 (P : Prog) (R : String → List D → Sto → Res D) (op : Cop) (x : D) : D → Sto → Res D := fun y s2 => tcmpR P R op x y s2
@[simp] theorem kTcmp2_app (op : Cop) (x : D) (y : D) (s2 : Sto) : kTcmp2 P R op x y s2 = tcmpR P R op x y s2 := rfl
def kTcmp (P : Prog) (R : String → List D → Sto → Res D) (op : Cop) (b : Tm) (ρ : Ev) : D → Sto → Res D := fun x s1 => (evE P R b ρ s1).bind (kTcmp2 P R op x)
@[simp] theorem kTcmp_app (op : Cop) (b : Tm) (ρ : Ev) (x : D) (s1 : Sto) : kTcmp P R op b ρ x s1 = (evE P R b ρ s1).bind (kTcmp2 P R op x) := rfl
@[simp] theorem evE_tcmp (op : Cop) (a b : Tm) : evE P R (.tcmp op a b) ρ st = (evE P R a ρ st).bind (kTcmp P R op b ρ) := by rw [evE]; rfl
@[simp] theorem evE_lenm (a : Tm) : evE P R (.lenm a) ρ st = (evE P R a ρ st).bind (lenR P R) := by rw [evE]
@[simp] theorem evL_nil : evL P R [] ρ st = .ok [] st := by rw [evL]
def kL2 (P : Prog) (R : String → List D → Sto → Res D) (x : D) : List D → Sto → Res (List D) := fun ds s1 => Res.ok (x :: ds) s1
@[simp] theorem kL2_app (x : D) (ds : List D) (s1 : Sto) : kL2 P R x ds s1 = Res.ok (x :: ds) s1 := rfl
def kL (P : Prog) (R : String → List D → Sto → Res D) (ts : List Tm) (ρ : Ev) : D → Sto → Res (List D) := fun x s1 => (evL P R ts ρ s1).bind (kL2 P R x)
@[simp] theorem kL_app (ts : List Tm) (ρ : Ev) (x : D) (s1 : Sto) : kL P R ts ρ x s1 = (evL P R ts ρ s1).bind (kL2 P R x) := rfl
@[simp] theorem evL_cons (t : Tm) (ts : List Tm) : evL P R (t :: ts) ρ st = (evE P R t ρ st).bind (kL P R ts ρ) := by rw [evL]; rfl
@[simp] theorem evO_none : evO P R none ρ st = .ok none st := by rw [evO]
def asI (x : D) (st : Sto) : Res (Option Int) := match x with
    | .int i => .ok (some i) st
    | _ => .stuck
@[simp] theorem asI_int (i : Int) (st : Sto) : asI (.int i) st = .ok (some i) st := rfl
@[simp] theorem evO_some (t : Tm) : evO P R (some t) ρ st = (evE P R t ρ st).bind asI := by rw [evO]; rfl
@[simp] theorem evC_none : evC P R none ρ st = .ok true st := by rw [evC]
@[simp] theorem evC_some (t : Tm) : evC P R (some t) ρ st = (evE P R t ρ st).bind asTru := by rw [evC]
def optL (o : Option (List D)) (st : Sto) : Res (List D) := match o with
    | some xs => .ok xs st
    | none => .stuck
@[simp] theorem optL_some (xs : List D) (st : Sto) : optL (some xs) st = .ok xs st := rfl
def zipO : List D → Option (List D)
  | [a, b] => (items a).bind fun xs => (items b).map fun ys => zipD xs ys
  | _ => none
@[simp] theorem zipO_two (a b : D) : zipO [a, b] = (items a).bind fun xs => (items b).map fun ys => zipD xs ys := rfl
def kRng (P : Prog) (R : String → List D → Sto → Res D) : List D → Sto → Res (List D) := fun ds s1 => optL (rng ds) s1
@[simp] theorem kRng_app (ds : List D) (s1 : Sto) : kRng P R  ds s1 = optL (rng ds) s1 := rfl
@[simp] theorem evI_range (args : List Tm) : evI P R (.range args) ρ st = (evL P R args ρ st).bind (kRng P R) := by rw [evI]; rfl
def kEnum (P : Prog) (R : String → List D → Sto → Res D) : D → Sto → Res (List D) := fun x s1 => optL ((items x).map enumD) s1
@[simp] theorem kEnum_app (x : D) (s1 : Sto) : kEnum P R  x s1 = optL ((items x).map enumD) s1 := rfl
@[simp] theorem evI_enum (a : Tm) : evI P R (.enum a) ρ st = (evE P R a ρ st).bind (kEnum P R) := by
  rw [evI]; congr 1; funext x st1; rw [kEnum_app]; cases h : items x <;> rfl
def kZip (P : Prog) (R : String → List D → Sto → Res D) : List D → Sto → Res (List D) := fun ds s1 => optL (zipO ds) s1
@[simp] theorem kZip_app (ds : List D) (s1 : Sto) : kZip P R  ds s1 = optL (zipO ds) s1 := rfl
@[simp] theorem evI_zip (as : List Tm) : evI P R (.zip as) ρ st = (evL P R as ρ st).bind (kZip P R) := by
  rw [evI]; congr 1; funext ds st1; rw [kZip_app]
  match ds with
  | [] => rfl
  | [_] => rfl
  | [a, b] => rw [zipO_two]; dsimp only; cases items a <;> cases items b <;> rfl
  | _ :: _ :: _ :: _ => rfl
def kSeq (P : Prog) (R : String → List D → Sto → Res D) : D → Sto → Res (List D) := fun x s1 => optL (items x) s1
@[simp] theorem kSeq_app (x : D) (s1 : Sto) : kSeq P R  x s1 = optL (items x) s1 := rfl
@[simp] theorem evI_seq (a : Tm) : evI P R (.seq a) ρ st = (evE P R a ρ st).bind (kSeq P R) := by
  rw [evI]; congr 1
@[simp] theorem evT_eq (t : Tm) : evT P R t ρ st = (evE P R t ρ st).bind asTru := rfl

/-! statements -/
@[simp] theorem evSs_nil : evSs P R [] ρ st = .nx ρ st := by rw [evSs]
def kSs (P : Prog) (R : String → List D → Sto → Res D) (ss : List Sm) : Ev → Sto → Out := fun ρ s1 => evSs P R ss ρ s1
@[simp] theorem kSs_app (ss : List Sm) (ρ : Ev) (s1 : Sto) : kSs P R ss ρ s1 = evSs P R ss ρ s1 := rfl
@[simp] theorem evSs_cons (s : Sm) (ss : List Sm) : evSs P R (s :: ss) ρ st = (evS P R s ρ st).bind (kSs P R ss) := by rw [evSs]; rfl
def kAsg (P : Prog) (R : String → List D → Sto → Res D) (i : Nat) (ρ : Ev) : D → Sto → Out := fun x s1 => Out.nx (ρ.set i (.val x)) s1
@[simp] theorem kAsg_app (i : Nat) (ρ : Ev) (x : D) (s1 : Sto) : kAsg P R i ρ x s1 = Out.nx (ρ.set i (.val x)) s1 := rfl
@[simp] theorem evS_asg (i : Nat) (e : Tm) : evS P R (.asg i e) ρ st = (evE P R e ρ st).out ρ (kAsg P R i ρ) := by rw [evS]; rfl
def nxO (o : Option Ev) (st : Sto) : Out := match o with
    | some ρ' => .nx ρ' st
    | none => .stuck
@[simp] theorem nxO_some (ρ : Ev) (st : Sto) : nxO (some ρ) st = .nx ρ st := rfl
def kAsgT (P : Prog) (R : String → List D → Sto → Res D) (is : List Nat) (ρ : Ev) : D → Sto → Out := fun x s1 => nxO (bindT (.many is) x ρ) s1
@[simp] theorem kAsgT_app (is : List Nat) (ρ : Ev) (x : D) (s1 : Sto) : kAsgT P R is ρ x s1 = nxO (bindT (.many is) x ρ) s1 := rfl
@[simp] theorem evS_asgT (is : List Nat) (e : Tm) : evS P R (.asgT is e) ρ st = (evE P R e ρ st).out ρ (kAsgT P R is ρ) := by rw [evS]; rfl
def kPar (P : Prog) (R : String → List D → Sto → Res D) (is : List Nat) (ρ : Ev) : List D → Sto → Out := fun ds s1 => nxO (bindT (.many is) (.tup ds) ρ) s1
@[simp] theorem kPar_app (is : List Nat) (ρ : Ev) (ds : List D) (s1 : Sto) : kPar P R is ρ ds s1 = nxO (bindT (.many is) (.tup ds) ρ) s1 := rfl
@[simp] theorem evS_par (is : List Nat) (es : List Tm) : evS P R (.par is es) ρ st = (evL P R es ρ st).out ρ (kPar P R is ρ) := by rw [evS]; rfl
def kParO (P : Prog) (R : String → List D → Sto → Res D) (is : List Nat) (os : List Bool) (ρ : Ev) : List D → Sto → Out := fun ds s1 => nxO (setsO is os ds ρ) s1
@[simp] theorem kParO_app (is : List Nat) (os : List Bool) (ρ : Ev) (ds : List D) (s1 : Sto) : kParO P R is os ρ ds s1 = nxO (setsO is os ds ρ) s1 := rfl
@[simp] theorem evS_parO (is : List Nat) (os : List Bool) (es : List Tm) : evS P R (.parO is os es) ρ st = (evL P R es (killO is os ρ) st).out (killO is os ρ) (kParO P R is os (killO is os ρ)) := by rw [evS]; rfl
@[simp] theorem killO_nil (ρ : Ev) : killO [] [] ρ = ρ := rfl
@[simp] theorem killO_val (i : Nat) (is : List Nat) (os : List Bool) (ρ : Ev) : killO (i :: is) (false :: os) ρ = killO is os ρ := rfl
@[simp] theorem killO_own (i : Nat) (is : List Nat) (os : List Bool) (ρ : Ev) : killO (i :: is) (true :: os) ρ = killO is os (ρ.set i .no) := rfl
@[simp] theorem setsO_nil (ρ : Ev) : setsO [] [] [] ρ = some ρ := rfl
@[simp] theorem setsO_val (i : Nat) (is : List Nat) (os : List Bool) (d : D) (ds : List D) (ρ : Ev) : setsO (i :: is) (false :: os) (d :: ds) ρ = setsO is os ds (ρ.set i (.val d)) := by rw [setsO]
@[simp] theorem setsO_own (i : Nat) (is : List Nat) (os : List Bool) (xs ds : List D) (ρ : Ev) : setsO (i :: is) (true :: os) (.lst xs :: ds) ρ = setsO is os ds (ρ.set i (.own (.lst xs))) := by rw [setsO]
def ownO (ρ : Ev) (i : Nat) (d : D) (st : Sto) : Out := match d with
    | .lst xs => .nx (ρ.set i (.own (.lst xs))) st
    | _ => .stuck
@[simp] theorem ownO_lst (ρ : Ev) (i : Nat) (xs : List D) (st : Sto) : ownO ρ i (.lst xs) st = .nx (ρ.set i (.own (.lst xs))) st := rfl
def kOwn (P : Prog) (R : String → List D → Sto → Res D) (i : Nat) (ρ : Ev) : D → Sto → Out := fun x s1 => ownO ρ i x s1
@[simp] theorem kOwn_app (i : Nat) (ρ : Ev) (x : D) (s1 : Sto) : kOwn P R i ρ x s1 = ownO ρ i x s1 := rfl
@[simp] theorem evS_own (i : Nat) (e : Tm) : evS P R (.own i e) ρ st = (evE P R e ρ st).out ρ (kOwn P R i ρ) := by rw [evS]; rfl
def listO (o : Option (List D)) (k : List D → Out) : Out := match o with
    | some xs => k xs
    | none => .stuck
@[simp] theorem listO_some (xs : List D) (k : List D → Out) : listO (some xs) k = k xs := rfl
def listO' (o : Option (List D)) (k : Out) : Out := match o with
    | some _ => k
    | none => .stuck
@[simp] theorem listO'_some (xs : List D) (k : Out) : listO' (some xs) k = k := rfl
theorem listO'_congr {o o' : Option (List D)} (k : Out) (h : o = o') : listO' o k = listO' o' k := by rw [h]
@[simp] theorem evS_frz (i : Nat) : evS P R (.frz i) ρ st = listO (ownL ρ i) fun xs => .nx (ρ.set i (.val (.lst xs))) st := by rw [evS]; rfl
@[simp] theorem evS_shr (i : Nat) : evS P R (.shr i) ρ st = listO (ownL ρ i) fun xs => .nx (ρ.set i (.val (.ref st.length))) (st ++ [.lst xs]) := by rw [evS]; rfl
@[simp] theorem evS_kill (is : List Nat) : evS P R (.kill is) ρ st = .nx (is.foldl (fun ρ i => ρ.set i .no) ρ) st := by rw [evS]
def appO (ρ : Ev) (i : Nat) (d : D) (st1 : Sto) : Out := listO (listAt ρ st1 i) fun xs => if lenOk (xs.length + 1) then putL ρ st1 i (xs ++ [d]) else .stuck
def kApp (P : Prog) (R : String → List D → Sto → Res D) (i : Nat) (ρ : Ev) : D → Sto → Out := fun x s1 => appO ρ i x s1
@[simp] theorem kApp_app (i : Nat) (ρ : Ev) (x : D) (s1 : Sto) : kApp P R i ρ x s1 = appO ρ i x s1 := rfl
@[simp] theorem evS_app (i : Nat) (e : Tm) : evS P R (.app i e) ρ st = listO' (listAt ρ st i) ((evE P R e ρ st).out ρ (kApp P R i ρ)) := by rw [evS]; rfl
def extO (o : Option (List D)) (d : D) (k : List D → List D → Out) : Out := match o, d with
    | some xs, .lst ys => k xs ys
    | _, _ => .stuck
@[simp] theorem extO_some (xs ys : List D) (k : List D → List D → Out) : extO (some xs) (.lst ys) k = k xs ys := rfl
def extOO (ρ : Ev) (i : Nat) (d : D) (st1 : Sto) : Out := extO (listAt ρ st1 i) d fun xs ys => if lenOk (xs.length + ys.length) then putL ρ st1 i (xs ++ ys) else .stuck
def kExt (P : Prog) (R : String → List D → Sto → Res D) (i : Nat) (ρ : Ev) : D → Sto → Out := fun x s1 => extOO ρ i x s1
@[simp] theorem kExt_app (i : Nat) (ρ : Ev) (x : D) (s1 : Sto) : kExt P R i ρ x s1 = extOO ρ i x s1 := rfl
@[simp] theorem evS_ext (i : Nat) (e : Tm) : evS P R (.ext i e) ρ st = listO' (listAt ρ st i) ((evE P R e ρ st).out ρ (kExt P R i ρ)) := by rw [evS]; rfl
def setO (ρ : Ev) (i : Nat) (st : Sto) (k d : D) : Out := match k, listAt ρ st i with
      | .int k, some xs => (match setD xs k d with
        | some ys => putL ρ st i ys
        | none => .stuck)
      | _, _ => .stuck
def kSet2 (P : Prog) (R : String → List D → Sto → Res D) (i : Nat) (ρ : Ev) (x : D) : D → Sto → Out := fun y s2 => setO ρ i s2 y x
@[simp] theorem kSet2_app (i : Nat) (ρ : Ev) (x : D) (y : D) (s2 : Sto) : kSet2 P R i ρ x y s2 = setO ρ i s2 y x := rfl
def kSet (P : Prog) (R : String → List D → Sto → Res D) (i : Nat) (e : Tm) (ρ : Ev) : D → Sto → Out := fun x s1 => listO' (listAt ρ s1 i) ((evE P R e ρ s1).out ρ (kSet2 P R i ρ x))
@[simp] theorem kSet_app (i : Nat) (e : Tm) (ρ : Ev) (x : D) (s1 : Sto) : kSet P R i e ρ x s1 = listO' (listAt ρ s1 i) ((evE P R e ρ s1).out ρ (kSet2 P R i ρ x)) := rfl
@[simp] theorem evS_seti (i : Nat) (e v : Tm) : evS P R (.seti i e v) ρ st = (evE P R v ρ st).out ρ (kSet P R i e ρ) := by rw [evS]; rfl
def augO (op : Bop) (x : Option D) (y : D) (ρ : Ev) (i : Nat) (st : Sto) : Out := match op, x, y with
      | .add, some (.int x), .int z => .nx (ρ.set i (.val (.int (x + z)))) st
      | .sub, some (.int x), .int z => .nx (ρ.set i (.val (.int (x - z)))) st
      | _, _, _ => .stuck
def intO (o : Option D) (k : Out) : Out := match o with
    | some (.int _) => k
    | _ => .stuck
@[simp] theorem intO_some (x : Int) (k : Out) : intO (some (.int x)) k = k := rfl
@[simp] theorem augO_add (x y : Int) (ρ : Ev) (i : Nat) (st : Sto) : augO .add (some (.int x)) (.int y) ρ i st = .nx (ρ.set i (.val (.int (x + y)))) st := rfl
@[simp] theorem augO_sub (x y : Int) (ρ : Ev) (i : Nat) (st : Sto) : augO .sub (some (.int x)) (.int y) ρ i st = .nx (ρ.set i (.val (.int (x - y)))) st := rfl
def kAug (P : Prog) (R : String → List D → Sto → Res D) (i : Nat) (op : Bop) (ρ : Ev) : D → Sto → Out := fun x s1 => augO op (slotD ρ i) x ρ i s1
@[simp] theorem kAug_app (i : Nat) (op : Bop) (ρ : Ev) (x : D) (s1 : Sto) : kAug P R i op ρ x s1 = augO op (slotD ρ i) x ρ i s1 := rfl
@[simp] theorem evS_aug (i : Nat) (op : Bop) (e : Tm) : evS P R (.aug i op e) ρ st = intO (slotD ρ i) ((evE P R e ρ st).out ρ (kAug P R i op ρ)) := by
  rw [evS]
  cases h : slotD ρ i with
  | none => rfl
  | some d =>
    cases d <;> try rfl
    dsimp only
    rw [intO_some]
    congr 1
    funext y s1
    rw [kAug_app, h]
    cases op <;> cases y <;> rfl
def kEx (P : Prog) (R : String → List D → Sto → Res D) (ρ : Ev) : D → Sto → Out := fun x s1 => Out.nx ρ s1
@[simp] theorem kEx_app (ρ : Ev) (x : D) (s1 : Sto) : kEx P R ρ x s1 = Out.nx ρ s1 := rfl
@[simp] theorem evS_ex (e : Tm) : evS P R (.ex e) ρ st = (evE P R e ρ st).out ρ (kEx P R ρ) := by rw [evS]; rfl
@[simp] theorem evS_pass : evS P R .pass ρ st = .nx ρ st := by rw [evS]
def kCond (P : Prog) (R : String → List D → Sto → Res D) (a b : List Sm) (ρ : Ev) : Bool → Sto → Out := fun c s2 => if c then evSs P R a ρ s2 else evSs P R b ρ s2
@[simp] theorem kCond_app (a b : List Sm) (ρ : Ev) (c : Bool) (s2 : Sto) : kCond P R a b ρ c s2 = if c then evSs P R a ρ s2 else evSs P R b ρ s2 := rfl
@[simp] theorem evS_cond (c : Tm) (a b : List Sm) : evS P R (.cond c a b) ρ st = (evT P R c ρ st).out ρ (kCond P R a b ρ) := by rw [evS]; rfl
def wCond (P : Prog) (R : String → List D → Sto → Res D) (c : Tm) : Ev → Sto → Res Bool := fun ρ st => evT P R c ρ st
def wBody (P : Prog) (R : String → List D → Sto → Res D) (b : List Sm) : Ev → Sto → Out := fun ρ st => evSs P R b ρ st
@[simp] theorem wCond_app (c : Tm) (ρ : Ev) (st : Sto) : wCond P R c ρ st = evT P R c ρ st := rfl
@[simp] theorem wBody_app (c : List Sm) (ρ : Ev) (st : Sto) : wBody P R c ρ st = evSs P R c ρ st := rfl
@[simp] theorem evS_whil (c : Tm) (b : List Sm) : evS P R (.whil c b) ρ st = whileR (wCond P R c) (wBody P R b) ρ st := by rw [evS]; rfl
/-- one turn of a for loop -/
def lStep (tg : Tg) (b : List Sm) (x : D) (ρ : Ev) (st : Sto) : Out := match bindT tg x ρ with
    | some ρ' => evSs P R b ρ' st
    | none => .stuck
def kLoop (P : Prog) (R : String → List D → Sto → Res D) (tg : Tg) (b : List Sm) (ρ : Ev) : List D → Sto → Out := fun ds s1 => forR (lStep P R tg b) ds ρ s1
@[simp] theorem kLoop_app (tg : Tg) (b : List Sm) (ρ : Ev) (ds : List D) (s1 : Sto) : kLoop P R tg b ρ ds s1 = forR (lStep P R tg b) ds ρ s1 := rfl
@[simp] theorem evS_loop (tg : Tg) (it : Tm) (b : List Sm) : evS P R (.loop tg it b) ρ st = (evI P R it ρ st).out ρ (kLoop P R tg b ρ) := by rw [evS]; rfl
def kRet (P : Prog) (R : String → List D → Sto → Res D) : D → Sto → Out := fun x s1 => Out.ret x s1
@[simp] theorem kRet_app (x : D) (s1 : Sto) : kRet P R  x s1 = Out.ret x s1 := rfl
@[simp] theorem evS_ret (e : Tm) : evS P R (.ret e) ρ st = (evE P R e ρ st).out ρ (kRet P R) := by rw [evS]; rfl
@[simp] theorem evS_retN : evS P R .retN ρ st = .ret .non st := by rw [evS]
def kRaise (P : Prog) (R : String → List D → Sto → Res D) (c : String) (ρ : Ev) : List D → Sto → Out := fun ds s1 => if ds.length = (P.xfields c).length then .exc c ds ρ s1 else .stuck
@[simp] theorem kRaise_app (c : String) (ρ : Ev) (ds : List D) (s1 : Sto) : kRaise P R c ρ ds s1 = if ds.length = (P.xfields c).length then .exc c ds ρ s1 else .stuck := rfl
@[simp] theorem evS_raise (c : String) (args : List Tm) : evS P R (.raise c args) ρ st = (evL P R args ρ st).out ρ (kRaise P R c ρ) := by rw [evS]; rfl
/-- a try -/
def tryO (r : Out) (c : String) (i : Option Nat) (h : Ev → Sto → Out) : Out := match r with
    | .exc c' fs ρ1 st1 => if P.subx c' c then (match i with
        | some i => (h ((noX ρ1).set i (.exn c' fs)) st1).quiet.bind fun ρ2 st2 => .nx (ρ2.set i .no) st2
        | none => (h (noX ρ1) st1).quiet) else .exc c' fs ρ1 st1
    | r => r
@[simp] theorem tryO_nx (c : String) (i : Option Nat) (h : Ev → Sto → Out) : tryO P (.nx ρ st) c i h = .nx ρ st := rfl
@[simp] theorem tryO_ret (d : D) (c : String) (i : Option Nat) (h : Ev → Sto → Out) : tryO P (.ret d st) c i h = .ret d st := rfl
def kTry (i : Nat) : Ev → Sto → Out := fun ρ2 st2 => .nx (ρ2.set i .no) st2
@[simp] theorem kTry_app (i : Nat) : kTry i ρ st = .nx (ρ.set i .no) st := rfl
@[simp] theorem tryO_exc_some (c' : String) (fs : List D) (c : String) (i : Nat) (h : Ev → Sto → Out) : tryO P (.exc c' fs ρ st) c (some i) h = if P.subx c' c then (h ((noX ρ).set i (.exn c' fs)) st).quiet.bind (kTry i) else .exc c' fs ρ st := rfl
@[simp] theorem tryO_exc_none (c' : String) (fs : List D) (c : String) (h : Ev → Sto → Out) : tryO P (.exc c' fs ρ st) c none h = if P.subx c' c then (h (noX ρ) st).quiet else .exc c' fs ρ st := rfl
theorem tryO_congr {r r' : Out} (c : String) (i : Option Nat) (k : Ev → Sto → Out) (h : r = r') : tryO P r c i k = tryO P r' c i k := by rw [h]
@[simp] theorem evS_tryx (b : List Sm) (c : String) (i : Option Nat) (h : List Sm) : evS P R (.tryx b c i h) ρ st = tryO P (evSs P R b ρ st) c i (kSs P R h) := by rw [evS]; rfl
@[simp] theorem quiet_nx : (Out.nx ρ st).quiet = .nx ρ st := rfl
@[simp] theorem quiet_ret (d : D) : (Out.ret d st).quiet = .ret d st := rfl
end
/-! the small parts -/
section
variable (st : Sto)
@[simp] theorem asTru_bl (b : Bool) : asTru (.bl b) st = .ok b st := rfl
@[simp] theorem asTru_int (i : Int) : asTru (.int i) st = .ok (i != 0) st := rfl
@[simp] theorem asTru_tup (xs : List D) : asTru (.tup xs) st = .ok (!xs.isEmpty) st := rfl
@[simp] theorem asTru_lst (xs : List D) : asTru (.lst xs) st = .ok (!xs.isEmpty) st := rfl
@[simp] theorem dBin_add (i j : Int) : dBin .add (.int i) (.int j) = some (.int (i + j)) := rfl
@[simp] theorem dBin_sub (i j : Int) : dBin .sub (.int i) (.int j) = some (.int (i - j)) := rfl
theorem dBin_mul (i j : Int) (h : mulOk i j = true) : dBin .mul (.int i) (.int j) = some (.int (i * j)) := by simp [dBin, h]
theorem dBin_fdiv (i j : Int) (h0 : j ≠ 0) (h : j.natAbs.log2 < 9000) : dBin .fdiv (.int i) (.int j) = some (.int (i.fdiv j)) := by simp [dBin, h0, h]
theorem dBin_mod (i j : Int) (h0 : j ≠ 0) : dBin .mod (.int i) (.int j) = some (.int (i.fmod j)) := by simp [dBin, h0]
@[simp] theorem dNeg_int (i : Int) : dNeg (.int i) = some (.int (-i)) := rfl
@[simp] theorem dCmp_lt (i j : Int) : dCmp .lt (.int i) (.int j) = some (decide (i < j)) := rfl
@[simp] theorem dCmp_le (i j : Int) : dCmp .le (.int i) (.int j) = some (decide (i ≤ j)) := rfl
@[simp] theorem dCmp_gt (i j : Int) : dCmp .gt (.int i) (.int j) = some (decide (j < i)) := rfl
@[simp] theorem dCmp_ge (i j : Int) : dCmp .ge (.int i) (.int j) = some (decide (j ≤ i)) := rfl
@[simp] theorem dCmp_eq (x y : D) : dCmp .eq x y = dEq x y := by unfold dCmp; rfl
@[simp] theorem dCmp_ne (x y : D) : dCmp .ne x y = (dEq x y).map not := by unfold dCmp; rfl
@[simp] theorem dCmp_isN (x : D) : dCmp .isN x .non = some (isNon x) := by unfold dCmp; cases x <;> rfl
@[simp] theorem dCmp_notN (x : D) : dCmp .notN x .non = some (!isNon x) := by unfold dCmp; cases x <;> rfl
@[simp] theorem dCmp_in (x y : D) : dCmp .isin x y = dIn x y := by unfold dCmp; rfl
@[simp] theorem dCmp_notin (x y : D) : dCmp .notin x y = (dIn x y).map not := by unfold dCmp; rfl
@[simp] theorem isNon_non : isNon .non = true := rfl
@[simp] theorem isNon_int (i : Int) : isNon (.int i) = false := rfl
@[simp] theorem isNon_bl (i : Bool) : isNon (.bl i) = false := rfl
@[simp] theorem isNon_str (i : List Nat) : isNon (.str i) = false := rfl
@[simp] theorem isNon_tup (i : List D) : isNon (.tup i) = false := rfl
@[simp] theorem isNon_lst (i : List D) : isNon (.lst i) = false := rfl
@[simp] theorem isNon_obj (c : String) (i : List D) : isNon (.obj c i) = false := rfl
@[simp] theorem dEq_int (i j : Int) : dEq (.int i) (.int j) = some (decide (i = j)) := by
  unfold dEq; simp only [D.flat, Bool.and_self, if_true, D.eqv]; congr 1
@[simp] theorem dEq_non (x : D) (h : D.flat 60 x = true) : dEq x .non = some (isNon x) := by
  unfold dEq; rw [h]; cases x <;> rfl
@[simp] theorem dIdx_lst (xs : List D) (i : Int) : dIdx st (.lst xs) (.int i) = atI xs i := rfl
@[simp] theorem dIdx_tup (xs : List D) (i : Int) : dIdx st (.tup xs) (.int i) = atI xs i := rfl
@[simp] theorem dIdx_frz (xs : List D) (i : Int) : dIdx st (.frz xs) (.int i) = atI xs i := rfl
@[simp] theorem dSlc_lst (xs : List D) (l h : Option Int) : dSlc (.lst xs) l h = some (.lst (cutD xs l h)) := rfl
@[simp] theorem dSlc_tup (xs : List D) (l h : Option Int) : dSlc (.tup xs) l h = some (.tup (cutD xs l h)) := rfl
@[simp] theorem dRev_lst (xs : List D) : dRev (.lst xs) = some (.lst xs.reverse) := rfl
@[simp] theorem dRev_tup (xs : List D) : dRev (.tup xs) = some (.tup xs.reverse) := rfl
@[simp] theorem items_lst (xs : List D) : items (.lst xs) = some xs := rfl
@[simp] theorem items_tup (xs : List D) : items (.tup xs) = some xs := rfl
@[simp] theorem items_frz (xs : List D) : items (.frz xs) = some xs := rfl
@[simp] theorem len_lst (xs : List D) : dBi st .len [.lst xs] = some (.int xs.length) := rfl
@[simp] theorem len_tup (xs : List D) : dBi st .len [.tup xs] = some (.int xs.length) := rfl
@[simp] theorem len_frz (xs : List D) : dBi st .len [.frz xs] = some (.int xs.length) := rfl
@[simp] theorem bi_int (i : Int) : dBi st .int [.int i] = some (.int i) := rfl
@[simp] theorem bi_intb (b : Bool) : dBi st .int [.bl b] = some (.int (if b then 1 else 0)) := rfl
@[simp] theorem bi_abs (i : Int) : dBi st .abs [.int i] = some (.int (if i < 0 then -i else i)) := rfl
@[simp] theorem bi_max (i j : Int) : dBi st .max [.int i, .int j] = some (.int (if j > i then j else i)) := rfl
@[simp] theorem bi_min (i j : Int) : dBi st .min [.int i, .int j] = some (.int (if j < i then j else i)) := rfl
@[simp] theorem bi_all (xs : List D) : dBi st .all [.lst xs] = (allB xs).map .bl := rfl
@[simp] theorem bi_any (xs : List D) : dBi st .any [.lst xs] = (anyB xs).map .bl := rfl
@[simp] theorem bi_tupl (xs : List D) : dBi st .tuple [.lst xs] = some (.tup xs) := rfl
@[simp] theorem bi_tupt (xs : List D) : dBi st .tuple [.tup xs] = some (.tup xs) := rfl
@[simp] theorem bi_lstl (xs : List D) : dBi st .list [.lst xs] = some (.lst xs) := rfl
@[simp] theorem bi_lstt (xs : List D) : dBi st .list [.tup xs] = some (.lst xs) := rfl
@[simp] theorem mcls_obj (c : String) (ds : List D) : mcls st (.obj c ds) = some c := rfl
@[simp] theorem mcls_int (i : Int) : mcls st (.int i) = none := rfl
@[simp] theorem mcls_bl (i : Bool) : mcls st (.bl i) = none := rfl
@[simp] theorem mcls_non : mcls st .non = none := rfl
@[simp] theorem mcls_str (i : List Nat) : mcls st (.str i) = none := rfl
@[simp] theorem mcls_tup (i : List D) : mcls st (.tup i) = none := rfl
@[simp] theorem mcls_lst (i : List D) : mcls st (.lst i) = none := rfl
@[simp] theorem mcls_frz (i : List D) : mcls st (.frz i) = none := rfl
@[simp] theorem dIsis_nil (x : D) : dIsis st x [] = some false := rfl
@[simp] theorem dIsis_cons (x : D) (c : Ty) (cs : List Ty) : dIsis st x (c :: cs) = (dIsi st x c).bind fun b => if b then some true else dIsis st x cs := rfl
@[simp] theorem dIsi_non (c : Ty) : dIsi st .non c = some false := rfl
@[simp] theorem dIsi_bl (b : Bool) (c : Ty) : dIsi st (.bl b) c = some (c == .int || c == .bool) := rfl
@[simp] theorem dIsi_int (b : Int) (c : Ty) : dIsi st (.int b) c = some (c == .int) := rfl
@[simp] theorem dIsi_str (b : List Nat) (c : Ty) : dIsi st (.str b) c = some (c == .str) := rfl
@[simp] theorem dIsi_tup (b : List D) (c : Ty) : dIsi st (.tup b) c = some (c == .tuple) := rfl
@[simp] theorem dIsi_lst (b : List D) (c : Ty) : dIsi st (.lst b) c = some (c == .list) := rfl
@[simp] theorem dIsi_obj (k : String) (b : List D) (c : Ty) : dIsi st (.obj k b) c = some (c == .cls k) := rfl
section
variable (P : Prog) (R : String → List D → Sto → Res D)
theorem lenR_none (x : D) (h : mcls st x = none) : lenR P R x st = lift (dBi st .len [x]) st := by unfold lenR; rw [h]
@[simp] theorem lenR_lst (xs : List D) : lenR P R (.lst xs) st = .ok (.int xs.length) st := rfl
@[simp] theorem lenR_tup (xs : List D) : lenR P R (.tup xs) st = .ok (.int xs.length) st := rfl
@[simp] theorem lenR_frz (xs : List D) : lenR P R (.frz xs) st = .ok (.int xs.length) st := rfl
theorem ocmpR_none (op : Cop) (x y : D) (h : mcls st x = none) : ocmpR P R op x y st = liftB (dCmp op x y) st := by
  unfold ocmpR ocls; rw [h]; simp
@[simp] theorem ocmpR_tup (op : Cop) (x : List D) (y : D) : ocmpR P R op (.tup x) y st = liftB (dCmp op (.tup x) y) st := ocmpR_none _ _ _ _ _ _ rfl
@[simp] theorem ocmpR_lst (op : Cop) (x : List D) (y : D) : ocmpR P R op (.lst x) y st = liftB (dCmp op (.lst x) y) st := ocmpR_none _ _ _ _ _ _ rfl
@[simp] theorem ocmpR_int (op : Cop) (x : Int) (y : D) : ocmpR P R op (.int x) y st = liftB (dCmp op (.int x) y) st := ocmpR_none _ _ _ _ _ _ rfl
@[simp] theorem ocmpR_non (op : Cop) (y : D) : ocmpR P R op .non y st = liftB (dCmp op .non y) st := ocmpR_none _ _ _ _ _ _ rfl
@[simp] theorem ocmpR_bl (op : Cop) (x : Bool) (y : D) : ocmpR P R op (.bl x) y st = liftB (dCmp op (.bl x) y) st := ocmpR_none _ _ _ _ _ _ rfl
@[simp] theorem ocmpR_str (op : Cop) (x : List Nat) (y : D) : ocmpR P R op (.str x) y st = liftB (dCmp op (.str x) y) st := ocmpR_none _ _ _ _ _ _ rfl
end
end
/-! slots -/
@[simp] theorem slotD_zero (d : D) (ρ : Ev) : slotD (.val d :: ρ) 0 = some d := rfl
@[simp] theorem slotD_succ (s : Sl) (ρ : Ev) (i : Nat) : slotD (s :: ρ) (i + 1) = slotD ρ i := rfl
@[simp] theorem ownL_zero (d : List D) (ρ : Ev) : ownL (.own (.lst d) :: ρ) 0 = some d := rfl
@[simp] theorem ownL_succ (s : Sl) (ρ : Ev) (i : Nat) : ownL (s :: ρ) (i + 1) = ownL ρ i := rfl
/-- atI by a place from the front -/
theorem atI_nat {α : Type} (xs : List α) (k : Nat) : atI xs (k : Int) = xs[k]? := by
  by_cases h : k < xs.length
  · simp [atI, ixN, h]
  · simp [atI, ixN, h]
/-! calls -/
def endB (r : Out) : Res D := match r with
  | .nx _ st' => .ok .non st'
  | .ret v st' => .ok v st'
  | .exc c fs _ st' => .exc c fs st'
  | .stuck => .stuck
@[simp] theorem endB_nx (ρ : Ev) (st : Sto) : endB (.nx ρ st) = .ok .non st := rfl
@[simp] theorem endB_ret (d : D) (st : Sto) : endB (.ret d st) = .ok d st := rfl
@[simp] theorem endB_exc (c : String) (fs : List D) (ρ : Ev) (st : Sto) : endB (.exc c fs ρ st) = .exc c fs st := rfl
theorem endB_congr {r r' : Out} (h : r = r') : endB r = endB r' := by rw [h]
def endM (P : Prog) (R : String → List D → Sto → Res D) (c : String) (ts : List Tm) (r : Out) : Res D := match r with
  | .nx (.exn c0 f0 :: ρ) st' => (evL P R ts (.exn c0 f0 :: ρ) st').bind fun vs st2 => .ok (.obj c vs) st2
  | .exc c fs _ st' => .exc c fs st'
  | _ => .stuck
def kObj (c : String) : List D → Sto → Res D := fun vs st2 => .ok (.obj c vs) st2
@[simp] theorem kObj_app (c : String) (vs : List D) (st2 : Sto) : kObj c vs st2 = .ok (.obj c vs) st2 := rfl
@[simp] theorem endM_nx (P : Prog) (R : String → List D → Sto → Res D) (c c0 : String) (f0 : List D) (ts : List Tm) (ρ : Ev) (st : Sto) : endM P R c ts (.nx (.exn c0 f0 :: ρ) st) = (evL P R ts (.exn c0 f0 :: ρ) st).bind (kObj c) := rfl
@[simp] theorem endM_exc (P : Prog) (R : String → List D → Sto → Res D) (c : String) (ts : List Tm) (x : String) (fs : List D) (ρ : Ev) (st : Sto) : endM P R c ts (.exc x fs ρ st) = .exc x fs st := rfl
theorem endM_congr {P : Prog} {R : String → List D → Sto → Res D} {c : String} {ts : List Tm} {r r' : Out} (h : r = r') : endM P R c ts r = endM P R c ts r' := by rw [h]
section
variable {P : Prog} {n : Nat} {f : String} {d : Def} {ds : List D} {st : Sto}
theorem run_def (hd : P.defs f = some d) (h : ds.length = d.np) : run P (n + 1) f ds st = endB (evSs P (run P n) d.body (startD d.nl ds) st) := by
  unfold run; rw [hd]; dsimp only; rw [if_pos h]; rfl
theorem run_mk (h0 : P.defs f = none) (hd : P.defs (f ++ ".__init__") = some d) (hm : P.muta f = false) (h : ds.length + 1 = d.np) : run P (n + 1) f ds st = endM P (run P n) f (d.inits.map (·.2)) (evSs P (run P n) d.body (.exn "" [] :: startD (d.nl - 1) ds) st) := by
  unfold run; rw [h0]; dsimp only; rw [hd]; dsimp only; rw [if_pos h, hm]; rw [if_neg (by simp)]; rfl
end
@[simp] theorem slotD_e (c : String) (f : List D) (s : Sl) (ρ : Ev) (i : Nat) : slotD (s :: ρ) (i + 1) = slotD ρ i := rfl
def stL (st : Sto) (n : Nat) : Option (List D) := match st[n]? with
    | some (.lst xs) => some xs
    | _ => none
def lstS (s : Option Sl) (st : Sto) : Option (List D) := match s with
  | some (.own (.lst xs)) => some xs
  | some (.val (.ref n)) => stL st n
  | _ => none
@[simp] theorem listAt_eq (ρ : Ev) (st : Sto) (i : Nat) : listAt ρ st i = lstS ρ[i]? st := rfl
@[simp] theorem lstS_own (xs : List D) (st : Sto) : lstS (some (.own (.lst xs))) st = some xs := rfl
@[simp] theorem lstS_ref (n : Nat) (st : Sto) : lstS (some (.val (.ref n))) st = stL st n := rfl
@[simp] theorem stL_zero (xs : List D) (st : Sto) : stL (.lst xs :: st) 0 = some xs := rfl
def putS (s : Option Sl) (ρ : Ev) (st : Sto) (i : Nat) (ys : List D) : Out := match s with
  | some (.own (.lst _)) => .nx (ρ.set i (.own (.lst ys))) st
  | some (.val (.ref n)) => .nx ρ (st.set n (.lst ys))
  | _ => .stuck
@[simp] theorem putL_eq (ρ : Ev) (st : Sto) (i : Nat) (ys : List D) : putL ρ st i ys = putS ρ[i]? ρ st i ys := rfl
@[simp] theorem putS_own (xs : List D) (ρ : Ev) (st : Sto) (i : Nat) (ys : List D) : putS (some (.own (.lst xs))) ρ st i ys = .nx (ρ.set i (.own (.lst ys))) st := rfl
@[simp] theorem putS_ref (n : Nat) (ρ : Ev) (st : Sto) (i : Nat) (ys : List D) : putS (some (.val (.ref n))) ρ st i ys = .nx ρ (st.set n (.lst ys)) := rfl
@[simp] theorem dIdx_ref (xs : List D) (st : Sto) (i : Int) : dIdx (.lst xs :: st) (.ref 0) (.int i) = atI xs i := rfl
theorem lenOk_of {n : Nat} (h : n ≤ 16777216) : lenOk n = true := decide_eq_true h
theorem appO_own {ρ : Ev} {i : Nat} {xs : List D} {d : D} {st : Sto} (h : ρ[i]? = some (.own (.lst xs))) (hl : xs.length < 16000000) : appO ρ i d st = .nx (ρ.set i (.own (.lst (xs ++ [d])))) st := by
  unfold appO
  rw [listAt_eq, h, lstS_own, listO_some, if_pos (lenOk_of (by omega)), putL_eq, h, putS_own]
theorem setO_of {ρ : Ev} {i : Nat} {st : Sto} {k : Int} {d : D} {xs ys : List D} (h : listAt ρ st i = some xs) (hy : setD xs k d = some ys) : setO ρ i st (.int k) d = putL ρ st i ys := by
  unfold setO; rw [h]; dsimp only; rw [hy]
theorem setD_nat {xs : List D} {k : Nat} {d : D} (h : k < xs.length) : setD xs (k : Int) d = some (xs.set k d) := by
  unfold setD ixN
  simp [h]
end Dp
end SDp29
set_option maxHeartbeats 4000000
set_option autoImplicit false
/-! Dp30: plain values as data. -/
noncomputable section SDp30
namespace Dp
open PySem PySem.Spec PyProof.Rows L2

class Enc (α : Type) (n : outParam Nat) where
  enc : α → D
  flat : ∀ m x, n ≤ m → D.flat m (enc x) = true
  eqv : ∀ x y, D.eqv (enc x) (enc y) = true ↔ x = y
open Enc (enc)
theorem flat_tup {m : Nat} {xs : List D} (h : D.flats m xs = true) : D.flat (m + 1) (.tup xs) = true := by rw [D.flat]; exact h
theorem flats_map {α : Type} {m : Nat} {f : α → D} (h : ∀ x, D.flat m (f x) = true) : ∀ l : List α, D.flats m (l.map f) = true
  | [] => rfl
  | x :: l => by rw [List.map_cons, D.flats, h, flats_map h l]; rfl
theorem eqvs_map {α : Type} {f : α → D} (h : ∀ x y, D.eqv (f x) (f y) = true ↔ x = y) : ∀ l l' : List α, D.eqvs (l.map f) (l'.map f) = true ↔ l = l'
  | [], [] => by simp [D.eqvs]
  | [], _ :: _ => by simp [D.eqvs]
  | _ :: _, [] => by simp [D.eqvs]
  | x :: l, y :: l' => by rw [List.map_cons, List.map_cons, D.eqvs, Bool.and_eq_true, h, eqvs_map h l l']; simp
instance : Enc Int 0 where
  enc i := .int i
  flat m x _ := by cases m <;> rfl
  eqv x y := by simp [D.eqv]
instance : Enc Nat 0 where
  enc i := .int (i : Int)
  flat m x _ := by cases m <;> rfl
  eqv x y := by simp [D.eqv]; omega
instance : Enc Bool 0 where
  enc i := .bl i
  flat m x _ := by cases m <;> rfl
  eqv x y := by simp [D.eqv]
instance {α : Type} {n : Nat} [Enc α n] : Enc (List α) (n + 1) where
  enc l := .tup (l.map enc)
  flat m x h := by
    obtain ⟨k, rfl⟩ : ∃ k, m = k + 1 := ⟨m - 1, by omega⟩
    exact flat_tup (flats_map (fun x => Enc.flat k x (by omega)) x)
  eqv x y := by rw [D.eqv]; exact eqvs_map Enc.eqv x y
instance {α β : Type} {n k : Nat} [Enc α n] [Enc β k] : Enc (α × β) (n + k + 1) where
  enc p := .tup [enc p.1, enc p.2]
  flat m x h := by
    obtain ⟨j, rfl⟩ : ∃ j, m = j + 1 := ⟨m - 1, by omega⟩
    refine flat_tup ?_
    rw [D.flats, D.flats, D.flats, Enc.flat j x.1 (by omega), Enc.flat j x.2 (by omega)]; rfl
  eqv x y := by
    rw [D.eqv, D.eqvs, D.eqvs, D.eqvs]
    simp only [Bool.and_true, Bool.and_eq_true, Enc.eqv]
    exact ⟨fun h => Prod.ext h.1 h.2, fun h => by subst h; exact ⟨rfl, rfl⟩⟩
instance : Enc Rat 1 where
  enc q := .tup [.int q.num, .int q.den]
  flat m x h := by
    obtain ⟨j, rfl⟩ : ∃ j, m = j + 1 := ⟨m - 1, by omega⟩
    refine flat_tup ?_
    cases j <;> rfl
  eqv x y := by
    rw [D.eqv, D.eqvs, D.eqvs, D.eqvs, D.eqv, D.eqv]
    simp only [Bool.and_true, Bool.and_eq_true, beq_iff_eq]
    exact ⟨fun h => Rat.ext h.1 (by omega), fun h => by subst h; exact ⟨rfl, rfl⟩⟩
instance {α β : Type} {n k : Nat} [Enc α n] [Enc β k] : Enc (Option (α × β)) (n + k + 1) where
  enc p := match p with
    | none => .non
    | some p => enc p
  flat m x h := by
    cases x with
    | none => cases m <;> rfl
    | some p => exact Enc.flat m p h
  eqv x y := by
    cases x with
    | none => cases y with
      | none => simp [D.eqv]
      | some q => simp [D.eqv, enc]
    | some p => cases y with
      | none => simp [D.eqv, enc]
      | some q => rw [Option.some_inj]; exact Enc.eqv p q
section
variable {α β : Type} {n k : Nat} [Enc α n] [Enc β k] (st : Sto)
theorem enc_list (l : List α) : enc l = D.tup (l.map enc) := rfl
theorem enc_pair (a : α) (b : β) : enc (a, b) = D.tup [enc a, enc b] := rfl
theorem enc_rat (q : Rat) : enc q = D.tup [.int q.num, .int q.den] := rfl
theorem enc_int (q : Int) : enc q = D.int q := rfl
theorem enc_nat (q : Nat) : enc q = D.int q := rfl
theorem enc_none : enc (none : Option (α × β)) = D.non := rfl
theorem enc_some (p : α × β) : enc (some p) = enc p := rfl
@[simp] theorem fold_tup (l : List α) : D.tup (l.map enc) = enc l := rfl
@[simp] theorem fold_tup' {γ : Type} (g : γ → α) (l : List γ) : D.tup (l.map fun x => enc (g x)) = enc (l.map g) := by rw [enc_list, List.map_map]; rfl
theorem dEq_enc [DecidableEq α] (x y : α) (h : n ≤ 60) : dEq (enc x) (enc y) = some (decide (x = y)) := by
  unfold dEq
  rw [Enc.flat 60 x h, Enc.flat 60 y h, Bool.and_self, if_pos rfl]
  congr 1
  cases hb : D.eqv (enc x) (enc y) with
  | true => exact (decide_eq_true ((Enc.eqv x y).mp hb)).symm
  | false =>
    refine (decide_eq_false fun e => ?_).symm
    rw [(Enc.eqv x y).mpr e] at hb; cases hb
theorem dEq_lst [DecidableEq α] (l l' : List α) (h : n + 1 ≤ 60) : dEq (.lst (l.map enc)) (.lst (l'.map enc)) = some (decide (l = l')) := by
  have e : ∀ l : List α, D.flat 60 (.lst (l.map enc)) = true := fun l => by rw [D.flat]; exact flats_map (fun x => Enc.flat 59 x (by omega)) l
  unfold dEq
  rw [e, e, Bool.and_self, if_pos rfl, D.eqv]
  congr 1
  cases hb : D.eqvs (l.map enc) (l'.map enc) with
  | true => exact (decide_eq_true ((eqvs_map Enc.eqv l l').mp hb)).symm
  | false =>
    refine (decide_eq_false fun e => ?_).symm
    rw [(eqvs_map Enc.eqv l l').mpr e] at hb; cases hb
@[simp] theorem items_enc (l : List α) : items (enc l) = some (l.map enc) := rfl
@[simp] theorem dIdx_enc (l : List α) (i : Int) : dIdx st (enc l) (.int i) = (atI l i).map enc := by
  show atI (l.map enc) i = _
  unfold atI
  rw [List.length_map]
  cases ixN l.length i with
  | none => rfl
  | some j => simp
@[simp] theorem dIdx_fst (q : Rat) : dIdx st (enc q) (.int 0) = some (.int q.num) := rfl
@[simp] theorem dIdx_snd (q : Rat) : dIdx st (enc q) (.int 1) = some (.int q.den) := rfl
@[simp] theorem dIdx_pair1 (a : α) (b : β) : dIdx st (enc (a, b)) (.int 0) = some (enc a) := rfl
@[simp] theorem dIdx_pair2 (a : α) (b : β) : dIdx st (enc (a, b)) (.int 1) = some (enc b) := rfl
@[simp] theorem len_enc (l : List α) : dBi st .len [enc l] = some (.int l.length) := by show some (D.int (l.map enc).length) = _; rw [List.length_map]
@[simp] theorem len_rat (q : Rat) : dBi st .len [enc q] = some (.int 2) := rfl
@[simp] theorem lenR_enc (P : Prog) (R : String → List D → Sto → Res D) (l : List α) : lenR P R (enc l) st = .ok (.int l.length) st := by show Res.ok (D.int (l.map enc).length) st = _; rw [List.length_map]
@[simp] theorem mcls_enc (l : List α) : mcls st (enc l) = none := rfl
@[simp] theorem mcls_rat (l : Rat) : mcls st (enc l) = none := rfl
@[simp] theorem ocmpR_enc (P : Prog) (R : String → List D → Sto → Res D) (op : Cop) (l : List α) (y : D) : ocmpR P R op (enc l) y st = liftB (dCmp op (enc l) y) st := ocmpR_none _ _ _ _ _ _ rfl
@[simp] theorem ocmpR_rat (P : Prog) (R : String → List D → Sto → Res D) (op : Cop) (l : Rat) (y : D) : ocmpR P R op (enc l) y st = liftB (dCmp op (enc l) y) st := ocmpR_none _ _ _ _ _ _ rfl
@[simp] theorem dRev_enc (l : List α) : dRev (enc l) = some (enc l.reverse) := by show some (D.tup (l.map enc).reverse) = _; rw [← List.map_reverse]; rfl
theorem cutD_map {γ δ : Type} (f : γ → δ) (l : List γ) (a b : Option Int) : cutD (l.map f) a b = (cutD l a b).map f := by unfold cutD; rw [List.length_map, List.map_take, List.map_drop]
@[simp] theorem dSlc_enc (l : List α) (a b : Option Int) : dSlc (enc l) a b = some (enc (cutD l a b)) := by show some (D.tup (cutD (l.map enc) a b)) = _; rw [cutD_map]; rfl
theorem dAdd_enc (l l' : List α) (h : lenOk (l.length + l'.length) = true) : dBin .add (enc l) (enc l') = some (enc (l ++ l')) := by
  show (if lenOk ((l.map enc).length + (l'.map enc).length) then some (D.tup (l.map enc ++ l'.map enc)) else none) = _
  rw [List.length_map, List.length_map, if_pos h, ← List.map_append]; rfl
@[simp] theorem bi_tup_enc (l : List α) : dBi st .tuple [enc l] = some (enc l) := rfl
@[simp] theorem bi_tup_rat (l : Rat) : dBi st .tuple [enc l] = some (enc l) := rfl
@[simp] theorem bi_lst_enc (l : List α) : dBi st .list [enc l] = some (.lst (l.map enc)) := rfl
@[simp] theorem dIsi_enc (l : List α) (c : Ty) : dIsi st (enc l) c = some (c == .tuple) := rfl
@[simp] theorem dIsi_rat (l : Rat) (c : Ty) : dIsi st (enc l) c = some (c == .tuple) := rfl
@[simp] theorem isNon_enc (l : List α) : isNon (enc l) = false := rfl
@[simp] theorem isNon_rat (l : Rat) : isNon (enc l) = false := rfl
end

/-! comprehensions, loops -/
section
variable {α : Type}
theorem compR_map {f : D → Sto → Res (Option D)} (e : α → D) (g : α → D) (l : List α) (st : Sto) (h : ∀ x ∈ l, f (e x) st = .ok (some (g x)) st) : compR f (l.map e) st = .ok (l.map g) st := by
  induction l with
  | nil => rfl
  | cons x l ih =>
    rw [List.map_cons, compR, h x (by simp)]
    dsimp only
    rw [ih fun y hy => h y (by simp [hy])]
    rfl
theorem compR_filter {f : D → Sto → Res (Option D)} (e : α → D) (p : α → Bool) (g : α → D) (l : List α) (st : Sto) (h : ∀ x ∈ l, f (e x) st = .ok (if p x then some (g x) else none) st) : compR f (l.map e) st = .ok ((l.filter p).map g) st := by
  induction l with
  | nil => rfl
  | cons x l ih =>
    rw [List.map_cons, compR, h x (by simp)]
    dsimp only
    rw [ih fun y hy => h y (by simp [hy]), List.filter_cons]
    cases p x <;> rfl
/-- a comprehension whose steps change the store -/
theorem compR_inv {f : D → Sto → Res (Option D)} (I : Sto → Prop) (e : α → D) {β : Type} (g : β → D) (Q : α → β → Prop) (l : List α) (st : Sto) (h0 : I st) (h : ∀ x ∈ l, ∀ s, I s → ∃ y s', f (e x) s = .ok (some (g y)) s' ∧ I s' ∧ Q x y) :
    ∃ (ys : List β) (st' : Sto), compR f (l.map e) st = .ok (ys.map g) st' ∧ I st' ∧ ys.length = l.length ∧ ∀ p ∈ l.zip ys, Q p.1 p.2 := by
  induction l generalizing st with
  | nil => exact ⟨[], st, rfl, h0, rfl, by simp⟩
  | cons x l ih =>
    obtain ⟨y, s1, e1, i1, q1⟩ := h x (by simp) st h0
    obtain ⟨ys, s2, e2, i2, l2, q2⟩ := ih s1 i1 fun z hz => h z (by simp [hz])
    refine ⟨y :: ys, s2, ?_, i2, by simp [l2], fun p hp => ?_⟩
    · rw [List.map_cons, compR, e1]
      dsimp only
      rw [e2]
      rfl
    · rcases List.mem_cons.mp hp with rfl | hp
      · exact q1
      · exact q2 p hp
theorem forR_inv {f : D → Ev → Sto → Out} (I : Ev → Sto → Prop) (e : α → D) (l : List α) {ρ : Ev} {st : Sto} (h0 : I ρ st) (h : ∀ x ∈ l, ∀ ρ s, I ρ s → ∃ ρ' s', f (e x) ρ s = .nx ρ' s' ∧ I ρ' s') :
    ∃ ρ' s', forR f (l.map e) ρ st = .nx ρ' s' ∧ I ρ' s' := by
  induction l generalizing ρ st with
  | nil => exact ⟨ρ, st, rfl, h0⟩
  | cons x l ih =>
    obtain ⟨ρ1, s1, e1, i1⟩ := h x (by simp) ρ st h0
    obtain ⟨ρ2, s2, e2, i2⟩ := ih i1 fun z hz => h z (by simp [hz])
    refine ⟨ρ2, s2, ?_, i2⟩
    rw [List.map_cons, forR, e1]
    exact e2
/-- a loop, by what has been walked -/
theorem forR_ix {f : D → Ev → Sto → Out} (I : List α → Ev → Sto → Prop) (e : α → D) (l : List α) {ρ : Ev} {st : Sto} (h0 : I [] ρ st) (h : ∀ a x b, l = a ++ x :: b → ∀ ρ s, I a ρ s → ∃ ρ' s', f (e x) ρ s = .nx ρ' s' ∧ I (a ++ [x]) ρ' s') :
    ∃ ρ' s', forR f (l.map e) ρ st = .nx ρ' s' ∧ I l ρ' s' := by
  have key : ∀ (r a : List α) (ρ : Ev) (st : Sto), l = a ++ r → I a ρ st → ∃ ρ' s', forR f (r.map e) ρ st = .nx ρ' s' ∧ I l ρ' s' := by
    intro r
    induction r with
    | nil => intro a ρ st hl hI; rw [List.append_nil] at hl; subst hl; exact ⟨ρ, st, rfl, hI⟩
    | cons x r ih =>
      intro a ρ st hl hI
      obtain ⟨ρ1, s1, e1, i1⟩ := h a x r hl ρ st hI
      obtain ⟨ρ2, s2, e2, i2⟩ := ih (a ++ [x]) ρ1 s1 (by rw [hl]; simp) i1
      refine ⟨ρ2, s2, ?_, i2⟩
      rw [List.map_cons, forR, e1]
      exact e2
  exact key l [] ρ st rfl h0
theorem rng_one (n : Nat) (h : n ≤ 1000000) : rng [.int (n : Int)] = some ((List.range n).map (enc (α := Nat))) := by
  unfold rng
  dsimp only
  rw [if_pos (by unfold smallI; simp; omega)]
  unfold rangeD
  congr 1
  rw [Int.toNat_natCast]
  refine List.map_congr_left fun k _ => ?_
  show D.int (0 + (k : Int)) = D.int k
  rw [Int.zero_add]
theorem rng_two (a b : Nat) (ha : a ≤ 1000000) (h : b ≤ 1000000) : rng [.int (a : Int), .int (b : Int)] = some ((List.range' a (b - a)).map (enc (α := Nat))) := by
  unfold rng
  dsimp only
  rw [if_pos (by unfold smallI; simp; omega)]
  unfold rangeD
  congr 1
  rw [List.range'_eq_map_range, List.map_map, show ((b : Int) - a).toNat = b - a by omega]
  refine List.map_congr_left fun k _ => ?_
  show D.int ((a : Int) + (k : Int)) = D.int ((a + k : Nat) : Int)
  rw [Int.natCast_add]
theorem enumD_map (e : α → D) (l : List α) : enumD (l.map e) = l.zipIdx.map fun p => D.tup [.int (p.2 : Int), e p.1] := by
  unfold enumD
  rw [List.length_map]
  apply List.ext_getElem
  · simp
  · intro i h1 h2
    simp
theorem zipD_map {β : Type} (e : α → D) (e' : β → D) (l : List α) (l' : List β) : zipD (l.map e) (l'.map e') = (l.zip l').map fun p => D.tup [e p.1, e' p.2] := by
  unfold zipD
  rw [List.zipWith_map, List.zip, List.map_zipWith]
theorem allB_map (p : α → Bool) (l : List α) : allB (l.map fun x => D.bl (p x)) = some (l.all p) := by
  induction l with
  | nil => rfl
  | cons x l ih => rw [List.map_cons, allB, ih]; rfl
theorem anyB_map (p : α → Bool) (l : List α) : anyB (l.map fun x => D.bl (p x)) = some (l.any p) := by
  induction l with
  | nil => rfl
  | cons x l ih => rw [List.map_cons, anyB, ih]; rfl
end
section
variable (P : Prog) (R : String → List D → Sto → Res D)
@[simp] theorem bindT_one (i : Nat) (d : D) (ρ : Ev) : bindT (.one i) d ρ = some (ρ.set i (.val d)) := rfl
theorem bindT_many (is : List Nat) (ds : List D) (ρ : Ev) (h : is.length = ds.length) : bindT (.many is) (.tup ds) ρ = some ((is.zip ds).foldl (fun ρ p => ρ.set p.1 (.val p.2)) ρ) := by
  unfold bindT; dsimp only; rw [if_pos h]
@[simp] theorem bindT_two (i j : Nat) (a b : D) (ρ : Ev) : bindT (.many [i, j]) (.tup [a, b]) ρ = some ((ρ.set i (.val a)).set j (.val b)) := rfl
@[simp] theorem bindT_three (i j k : Nat) (a b c : D) (ρ : Ev) : bindT (.many [i, j, k]) (.tup [a, b, c]) ρ = some (((ρ.set i (.val a)).set j (.val b)).set k (.val c)) := rfl
@[simp] theorem bindT_four (i j k l : Nat) (a b c d : D) (ρ : Ev) : bindT (.many [i, j, k, l]) (.tup [a, b, c, d]) ρ = some ((((ρ.set i (.val a)).set j (.val b)).set k (.val c)).set l (.val d)) := rfl
@[simp] theorem cStep_one (i : Nat) (cond : Option Tm) (e : Tm) (ρ : Ev) (x : D) (s : Sto) : cStep P R (.one i) cond e ρ x s = (evC P R cond (ρ.set i (.val x)) s).bind (kCst P R e (ρ.set i (.val x))) := by
  unfold cStep wipeT
  rw [bindT_one, List.set_set]
  rfl
@[simp] theorem cStep_two (i j : Nat) (cond : Option Tm) (e : Tm) (ρ : Ev) (x y : D) (s : Sto) : cStep P R (.many [i, j]) cond e ρ (.tup [x, y]) s = (evC P R cond ((((ρ.set i .no).set j .no).set i (.val x)).set j (.val y)) s).bind (kCst P R e ((((ρ.set i .no).set j .no).set i (.val x)).set j (.val y))) := rfl
@[simp] theorem lStep_one (i : Nat) (b : List Sm) (x : D) (ρ : Ev) (st : Sto) : lStep P R (.one i) b x ρ st = evSs P R b (ρ.set i (.val x)) st := rfl
@[simp] theorem lStep_two (i j : Nat) (b : List Sm) (x y : D) (ρ : Ev) (st : Sto) : lStep P R (.many [i, j]) b (.tup [x, y]) ρ st = evSs P R b ((ρ.set i (.val x)).set j (.val y)) st := rfl
@[simp] theorem lStep_three (i j k : Nat) (b : List Sm) (x y z : D) (ρ : Ev) (st : Sto) : lStep P R (.many [i, j, k]) b (.tup [x, y, z]) ρ st = evSs P R b (((ρ.set i (.val x)).set j (.val y)).set k (.val z)) st := rfl
end

/-! sizes of fractions -/
def Sz (k : Nat) (q : Rat) : Prop := q.num.natAbs < 2 ^ k ∧ q.den < 2 ^ k
theorem Sz.mono {j k : Nat} {q : Rat} (h : Sz j q) (l : j ≤ k) : Sz k q := ⟨Nat.lt_of_lt_of_le h.1 (Nat.pow_le_pow_right (by decide) l), Nat.lt_of_lt_of_le h.2 (Nat.pow_le_pow_right (by decide) l)⟩
theorem log2_lt {k n : Nat} (h : n < 2 ^ k) (hk : 0 < k) : n.log2 < k := by
  by_cases hn : n = 0
  · subst hn; simpa using hk
  · exact (Nat.log2_lt hn).mpr h
theorem mulOk_of {j k : Nat} {a b : Int} (ha : a.natAbs < 2 ^ j) (hb : b.natAbs < 2 ^ k) (h : j + k ≤ 100000) : mulOk a b = true := by
  unfold mulOk
  have h1 : a.natAbs.log2 < j + 1 := log2_lt (Nat.lt_of_lt_of_le ha (Nat.pow_le_pow_right (by decide) (by omega))) (by omega)
  have h2 : b.natAbs.log2 < k + 1 := log2_lt (Nat.lt_of_lt_of_le hb (Nat.pow_le_pow_right (by decide) (by omega))) (by omega)
  exact decide_eq_true (by omega)
theorem divInt_sz {k : Nat} {a b : Int} (hb : b ≠ 0) (h1 : a.natAbs < 2 ^ k) (h2 : b.natAbs < 2 ^ k) : Sz k (Rat.divInt a b) := by
  constructor
  · rw [Rat.num_divInt]
    refine Nat.lt_of_le_of_lt ?_ h1
    rw [Int.natAbs_ediv_of_dvd]
    · refine Nat.le_trans (Nat.div_le_self _ _) ?_
      rw [Int.natAbs_mul]
      have : b.sign.natAbs ≤ 1 := by
        rcases Int.lt_trichotomy b 0 with h | h | h
        · rw [Int.sign_eq_neg_one_of_neg h]; decide
        · rw [h]; decide
        · rw [Int.sign_eq_one_of_pos h]; decide
      calc b.sign.natAbs * a.natAbs ≤ 1 * a.natAbs := Nat.mul_le_mul_right _ this
        _ = a.natAbs := Nat.one_mul _
    · exact Int.dvd_mul_of_dvd_right (Int.gcd_dvd_right ..)
  · rw [Rat.den_divInt, if_neg hb]
    exact Nat.lt_of_le_of_lt (Nat.div_le_self _ _) h2
theorem nat_mul_lt {a b j k : Nat} (ha : a < 2 ^ j) (hb : b < 2 ^ k) : a * b < 2 ^ (j + k) := by
  rw [Nat.pow_add]
  calc a * b ≤ a * 2 ^ k := Nat.mul_le_mul_left _ (Nat.le_of_lt hb)
    _ < 2 ^ j * 2 ^ k := Nat.mul_lt_mul_of_pos_right ha (Nat.pow_pos (by decide))
theorem rat_add_eq (a b : Rat) : a + b = Rat.divInt (a.num * b.den + b.num * a.den) ((a.den : Int) * b.den) := by
  rw [Rat.add_def', ← Int.natCast_mul, Rat.divInt_ofNat]
theorem rat_sub_eq (a b : Rat) : a - b = Rat.divInt (a.num * b.den - b.num * a.den) ((a.den : Int) * b.den) := by
  rw [Rat.sub_def', ← Int.natCast_mul, Rat.divInt_ofNat]
theorem rat_mul_eq (a b : Rat) : a * b = Rat.divInt (a.num * b.num) ((a.den : Int) * b.den) := by
  rw [Rat.mul_def', ← Int.natCast_mul, Rat.divInt_ofNat]
theorem rat_div_eq (a b : Rat) : a / b = Rat.divInt (a.num * b.den) ((a.den : Int) * b.num) := by
  rw [Rat.div_def, Rat.inv_def]
  conv => lhs; rw [← Rat.num_divInt_den a]
  rw [Rat.divInt_mul_divInt]
theorem den_ne (a : Rat) : (a.den : Int) ≠ 0 := by have := a.den_pos; omega
theorem Sz.add {j k : Nat} {a b : Rat} (ha : Sz j a) (hb : Sz k b) : Sz (j + k + 1) (a + b) := by
  rw [rat_add_eq]
  refine divInt_sz (Int.mul_ne_zero (den_ne a) (den_ne b)) ?_ ?_
  · refine Nat.lt_of_le_of_lt (Int.natAbs_add_le _ _) ?_
    rw [Int.natAbs_mul, Int.natAbs_mul, Int.natAbs_natCast, Int.natAbs_natCast]
    have h1 := nat_mul_lt ha.1 hb.2
    have h2 := nat_mul_lt hb.1 ha.2
    rw [Nat.add_comm k j] at h2
    rw [Nat.pow_succ]
    omega
  · rw [Int.natAbs_mul, Int.natAbs_natCast, Int.natAbs_natCast]
    exact Nat.lt_of_lt_of_le (nat_mul_lt ha.2 hb.2) (Nat.pow_le_pow_right (by decide) (by omega))
theorem Sz.sub {j k : Nat} {a b : Rat} (ha : Sz j a) (hb : Sz k b) : Sz (j + k + 1) (a - b) := by
  rw [Rat.sub_eq_add_neg]
  exact ha.add ⟨by rw [Rat.neg_num, Int.natAbs_neg]; exact hb.1, by rw [Rat.neg_den]; exact hb.2⟩
theorem Sz.mul {j k : Nat} {a b : Rat} (ha : Sz j a) (hb : Sz k b) : Sz (j + k) (a * b) := by
  rw [rat_mul_eq]
  refine divInt_sz (Int.mul_ne_zero (den_ne a) (den_ne b)) ?_ ?_
  · rw [Int.natAbs_mul]; exact nat_mul_lt ha.1 hb.1
  · rw [Int.natAbs_mul, Int.natAbs_natCast, Int.natAbs_natCast]; exact nat_mul_lt ha.2 hb.2
theorem Sz.div {j k : Nat} {a b : Rat} (ha : Sz j a) (hb : Sz k b) (h0 : b ≠ 0) : Sz (j + k) (a / b) := by
  rw [rat_div_eq]
  refine divInt_sz (Int.mul_ne_zero (den_ne a) (fun z => h0 (Rat.num_eq_zero.mp z))) ?_ ?_
  · rw [Int.natAbs_mul, Int.natAbs_natCast]; exact nat_mul_lt ha.1 hb.2
  · rw [Int.natAbs_mul, Int.natAbs_natCast]; exact nat_mul_lt ha.2 hb.1
/-- sums, products of rows -/
def tot (l : List Rat) : Rat := l.foldl (· + ·) 0
def dot (a b : List Rat) : Rat := tot (a.zipWith (· * ·) b)
theorem foldl_sz {k : Nat} : ∀ (l : List Rat) (j : Nat) (a : Rat), Sz j a → (∀ q ∈ l, Sz k q) → Sz (j + l.length * (k + 1)) (l.foldl (· + ·) a)
  | [], j, a, h, _ => by simpa using h
  | q :: l, j, a, h, hq => by
    have := foldl_sz l (j + k + 1) (a + q) (h.add (hq q (by simp))) fun x hx => hq x (by simp [hx])
    refine this.mono ?_
    rw [List.length_cons, Nat.add_mul]
    omega
theorem tot_snoc (a : List Rat) (q : Rat) : tot (a ++ [q]) = tot a + q := by simp [tot]
theorem zero_sz : Sz 1 0 := by constructor <;> decide
theorem one_sz : Sz 1 1 := by constructor <;> decide
theorem tot_sz {k : Nat} {l : List Rat} (h : ∀ q ∈ l, Sz k q) : Sz (1 + l.length * (k + 1)) (tot l) := foldl_sz l 1 0 zero_sz h
/-- a list or a tuple -/
inductive IsSeq : D → List D → Prop
  | lst (xs : List D) : IsSeq (.lst xs) xs
  | tup (xs : List D) : IsSeq (.tup xs) xs
theorem IsSeq.items {d : D} {xs : List D} (h : IsSeq d xs) : items d = some xs := by cases h <;> rfl
theorem IsSeq.len {d : D} {xs : List D} (h : IsSeq d xs) (st : Sto) : dBi st .len [d] = some (.int xs.length) := by cases h <;> rfl
theorem IsSeq.tuple {d : D} {xs : List D} (h : IsSeq d xs) (st : Sto) : dBi st .tuple [d] = some (.tup xs) := by cases h <;> rfl
theorem IsSeq.list {d : D} {xs : List D} (h : IsSeq d xs) (st : Sto) : dBi st .list [d] = some (.lst xs) := by cases h <;> rfl
theorem IsSeq.enc {α : Type} {n : Nat} [Enc α n] (l : List α) : IsSeq (Enc.enc l) (l.map Enc.enc) := .tup _
theorem IsSeq.lm {α : Type} (f : α → Rat) (l : List α) : IsSeq (.lst (l.map fun x => Enc.enc (f x))) ((l.map f).map Enc.enc) := by rw [List.map_map]; exact .lst _
/-- rows of fractions, each a list or a tuple -/
inductive IsRows : List D → List (List Rat) → Prop
  | nil : IsRows [] []
  | cons {d : D} {l : List Rat} {ds : List D} {t : List (List Rat)} : IsSeq d (l.map enc) → IsRows ds t → IsRows (d :: ds) (l :: t)
theorem IsRows.map {α : Type} {f : α → D} {g : α → List Rat} (h : ∀ x, IsSeq (f x) ((g x).map enc)) : ∀ l : List α, IsRows (l.map f) (l.map g)
  | [] => .nil
  | x :: l => .cons (h x) (IsRows.map h l)
theorem IsRows.length {ds : List D} {t : List (List Rat)} (h : IsRows ds t) : ds.length = t.length := by
  induction h with
  | nil => rfl
  | cons _ _ ih => simp [ih]
theorem IsRows.zip {ds : List D} {t : List (List Rat)} (h : IsRows ds t) : ds = (ds.zip t).map (·.1) ∧ t = (ds.zip t).map (·.2) ∧ ∀ p ∈ ds.zip t, IsSeq p.1 (p.2.map enc) := by
  induction h with
  | nil => simp
  | @cons d l ds t h0 h1 ih =>
    obtain ⟨a, b, c⟩ := ih
    refine ⟨by rw [List.zip_cons_cons, List.map_cons, ← a], by rw [List.zip_cons_cons, List.map_cons, ← b], fun p hp => ?_⟩
    rw [List.zip_cons_cons] at hp
    rcases List.mem_cons.mp hp with rfl | hp
    · exact h0
    · exact c p hp
theorem IsRows.enc (t : List (List Rat)) : IsRows (t.map Enc.enc) t := by
  induction t with
  | nil => exact .nil
  | cons l t ih => exact .cons (.enc l) ih
def tbl (w : Nat) (t : List (List Rat)) : D := .obj "Table" [.int (w : Int), enc t]
/-! rows, columns -/
def pc (l : List Rat) (k : Nat) : Rat := l.getD k 0
def ro (t : List (List Rat)) (k : Nat) : List Rat := t.getD k []
def col (t : List (List Rat)) (k : Nat) : List Rat := t.map fun l => pc l k
theorem pc_get {l : List Rat} {k : Nat} (h : k < l.length) : l[k]? = some (pc l k) := by unfold pc; simp [h]
theorem ro_get {t : List (List Rat)} {k : Nat} (h : k < t.length) : t[k]? = some (ro t k) := by unfold ro; simp [h]
theorem pc_mem {l : List Rat} {k : Nat} (h : k < l.length) : pc l k ∈ l := List.mem_of_getElem? (pc_get h)
theorem ro_mem {t : List (List Rat)} {k : Nat} (h : k < t.length) : ro t k ∈ t := List.mem_of_getElem? (ro_get h)
theorem at_pc {l : List Rat} {k : Nat} (h : k < l.length) : atI l (k : Int) = some (pc l k) := by rw [atI_nat, pc_get h]
theorem at_ro {t : List (List Rat)} {k : Nat} (h : k < t.length) : atI t (k : Int) = some (ro t k) := by rw [atI_nat, ro_get h]
@[simp] theorem col_length (t : List (List Rat)) (k : Nat) : (col t k).length = t.length := by simp [col]
/-- a table's rows: so many, all as long -/
structure Tw (w : Nat) (t : List (List Rat)) : Prop where
  w1 : 1 ≤ w
  w2 : w ≤ 24
  h1 : 1 ≤ t.length
  h2 : t.length ≤ 24
  ln : ∀ l ∈ t, l.length = w
/-- all entries small -/
def Szt (k : Nat) (t : List (List Rat)) : Prop := ∀ l ∈ t, ∀ q ∈ l, Sz k q
theorem Szt.col {k : Nat} {w : Nat} {t : List (List Rat)} (h : Szt k t) (hw : ∀ l ∈ t, l.length = w) {j : Nat} (hj : j < w) : ∀ q ∈ Dp.col t j, Sz k q := by
  intro q hq
  obtain ⟨l, hl, rfl⟩ := List.mem_map.mp hq
  exact h l hl _ (pc_mem (by rw [hw l hl]; exact hj))
theorem Tw.len {w : Nat} {t : List (List Rat)} (h : Tw w t) {k : Nat} (hk : k < t.length) : (ro t k).length = w := h.ln _ (ro_mem hk)
def turn (w : Nat) (t : List (List Rat)) : List (List Rat) := (List.range w).map (col t)
def mirr (t : List (List Rat)) : List (List Rat) := t.reverse.map List.reverse
def after (w : Nat) (t u : List (List Rat)) : List (List Rat) := u.map fun r => (List.range w).map fun k => dot r (col t k)
def mad (t : List (List Rat)) (p : List Rat) : List Rat := t.map fun l => dot l p
def addT (t u : List (List Rat)) : List (List Rat) := t.zipWith (fun a b => a.zipWith (· + ·) b) u
def sclT (q : Rat) (t : List (List Rat)) : List (List Rat) := t.map fun l => l.map (q * ·)
theorem Tw.turn {w : Nat} {t : List (List Rat)} (h : Tw w t) : Tw t.length (Dp.turn w t) where
  w1 := h.h1
  w2 := h.h2
  h1 := by simp [Dp.turn, h.w1]
  h2 := by simp [Dp.turn, h.w2]
  ln := fun l hl => by
    obtain ⟨k, _, rfl⟩ := List.mem_map.mp hl
    simp
theorem Tw.mirr {w : Nat} {t : List (List Rat)} (h : Tw w t) : Tw w (Dp.mirr t) where
  w1 := h.w1
  w2 := h.w2
  h1 := by simp [Dp.mirr, h.h1]
  h2 := by simp [Dp.mirr, h.h2]
  ln := fun l hl => by
    obtain ⟨k, hk, rfl⟩ := List.mem_map.mp hl
    simp [h.ln k (List.mem_reverse.mp hk)]
theorem Tw.after {w v : Nat} {t u : List (List Rat)} (h : Tw w t) (h' : Tw v u) : Tw w (Dp.after w t u) where
  w1 := h.w1
  w2 := h.w2
  h1 := by simp [Dp.after, h'.h1]
  h2 := by simp [Dp.after, h'.h2]
  ln := fun l hl => by
    obtain ⟨k, _, rfl⟩ := List.mem_map.mp hl
    simp
theorem Tw.addT {w : Nat} {t u : List (List Rat)} (h : Tw w t) (h' : Tw w u) (he : t.length = u.length) : Tw w (Dp.addT t u) where
  w1 := h.w1
  w2 := h.w2
  h1 := by simp [Dp.addT, he, h'.h1]
  h2 := by simp [Dp.addT, he, h'.h2]
  ln := fun l hl => by
    unfold Dp.addT at hl
    rw [← List.map_uncurry_zip_eq_zipWith] at hl
    obtain ⟨p, hp, rfl⟩ := List.mem_map.mp hl
    have := h.ln _ (List.of_mem_zip hp).1
    have := h'.ln _ (List.of_mem_zip hp).2
    simp [Function.uncurry, *]
theorem Tw.sclT {w : Nat} {t : List (List Rat)} (h : Tw w t) (q : Rat) : Tw w (Dp.sclT q t) where
  w1 := h.w1
  w2 := h.w2
  h1 := by simp [Dp.sclT, h.h1]
  h2 := by simp [Dp.sclT, h.h2]
  ln := fun l hl => by
    obtain ⟨k, hk, rfl⟩ := List.mem_map.mp hl
    simp [h.ln k hk]
theorem Tw.cut {w : Nat} {t : List (List Rat)} (h : Tw w t) {a b : Nat} (h1 : a < b) (h2 : b ≤ t.length) : Tw w ((t.drop a).take (b - a)) where
  w1 := h.w1
  w2 := h.w2
  h1 := by simp; omega
  h2 := by have := h.h2; simp; omega
  ln := fun l hl => h.ln l (List.mem_of_mem_drop (List.mem_of_mem_take hl))
theorem dot_sz {j k : Nat} {a b : List Rat} (ha : ∀ q ∈ a, Sz j q) (hb : ∀ q ∈ b, Sz k q) : Sz (1 + a.length * (j + k + 1)) (dot a b) := by
  refine (tot_sz (k := j + k) ?_).mono ?_
  · intro q hq
    rw [← List.map_uncurry_zip_eq_zipWith] at hq
    obtain ⟨p, hp, rfl⟩ := List.mem_map.mp hq
    exact (ha _ (List.of_mem_zip hp).1).mul (hb _ (List.of_mem_zip hp).2)
  · have : (a.zipWith (· * ·) b).length ≤ a.length := by rw [List.length_zipWith]; omega
    have := Nat.mul_le_mul_right (j + k + 1) this
    omega
section
variable (st : Sto) (w : Nat) (t : List (List Rat))
@[simp] theorem mcls_tbl : mcls st (tbl w t) = some "Table" := rfl
@[simp] theorem dIsi_tbl (c : Ty) : dIsi st (tbl w t) c = some (c == .cls "Table") := rfl
@[simp] theorem okRhs_tbl : okRhs (tbl w t) = true := rfl
@[simp] theorem okRhs_enc {α : Type} {n : Nat} [Enc α n] (l : List α) : okRhs (enc l) = true := rfl
end
theorem enumD_pc (e : Rat → D) (l : List Rat) : enumD (l.map e) = (List.range l.length).map fun (k : Nat) => D.tup [.int (k : Int), e (pc l k)] := by
  unfold enumD
  rw [List.length_map]
  apply List.ext_getElem
  · simp
  · intro i h1 h2
    simp at h1
    simp [pc, h1]
theorem enumD_ro (e : List Rat → D) (l : List (List Rat)) : enumD (l.map e) = (List.range l.length).map fun (k : Nat) => D.tup [.int (k : Int), e (ro l k)] := by
  unfold enumD
  rw [List.length_map]
  apply List.ext_getElem
  · simp
  · intro i h1 h2
    simp at h1
    simp [ro, h1]
theorem cutD_nat {α : Type} (xs : List α) (a b : Nat) (h : a ≤ b) (h2 : b ≤ xs.length) : cutD xs (some (a : Int)) (some (b : Int)) = (xs.drop a).take (b - a) := by
  unfold cutD
  rw [HT.sIx_nat, HT.sIx_nat, Nat.min_eq_left (by omega), Nat.min_eq_left (by omega)]
/-- a loop that may end early -/
theorem forR_find {α : Type} {f : D → Ev → Sto → Out} (I : Ev → Prop) (e : α → D) (g : α → Option D) (l : List α) {ρ : Ev} {st : Sto} (h0 : I ρ)
    (h : ∀ x ∈ l, ∀ ρ, I ρ → (∀ d, g x = some d → f (e x) ρ st = .ret d st) ∧ (g x = none → ∃ ρ', f (e x) ρ st = .nx ρ' st ∧ I ρ')) :
    (∀ d, l.findSome? g = some d → forR f (l.map e) ρ st = .ret d st) ∧ (l.findSome? g = none → ∃ ρ', forR f (l.map e) ρ st = .nx ρ' st ∧ I ρ') := by
  induction l generalizing ρ with
  | nil => exact ⟨fun d z => (by simp at z), fun _ => ⟨ρ, rfl, h0⟩⟩
  | cons x l ih =>
    obtain ⟨a, b⟩ := h x (by simp) ρ h0
    rw [List.findSome?_cons, List.map_cons, forR]
    cases hg : g x with
    | some d =>
      refine ⟨fun d' z => ?_, fun z => (by simp at z)⟩
      simp only [Option.some.injEq] at z
      subst z
      rw [a _ hg]; rfl
    | none =>
      obtain ⟨ρ1, e1, i1⟩ := b hg
      rw [e1]
      exact ih i1 fun y hy => h y (by simp [hy])
def nzp (l : List Rat) : List Nat := (List.range l.length).filter fun k => decide (pc l k ≠ 0)
def rch (l : List Rat) : Nat × Nat := if nzp l = [] then (0, 0) else ((nzp l).getD 0 0, (nzp l).getD ((nzp l).length - 1) 0 + 1)
def unit (w k : Nat) : List Rat := (List.range w).map fun i => if i = k then 1 else 0
def fu (w : Nat) (t u : List (List Rat)) : Option (Nat × Nat) := (List.range t.length).findSome? fun i => ((List.range w).find? fun k => decide (pc (ro t i) k ≠ pc (ro u i) k)).map fun k => (i, k)
def eo : Option Nat → D
  | none => .non
  | some k => .int k
def uo (w : Nat) : Option Nat → List Rat
  | none => unit w w
  | some k => unit w k
@[simp] theorem unit_length (w k : Nat) : (unit w k).length = w := by simp [unit]
@[simp] theorem uo_length (w : Nat) (k : Option Nat) : (uo w k).length = w := by cases k <;> simp [uo]
theorem Tw.units {w : Nat} (h : 1 ≤ w) (h' : w ≤ 24) : Tw w ((List.range w).map (unit w)) where
  w1 := h
  w2 := h'
  h1 := by simp [h]
  h2 := by simp [h']
  ln := fun l hl => by
    obtain ⟨k, _, rfl⟩ := List.mem_map.mp hl
    simp
theorem Tw.uos {w : Nat} (h : 1 ≤ w) (h' : w ≤ 24) (ps : List (Option Nat)) (h1 : 1 ≤ ps.length) (h2 : ps.length ≤ 24) : Tw w (ps.map (uo w)) where
  w1 := h
  w2 := h'
  h1 := by simpa using h1
  h2 := by simpa using h2
  ln := fun l hl => by
    obtain ⟨k, _, rfl⟩ := List.mem_map.mp hl
    simp
theorem enc_zero : enc (0 : Rat) = .tup [.int 0, .int 1] := rfl
theorem enc_one : enc (1 : Rat) = .tup [.int 1, .int 1] := rfl
/-! the drawn row -/
@[simp] theorem atI_lit {α : Type} (xs : List α) (k : Nat) : atI xs (no_index (OfNat.ofNat k : Int)) = xs[(no_index (OfNat.ofNat k) : Nat)]? := atI_nat xs k
@[simp] theorem atI_zero {α : Type} (xs : List α) : atI xs (0 : Int) = xs[0]? := atI_nat xs 0
@[simp] theorem atI_one {α : Type} (xs : List α) : atI xs (1 : Int) = xs[1]? := atI_nat xs 1
def rowS (ns : List Int) (i s r : Int) : Sto := [.lst [.frz (ns.map .int), .int i, .int s, .int r]]
def Rw (ns : List Int) (st : Sto) : Prop := ∃ i s r : Int, st = rowS ns i s r ∧ 0 ≤ i ∧ 0 ≤ s ∧ s < 2147483647 ∧ 0 ≤ r
theorem setO_row (ρ : Ev) (xs : List D) (k : Nat) (d : D) (hk : k < xs.length) : setO (.val (.ref 0) :: ρ) 0 [.lst xs] (.int (k : Int)) d = .nx (.val (.ref 0) :: ρ) [.lst (xs.set k d)] := by
  rw [setO_of (xs := xs) (ys := xs.set k d) (by simp) (by exact setD_nat hk)]
  simp
@[simp] theorem setO_row1 (ρ : Ev) (a b c e d : D) : setO (.val (.ref 0) :: ρ) 0 [.lst [a, b, c, e]] (.int 1) d = .nx (.val (.ref 0) :: ρ) [.lst [a, d, c, e]] := setO_row ρ [a, b, c, e] 1 d (by simp)
@[simp] theorem setO_row2 (ρ : Ev) (a b c e d : D) : setO (.val (.ref 0) :: ρ) 0 [.lst [a, b, c, e]] (.int 2) d = .nx (.val (.ref 0) :: ρ) [.lst [a, b, d, e]] := setO_row ρ [a, b, c, e] 2 d (by simp)
@[simp] theorem setO_row3 (ρ : Ev) (a b c e d : D) : setO (.val (.ref 0) :: ρ) 0 [.lst [a, b, c, e]] (.int 3) d = .nx (.val (.ref 0) :: ρ) [.lst [a, b, c, d]] := setO_row ρ [a, b, c, e] 3 d (by simp)
theorem log2_small {k : Nat} {many : Int} (h0 : 0 < many) (h : many < 2 ^ k) (hk : 0 < k) : many.natAbs.log2 < k := log2_lt (by
  have : (many.natAbs : Int) < ((2 ^ k : Nat) : Int) := by rw [Int.natCast_pow]; show _ < (2 : Int) ^ k; omega
  omega) hk
@[simp] theorem dEq_bl (a b : Bool) : dEq (.bl a) (.bl b) = some (a == b) := rfl
/-- plain data: no long rows -/
inductive Fine : Nat → D → Prop
  | non (n : Nat) : Fine n .non
  | bl (n : Nat) (b : Bool) : Fine n (.bl b)
  | int (n : Nat) (i : Int) : Fine n (.int i)
  | str (n : Nat) (s : List Nat) (h : s.all (· < 0x110000) = true) : Fine n (.str s)
  | tup (n : Nat) (xs : List D) (h : ∀ x ∈ xs, Fine n x) (hl : xs.length ≤ 1000) : Fine (n + 1) (.tup xs)
  | lst (n : Nat) (xs : List D) (h : ∀ x ∈ xs, Fine n x) (hl : xs.length ≤ 1000) : Fine (n + 1) (.lst xs)
theorem Fine.flat {n : Nat} {d : D} (h : Fine n d) : D.flat n d = true := by
  have aux : ∀ (m : Nat) (xs : List D), (∀ x ∈ xs, D.flat m x = true) → D.flats m xs = true := by
    intro m xs
    induction xs with
    | nil => intro _; rfl
    | cons x xs ih => intro h; rw [D.flats, h x (by simp), ih fun y hy => h y (by simp [hy])]; rfl
  induction h with
  | non n => cases n <;> rfl
  | bl n => cases n <;> rfl
  | int n => cases n <;> rfl
  | str n s h => cases n <;> simpa [D.flat] using h
  | tup n xs h hl ih => rw [D.flat]; exact aux _ _ ih
  | lst n xs h hl ih => rw [D.flat]; exact aux _ _ ih
theorem eqv_refl : ∀ (n : Nat) (d : D), D.flat n d = true → D.eqv d d = true
  | n, .non, _ => by rw [D.eqv]
  | n, .bl b, _ => by rw [D.eqv]; simp
  | n, .int i, _ => by rw [D.eqv]; simp
  | n, .str s, _ => by rw [D.eqv]; simp
  | 0, .tup xs, h => by simp [D.flat] at h
  | 0, .lst xs, h => by simp [D.flat] at h
  | n + 1, .tup xs, h => by
    rw [D.eqv]
    rw [D.flat] at h
    have aux : ∀ ys : List D, D.flats n ys = true → D.eqvs ys ys = true := by
      intro ys
      induction ys with
      | nil => intro _; rw [D.eqvs]
      | cons y ys ih =>
        intro hy
        rw [D.flats, Bool.and_eq_true] at hy
        rw [D.eqvs, eqv_refl n y hy.1, ih hy.2]; rfl
    exact aux xs h
  | n + 1, .lst xs, h => by
    rw [D.eqv]
    rw [D.flat] at h
    have aux : ∀ ys : List D, D.flats n ys = true → D.eqvs ys ys = true := by
      intro ys
      induction ys with
      | nil => intro _; rw [D.eqvs]
      | cons y ys ih =>
        intro hy
        rw [D.flats, Bool.and_eq_true] at hy
        rw [D.eqvs, eqv_refl n y hy.1, ih hy.2]; rfl
    exact aux xs h
  | n, .obj _ _, h => by cases n <;> simp [D.flat] at h
  | n, .ref _, h => by cases n <;> simp [D.flat] at h
  | n, .fn _, h => by cases n <;> simp [D.flat] at h
  | n, .frz _, h => by cases n <;> simp [D.flat] at h
theorem dEq_refl {d : D} {n : Nat} (h : Fine n d) (hn : n ≤ 40) : dEq d d = some true := by
  have mono : ∀ {n m : Nat} {d : D}, Fine n d → n ≤ m → D.flat m d = true := by
    intro n m d h
    induction h generalizing m with
    | non n => intro _; cases m <;> rfl
    | bl n => intro _; cases m <;> rfl
    | int n => intro _; cases m <;> rfl
    | str n s h => intro _; cases m <;> simpa [D.flat] using h
    | tup n xs h hl ih =>
      intro hm
      obtain ⟨k, rfl⟩ : ∃ k, m = k + 1 := ⟨m - 1, by omega⟩
      rw [D.flat]
      have aux : ∀ ys : List D, (∀ y ∈ ys, D.flat k y = true) → D.flats k ys = true := by
        intro ys
        induction ys with
        | nil => intro _; rfl
        | cons x xs ih => intro h; rw [D.flats, h x (by simp), ih fun y hy => h y (by simp [hy])]; rfl
      exact aux xs fun y hy => ih y hy (by omega)
    | lst n xs h hl ih =>
      intro hm
      obtain ⟨k, rfl⟩ : ∃ k, m = k + 1 := ⟨m - 1, by omega⟩
      rw [D.flat]
      have aux : ∀ ys : List D, (∀ y ∈ ys, D.flat k y = true) → D.flats k ys = true := by
        intro ys
        induction ys with
        | nil => intro _; rfl
        | cons x xs ih => intro h; rw [D.flats, h x (by simp), ih fun y hy => h y (by simp [hy])]; rfl
      exact aux xs fun y hy => ih y hy (by omega)
  have h60 := mono h (m := 60) (by omega)
  unfold dEq
  rw [h60, Bool.and_self, if_pos rfl, eqv_refl 60 d h60]
theorem Fine.list {α : Type} {n : Nat} [Enc α n] {m : Nat} (l : List α) (h : ∀ x : α, x ∈ l → Fine m (Enc.enc x)) (hl : l.length ≤ 1000) : Fine (m + 1) (Enc.enc l) := by
  rw [enc_list]
  exact .tup m _ (fun x hx => by obtain ⟨y, hy, rfl⟩ := List.mem_map.mp hx; exact h y hy) (by simpa using hl)
theorem Fine.rat (q : Rat) : Fine 1 (Enc.enc q) := .tup 0 _ (fun x hx => by simp at hx; rcases hx with rfl | rfl <;> exact .int _ _) (by simp)
theorem Fine.tab {w : Nat} {t : List (List Rat)} (h : t.length ≤ 24) (hw : ∀ l ∈ t, l.length = w) (h2 : w ≤ 24) : Fine 3 (Enc.enc t) :=
  .list t (fun l hl => .list l (fun q _ => .rat q) (by rw [hw l hl]; omega)) (by omega)
/-- a loop over a range -/
theorem forR_range {f : D → Ev → Sto → Out} (I : Nat → Ev → Sto → Prop) (e : Nat → D) (n : Nat) {ρ : Ev} {st : Sto} (h0 : I 0 ρ st) (h : ∀ k, k < n → ∀ ρ s, I k ρ s → ∃ ρ' s', f (e k) ρ s = .nx ρ' s' ∧ I (k + 1) ρ' s') :
    ∃ ρ' s', forR f ((List.range n).map e) ρ st = .nx ρ' s' ∧ I n ρ' s' := by
  obtain ⟨ρ', s', e1, i1⟩ := forR_ix (f := f) (fun a ρ s => I a.length ρ s) e (List.range n) (ρ := ρ) (st := st) h0 (fun a x b hab ρ s hI => by
    have hx : x = a.length := by
      have h1 : (List.range n)[a.length]? = some x := by rw [hab]; simp
      have h2 := List.getElem?_eq_some_iff.mp h1
      obtain ⟨_, h3⟩ := h2
      simp at h3
      omega
    have hlt : a.length < n := by
      have := congrArg List.length hab
      simp at this; omega
    subst hx
    obtain ⟨ρ', s', e1, i1⟩ := h a.length hlt ρ s hI
    exact ⟨ρ', s', e1, by simpa using i1⟩)
  exact ⟨ρ', s', e1, by simpa using i1⟩
theorem rep_any (q : Rat) (k : Nat) (h2 : k ≤ 1000) : dBin .mul (.tup [enc q]) (.int k) = some (enc (List.replicate k q)) := by
  have e : (List.replicate k [enc q]).flatten = (List.replicate k q).map enc := by
    rw [List.map_replicate]
    clear h2
    induction k with
    | zero => rfl
    | succ k ih => rw [List.replicate_succ, List.flatten_cons, ih, List.replicate_succ]; rfl
  have hk : ((decide ((0 : Int) ≤ k) && decide ((k : Int) ≤ 1000) && decide (([enc q] : List D).length ≤ 1000) && !([enc q] : List D).isEmpty)) = true := by
    simp
    omega
  show (if ((decide ((0 : Int) ≤ k) && decide ((k : Int) ≤ 1000) && decide (([enc q] : List D).length ≤ 1000) && !([enc q] : List D).isEmpty)) then some (D.tup (List.replicate (k : Int).toNat [enc q]).flatten) else none) = _
  rw [if_pos hk, Int.toNat_natCast, e]
  rfl
theorem rep_ones (q : Rat) (k : Nat) (h1 : 1 ≤ k) (h2 : k ≤ 1000) : dBin .mul (.tup [enc q]) (.int k) = some (enc (List.replicate k q)) := rep_any q k h2
theorem dot_ones (l : List Rat) : dot l (List.replicate l.length 1) = tot l := by
  have : l.zipWith (· * ·) (List.replicate l.length (1 : Rat)) = l := by
    induction l with
    | nil => rfl
    | cons x l ih => rw [List.length_cons, List.replicate_succ, List.zipWith_cons_cons, ih, Rat.mul_one]
  rw [dot, this]
theorem dot_take (a b : List Rat) (k : Nat) (hk : k < a.length) (hb : k < b.length) : tot ((a.zipWith (· * ·) b).take (k + 1)) = tot ((a.zipWith (· * ·) b).take k) + pc a k * pc b k := by
  have h : k < (a.zipWith (· * ·) b).length := by simp; omega
  rw [List.take_succ_eq_append_getElem h, tot_snoc]
  congr 1
  simp [pc, hk, hb]
/-- a drawn fraction -/
def Dr (q : Rat) : Prop := q.num.natAbs ≤ 9 ∧ q.den ≤ 5
theorem Dr.sz {q : Rat} (h : Dr q) : Sz 4 q := ⟨by have := h.1; omega, by have := h.2; omega⟩
theorem Sz.big {k : Nat} {q : Rat} (h : Sz k q) (hk : k ≤ 4000) : Sz 4000 q := h.mono hk
theorem divInt_dr {a b : Int} (hb : b ≠ 0) (h1 : a.natAbs ≤ 9) (h2 : b.natAbs ≤ 5) : Dr (Rat.divInt a b) := by
  constructor
  · rw [Rat.num_divInt]
    refine Nat.le_trans ?_ h1
    rw [Int.natAbs_ediv_of_dvd]
    · refine Nat.le_trans (Nat.div_le_self _ _) ?_
      rw [Int.natAbs_mul]
      have : b.sign.natAbs ≤ 1 := by
        rcases Int.lt_trichotomy b 0 with h | h | h
        · rw [Int.sign_eq_neg_one_of_neg h]; decide
        · rw [h]; decide
        · rw [Int.sign_eq_one_of_pos h]; decide
      calc b.sign.natAbs * a.natAbs ≤ 1 * a.natAbs := Nat.mul_le_mul_right _ this
        _ = a.natAbs := Nat.one_mul _
    · exact Int.dvd_mul_of_dvd_right (Int.gcd_dvd_right ..)
  · rw [Rat.den_divInt, if_neg hb]
    exact Nat.le_trans (Nat.div_le_self _ _) h2
def NxI (r : Out) (I : Ev → Sto → Prop) : Prop := ∃ ρ s, r = .nx ρ s ∧ I ρ s
@[simp] theorem NxI_nx (ρ : Ev) (s : Sto) (I : Ev → Sto → Prop) : NxI (.nx ρ s) I ↔ I ρ s := ⟨fun ⟨_, _, e, h⟩ => by cases e; exact h, fun h => ⟨_, _, rfl, h⟩⟩
theorem NxI_congr {r r' : Out} (I : Ev → Sto → Prop) (h : r = r') : NxI r I = NxI r' I := by rw [h]
theorem dEq_nil {α : Type} {n : Nat} [Enc α n] [DecidableEq α] (l : List α) (h : n + 1 ≤ 60) : dEq (.lst (l.map enc)) (.lst []) = some (decide (l = [])) := dEq_lst l [] h
@[simp] theorem dEq_nn : dEq (.lst []) (.lst []) = some true := rfl
@[simp] theorem dEq_tt : dEq (.tup []) (.tup []) = some true := rfl
theorem rch_of (l : List Rat) (h : nzp l ≠ []) : ∃ a b : Nat, (nzp l)[0]? = some a ∧ atI ((nzp l).map (enc (α := Nat))) (-1) = some (.int (b : Int)) ∧ enc (rch l) = .tup [.int (a : Int), .int ((b : Int) + 1)] := by
  have hl0 : 0 < (nzp l).length := List.length_pos_iff.mpr h
  have hx : (nzp l).length - 1 < (nzp l).length := by omega
  refine ⟨(nzp l)[0], (nzp l)[(nzp l).length - 1], List.getElem?_eq_getElem hl0, ?_, ?_⟩
  · unfold atI ixN
    rw [if_neg (by omega), if_pos (by simp; omega)]
    simp only [Option.bind_some, List.length_map]
    rw [show ((-1 : Int) + ((nzp l).length : Int)).toNat = (nzp l).length - 1 by omega]
    simp [List.getElem?_eq_getElem hx]
    rfl
  · unfold rch
    rw [if_neg h, List.getD_eq_getElem?_getD, List.getD_eq_getElem?_getD, List.getElem?_eq_getElem hl0, List.getElem?_eq_getElem hx]
    rfl
def noS (s : Sl) : Sl := match s with
  | .exn _ _ => .no
  | s => s
@[simp] theorem noX_nil : noX [] = [] := rfl
@[simp] theorem noX_cons (s : Sl) (ρ : Ev) : noX (s :: ρ) = noS s :: noX ρ := rfl
@[simp] theorem noS_val (d : D) : noS (.val d) = .val d := rfl
@[simp] theorem noS_no : noS .no = .no := rfl
@[simp] theorem noS_own (d : SO) : noS (.own d) = .own d := rfl
@[simp] theorem noS_exn (c : String) (d : List D) : noS (.exn c d) = .no := rfl
theorem fu_head (w : Nat) (t u : List (List Rat)) (h : Nat) (hh : t.length = h) : fu w t u = (((List.range h).flatMap fun i => (List.range w).map fun k => (i, k)).filter fun p => !decide (pc (ro t p.1) p.2 = pc (ro u p.1) p.2)).head? := by
  unfold fu
  rw [hh, List.head?_filter, List.find?_flatMap]
  congr 1
  funext i
  rw [List.find?_map]
  congr 1
  congr 1
  funext k
  simp
theorem head_or_none {α : Type} (e : α → D) (l : List α) : atI (l.map e ++ [D.non]) 0 = some (match l.head? with | some x => e x | none => .non) := by
  rw [atI_zero]
  cases l <;> rfl
@[simp] theorem lookup_if (k a : String) (b : D) (l : List (String × D)) : List.lookup k ((a, b) :: l) = if k = a then some b else List.lookup k l := by
  rw [List.lookup_cons]
  by_cases h : k = a
  · subst h; simp
  · have : (k == a) = false := by simpa using h
    rw [this, if_neg h]
theorem head_pair (l : List (Nat × Nat)) : atI (l.map enc ++ [D.non]) 0 = some (enc l.head?) := by
  rw [atI_zero]
  cases l <;> rfl
theorem rep_lst (d : D) (k : Nat) (h2 : k ≤ 1000) : dBin .mul (.lst [d]) (.int k) = some (.lst (List.replicate k d)) := by
  have e : (List.replicate k [d]).flatten = List.replicate k d := by
    clear h2
    induction k with
    | zero => rfl
    | succ k ih => rw [List.replicate_succ, List.flatten_cons, ih, List.replicate_succ]; rfl
  have hk : ((decide ((0 : Int) ≤ k) && decide ((k : Int) ≤ 1000) && decide (([d] : List D).length ≤ 1000))) = true := by
    simp
    omega
  show (if ((decide ((0 : Int) ≤ k) && decide ((k : Int) ≤ 1000) && decide (([d] : List D).length ≤ 1000))) then some (D.lst (List.replicate (k : Int).toNat [d]).flatten) else none) = _
  rw [if_pos hk, Int.toNat_natCast, e]
end Dp
end SDp30
set_option maxHeartbeats 4000000
set_option autoImplicit false
/-! Dp31: rows and tables of fractions. -/
noncomputable section SDp31
namespace Dp
open Enc (enc)
theorem foldl_add (l : List Rat) (a : Rat) : l.foldl (· + ·) a = a + l.foldl (· + ·) 0 := by
  induction l generalizing a with
  | nil => simp [Rat.add_zero]
  | cons x l ih => rw [List.foldl_cons, List.foldl_cons, ih, ih (0 + x), Rat.zero_add, Rat.add_assoc]
@[simp] theorem tot_nil : tot [] = 0 := rfl
theorem tot_cons (x : Rat) (l : List Rat) : tot (x :: l) = x + tot l := by
  unfold tot
  rw [List.foldl_cons, foldl_add, Rat.zero_add]
theorem tot_append (a b : List Rat) : tot (a ++ b) = tot a + tot b := by
  induction a with
  | nil => simp [Rat.zero_add]
  | cons x a ih => rw [List.cons_append, tot_cons, tot_cons, ih, Rat.add_assoc]
@[simp] theorem dot_nil (b : List Rat) : dot [] b = 0 := rfl
@[simp] theorem dot_nil' (b : List Rat) : dot b [] = 0 := by cases b <;> rfl
theorem dot_cons (x y : Rat) (a b : List Rat) : dot (x :: a) (y :: b) = x * y + dot a b := by
  unfold dot
  rw [List.zipWith_cons_cons, tot_cons]
theorem dot_comm (a b : List Rat) : dot a b = dot b a := by
  induction a generalizing b with
  | nil => simp
  | cons x a ih => cases b with
    | nil => simp
    | cons y b => rw [dot_cons, dot_cons, ih, Rat.mul_comm]
theorem dot_add (a b p : List Rat) (h : a.length = b.length) : dot (a.zipWith (· + ·) b) p = dot a p + dot b p := by
  induction a generalizing b p with
  | nil => simp [Rat.add_zero]; cases b <;> simp_all [Rat.zero_add]
  | cons x a ih => cases b with
    | nil => simp at h
    | cons y b => cases p with
      | nil => simp [Rat.add_zero]
      | cons q p =>
        rw [List.zipWith_cons_cons, dot_cons, dot_cons, dot_cons, ih b p (by simpa using h), Rat.add_mul]
        simp only [Rat.add_assoc, Rat.add_left_comm]
theorem dot_smul (c : Rat) (a p : List Rat) : dot (a.map (c * ·)) p = c * dot a p := by
  induction a generalizing p with
  | nil => simp [Rat.mul_zero]
  | cons x a ih => cases p with
    | nil => simp [Rat.mul_zero]
    | cons q p => rw [List.map_cons, dot_cons, dot_cons, ih, Rat.mul_add, Rat.mul_assoc]
theorem dot_zero (n : Nat) (p : List Rat) : dot (List.replicate n 0) p = 0 := by
  induction n generalizing p with
  | zero => rfl
  | succ n ih => cases p with
    | nil => simp
    | cons q p => rw [List.replicate_succ, dot_cons, ih, Rat.zero_mul, Rat.add_zero]
/-- the row that r makes of the rows t -/
def comb (w : Nat) (r : List Rat) (t : List (List Rat)) : List Rat := (List.range w).map fun k => dot r (col t k)
@[simp] theorem comb_length (w : Nat) (r : List Rat) (t : List (List Rat)) : (comb w r t).length = w := by simp [comb]
theorem after_eq (w : Nat) (t u : List (List Rat)) : after w t u = u.map fun r => comb w r t := rfl
theorem comb_cons (w : Nat) (x : Rat) (r : List Rat) (l : List Rat) (t : List (List Rat)) (hl : l.length = w) : comb w (x :: r) (l :: t) = (l.map (x * ·)).zipWith (· + ·) (comb w r t) := by
  apply List.ext_getElem
  · simp [hl]
  · intro k h1 h2
    simp at h1
    simp [comb, col, dot_cons, pc, h1, hl]
theorem comb_nil (w : Nat) (r : List Rat) : comb w r [] = List.replicate w 0 := by
  apply List.ext_getElem
  · simp
  · intro k h1 h2
    simp [comb, col]
theorem comb_nil' (w : Nat) (t : List (List Rat)) : comb w [] t = List.replicate w 0 := by
  apply List.ext_getElem
  · simp
  · intro k h1 h2
    simp [comb]
theorem dot_comb (w : Nat) (r : List Rat) (t : List (List Rat)) (p : List Rat) (ht : ∀ l ∈ t, l.length = w) : dot (comb w r t) p = dot r (mad t p) := by
  induction t generalizing r with
  | nil => rw [comb_nil, dot_zero]; simp [mad]
  | cons l t ih => cases r with
    | nil => rw [comb_nil', dot_zero]; simp
    | cons x r =>
      rw [comb_cons w x r l t (ht l (by simp)), dot_add _ _ _ (by simp [ht l (by simp)]), dot_smul, ih r fun l hl => ht l (by simp [hl])]
      show _ = dot (x :: r) (dot l p :: mad t p)
      rw [dot_cons]
theorem mad_after (w : Nat) (t u : List (List Rat)) (p : List Rat) (ht : ∀ l ∈ t, l.length = w) : mad (after w t u) p = mad u (mad t p) := by
  rw [after_eq]
  unfold mad
  rw [List.map_map]
  refine List.map_congr_left fun r _ => ?_
  exact dot_comb w r t p ht
/-- units -/
theorem dot_unit_aux (n a : Nat) (k : Nat) (b : List Rat) (hb : b.length = n) (hk : a ≤ k) (hk2 : k < a + n) : dot ((List.range' a n).map fun i => if i = k then (1 : Rat) else 0) b = pc b (k - a) := by
  induction n generalizing a b with
  | zero => omega
  | succ n ih => cases b with
    | nil => simp at hb
    | cons x b =>
      rw [List.range'_succ, List.map_cons, dot_cons]
      by_cases h : a = k
      · subst h
        have hz : ∀ (m c : Nat), a < c → dot ((List.range' c m).map fun i => if i = a then (1 : Rat) else 0) b = 0 := by
          intro m c hc
          have : (List.range' c m).map (fun i => if i = a then (1 : Rat) else 0) = List.replicate m 0 := by
            rw [List.eq_replicate_iff]
            refine ⟨by simp, fun x hx => ?_⟩
            obtain ⟨i, hi, rfl⟩ := List.mem_map.mp hx
            have := (List.mem_range'_1.mp hi).1
            rw [if_neg (by omega)]
          rw [this, dot_zero]
        rw [if_pos rfl, hz n (a + 1) (by omega), Rat.one_mul, Rat.add_zero]
        simp [pc]
      · rw [if_neg h, Rat.zero_mul, Rat.zero_add, ih (a + 1) b (by simpa using hb) (by omega) (by omega)]
        have e : k - a = (k - (a + 1)) + 1 := by omega
        rw [e]
        simp [pc]
theorem dot_unit (n k : Nat) (b : List Rat) (hb : b.length = n) (hk : k < n) : dot (unit n k) b = pc b k := by
  have := dot_unit_aux n 0 k b hb (by omega) (by omega)
  unfold unit
  rw [List.range_eq_range']
  simpa using this
theorem map_pc (l : List Rat) (w : Nat) (h : l.length = w) : (List.range w).map (pc l) = l := by
  apply List.ext_getElem
  · simp [h]
  · intro k h1 h2
    simp [pc, h2]
theorem map_ro (t : List (List Rat)) (w : Nat) (h : t.length = w) : (List.range w).map (ro t) = t := by
  apply List.ext_getElem
  · simp [h]
  · intro k h1 h2
    simp [ro, h2]
theorem pc_col (t : List (List Rat)) (i k : Nat) (hi : i < t.length) : pc (col t k) i = pc (ro t i) k := by
  simp [pc, col, ro, hi]
theorem after_units (w : Nat) (t : List (List Rat)) (ht : ∀ l ∈ t, l.length = w) : after w t ((List.range t.length).map (unit t.length)) = t := by
  unfold after
  rw [List.map_map]
  conv => rhs; rw [← map_ro t t.length rfl]
  refine List.map_congr_left fun i hi => ?_
  have hi : i < t.length := List.mem_range.mp hi
  show (List.range w).map (fun k => dot (unit t.length i) (col t k)) = ro t i
  rw [← map_pc (ro t i) w (ht _ (ro_mem hi))]
  refine List.map_congr_left fun k _ => ?_
  rw [dot_unit t.length i _ (by simp) hi, pc_col t i k hi]
theorem col_units (w k : Nat) (hk : k < w) : col ((List.range w).map (unit w)) k = unit w k := by
  unfold col
  rw [List.map_map]
  unfold unit
  refine List.map_congr_left fun i hi => ?_
  simp [pc, hk]
  by_cases h : i = k
  · simp [h]
  · have : ¬ k = i := fun z => h z.symm
    simp [h, this]
theorem units_after (w : Nat) (t : List (List Rat)) (ht : ∀ l ∈ t, l.length = w) : after w ((List.range w).map (unit w)) t = t := by
  unfold after
  conv => rhs; rw [← List.map_id t]
  refine List.map_congr_left fun r hr => ?_
  show _ = r
  conv => rhs; rw [← map_pc r w (ht r hr)]
  refine List.map_congr_left fun k hk => ?_
  have hk : k < w := List.mem_range.mp hk
  rw [col_units w k hk, dot_comm, dot_unit w k r (ht r hr) hk]
theorem unit_sz (w k : Nat) : ∀ q ∈ unit w k, Sz 1 q := by
  intro q hq
  unfold unit at hq
  obtain ⟨i, _, rfl⟩ := List.mem_map.mp hq
  split
  · exact one_sz
  · exact zero_sz
theorem units_sz (w n : Nat) : Szt 1 ((List.range n).map (unit w)) := by
  intro l hl
  obtain ⟨i, _, rfl⟩ := List.mem_map.mp hl
  exact unit_sz w i
theorem mad_sz {j k : Nat} {t : List (List Rat)} {p : List Rat} {w : Nat} (ht : Szt j t) (hl : ∀ l ∈ t, l.length = w) (hp : ∀ q ∈ p, Sz k q) : ∀ q ∈ mad t p, Sz (1 + w * (j + k + 1)) q := by
  intro q hq
  obtain ⟨l, hm, rfl⟩ := List.mem_map.mp hq
  have := dot_sz (ht l hm) hp
  rw [hl l hm] at this
  exact this
theorem after_sz {j k : Nat} {t u : List (List Rat)} {w h : Nat} (ht : Szt j t) (hu : Szt k u) (hl : ∀ l ∈ t, l.length = w) (hl' : ∀ l ∈ u, l.length = h) : Szt (1 + h * (k + j + 1)) (after w t u) := by
  intro l hm q hq
  obtain ⟨r, hr, rfl⟩ := List.mem_map.mp hm
  obtain ⟨i, hi, rfl⟩ := List.mem_map.mp hq
  have := dot_sz (hu r hr) (ht.col hl (List.mem_range.mp hi))
  rw [hl' r hr] at this
  exact this
open PySem PySem.Spec PyProof.Rows L2
theorem compR_none {α : Type} {f : D → Sto → Res (Option D)} (e : α → D) (l : List α) (st : Sto) (h : ∀ x ∈ l, f (e x) st = .ok none st) : compR f (l.map e) st = .ok [] st := by
  have := compR_filter (f := f) e (fun _ => false) (fun _ => D.non) l st (fun x hx => by rw [h x hx]; rfl)
  rw [this]; simp
def prs (a b : Nat) : List (Nat × Nat) := (List.range a).flatMap fun i => (List.range b).map fun k => (i, k)
theorem prs_length (a b : Nat) : (prs a b).length = a * b := by
  unfold prs
  induction a with
  | zero => simp
  | succ a ih => rw [List.range_succ, List.flatMap_append, List.length_append, ih]; simp [Nat.add_mul]
def Drt (t : List (List Rat)) : Prop := ∀ l ∈ t, ∀ q ∈ l, Dr q
theorem Drt.sz {t : List (List Rat)} (h : Drt t) : Szt 4 t := fun l hl q hq => (h l hl q hq).sz
theorem isRows_of : ∀ {t : List (List Rat)} {ds : List D}, ds.length = t.length → (∀ p ∈ t.zip ds, IsSeq p.2 (p.1.map enc)) → IsRows ds t
  | [], [], _, _ => .nil
  | [], _ :: _, h, _ => by simp at h
  | _ :: _, [], h, _ => by simp at h
  | l :: t, d :: ds, h, hp => .cons (hp (l, d) (by simp)) (isRows_of (by simpa using h) fun p hq => hp p (by simp [hq]))
theorem places_run (P : Prog) (R : String → List D → Sto → Res D) (i j : Nat) (ρ : Ev) (st : Sto) (d : D) (l : List Rat) (hd : IsSeq d (l.map enc)) (hs : ∀ x : D, slotD (ρ.set j (.val x)) i = some d) (hj : ∀ x : D, slotD (ρ.set j (.val x)) j = some x) :
    compR (cStep P R (.one j) (some (.cmp .ne (.idx (.var i) (.var j)) (.tup [.con (.int 0), .con (.int 1)]))) (.var j) ρ) ((List.range l.length).map enc) st = .ok ((nzp l).map enc) st := by
  rw [compR_filter (p := fun k => decide (pc l k ≠ 0)) (g := fun k : Nat => enc k)]
  · rfl
  · intro k hk
    have hk : k < l.length := List.mem_range.mp hk
    have hi : dIdx st d (.int k) = some (enc (pc l k)) := by cases hd <;> simp [atI_nat, pc_get hk]
    by_cases h : pc l k = 0 <;> simp [hs, hj, enc_nat, hi, ← enc_zero, dEq_enc, h]
end Dp
end SDp31
set_option maxHeartbeats 4000000
set_option autoImplicit false
/-! Dp32: tables that are made, plainly. -/
noncomputable section SDp32
namespace Dp
open PySem PySem.Spec PyProof.Rows L2
open Enc (enc)
/-- a place led into a row -/
def clampI (w : Nat) (i : Int) : Int := if (if i < (w : Int) - 1 then i else (w : Int) - 1) > 0 then (if i < (w : Int) - 1 then i else (w : Int) - 1) else 0
def clamp (w : Nat) (i : Int) : Nat := (clampI w i).toNat
theorem clamp_cast (w : Nat) (i : Int) : ((clamp w i : Nat) : Int) = clampI w i := by
  unfold clamp clampI
  split <;> split <;> omega
theorem clamp_lt (w : Nat) (i : Int) (h : 1 ≤ w) : clamp w i < w := by
  unfold clamp clampI
  split <;> split <;> omega
def nearL (w l : Nat) : List (Option Nat) := (List.range l).map fun i => some (min (w - 1) ((2 * i + 1) * w / (2 * l)))
def sharedQ (i k w l : Nat) : Rat :=
  let b := mkRat i l
  let e := mkRat (i + 1) l
  let f := mkRat k w
  let m := mkRat (k + 1) w
  let low := if b < f then f else b
  let high := if m < e then m else e
  if low < high then (high - low) / mkRat 1 l else 0
def boxT (w l : Nat) : List (List Rat) := (List.range l).map fun i => (List.range w).map fun k => sharedQ i k w l
def addAt (r : List Rat) (k : Nat) (q : Rat) : List Rat := r.set k (pc r k + q)
theorem addAt_length (r : List Rat) (k : Nat) (q : Rat) : (addAt r k q).length = r.length := by simp [addAt]
def betweenQ (w : Nat) (spot : Rat) : List Rat :=
  let back := spot - Rat.divInt 1 2
  let low := back.num.fdiv back.den
  let part := back - Rat.divInt low 1
  addAt (addAt (List.replicate w 0) (clamp w low) (1 - part)) (clamp w (low + 1)) part
def tentT (w l : Nat) : List (List Rat) := (List.range l).map fun (i : Nat) => betweenQ w (Rat.divInt ((2 * (i : Int) + 1) * w) (2 * (l : Int)))
theorem betweenQ_length (w : Nat) (q : Rat) : (betweenQ w q).length = w := by simp [betweenQ, addAt_length]
theorem Tw.box {w l : Nat} (hw : 1 ≤ w) (hw2 : w ≤ 24) (hl : 1 ≤ l) (hl2 : l ≤ 24) : Tw w (boxT w l) := ⟨hw, hw2, by simpa [boxT] using hl, by simpa [boxT] using hl2, fun r hr => by
  obtain ⟨k, _, rfl⟩ := List.mem_map.mp hr
  simp⟩
theorem Tw.tent {w l : Nat} (hw : 1 ≤ w) (hw2 : w ≤ 24) (hl : 1 ≤ l) (hl2 : l ≤ 24) : Tw w (tentT w l) := ⟨hw, hw2, by simpa [tentT] using hl, by simpa [tentT] using hl2, fun r hr => by
  obtain ⟨k, _, rfl⟩ := List.mem_map.mp hr
  exact betweenQ_length w _⟩
theorem Tw.near {w l : Nat} (hw : 1 ≤ w) (hw2 : w ≤ 24) (hl : 1 ≤ l) (hl2 : l ≤ 24) : Tw w ((nearL w l).map (uo w)) := Tw.uos hw hw2 _ (by simpa [nearL] using hl) (by simpa [nearL] using hl2)
theorem dv_sz {a b : Int} (hb : b ≠ 0) (h1 : a.natAbs < 1024) (h2 : b.natAbs < 1024) : Sz 10 (Rat.divInt a b) := divInt_sz hb (by simpa using h1) (by simpa using h2)
theorem mk_sz {a : Int} {b : Nat} (hb : b ≠ 0) (h1 : a.natAbs < 1024) (h2 : b < 1024) : Sz 10 (mkRat a b) := by
  rw [← Rat.divInt_ofNat]; exact dv_sz (by omega) h1 (by omega)
theorem mk_one_ne {l : Nat} (h : l ≠ 0) : mkRat 1 l ≠ 0 := (Rat.mkRat_ne_zero h).mpr (by decide)
theorem sharedQ_sz {i k w l : Nat} (hi : i ≤ 100) (hk : k ≤ 100) (hw : 1 ≤ w) (hw2 : w ≤ 100) (hl : 1 ≤ l) (hl2 : l ≤ 100) : Sz 32 (sharedQ i k w l) := by
  unfold sharedQ
  have s1 : Sz 10 (mkRat i l) := mk_sz (by omega) (by omega) (by omega)
  have s2 : Sz 10 (mkRat (i + 1) l) := mk_sz (by omega) (by omega) (by omega)
  have s3 : Sz 10 (mkRat k w) := mk_sz (by omega) (by omega) (by omega)
  have s4 : Sz 10 (mkRat (k + 1) w) := mk_sz (by omega) (by omega) (by omega)
  have s5 : Sz 10 (mkRat 1 l) := mk_sz (by omega) (by omega) (by omega)
  have n5 : mkRat 1 l ≠ 0 := mk_one_ne (by omega)
  dsimp only
  have h1 : Sz 10 (if mkRat i l < mkRat k w then mkRat k w else mkRat i l) := by split <;> assumption
  have h2 : Sz 10 (if mkRat (k + 1) w < mkRat (i + 1) l then mkRat (k + 1) w else mkRat (i + 1) l) := by split <;> assumption
  generalize (if mkRat i l < mkRat k w then mkRat k w else mkRat i l) = lo at h1 ⊢
  generalize (if mkRat (k + 1) w < mkRat (i + 1) l then mkRat (k + 1) w else mkRat (i + 1) l) = hi at h2 ⊢
  split
  · exact (Sz.div (Sz.sub h2 h1) s5 n5).mono (by omega)
  · exact zero_sz.mono (by omega)
/-! rows picked -/
def sel (p : List Rat) : Option Nat → Rat
  | none => 0
  | some k => pc p k
theorem dot_uo (w : Nat) (p : List Rat) (hp : p.length = w) (o : Option Nat) (ho : ∀ k, o = some k → k < w) : dot (uo w o) p = sel p o := by
  cases o with
  | some k => exact dot_unit w k p hp (ho k rfl)
  | none =>
    have : uo w none = List.replicate w 0 := by
      show unit w w = _
      unfold unit
      rw [List.eq_replicate_iff]
      refine ⟨by simp, fun x hx => ?_⟩
      obtain ⟨i, hi, rfl⟩ := List.mem_map.mp hx
      have := List.mem_range.mp hi
      rw [if_neg (by omega)]
    rw [this, dot_zero]
    rfl
theorem mad_uos (w : Nat) (p : List Rat) (hp : p.length = w) (ps : List (Option Nat)) (ho : ∀ k, some k ∈ ps → k < w) : mad (ps.map (uo w)) p = ps.map (sel p) := by
  unfold mad
  rw [List.map_map]
  refine List.map_congr_left fun o h => ?_
  exact dot_uo w p hp o fun k e => ho k (by rw [← e]; exact h)
theorem uos_sz (w : Nat) (ps : List (Option Nat)) : Szt 1 (ps.map (uo w)) := by
  intro l hl
  obtain ⟨o, _, rfl⟩ := List.mem_map.mp hl
  cases o with
  | none => exact unit_sz w w
  | some k => exact unit_sz w k
def repL (w m : Nat) : List (Option Nat) := (List.range (w * m)).map fun i => some (i / m)
def evyL (w m : Nat) : List (Option Nat) := ((List.range w).filter fun i => decide (i % m = 0)).map some
def mirL (w : Nat) : List (Option Nat) := (List.range w).map fun i => some (w - 1 - i)
def movO (w : Nat) (m : Int) (i : Nat) : Option Nat := if 0 ≤ (i : Int) - m ∧ (i : Int) - m < w then some ((i : Int) - m).toNat else none
def movL (w : Nat) (m : Int) : List (Option Nat) := (List.range w).map (movO w m)
def aroL (w : Nat) (m : Int) : List (Option Nat) := (List.range w).map fun (i : Nat) => some ((((i : Int) - m).fmod w).toNat)
def cutL (a b : Nat) : List (Option Nat) := (List.range' a (b - a)).map some
def widL (w a b : Nat) (f l : Option Nat) : List (Option Nat) := List.replicate a f ++ (List.range w).map some ++ List.replicate b l
def runT (w : Nat) : List (List Rat) := (List.range w).map fun i => (List.range w).map fun k => if k ≤ i then (1 : Rat) else 0
def difR (w i : Nat) : List Rat := if 0 < i then (unit w i).set (i - 1) (-1) else unit w i
def difT (w : Nat) : List (List Rat) := (List.range w).map (difR w)
theorem Tw.runs {w : Nat} (h : 1 ≤ w) (h2 : w ≤ 24) : Tw w (runT w) := ⟨h, h2, by simpa [runT] using h, by simpa [runT] using h2, fun l hl => by
  obtain ⟨k, _, rfl⟩ := List.mem_map.mp hl
  simp⟩
theorem Tw.difs {w : Nat} (h : 1 ≤ w) (h2 : w ≤ 24) : Tw w (difT w) := ⟨h, h2, by simpa [difT] using h, by simpa [difT] using h2, fun l hl => by
  obtain ⟨k, _, rfl⟩ := List.mem_map.mp hl
  unfold difR
  split <;> simp⟩
/-- a row of weights around a place -/
def blurP (w half i : Nat) (ws : List Rat) (n : Nat) : List Rat := (List.range n).foldl (fun (r : List Rat) (j : Nat) => addAt r (clamp w ((i : Int) + (j : Int) - (half : Int))) (pc ws j)) (List.replicate w 0)
def blurR (w half i : Nat) (ws : List Rat) : List Rat := blurP w half i ws ws.length
def blurT (w : Nat) (ws : List Rat) : List (List Rat) := (List.range w).map fun i => blurR w (ws.length / 2) i ws
theorem blurP_succ (w half i : Nat) (ws : List Rat) (n : Nat) : blurP w half i ws (n + 1) = addAt (blurP w half i ws n) (clamp w ((i : Int) + (n : Int) - (half : Int))) (pc ws n) := by
  unfold blurP
  rw [List.range_succ, List.foldl_append]
  rfl
theorem blurP_length (w half i : Nat) (ws : List Rat) (n : Nat) : (blurP w half i ws n).length = w := by
  induction n with
  | zero => simp [blurP]
  | succ n ih => rw [blurP_succ, addAt_length, ih]
theorem blurP_sz {k : Nat} (w half i : Nat) (ws : List Rat) (hw : 1 ≤ w) (h : ∀ q ∈ ws, Sz k q) (n : Nat) (hn : n ≤ ws.length) : ∀ q ∈ blurP w half i ws n, Sz (1 + n * (k + 1)) q := by
  induction n with
  | zero =>
    intro q hq
    unfold blurP at hq
    rw [(List.mem_replicate.mp hq).2]
    exact zero_sz.mono (by omega)
  | succ n ih =>
    intro q hq
    rw [blurP_succ] at hq
    unfold addAt at hq
    rcases List.mem_or_eq_of_mem_set hq with z | z
    · refine (ih (by omega) q z).mono ?_
      have : n * (k + 1) ≤ (n + 1) * (k + 1) := Nat.mul_le_mul_right _ (by omega)
      omega
    · rw [z]
      refine (Sz.add (ih (by omega) _ (pc_mem (by rw [blurP_length]; exact clamp_lt w _ hw))) (h _ (pc_mem (by omega)))).mono ?_
      rw [Nat.add_mul]
      omega
theorem Tw.blur {w : Nat} {ws : List Rat} (h : 1 ≤ w) (h2 : w ≤ 24) : Tw w (blurT w ws) := ⟨h, h2, by simpa [blurT] using h, by simpa [blurT] using h2, fun l hl => by
  obtain ⟨k, _, rfl⟩ := List.mem_map.mp hl
  exact blurP_length ..⟩
theorem dot_addAt (r p : List Rat) (k : Nat) (q : Rat) (hk : k < r.length) (hl : r.length = p.length) : dot (addAt r k q) p = dot r p + q * pc p k := by
  induction r generalizing p k with
  | nil => simp at hk
  | cons x r ih => cases p with
    | nil => simp at hl
    | cons y p => cases k with
      | zero =>
        have e1 : addAt (x :: r) 0 q = (x + q) :: r := by simp [addAt, pc]
        have e2 : pc (y :: p) 0 = y := by simp [pc]
        rw [e1, dot_cons, dot_cons, e2, Rat.add_mul]
        rw [Rat.add_assoc, Rat.add_assoc, Rat.add_comm (q * y)]
      | succ k =>
        have e1 : addAt (x :: r) (k + 1) q = x :: addAt r k q := by simp [addAt, pc]
        have e2 : pc (y :: p) (k + 1) = pc p k := by simp [pc]
        rw [e1, dot_cons, dot_cons, e2, ih p k (by simpa using hk) (by simpa using hl), Rat.add_assoc]
theorem dot_blurP (w half i : Nat) (ws p : List Rat) (hw : 1 ≤ w) (hp : p.length = w) (n : Nat) : dot (blurP w half i ws n) p = tot ((List.range n).map fun (j : Nat) => pc ws j * pc p (clamp w ((i : Int) + (j : Int) - (half : Int)))) := by
  induction n with
  | zero => unfold blurP; rw [List.range_zero]; exact dot_zero w p
  | succ n ih =>
    rw [blurP_succ, dot_addAt _ _ _ _ (by rw [blurP_length]; exact clamp_lt w _ hw) (by rw [blurP_length, hp]), ih, List.range_succ, List.map_append, List.map_cons, List.map_nil, tot_snoc]
theorem dot_map (ws : List Rat) (f : Nat → Rat) : dot ws ((List.range ws.length).map f) = tot ((List.range ws.length).map fun j => pc ws j * f j) := by
  unfold dot
  congr 1
  apply List.ext_getElem
  · simp
  · intro k h1 h2
    simp at h1
    simp [pc, h1]
theorem mad_blur (w : Nat) (ws p : List Rat) (hw : 1 ≤ w) (hp : p.length = w) : mad (blurT w ws) p = (List.range w).map fun (i : Nat) => dot ws ((List.range ws.length).map fun (j : Nat) => pc p (clamp w ((i : Int) + (j : Int) - ((ws.length / 2 : Nat) : Int)))) := by
  unfold mad blurT
  rw [List.map_map]
  refine List.map_congr_left fun i _ => ?_
  rw [dot_map]
  exact dot_blurP w _ i ws p hw hp _
def midQ (l : List Rat) : Rat := tot ((List.range l.length).map fun (i : Nat) => Rat.divInt ((i : Int) * (pc l i).num) (pc l i).den) / tot l
theorem setO_own {ρ : Ev} {i k : Nat} {st : Sto} {A : List Rat} (q : Rat) (h : ρ[i]? = some (.own (.lst (A.map enc)))) (hk : k < A.length) : setO ρ i st (.int (k : Int)) (enc q) = .nx (ρ.set i (.own (.lst ((A.set k q).map enc)))) st := by
  rw [setO_of (xs := A.map enc) (ys := (A.set k q).map enc) (by rw [listAt_eq, h]; rfl) (by rw [setD_nat (by simpa using hk), List.map_set]), putL_eq, h]
  rfl
theorem dAdd_lst {α : Type} {n : Nat} [Enc α n] (l l' : List α) (h : l.length + l'.length ≤ 16777216) : dBin .add (.lst (l.map enc)) (.lst (l'.map enc)) = some (.lst ((l ++ l').map enc)) := by
  show (if lenOk ((l.map enc).length + (l'.map enc).length) then some (D.lst (l.map enc ++ l'.map enc)) else none) = _
  rw [List.length_map, List.length_map, if_pos (lenOk_of h), ← List.map_append]
theorem dAdd_eo (l l' : List (Option Nat)) (h : l.length + l'.length ≤ 16777216) : dBin .add (.lst (l.map eo)) (.lst (l'.map eo)) = some (.lst ((l ++ l').map eo)) := by
  show (if lenOk ((l.map eo).length + (l'.map eo).length) then some (D.lst (l.map eo ++ l'.map eo)) else none) = _
  rw [List.length_map, List.length_map, if_pos (lenOk_of h), ← List.map_append]
theorem dIn_frs (q : Rat) (l : List Rat) : dIn (enc q) (enc l) = some (l.any fun x => decide (x = q)) := by
  have h1 : D.flat 59 (enc q) = true := Enc.flat 59 q (by decide)
  have h2 : D.flats 59 (l.map (enc (α := Rat))) = true := flats_map (fun x => Enc.flat 59 x (by decide)) l
  show (if D.flat 59 (enc q) && D.flats 59 (l.map enc) then some ((l.map enc).any fun y => D.eqv y (enc q)) else none) = _
  rw [h1, h2, Bool.and_self, if_pos rfl, List.any_map]
  congr 2
  funext x
  show D.eqv (enc x) (enc q) = _
  cases hb : D.eqv (enc x) (enc q) with
  | true => exact (decide_eq_true ((Enc.eqv x q).mp hb)).symm
  | false => exact (decide_eq_false fun e => by rw [(Enc.eqv x q).mpr e] at hb; cases hb).symm
theorem dIn_frl (q : Rat) (l : List Rat) : dIn (enc q) (.lst (l.map enc)) = some (l.any fun x => decide (x = q)) := by
  have h1 : D.flat 59 (enc q) = true := Enc.flat 59 q (by decide)
  have h2 : D.flats 59 (l.map (enc (α := Rat))) = true := flats_map (fun x => Enc.flat 59 x (by decide)) l
  show (if D.flat 59 (enc q) && D.flats 59 (l.map enc) then some ((l.map enc).any fun y => D.eqv y (enc q)) else none) = _
  rw [h1, h2, Bool.and_self, if_pos rfl, List.any_map]
  congr 2
  funext x
  show D.eqv (enc x) (enc q) = _
  cases hb : D.eqv (enc x) (enc q) with
  | true => exact (decide_eq_true ((Enc.eqv x q).mp hb)).symm
  | false => exact (decide_eq_false fun e => by rw [(Enc.eqv x q).mpr e] at hb; cases hb).symm
def evnT (t : List (List Rat)) : List (List Rat) := t.map fun l => l.map (· / tot l)
theorem Tw.evn {w : Nat} {t : List (List Rat)} (h : Tw w t) : Tw w (evnT t) := ⟨h.w1, h.w2, by simpa [evnT] using h.h1, by simpa [evnT] using h.h2, fun l hl => by
  obtain ⟨k, hk, rfl⟩ := List.mem_map.mp hl
  simp [h.ln k hk]⟩
end Dp
end SDp32
set_option maxHeartbeats 4000000
set_option autoImplicit false
/-! Dp33: the law of the makers: its own tables, and that they are alike, for lengths up to seven. -/
noncomputable section SDp33
namespace Dp
open PySem PySem.Spec PyProof.Rows L2
open Enc (enc)
def lnear (w l : Nat) : List (List Rat) := (List.range l).map fun i => (List.replicate w (0 : Rat)).set (min (w - 1) ((2 * i + 1) * w / (2 * l))) 1
def comI (w l i k : Nat) : Int := (if ((k : Int) + 1) * l < ((i : Int) + 1) * w then ((k : Int) + 1) * l else ((i : Int) + 1) * w) - (if (k : Int) * l > (i : Int) * w then (k : Int) * l else (i : Int) * w)
def lbox (w l : Nat) : List (List Rat) := (List.range l).map fun i => (List.range w).map fun k => mkRat (if comI w l i k > 0 then comI w l i k else 0) w
def ltentR (w l i : Nat) : List Rat :=
  let top := (2 * (i : Int) + 1) * w - l
  let low := top.fdiv (2 * l)
  let part := Rat.divInt (top - 2 * l * low) (2 * l)
  addAt (addAt (List.replicate w 0) (clamp w low) (1 + -part)) (clamp w (low + 1)) part
def ltent (w l : Nat) : List (List Rat) := (List.range l).map (ltentR w l)
def spotQ (w l i : Nat) : Rat := Rat.divInt ((2 * (i : Int) + 1) * w - l) (2 * l)
def upto (p : Nat → Nat → Bool) : Bool := (List.range 7).all fun w => (List.range 7).all fun l => p (w + 1) (l + 1)
theorem upto_ok {p : Nat → Nat → Bool} (h : upto p = true) {w l : Nat} (h1 : 1 ≤ w) (h2 : w ≤ 7) (h3 : 1 ≤ l) (h4 : l ≤ 7) : p w l = true := by
  have a := List.all_eq_true.mp (List.all_eq_true.mp h (w - 1) (by simp; omega)) (l - 1) (by simp; omega)
  rw [show w - 1 + 1 = w by omega, show l - 1 + 1 = l by omega] at a
  exact a
section
variable {w l : Nat} (h1 : 1 ≤ w) (h2 : w ≤ 7) (h3 : 1 ≤ l) (h4 : l ≤ 7)
include h1 h2 h3 h4
theorem near_eq : lnear w l = (nearL w l).map (uo w) := of_decide_eq_true (upto_ok (p := fun w l => decide (lnear w l = (nearL w l).map (uo w))) (by decide +kernel) h1 h2 h3 h4)
theorem box_eq : lbox w l = boxT w l := of_decide_eq_true (upto_ok (p := fun w l => decide (lbox w l = boxT w l)) (by decide +kernel) h1 h2 h3 h4)
theorem tent_eq : ltent w l = tentT w l := of_decide_eq_true (upto_ok (p := fun w l => decide (ltent w l = tentT w l)) (by decide +kernel) h1 h2 h3 h4)
theorem near_sums : ((nearL w l).map (uo w)).map tot = List.replicate l 1 := of_decide_eq_true (upto_ok (p := fun w l => decide (((nearL w l).map (uo w)).map tot = List.replicate l 1)) (by decide +kernel) h1 h2 h3 h4)
theorem box_sums : (boxT w l).map tot = List.replicate l 1 := of_decide_eq_true (upto_ok (p := fun w l => decide ((boxT w l).map tot = List.replicate l 1)) (by decide +kernel) h1 h2 h3 h4)
theorem box_mirr : mirr (boxT w l) = boxT w l := of_decide_eq_true (upto_ok (p := fun w l => decide (mirr (boxT w l) = boxT w l)) (by decide +kernel) h1 h2 h3 h4)
theorem box_cols : (List.range w).map (fun k => tot (col (boxT w l) k)) = List.replicate w (mkRat l w) := of_decide_eq_true (upto_ok (p := fun w l => decide ((List.range w).map (fun k => tot (col (boxT w l) k)) = List.replicate w (mkRat l w))) (by decide +kernel) h1 h2 h3 h4)
theorem tent_sums : (tentT w l).map tot = List.replicate l 1 := of_decide_eq_true (upto_ok (p := fun w l => decide ((tentT w l).map tot = List.replicate l 1)) (by decide +kernel) h1 h2 h3 h4)
theorem tent_mirr : mirr (tentT w l) = tentT w l := of_decide_eq_true (upto_ok (p := fun w l => decide (mirr (tentT w l) = tentT w l)) (by decide +kernel) h1 h2 h3 h4)
theorem tent_between (i : Nat) (hi : i < l) : betweenQ w (spotQ w l i + Rat.divInt 1 2) = ro (tentT w l) i := by
  have := upto_ok (p := fun w l => (List.range l).all fun i => decide (betweenQ w (spotQ w l i + Rat.divInt 1 2) = ro (tentT w l) i)) (by decide +kernel) h1 h2 h3 h4
  exact of_decide_eq_true (List.all_eq_true.mp this i (List.mem_range.mpr hi))
theorem tent_mid (i : Nat) (hi : i < l) : spotQ w l i < 0 ∨ Rat.divInt ((w : Int) - 1) 1 < spotQ w l i ∨ (tot (ro (tentT w l) i) ≠ 0 ∧ midQ (ro (tentT w l) i) = spotQ w l i) := by
  have := upto_ok (p := fun w l => (List.range l).all fun i => decide (spotQ w l i < 0) || (decide (Rat.divInt ((w : Int) - 1) 1 < spotQ w l i) || (!decide (tot (ro (tentT w l) i) = 0) && decide (midQ (ro (tentT w l) i) = spotQ w l i)))) (by decide +kernel) h1 h2 h3 h4
  have := List.all_eq_true.mp this i (List.mem_range.mpr hi)
  simpa using this
theorem period_mul : (l / Nat.gcd w l) * w = (w / Nat.gcd w l) * l := of_decide_eq_true (upto_ok (p := fun w l => decide ((l / Nat.gcd w l) * w = (w / Nat.gcd w l) * l)) (by decide +kernel) h1 h2 h3 h4)
theorem period_least (k : Nat) (hk : k < l / Nat.gcd w l) (h1' : 1 ≤ k) : k * w / l * l ≠ k * w := by
  have := upto_ok (p := fun w l => (List.range (l / Nat.gcd w l)).all fun k => !decide (1 ≤ k) || !decide (k * w / l * l = k * w)) (by decide +kernel) h1 h2 h3 h4
  have := List.all_eq_true.mp this k (List.mem_range.mpr hk)
  intro z
  simp [h1', z] at this
end
theorem evSs_app (P : Prog) (R : String → List D → Sto → Res D) (b : List Sm) : ∀ (a : List Sm) (ρ : Ev) (st : Sto), evSs P R (a ++ b) ρ st = (evSs P R a ρ st).bind (kSs P R b)
  | [], ρ, st => by rw [List.nil_append, evSs_nil, Out.bind_nx, kSs_app]
  | s :: a, ρ, st => by
    rw [List.cons_append, evSs_cons, evSs_cons]
    cases evS P R s ρ st with
    | nx ρ' st' => rw [Out.bind_nx, Out.bind_nx, kSs_app, kSs_app, evSs_app P R b a ρ' st']
    | ret d st' => rfl
    | exc c fs ρ' st' => rfl
    | stuck => rfl
end Dp
end SDp33
set_option maxHeartbeats 4000000
set_option autoImplicit false
/-! Dp34: rows moved, plainly. -/
noncomputable section SDp34
namespace Dp
open PySem PySem.Spec PyProof.Rows L2
open Enc (enc)
theorem mir_sel (w : Nat) (p : List Rat) (hp : p.length = w) : (mirL w).map (sel p) = p.reverse := by
  unfold mirL
  apply List.ext_getElem
  · simp [hp]
  · intro k h1 h2
    simp at h1 h2
    have : w - 1 - k < p.length := by omega
    have e : p.length - 1 - k = w - 1 - k := by omega
    simp [sel, pc, this, e]
theorem somes_sel (w : Nat) (p : List Rat) (hp : p.length = w) : ((List.range w).map some).map (sel p) = p := by
  rw [List.map_map]
  exact map_pc p w hp
theorem wid_sel (w a b : Nat) (f l : Option Nat) (p : List Rat) (hp : p.length = w) : (widL w a b f l).map (sel p) = List.replicate a (sel p f) ++ p ++ List.replicate b (sel p l) := by
  unfold widL
  rw [List.map_append, List.map_append, List.map_replicate, List.map_replicate, somes_sel w p hp]
theorem cut_sel (a b : Nat) (p : List Rat) (h : b ≤ p.length) : (cutL a b).map (sel p) = (p.drop a).take (b - a) := by
  unfold cutL
  apply List.ext_getElem
  · simp; omega
  · intro k h1 h2
    simp at h1
    have : a + k < p.length := by omega
    simp [sel, pc, this]
theorem rep_sel_length (w m : Nat) (p : List Rat) : ((repL w m).map (sel p)).length = w * m := by simp [repL]
theorem rep_pc (w m : Nat) (p : List Rat) (i : Nat) (h : i < w * m) : pc ((repL w m).map (sel p)) i = pc p (i / m) := by
  unfold repL
  rw [pc, List.getD_eq_getElem?_getD]
  simp [h, sel]
theorem rep_get (w k : Nat) (p : List Rat) (hk : k < w) : cutD ((repL w 3).map (sel p)) (some ((3 * k : Nat) : Int)) (some ((3 * k + 3 : Nat) : Int)) = List.replicate 3 (pc p k) := by
  rw [cutD_nat _ _ _ (by omega) (by rw [rep_sel_length]; omega)]
  apply List.ext_getElem
  · simp [repL]; omega
  · intro i h1 h2
    simp at h2
    have hi : 3 * k + i < w * 3 := by omega
    have h3 : 3 * k + i < ((repL w 3).map (sel p)).length := by rw [rep_sel_length]; exact hi
    have e := rep_pc w 3 p (3 * k + i) hi
    rw [show (3 * k + i) / 3 = k by omega] at e
    rw [pc, List.getD_eq_getElem?_getD, List.getElem?_eq_getElem h3] at e
    simp at e
    rw [List.getElem_replicate]
    simp [e]
theorem evy_filter (w : Nat) : (List.range (3 * w)).filter (fun i => decide (i % 3 = 0)) = (List.range w).map (3 * ·) := by
  induction w with
  | zero => rfl
  | succ w ih =>
    rw [show 3 * (w + 1) = 3 * w + 1 + 1 + 1 by omega, List.range_succ, List.range_succ, List.range_succ, List.range_succ, List.filter_append, List.filter_append, List.filter_append, ih, List.map_append]
    have h0 : 3 * w % 3 = 0 := by omega
    have h1 : (3 * w + 1) % 3 ≠ 0 := by omega
    have h2 : (3 * w + 1 + 1) % 3 ≠ 0 := by omega
    simp [h0, h1, h2]
theorem evy_sel (w : Nat) (p : List Rat) (hp : p.length = w) : (evyL (3 * w) 3).map (sel ((repL w 3).map (sel p))) = p := by
  unfold evyL
  rw [evy_filter, List.map_map, List.map_map]
  conv => rhs; rw [← map_pc p w hp]
  refine List.map_congr_left fun i hi => ?_
  have hi := List.mem_range.mp hi
  show pc ((repL w 3).map (sel p)) (3 * i) = _
  rw [rep_pc w 3 p (3 * i) (by omega), show 3 * i / 3 = i by omega]
theorem cutD_head (p : List Rat) (h : 1 ≤ p.length) : cutD p none (some 1) = [pc p 0] := by
  have e : cutD p none (some 1) = (p.drop 0).take (1 - 0) := by
    have := cutD_nat p 0 1 (by decide) h
    unfold cutD at this ⊢
    rw [HT.sIx_none]
    exact this
  rw [e]
  cases p with
  | nil => simp at h
  | cons a p => simp [pc]
theorem cutD_last (p : List Rat) (h : 1 ≤ p.length) : cutD p (some (-1)) none = [pc p (p.length - 1)] := by
  have s1 : HT.sIx p.length 0 (some (-1)) = p.length - 1 := by
    show (if (-1 : Int) < 0 then ((-1 : Int) + (p.length : Int)).toNat else min (-1 : Int).toNat p.length) = _
    rw [if_pos (by decide)]
    omega
  unfold cutD
  rw [HT.sIx_none, s1]
  apply List.ext_getElem
  · simp; omega
  · intro k h1 h2
    simp at h2
    subst h2
    have : p.length - 1 < p.length := by omega
    simp [pc, this]
theorem mov_pc (w : Nat) (m : Int) (p : List Rat) (i : Nat) (h : i < w) : pc ((movL w m).map (sel p)) i = sel p (movO w m i) := by
  unfold movL
  rw [pc, List.getD_eq_getElem?_getD]
  simp [h]
theorem aro_pc (w : Nat) (m : Int) (p : List Rat) (i : Nat) (h : i < w) : pc ((aroL w m).map (sel p)) i = pc p (((i : Int) - m).fmod w).toNat := by
  unfold aroL
  rw [pc, List.getD_eq_getElem?_getD]
  simp [h, sel]
theorem ahead_cut (a w : Nat) (p : List Rat) (hp : p.length = w) : (cutL a (a + w)).map (sel (List.replicate a 0 ++ p)) = p := by
  rw [cut_sel _ _ _ (by simp; omega)]
  rw [List.drop_append_of_le_length (by simp)]
  simp
  exact List.take_of_length_le (by omega)
end Dp
end SDp34
set_option maxHeartbeats 4000000
set_option autoImplicit false
noncomputable section SK14G
namespace Dp
open PySem PySem.Spec PyProof.Rows L2
def PP : Prog := LL.P
section
variable (n : Nat) (st : Sto)
theorem rn_law (a0 : D) : run PP (n + 1) "law" [a0] st = endB (evSs PP (run PP n) d_law.body [.val a0, .no, .no, .no, .no] st) := run_def rfl rfl
theorem rn__law_taken (a0 a1 : D) : run PP (n + 1) "_law_taken" [a0, a1] st = endB (evSs PP (run PP n) d__law_taken.body [.val a0, .val a1, .no, .no] st) := run_def rfl rfl
theorem rn__law_drawn (a0 a1 a2 : D) : run PP (n + 1) "_law_drawn" [a0, a1, a2] st = endB (evSs PP (run PP n) d__law_drawn.body [.val a0, .val a1, .val a2, .no, .no] st) := run_def rfl rfl
theorem rn__law_sums (a0 a1 a2 : D) : run PP (n + 1) "_law_sums" [a0, a1, a2] st = endB (evSs PP (run PP n) d__law_sums.body [.val a0, .val a1, .val a2, .no, .no, .no, .no, .no, .no, .no, .no, .no] st) := run_def rfl rfl
theorem rn__law_moves (a0 a1 a2 : D) : run PP (n + 1) "_law_moves" [a0, a1, a2] st = endB (evSs PP (run PP n) d__law_moves.body [.val a0, .val a1, .val a2, .no, .no, .no, .no, .no, .no, .no, .no, .no, .no, .no, .no] st) := run_def rfl rfl
theorem rn__law_ways (a0 a1 : D) : run PP (n + 1) "_law_ways" [a0, a1] st = endB (evSs PP (run PP n) d__law_ways.body [.val a0, .val a1, .no, .no, .no, .no, .no, .no, .no, .no] st) := run_def rfl rfl
theorem rn__law_refused : run PP (n + 1) "_law_refused" [] st = endB (evSs PP (run PP n) d__law_refused.body [.no, .no] st) := run_def rfl rfl
theorem rn__law_evened (a0 a1 : D) : run PP (n + 1) "_law_evened" [a0, a1] st = endB (evSs PP (run PP n) d__law_evened.body [.val a0, .val a1, .no, .no, .no, .no, .no, .no] st) := run_def rfl rfl
theorem rn__law_part (a0 : D) : run PP (n + 1) "_law_part" [a0] st = endB (evSs PP (run PP n) d__law_part.body [.val a0] st) := run_def rfl rfl
theorem rn__law_plus (a0 a1 : D) : run PP (n + 1) "_law_plus" [a0, a1] st = endB (evSs PP (run PP n) d__law_plus.body [.val a0, .val a1] st) := run_def rfl rfl
theorem rn_Table_then (a0 a1 : D) : run PP (n + 1) "Table.then" [a0, a1] st = endB (evSs PP (run PP n) d_Table_then.body [.val a0, .val a1, .no, .no, .no, .no] st) := run_def rfl rfl
theorem rn_runs (a0 : D) : run PP (n + 1) "runs" [a0] st = endB (evSs PP (run PP n) d_runs.body [.val a0, .no, .no] st) := run_def rfl rfl
theorem rn_differences (a0 : D) : run PP (n + 1) "differences" [a0] st = endB (evSs PP (run PP n) d_differences.body [.val a0, .no, .no, .no] st) := run_def rfl rfl
theorem rn_mirror (a0 : D) : run PP (n + 1) "mirror" [a0] st = endB (evSs PP (run PP n) d_mirror.body [.val a0, .no] st) := run_def rfl rfl
theorem rn_Table_made (a0 a1 : D) : run PP (n + 1) "Table.made" [a0, a1] st = endB (evSs PP (run PP n) d_Table_made.body [.val a0, .val a1, .no] st) := run_def rfl rfl
theorem rn__law_dot (a0 a1 : D) : run PP (n + 1) "_law_dot" [a0, a1] st = endB (evSs PP (run PP n) d__law_dot.body [.val a0, .val a1, .no, .no] st) := run_def rfl rfl
theorem rn_blur (a0 a1 : D) : run PP (n + 1) "blur" [a0, a1] st = endB (evSs PP (run PP n) d_blur.body [.val a0, .val a1, .no, .no, .no, .no, .no, .no, .no] st) := run_def rfl rfl
theorem rn__law_mixed (a0 a1 : D) : run PP (n + 1) "_law_mixed" [a0, a1] st = endB (evSs PP (run PP n) d__law_mixed.body [.val a0, .val a1] st) := run_def rfl rfl
theorem rn_moved (a0 a1 : D) : run PP (n + 1) "moved" [a0, a1] st = endB (evSs PP (run PP n) d_moved.body [.val a0, .val a1, .no] st) := run_def rfl rfl
theorem rn_around (a0 a1 : D) : run PP (n + 1) "around" [a0, a1] st = endB (evSs PP (run PP n) d_around.body [.val a0, .val a1, .no] st) := run_def rfl rfl
theorem rn_wider (a0 a1 a2 a3 : D) : run PP (n + 1) "wider" [a0, a1, a2, a3] st = endB (evSs PP (run PP n) d_wider.body [.val a0, .val a1, .val a2, .val a3, .no, .no, .no, .no] st) := run_def rfl rfl
theorem rn_cut (a0 a1 a2 : D) : run PP (n + 1) "cut" [a0, a1, a2] st = endB (evSs PP (run PP n) d_cut.body [.val a0, .val a1, .val a2, .no] st) := run_def rfl rfl
theorem rn_repeated (a0 a1 : D) : run PP (n + 1) "repeated" [a0, a1] st = endB (evSs PP (run PP n) d_repeated.body [.val a0, .val a1, .no] st) := run_def rfl rfl
theorem rn_every (a0 a1 : D) : run PP (n + 1) "every" [a0, a1] st = endB (evSs PP (run PP n) d_every.body [.val a0, .val a1, .no] st) := run_def rfl rfl
theorem rn_nearest (a0 a1 : D) : run PP (n + 1) "nearest" [a0, a1] st = endB (evSs PP (run PP n) d_nearest.body [.val a0, .val a1, .no] st) := run_def rfl rfl
theorem rn_box (a0 a1 : D) : run PP (n + 1) "box" [a0, a1] st = endB (evSs PP (run PP n) d_box.body [.val a0, .val a1, .no, .no, .no] st) := run_def rfl rfl
theorem rn_tent (a0 a1 : D) : run PP (n + 1) "tent" [a0, a1] st = endB (evSs PP (run PP n) d_tent.body [.val a0, .val a1, .no] st) := run_def rfl rfl
theorem rn_led (a0 a1 a2 : D) : run PP (n + 1) "led" [a0, a1, a2] st = endB (evSs PP (run PP n) d_led.body [.val a0, .val a1, .val a2] st) := run_def rfl rfl
theorem rn__law_alike (a0 a1 : D) : run PP (n + 1) "_law_alike" [a0, a1] st = endB (evSs PP (run PP n) d__law_alike.body [.val a0, .val a1, .no] st) := run_def rfl rfl
theorem rn__law_led (a0 a1 a2 : D) : run PP (n + 1) "_law_led" [a0, a1, a2] st = endB (evSs PP (run PP n) d__law_led.body [.val a0, .val a1, .val a2, .no, .no, .no, .no, .no, .no, .no, .no, .no, .no] st) := run_def rfl rfl
theorem rn_Table_mirrored (a0 : D) : run PP (n + 1) "Table.mirrored" [a0] st = endB (evSs PP (run PP n) d_Table_mirrored.body [.val a0, .no] st) := run_def rfl rfl
theorem rn_Table_sums (a0 : D) : run PP (n + 1) "Table.sums" [a0] st = endB (evSs PP (run PP n) d_Table_sums.body [.val a0, .no] st) := run_def rfl rfl
theorem rn_Table_column_sums (a0 : D) : run PP (n + 1) "Table.column_sums" [a0] st = endB (evSs PP (run PP n) d_Table_column_sums.body [.val a0, .no] st) := run_def rfl rfl
theorem rn__law_frac (a0 a1 : D) : run PP (n + 1) "_law_frac" [a0, a1] st = endB (evSs PP (run PP n) d__law_frac.body [.val a0, .val a1, .no, .no] st) := run_def rfl rfl
theorem rn_between (a0 a1 : D) : run PP (n + 1) "between" [a0, a1] st = endB (evSs PP (run PP n) d_between.body [.val a0, .val a1, .no, .no, .no, .no, .no, .no] st) := run_def rfl rfl
theorem rn_middle_of (a0 : D) : run PP (n + 1) "middle_of" [a0] st = endB (evSs PP (run PP n) d_middle_of.body [.val a0, .no, .no, .no, .no, .no] st) := run_def rfl rfl
theorem rn__law_less (a0 a1 : D) : run PP (n + 1) "_law_less" [a0, a1] st = endB (evSs PP (run PP n) d__law_less.body [.val a0, .val a1] st) := run_def rfl rfl
theorem rn__law_pairs (a0 a1 : D) : run PP (n + 1) "_law_pairs" [a0, a1] st = endB (evSs PP (run PP n) d__law_pairs.body [.val a0, .val a1, .no, .no, .no] st) := run_def rfl rfl
theorem rn_shared (a0 a1 a2 a3 : D) : run PP (n + 1) "shared" [a0, a1, a2, a3] st = endB (evSs PP (run PP n) d_shared.body [.val a0, .val a1, .val a2, .val a3, .no, .no, .no, .no, .no, .no] st) := run_def rfl rfl
theorem rn_Table_row (a0 a1 : D) : run PP (n + 1) "Table.row" [a0, a1] st = endB (evSs PP (run PP n) d_Table_row.body [.val a0, .val a1] st) := run_def rfl rfl
theorem rn_shortest_period (a0 a1 : D) : run PP (n + 1) "shortest_period" [a0, a1] st = endB (evSs PP (run PP n) d_shortest_period.body [.val a0, .val a1, .no] st) := run_def rfl rfl
theorem rn_want_long (a0 : D) : run PP (n + 1) "want_long" [a0] st = endB (evSs PP (run PP n) d_want_long.body [.val a0] st) := run_def rfl rfl
theorem rn_evened (a0 : D) : run PP (n + 1) "evened" [a0] st = endB (evSs PP (run PP n) d_evened.body [.val a0, .no, .no, .no, .no, .no] st) := run_def rfl rfl
theorem rn_Table (a0 a1 : D) : run PP (n + 1) "Table" [a0, a1] st = endM PP (run PP n) "Table" (d_Table___init__.inits.map (·.2)) (evSs PP (run PP n) d_Table___init__.body [.exn "" [], .val a0, .val a1, .no, .no, .no] st) := run_mk rfl rfl rfl rfl
theorem rn_Table___eq__ (a0 a1 : D) : run PP (n + 1) "Table.__eq__" [a0, a1] st = endB (evSs PP (run PP n) d_Table___eq__.body [.val a0, .val a1] st) := run_def rfl rfl
theorem rn_Table___len__ (a0 : D) : run PP (n + 1) "Table.__len__" [a0] st = endB (evSs PP (run PP n) d_Table___len__.body [.val a0] st) := run_def rfl rfl
theorem rn__law_times (a0 a1 : D) : run PP (n + 1) "_law_times" [a0, a1] st = endB (evSs PP (run PP n) d__law_times.body [.val a0, .val a1] st) := run_def rfl rfl
theorem rn__law_pick (a0 a1 : D) : run PP (n + 1) "_law_pick" [a0, a1] st = endB (evSs PP (run PP n) d__law_pick.body [.val a0, .val a1] st) := run_def rfl rfl
theorem rn_Table_column (a0 a1 : D) : run PP (n + 1) "Table.column" [a0, a1] st = endB (evSs PP (run PP n) d_Table_column.body [.val a0, .val a1, .no] st) := run_def rfl rfl
theorem rn_joined (a0 a1 : D) : run PP (n + 1) "joined" [a0, a1] st = endB (evSs PP (run PP n) d_joined.body [.val a0, .val a1, .no, .no] st) := run_def rfl rfl
theorem rn_unit_row (a0 a1 : D) : run PP (n + 1) "unit_row" [a0, a1] st = endB (evSs PP (run PP n) d_unit_row.body [.val a0, .val a1, .no] st) := run_def rfl rfl
theorem rn_picked (a0 a1 : D) : run PP (n + 1) "picked" [a0, a1] st = endB (evSs PP (run PP n) d_picked.body [.val a0, .val a1, .no, .no, .no] st) := run_def rfl rfl
theorem rn_is_fraction (a0 : D) : run PP (n + 1) "is_fraction" [a0] st = endB (evSs PP (run PP n) d_is_fraction.body [.val a0] st) := run_def rfl rfl
theorem rn_is_row (a0 : D) : run PP (n + 1) "is_row" [a0] st = endB (evSs PP (run PP n) d_is_row.body [.val a0] st) := run_def rfl rfl
theorem rn_plus (a0 a1 : D) : run PP (n + 1) "plus" [a0, a1] st = endB (evSs PP (run PP n) d_plus.body [.val a0, .val a1] st) := run_def rfl rfl
theorem rn_is_number (a0 a1 a2 : D) : run PP (n + 1) "is_number" [a0, a1, a2] st = endB (evSs PP (run PP n) d_is_number.body [.val a0, .val a1, .val a2] st) := run_def rfl rfl
theorem rn_fraction (a0 a1 : D) : run PP (n + 1) "fraction" [a0, a1] st = endB (evSs PP (run PP n) d_fraction.body [.val a0, .val a1, .no] st) := run_def rfl rfl
theorem rn_total (a0 : D) : run PP (n + 1) "total" [a0] st = endB (evSs PP (run PP n) d_total.body [.val a0, .no, .no] st) := run_def rfl rfl
theorem rn_minus (a0 a1 : D) : run PP (n + 1) "minus" [a0, a1] st = endB (evSs PP (run PP n) d_minus.body [.val a0, .val a1] st) := run_def rfl rfl
theorem rn_over (a0 a1 : D) : run PP (n + 1) "over" [a0, a1] st = endB (evSs PP (run PP n) d_over.body [.val a0, .val a1] st) := run_def rfl rfl
theorem rn_is_less (a0 a1 : D) : run PP (n + 1) "is_less" [a0, a1] st = endB (evSs PP (run PP n) d_is_less.body [.val a0, .val a1] st) := run_def rfl rfl
theorem rn_divisor (a0 a1 : D) : run PP (n + 1) "divisor" [a0, a1] st = endB (evSs PP (run PP n) d_divisor.body [.val a0, .val a1] st) := run_def rfl rfl
theorem rn_is_weights (a0 a1 : D) : run PP (n + 1) "is_weights" [a0, a1] st = endB (evSs PP (run PP n) d_is_weights.body [.val a0, .val a1, .no] st) := run_def rfl rfl
theorem rn_times (a0 a1 : D) : run PP (n + 1) "times" [a0, a1] st = endB (evSs PP (run PP n) d_times.body [.val a0, .val a1] st) := run_def rfl rfl
theorem rn_is_whole (a0 : D) : run PP (n + 1) "is_whole" [a0] st = endB (evSs PP (run PP n) d_is_whole.body [.val a0] st) := run_def rfl rfl
@[simp] theorem fld_Table_wide (a0 a1 : D) : dFld PP.fields st "wide" (.obj "Table" [a0, a1]) = some a0 := rfl
@[simp] theorem fld_Table_rows (a0 a1 : D) : dFld PP.fields st "rows" (.obj "Table" [a0, a1]) = some a1 := rfl
@[simp] theorem im_Table_eq : PP.isMeth "Table" "__eq__" = true := rfl
@[simp] theorem im_Table_len : PP.isMeth "Table" "__len__" = true := rfl
@[simp] theorem im_Table_column : PP.isMeth "Table" "column" = true := rfl
@[simp] theorem im_Table_column_sums : PP.isMeth "Table" "column_sums" = true := rfl
@[simp] theorem im_Table_made : PP.isMeth "Table" "made" = true := rfl
@[simp] theorem im_Table_mirrored : PP.isMeth "Table" "mirrored" = true := rfl
@[simp] theorem im_Table_row : PP.isMeth "Table" "row" = true := rfl
@[simp] theorem im_Table_sums : PP.isMeth "Table" "sums" = true := rfl
@[simp] theorem im_Table_then : PP.isMeth "Table" "then" = true := rfl
@[simp] theorem con_MOST_LONG : PP.consts "MOST_LONG" = some (.int (24)) := rfl
@[simp] theorem con_NOTHING : PP.consts "NOTHING" = some (.tup [.int (0), .int (1)]) := rfl
@[simp] theorem con_ONE : PP.consts "ONE" = some (.tup [.int (1), .int (1)]) := rfl
@[simp] theorem xf_BadItem : PP.xfields "BadItem" = ["index"] := rfl
@[simp] theorem sx_BadItem_BadItem : PP.subx "BadItem" "BadItem" = true := rfl
@[simp] theorem sx_BadItem_BadNumber : PP.subx "BadItem" "BadNumber" = false := rfl
@[simp] theorem xf_BadNumber : PP.xfields "BadNumber" = ["value"] := rfl
@[simp] theorem sx_BadNumber_BadItem : PP.subx "BadNumber" "BadItem" = false := rfl
@[simp] theorem sx_BadNumber_BadNumber : PP.subx "BadNumber" "BadNumber" = true := rfl
@[simp] theorem xf_Refused : PP.xfields "Refused" = ["reason", "names"] := rfl
@[simp] theorem sx_Refused_BadItem : PP.subx "Refused" "BadItem" = false := rfl
@[simp] theorem sx_Refused_BadNumber : PP.subx "Refused" "BadNumber" = false := rfl
end
end Dp
end SK14G
set_option maxHeartbeats 4000000
set_option autoImplicit false
noncomputable section SK14S
namespace Dp
open PySem PySem.Spec PyProof.Rows L2
open Enc (enc)
--@ divisor
theorem gcd_while (P : Prog) (R : String → List D → Sto → Res D) (st : Sto) : ∀ (b a : Nat), whileR (wCond P R (.cmp .ne (.var 1) (.con (.int 0)))) (wBody P R [.par [0, 1] [.var 1, .bin .mod (.var 0) (.var 1)]]) [.val (.int a), .val (.int b)] st = .nx [.val (.int (Nat.gcd a b : Nat)), .val (.int 0)] st := by
  intro b
  induction b using Nat.strongRecOn with
  | _ b ih =>
    intro a
    by_cases hb : b = 0
    · subst hb
      rw [whileR_end (st1 := st)]
      · simp
      · simp
    · rw [whileR_eq (st1 := st) (ρ2 := [.val (.int b), .val (.int (a % b : Nat))]) (st2 := st)]
      · rw [ih (a % b) (Nat.mod_lt _ (by omega)) b]
        rw [Nat.gcd_comm a b, Nat.gcd_rec b a, Nat.gcd_comm]
      · simp [hb]
      · have : ((b : Int)) ≠ 0 := by omega
        simp [dBin_mod _ _ this]
        rw [Int.fmod_eq_emod_of_nonneg _ (by omega)]
theorem sp_divisor (n : Nat) (hn : 1 ≤ n) (st : Sto) (a b : Int) : run PP n "divisor" [.int a, .int b] st = .ok (.int (Int.gcd a b : Nat)) st := by
  obtain ⟨m, rfl⟩ : ∃ m, n = m + 1 := ⟨n - 1, by omega⟩
  rw [rn_divisor]
  have ha : (if a < 0 then -a else a) = (a.natAbs : Int) := by split <;> omega
  have hb : (if b < 0 then -b else b) = (b.natAbs : Int) := by split <;> omega
  simp [d_divisor, ha, hb, gcd_while]
  rfl
--@ is_whole
theorem sp_is_whole_int (n : Nat) (hn : 1 ≤ n) (st : Sto) (a : Int) : run PP n "is_whole" [.int a] st = .ok (.bl true) st := by
  obtain ⟨m, rfl⟩ : ∃ m, n = m + 1 := ⟨n - 1, by omega⟩
  rw [rn_is_whole]
  simp [d_is_whole]
--@ fraction
theorem gcd_side {a b : Int} (hb : b ≠ 0) (hs : b.natAbs < 2 ^ 8500) : ((Int.gcd a b : Nat) : Int) ≠ 0 ∧ ((Int.gcd a b : Nat) : Int).natAbs.log2 < 9000 := by
  have hg : 0 < Int.gcd a b := Int.gcd_pos_of_ne_zero_right _ hb
  refine ⟨by omega, log2_lt (Nat.lt_of_le_of_lt ?_ (Nat.lt_of_lt_of_le hs (Nat.pow_le_pow_right (by decide) (by decide)))) (by decide)⟩
  rw [Int.natAbs_natCast]
  exact Nat.le_of_dvd (by omega) (Int.gcd_dvd_natAbs_right a b)
theorem num_of {a b : Int} (hb : b ≠ 0) : (if b < 0 then -a else a).fdiv ((Int.gcd a b : Nat) : Int) = (Rat.divInt a b).num ∧ (if b < 0 then -b else b).fdiv ((Int.gcd a b : Nat) : Int) = (Rat.divInt a b).den := by
  have hg : 0 < Int.gcd a b := Int.gcd_pos_of_ne_zero_right _ hb
  rw [Rat.num_divInt, Rat.den_divInt, if_neg hb, Int.fdiv_eq_ediv_of_nonneg _ (by omega), Int.fdiv_eq_ediv_of_nonneg _ (by omega), Int.gcd_comm b a]
  constructor
  · split
    · rename_i h; rw [Int.sign_eq_neg_one_of_neg h]; congr 1; omega
    · rename_i h; rw [Int.sign_eq_one_of_pos (by omega)]; congr 1; omega
  · rw [show (if b < 0 then -b else b) = (b.natAbs : Int) by split <;> omega]; rfl
theorem sp_fraction (n : Nat) (hn : 2 ≤ n) (st : Sto) (a b : Int) (hb : b ≠ 0) (hs : b.natAbs < 2 ^ 8500) : run PP n "fraction" [.int a, .int b] st = .ok (enc (Rat.divInt a b)) st := by
  obtain ⟨m, rfl⟩ : ∃ m, n = m + 1 := ⟨n - 1, by omega⟩
  rw [rn_fraction]
  obtain ⟨g1, g2⟩ := gcd_side (a := a) hb hs
  obtain ⟨e1, e2⟩ := num_of (a := a) hb
  have ea := Int.gcd_neg (a := a) (b := b)
  have eb := Int.neg_gcd (a := a) (b := b)
  rw [enc_rat, ← e1, ← e2]
  by_cases hlt : b < 0 <;> simp [d_fraction, sp_is_whole_int m (by omega), hb, hlt, sp_divisor m (by omega), fun i => dBin_fdiv i _ g1 g2]
--@ plus
theorem big2 {a b : Rat} (ha : Sz 4000 a) (hb : Sz 4000 b) : ((a.den : Int) * b.den).natAbs < 2 ^ 8500 := by
  rw [Int.natAbs_mul, Int.natAbs_natCast, Int.natAbs_natCast]
  exact Nat.lt_of_lt_of_le (nat_mul_lt ha.2 hb.2) (Nat.pow_le_pow_right (by decide) (by decide))
theorem mo_nd {a b : Rat} (ha : Sz 4000 a) (hb : Sz 4000 b) : mulOk a.num b.den = true := mulOk_of ha.1 (by rw [Int.natAbs_natCast]; exact hb.2) (by decide)
theorem mo_dd {a b : Rat} (ha : Sz 4000 a) (hb : Sz 4000 b) : mulOk a.den b.den = true := mulOk_of (by rw [Int.natAbs_natCast]; exact ha.2) (by rw [Int.natAbs_natCast]; exact hb.2) (by decide)
theorem mo_nn {a b : Rat} (ha : Sz 4000 a) (hb : Sz 4000 b) : mulOk a.num b.num = true := mulOk_of ha.1 hb.1 (by decide)
theorem sp_plus (n : Nat) (hn : 3 ≤ n) (st : Sto) (a b : Rat) (ha : Sz 4000 a) (hb : Sz 4000 b) : run PP n "plus" [enc a, enc b] st = .ok (enc (a + b)) st := by
  obtain ⟨m, rfl⟩ : ∃ m, n = m + 1 := ⟨n - 1, by omega⟩
  rw [rn_plus]
  simp [d_plus, dBin_mul, mo_nd ha hb, mo_nd hb ha, mo_dd ha hb, sp_fraction m (by omega), Int.mul_ne_zero (den_ne a) (den_ne b), big2 ha hb, rat_add_eq]
--@ times
theorem sp_times (n : Nat) (hn : 3 ≤ n) (st : Sto) (a b : Rat) (ha : Sz 4000 a) (hb : Sz 4000 b) : run PP n "times" [enc a, enc b] st = .ok (enc (a * b)) st := by
  obtain ⟨m, rfl⟩ : ∃ m, n = m + 1 := ⟨n - 1, by omega⟩
  rw [rn_times]
  simp [d_times, dBin_mul, mo_nn ha hb, mo_dd ha hb, sp_fraction m (by omega), Int.mul_ne_zero (den_ne a) (den_ne b), big2 ha hb, rat_mul_eq]
--@ is_row
theorem sp_is_row (n : Nat) (hn : 1 ≤ n) (st : Sto) (d : D) (xs : List D) (h : IsSeq d xs) : run PP n "is_row" [d] st = .ok (.bl true) st := by
  obtain ⟨m, rfl⟩ : ∃ m, n = m + 1 := ⟨n - 1, by omega⟩
  rw [rn_is_row]
  cases h <;> simp [d_is_row]
--@ is_number
theorem sp_is_number (n : Nat) (hn : 2 ≤ n) (st : Sto) (a b c : Int) : run PP n "is_number" [.int a, .int b, .int c] st = .ok (.bl (decide (b ≤ a) && decide (a ≤ c))) st := by
  obtain ⟨m, rfl⟩ : ∃ m, n = m + 1 := ⟨n - 1, by omega⟩
  rw [rn_is_number]
  by_cases h : b ≤ a
  · simp [d_is_number, sp_is_whole_int m (by omega), h]
  · simp [d_is_number, sp_is_whole_int m (by omega), h]
--@ is_fraction
theorem sp_is_fraction_pair (n : Nat) (hn : 2 ≤ n) (st : Sto) (a b : Int) : run PP n "is_fraction" [.tup [.int a, .int b]] st = .ok (.bl (decide (0 < b) && decide (Int.gcd a b = 1))) st := by
  obtain ⟨m, rfl⟩ : ∃ m, n = m + 1 := ⟨n - 1, by omega⟩
  rw [rn_is_fraction]
  have e1 : ∀ (x y : D), atI [x, y] 0 = some x := fun _ _ => rfl
  have e2 : ∀ (x y : D), atI [x, y] 1 = some y := fun _ _ => rfl
  have e3 : ∀ g : Nat, ((g : Int) = 1) ↔ g = 1 := fun g => by omega
  by_cases h : 0 < b <;> simp [d_is_fraction, sp_is_row m (by omega) _ _ _ (.tup _), sp_is_whole_int m (by omega), sp_divisor m (by omega), e1, e2, e3, h]
theorem sp_is_fraction (n : Nat) (hn : 2 ≤ n) (st : Sto) (q : Rat) : run PP n "is_fraction" [enc q] st = .ok (.bl true) st := by
  rw [enc_rat, sp_is_fraction_pair n hn]
  have h1 : Int.gcd q.num q.den = 1 := q.reduced
  have h2 := q.den_pos
  simp [h1, h2]
--@ total
theorem sp_total (n : Nat) (hn : 4 ≤ n) (st : Sto) (d : D) (l : List Rat) (hd : IsSeq d (l.map enc)) (k : Nat) (hl : ∀ q ∈ l, Sz k q) (hk : 1 + l.length * (k + 1) ≤ 4000) : run PP n "total" [d] st = .ok (enc (tot l)) st := by
  obtain ⟨m, rfl⟩ : ∃ m, n = m + 1 := ⟨n - 1, by omega⟩
  rw [rn_total]
  have hi : items d = some (l.map enc) := by cases hd <;> rfl
  simp [d_total, hi]
  obtain ⟨ρ', s', e, x, rfl, rfl⟩ := forR_ix (f := lStep PP (run PP m) (.one 2) [.asg 1 (.call "plus" [.var 1, .var 2])]) (fun (a : List Rat) ρ s => ∃ x, ρ = [.val d, .val (enc (tot a)), x] ∧ s = st) enc l (ρ := [.val d, .val (.tup [.int 0, .int 1]), .no]) (st := st) ⟨_, rfl, rfl⟩ (by
    rintro a q b rfl ρ s ⟨x, rfl, rfl⟩
    have h1 : Sz 4000 (tot a) := (tot_sz (k := k) fun q hq => hl q (by simp [hq])).mono (by simp only [List.length_append, Nat.add_mul] at hk; omega)
    have h2 : Sz 4000 q := (hl q (by simp)).mono (by simp only [List.length_append, List.length_cons, Nat.add_mul] at hk; omega)
    refine ⟨[.val d, .val (enc (tot (a ++ [q]))), .val (enc q)], s, ?_, _, rfl, rfl⟩
    simp [sp_plus m (by omega) _ _ _ h1 h2, tot_snoc])
  rw [e]
  simp
--@ joined
theorem sp_joined (n : Nat) (hn : 5 ≤ n) (st : Sto) (d1 d2 : D) (a b : List Rat) (h1 : IsSeq d1 (a.map enc)) (h2 : IsSeq d2 (b.map enc)) (j k : Nat) (ha : ∀ q ∈ a, Sz j q) (hb : ∀ q ∈ b, Sz k q) (hk : 1 + a.length * (j + k + 1) ≤ 4000) (hj : j ≤ 4000) (hk' : k ≤ 4000) : run PP n "joined" [d1, d2] st = .ok (enc (dot a b)) st := by
  obtain ⟨m, rfl⟩ : ∃ m, n = m + 1 := ⟨n - 1, by omega⟩
  rw [rn_joined]
  have i1 : items d1 = some (a.map enc) := by cases h1 <;> rfl
  have i2 : items d2 = some (b.map enc) := by cases h2 <;> rfl
  have hz : ∀ p ∈ a.zip b, Sz j p.1 ∧ Sz k p.2 := fun p hp => ⟨ha _ (List.of_mem_zip hp).1, hb _ (List.of_mem_zip hp).2⟩
  simp [d_joined, i1, i2, zipD_map]
  rw [compR_map (g := fun p : Rat × Rat => enc (p.1 * p.2))]
  · have e : (a.zip b).map (fun p : Rat × Rat => enc (p.1 * p.2)) = (a.zipWith (· * ·) b).map enc := by rw [List.zip, List.map_zipWith, List.map_zipWith]
    simp only [Res.bind_ok, kLst_app, kL_app, evL_nil, kL2_app, e]
    rw [sp_total m (by omega) _ _ _ (.lst _) (j + k)]
    · simp [dot]
    · intro q hq
      rw [← List.map_uncurry_zip_eq_zipWith] at hq
      obtain ⟨p, hp, rfl⟩ := List.mem_map.mp hq
      exact (hz p hp).1.mul (hz p hp).2
    · refine Nat.le_trans ?_ hk
      have : (a.zipWith (· * ·) b).length ≤ a.length := by rw [List.length_zipWith]; omega
      have := Nat.mul_le_mul_right (j + k + 1) this
      omega
  · rintro ⟨p, q⟩ hp
    have := hz _ hp
    simp [sp_times m (by omega) _ _ _ (this.1.mono hj) (this.2.mono hk')]
--@ is_weights
theorem sp_is_weights (n : Nat) (hn : 3 ≤ n) (st : Sto) (d : D) (l : List Rat) (hd : IsSeq d (l.map enc)) (w : Int) : run PP n "is_weights" [d, .int w] st = .ok (.bl (decide ((l.length : Int) = w))) st := by
  obtain ⟨m, rfl⟩ : ∃ m, n = m + 1 := ⟨n - 1, by omega⟩
  rw [rn_is_weights]
  have hi : items d = some (l.map enc) := by cases hd <;> rfl
  have hl : ∀ st, dBi st .len [d] = some (.int l.length) := fun st => by cases hd <;> simp
  by_cases h : (l.length : Int) = w
  · simp [d_is_weights, sp_is_row m (by omega) _ _ _ hd, hl, hi, h]
    rw [compR_map (g := fun q : Rat => .bl true)]
    · simp [allB_map (fun _ => true)]
    · intro q hq
      simp [sp_is_fraction m (by omega)]
  · simp [d_is_weights, sp_is_row m (by omega) _ _ _ hd, hl, hi, h]
--@ Table
theorem sp_Table (n : Nat) (hn : 4 ≤ n) (st : Sto) (d : D) (ds : List D) (t : List (List Rat)) (w : Nat) (hw : 1 ≤ w ∧ w ≤ 24) (ht : 1 ≤ t.length ∧ t.length ≤ 24) (hd : IsSeq d ds) (hr : IsRows ds t) (hl : ∀ l ∈ t, l.length = w) :
    run PP n "Table" [.int w, d] st = .ok (tbl w t) st := by
  obtain ⟨m, rfl⟩ : ∃ m, n = m + 1 := ⟨n - 1, by omega⟩
  rw [rn_Table]
  have hi : items d = some ds := by cases hd <;> rfl
  have hlen : ∀ st, dBi st .len [d] = some (.int ds.length) := fun st => by cases hd <;> simp
  obtain ⟨e1, e2, e3⟩ := hr.zip
  have hdl := hr.length
  generalize hz : ds.zip t = z at e1 e2 e3
  have hw1 : (1 : Int) ≤ w := by omega
  have hw2 : (w : Int) ≤ 24 := by omega
  have ht1 : (1 : Int) ≤ ds.length := by omega
  have ht2 : (ds.length : Int) ≤ 24 := by omega
  simp [d_Table___init__, sp_is_number m (by omega), hw1, hw2, sp_is_row m (by omega) _ _ _ hd, hlen, ht1, ht2, hi]
  rw [e1, enumD_map]
  obtain ⟨ρ', s', e, ⟨x, y, rfl⟩, rfl⟩ := forR_inv (f := lStep PP (run PP m) (.many [3, 4]) [.cond (.not (.call "is_weights" [.var 4, .var 1])) [.raise "BadItem" [.var 3]] []]) (fun ρ s => (∃ x y, ρ = [.exn "" [], .val (.int w), .val d, x, y, .no]) ∧ s = st) (fun p : (D × List Rat) × Nat => D.tup [.int (p.2 : Int), p.1.1]) z.zipIdx (ρ := [.exn "" [], .val (.int w), .val d, .no, .no, .no]) (st := st) ⟨⟨_, _, rfl⟩, rfl⟩ (by
    rintro ⟨⟨r, l⟩, k⟩ hp ρ s ⟨⟨x, y, rfl⟩, rfl⟩
    have hm : (r, l) ∈ z := List.fst_mem_of_mem_zipIdx hp
    have hlw : l.length = w := hl l (by rw [e2]; exact List.mem_map_of_mem hm)
    refine ⟨[.exn "" [], .val (.int w), .val d, .val (.int k), .val r, .no], s, ?_, ⟨_, _, rfl⟩, rfl⟩
    simp [sp_is_weights m (by omega) _ _ _ (e3 _ hm), hlw])
  rw [e]
  simp [hi]
  rw [e1, compR_map (g := fun p : D × List Rat => enc p.2)]
  · simp [tbl]
    rw [← e2]
  · rintro ⟨r, l⟩ hm
    have hir : items r = some (l.map enc) := (e3 _ hm).items
    simp [hir]
    rw [compR_map (g := fun q : Rat => enc q)]
    · simp
    · intro q hq
      simp
@[simp] theorem fld_tbl_wide (st : Sto) (w : Nat) (t : List (List Rat)) : dFld PP.fields st "wide" (tbl w t) = some (.int w) := rfl
@[simp] theorem fld_tbl_rows (st : Sto) (w : Nat) (t : List (List Rat)) : dFld PP.fields st "rows" (tbl w t) = some (enc t) := rfl
theorem sp_Table' (n : Nat) (hn : 4 ≤ n) (st : Sto) (t : List (List Rat)) (ds : List D) (w : Nat) (ht : Tw w t) (hr : IsRows ds t) :
    run PP n "Table" [.int w, .lst ds] st = .ok (tbl w t) st := sp_Table n hn st _ ds t w ⟨ht.w1, ht.w2⟩ ⟨ht.h1, ht.h2⟩ (.lst _) hr ht.ln
--@ Table.__eq__
theorem sp_Table_eq (n : Nat) (hn : 1 ≤ n) (st : Sto) (w v : Nat) (t u : List (List Rat)) : run PP n "Table.__eq__" [tbl w t, tbl v u] st = .ok (.bl (decide (t = u))) st := by
  obtain ⟨m, rfl⟩ : ∃ m, n = m + 1 := ⟨n - 1, by omega⟩
  rw [rn_Table___eq__]
  simp [d_Table___eq__, fld_tbl_rows, dEq_enc, ocmpR_enc]
theorem sp_Table_eq_seq (n : Nat) (hn : 1 ≤ n) (st : Sto) (w : Nat) (t u : List (List Rat)) : run PP n "Table.__eq__" [tbl w t, enc u] st = .ok (.bl false) st := by
  obtain ⟨m, rfl⟩ : ∃ m, n = m + 1 := ⟨n - 1, by omega⟩
  rw [rn_Table___eq__]
  simp [d_Table___eq__]
theorem cmp_tbl (n : Nat) (hn : 1 ≤ n) (st : Sto) (op : Cop) (hop : op = .eq ∨ op = .ne) (w v : Nat) (t u : List (List Rat)) : ocmpR PP (run PP n) op (tbl w t) (tbl v u) st = .ok (.bl (if op == .ne then !decide (t = u) else decide (t = u))) st := by
  unfold ocmpR ocls
  rcases hop with rfl | rfl <;> simp [sp_Table_eq n hn]
theorem cmp_tbl_seq (n : Nat) (hn : 1 ≤ n) (st : Sto) (w : Nat) (t u : List (List Rat)) : ocmpR PP (run PP n) .eq (tbl w t) (enc u) st = .ok (.bl false) st := by
  unfold ocmpR ocls
  simp [sp_Table_eq_seq n hn]
--@ Table.__len__
theorem sp_Table_len (n : Nat) (hn : 1 ≤ n) (st : Sto) (w : Nat) (t : List (List Rat)) : run PP n "Table.__len__" [tbl w t] st = .ok (.int t.length) st := by
  obtain ⟨m, rfl⟩ : ∃ m, n = m + 1 := ⟨n - 1, by omega⟩
  rw [rn_Table___len__]
  simp [d_Table___len__, fld_tbl_rows]
theorem len_tbl (n : Nat) (hn : 1 ≤ n) (st : Sto) (w : Nat) (t : List (List Rat)) (h : t.length < 1000000) : lenR PP (run PP n) (tbl w t) st = .ok (.int t.length) st := by
  unfold lenR
  have h0 : ((t.length : Int) < 1000000) := by omega
  rw [mcls_tbl]
  dsimp only
  rw [if_pos (im_Table_len)]
  show (run PP n "Table.__len__" _ _).bind _ = _
  rw [sp_Table_len n hn, Res.bind_ok]
  dsimp only
  rw [if_pos ((Bool.and_eq_true _ _).mpr ⟨decide_eq_true (by omega), decide_eq_true h0⟩)]
--@ Table.row
theorem sp_Table_row (n : Nat) (hn : 3 ≤ n) (st : Sto) (w : Nat) (t : List (List Rat)) (k : Nat) (hk : k < t.length) : run PP n "Table.row" [tbl w t, .int k] st = .ok (enc (ro t k)) st := by
  obtain ⟨m, rfl⟩ : ∃ m, n = m + 1 := ⟨n - 1, by omega⟩
  rw [rn_Table_row]
  have h1 : (k : Int) ≤ (t.length : Int) - 1 := by omega
  simp [d_Table_row, fld_tbl_rows, sp_is_number m (by omega), h1, at_ro hk]
theorem sp_Table_row_bad (n : Nat) (hn : 3 ≤ n) (st : Sto) (w : Nat) (t : List (List Rat)) (k : Int) (hk : ¬ (0 ≤ k ∧ k < t.length)) : run PP n "Table.row" [tbl w t, .int k] st = .exc "BadItem" [.int k] st := by
  obtain ⟨m, rfl⟩ : ∃ m, n = m + 1 := ⟨n - 1, by omega⟩
  rw [rn_Table_row]
  have h1 : k < 0 ∨ (t.length : Int) - 1 < k := by omega
  simp [d_Table_row, fld_tbl_rows, sp_is_number m (by omega), h1]
--@ Table.column
theorem sp_Table_column (n : Nat) (hn : 3 ≤ n) (st : Sto) (w : Nat) (t : List (List Rat)) (k : Nat) (hk : k < w) (ht : ∀ l ∈ t, l.length = w) : run PP n "Table.column" [tbl w t, .int k] st = .ok (enc (col t k)) st := by
  obtain ⟨m, rfl⟩ : ∃ m, n = m + 1 := ⟨n - 1, by omega⟩
  rw [rn_Table_column]
  have h1 : (k : Int) ≤ (w : Int) - 1 := by omega
  simp [d_Table_column, fld_tbl_rows, fld_tbl_wide, sp_is_number m (by omega), h1]
  rw [compR_map (g := fun l : List Rat => enc (pc l k))]
  · simp [col]
  · intro l hl
    simp [at_pc (show k < l.length by rw [ht l hl]; exact hk)]
theorem sp_Table_column_bad (n : Nat) (hn : 3 ≤ n) (st : Sto) (w : Nat) (t : List (List Rat)) (k : Int) (hk : ¬ (0 ≤ k ∧ k < w)) : run PP n "Table.column" [tbl w t, .int k] st = .exc "BadItem" [.int k] st := by
  obtain ⟨m, rfl⟩ : ∃ m, n = m + 1 := ⟨n - 1, by omega⟩
  rw [rn_Table_column]
  have h1 : k < 0 ∨ (w : Int) - 1 < k := by omega
  simp [d_Table_column, fld_tbl_wide, sp_is_number m (by omega), h1]
--@ Table.made
theorem sp_Table_made (n : Nat) (hn : 6 ≤ n) (st : Sto) (w : Nat) (t : List (List Rat)) (p : List Rat) (d : D) (hd : IsSeq d (p.map enc)) (hp : p.length = w) (ht : ∀ l ∈ t, l.length = w) (j k : Nat) (ha : Szt j t) (hb : ∀ q ∈ p, Sz k q) (hk : 1 + w * (j + k + 1) ≤ 4000) (hj : j ≤ 4000) (hk' : k ≤ 4000) : run PP n "Table.made" [tbl w t, d] st = .ok (enc (mad t p)) st := by
  obtain ⟨m, rfl⟩ : ∃ m, n = m + 1 := ⟨n - 1, by omega⟩
  rw [rn_Table_made]
  simp [d_Table_made, fld_tbl_rows, fld_tbl_wide, hd.len, hp]
  rw [compR_map (g := fun l : List Rat => enc (dot l p))]
  · simp [mad]
  · intro l hl
    simp [sp_joined m (by omega) _ _ _ l p (.enc l) hd j k (ha l hl) hb (by rw [ht l hl]; exact hk) hj hk']
theorem sp_Table_made_bad (n : Nat) (hn : 6 ≤ n) (st : Sto) (w : Nat) (t : List (List Rat)) (ds : List D) (d : D) (hd : IsSeq d ds) (hp : ds.length ≠ w) : run PP n "Table.made" [tbl w t, d] st = .exc "BadItem" [.non] st := by
  obtain ⟨m, rfl⟩ : ∃ m, n = m + 1 := ⟨n - 1, by omega⟩
  rw [rn_Table_made]
  have h1 : ¬ (ds.length : Int) = w := by omega
  simp [d_Table_made, fld_tbl_rows, fld_tbl_wide, hd.len, h1]
--@ Table.mirrored
theorem sp_Table_mirrored (n : Nat) (hn : 5 ≤ n) (st : Sto) (w : Nat) (t : List (List Rat)) (ht : Tw w t) : run PP n "Table.mirrored" [tbl w t] st = .ok (tbl w (mirr t)) st := by
  obtain ⟨m, rfl⟩ : ∃ m, n = m + 1 := ⟨n - 1, by omega⟩
  rw [rn_Table_mirrored]
  simp [d_Table_mirrored, fld_tbl_rows, fld_tbl_wide]
  rw [← List.map_reverse, compR_map (g := fun k : List Rat => enc k.reverse)]
  · have e := sp_Table' m (by omega) st _ _ _ ht.mirr (IsRows.map (f := fun k => enc k.reverse) (g := List.reverse) (fun x => .enc _) t.reverse)
    simp only [List.map_reverse] at e
    simp [e]
  · intro k hk
    simp
--@ Table.then
theorem sp_Table_then (n : Nat) (hn : 6 ≤ n) (st : Sto) (w : Nat) (t u : List (List Rat)) (ht : Tw w t) (hu : Tw t.length u) (j k : Nat) (ha : Szt j t) (hb : Szt k u) (hk : 1 + t.length * (k + j + 1) ≤ 4000) (hj : j ≤ 4000) (hk' : k ≤ 4000) : run PP n "Table.then" [tbl w t, tbl t.length u] st = .ok (tbl w (after w t u)) st := by
  obtain ⟨m, rfl⟩ : ∃ m, n = m + 1 := ⟨n - 1, by omega⟩
  rw [rn_Table_then]
  have := ht.w2
  simp [d_Table_then, fld_tbl_rows, fld_tbl_wide, rng_one w (by omega)]
  rw [compR_map (g := fun k : Nat => enc (col t k))]
  · simp [fld_tbl_rows, fld_tbl_wide]
    rw [compR_map (g := fun r : List Rat => .lst ((List.range w).map fun k => enc (dot r (col t k))))]
    · simp [sp_Table' m (by omega) _ _ _ _ (ht.after hu) (IsRows.map (fun r => IsSeq.lm (fun k => dot r (col t k)) (List.range w)) u)]
    · intro r hr
      simp
      rw [compR_map (g := fun k : Nat => enc (dot r (col t k)))]
      · simp
      · intro i hi
        simp [sp_joined m (by omega) _ _ _ r (col t i) (.enc _) (.enc _) k j (hb r hr) (ha.col ht.ln (List.mem_range.mp hi)) (by rw [hu.ln r hr]; exact hk) hk' hj]
  · intro k hk
    simp [enc_nat, sp_Table_column m (by omega) _ _ _ _ (List.mem_range.mp hk) ht.ln]
theorem sp_Table_then_bad (n : Nat) (hn : 1 ≤ n) (st : Sto) (w v : Nat) (t u : List (List Rat)) (h : v ≠ t.length) : run PP n "Table.then" [tbl w t, tbl v u] st = .exc "Refused" [.str [108, 101, 110, 103, 116, 104], .tup []] st := by
  obtain ⟨m, rfl⟩ : ∃ m, n = m + 1 := ⟨n - 1, by omega⟩
  rw [rn_Table_then]
  have h1 : ¬ (v : Int) = t.length := by omega
  simp [d_Table_then, fld_tbl_rows, fld_tbl_wide, h1]
--@ Table.sums
theorem sp_Table_sums (n : Nat) (hn : 5 ≤ n) (st : Sto) (w : Nat) (t : List (List Rat)) (j : Nat) (ha : Szt j t) (ht : ∀ l ∈ t, l.length = w) (hj : 1 + w * (j + 1) ≤ 4000) : run PP n "Table.sums" [tbl w t] st = .ok (enc (t.map tot)) st := by
  obtain ⟨m, rfl⟩ : ∃ m, n = m + 1 := ⟨n - 1, by omega⟩
  rw [rn_Table_sums]
  simp [d_Table_sums, fld_tbl_rows]
  rw [compR_map (g := fun l : List Rat => enc (tot l))]
  · simp
  · intro l hl
    simp [sp_total m (by omega) _ _ l (.enc l) j (ha l hl) (by rw [ht l hl]; exact hj)]
--@ Table.column_sums
theorem sp_Table_column_sums (n : Nat) (hn : 5 ≤ n) (st : Sto) (w : Nat) (t : List (List Rat)) (j : Nat) (ha : Szt j t) (ht : Tw w t) (hj : 1 + t.length * (j + 1) ≤ 4000) : run PP n "Table.column_sums" [tbl w t] st = .ok (enc ((List.range w).map fun k => tot (col t k))) st := by
  obtain ⟨m, rfl⟩ : ∃ m, n = m + 1 := ⟨n - 1, by omega⟩
  rw [rn_Table_column_sums]
  have := ht.w2
  simp [d_Table_column_sums, fld_tbl_wide, rng_one w (by omega)]
  rw [compR_map (g := fun k : Nat => enc (tot (col t k)))]
  · simp
  · intro k hk
    simp [enc_nat, sp_Table_column m (by omega) _ _ _ _ (List.mem_range.mp hk) ht.ln, sp_total m (by omega) _ _ _ (.enc _) j (ha.col ht.ln (List.mem_range.mp hk)) (by simpa using hj)]
--@ unit_row
theorem sp_unit_row (n : Nat) (hn : 1 ≤ n) (st : Sto) (w k : Nat) (hw : w ≤ 1000000) : run PP n "unit_row" [.int w, .int k] st = .ok (enc (unit w k)) st := by
  obtain ⟨m, rfl⟩ : ∃ m, n = m + 1 := ⟨n - 1, by omega⟩
  rw [rn_unit_row]
  simp [d_unit_row, rng_one w hw]
  rw [compR_map (g := fun i : Nat => enc (if i = k then (1 : Rat) else 0))]
  · simp [unit]
  · intro i hi
    by_cases h : i = k
    · simp [enc_nat, h, enc_one]
    · have h1 : ¬ (i : Int) = k := by omega
      simp [enc_nat, h, h1, enc_zero]
--@ picked
theorem sp_picked (n : Nat) (hn : 5 ≤ n) (st : Sto) (w : Nat) (d : D) (ps : List (Option Nat)) (hd : IsSeq d (ps.map eo)) (hw1 : 1 ≤ w) (hw2 : w ≤ 24) (h1 : 1 ≤ ps.length) (h2 : ps.length ≤ 24) (hp : ∀ k, some k ∈ ps → k < w) : run PP n "picked" [.int w, d] st = .ok (tbl w (ps.map (uo w))) st := by
  obtain ⟨m, rfl⟩ : ∃ m, n = m + 1 := ⟨n - 1, by omega⟩
  rw [rn_picked]
  have e1 : (1 : Int) ≤ w := by omega
  have e2 : (w : Int) ≤ 24 := by omega
  simp [d_picked, sp_is_number m (by omega), e1, e2, sp_is_row m (by omega) _ _ _ hd, hd.items, enumD_map]
  obtain ⟨ρ', s', e, ⟨x, y, rfl⟩, rfl⟩ := forR_ix (f := lStep PP (run PP m) (.many [3, 4]) [.cond (.and (.cmp .notN (.var 4) (.con .non)) (.not (.call "is_number" [.var 4, .con (.int 0), .bin .sub (.var 0) (.con (.int 1))]))) [.raise "BadItem" [.var 3]] [], .app 2 (.ite (.cmp .isN (.var 4) (.con .non)) (.call "unit_row" [.var 0, .var 0]) (.call "unit_row" [.var 0, .var 4]))]) (fun (a : List (Option Nat × Nat)) ρ s => (∃ x y, ρ = [.val (.int w), .val d, .own (.lst (a.map fun p => enc (uo w p.1))), x, y]) ∧ s = st) (fun p : Option Nat × Nat => D.tup [.int (p.2 : Int), eo p.1]) ps.zipIdx (ρ := [.val (.int w), .val d, .own (.lst []), .no, .no]) (st := st) ⟨⟨_, _, rfl⟩, rfl⟩ (by
    rintro a ⟨o, i⟩ b hab ρ s ⟨⟨x, y, rfl⟩, rfl⟩
    have hm : o ∈ ps := List.fst_mem_of_mem_zipIdx (x := (o, i)) (by rw [hab]; simp)
    have hal : a.length < 16000000 := by
      have := congrArg List.length hab
      simp at this; omega
    refine ⟨_, s, ?_, ⟨.val (.int i), .val (eo o), rfl⟩, rfl⟩
    cases o with
    | none =>
      simp [eo, sp_unit_row m (by omega) _ _ _ (show w ≤ 1000000 by omega)]
      rw [appO_own rfl (by simpa using hal)]
      simp [uo]
    | some k =>
      have hk := hp k hm
      have h3 : (k : Int) ≤ (w : Int) - 1 := by omega
      simp [eo, sp_is_number m (by omega), h3, sp_unit_row m (by omega) _ _ _ (show w ≤ 1000000 by omega)]
      rw [appO_own rfl (by simpa using hal)]
      simp [uo])
  rw [e]
  have e3 : ps.zipIdx.map (fun p => enc (uo w p.1)) = ps.map fun o => enc (uo w o) := by
    rw [← List.zipIdx_map_fst 0 ps, List.map_map]
    simp [Function.comp_def]
  simp [e3, sp_Table' m (by omega) _ _ _ _ (Tw.uos hw1 hw2 ps h1 h2) (IsRows.map (fun k => .enc (uo w k)) _)]
end Dp
end SK14S
set_option maxHeartbeats 4000000
set_option autoImplicit false
noncomputable section SK14L
namespace Dp
open PySem PySem.Spec PyProof.Rows L2
open Enc (enc)
--@ _law_taken
theorem sp_taken (n : Nat) (hn : 1 ≤ n) (ns : List Int) (st : Sto) (h : Rw ns st) (many : Nat) (h0 : 0 < many) (h1 : many < 1000000000000) : ∃ (v : Nat) (st' : Sto), run PP n "_law_taken" [.ref 0, .int many] st = .ok (.int v) st' ∧ v < many ∧ Rw ns st' := by
  obtain ⟨m, rfl⟩ : ∃ m, n = m + 1 := ⟨n - 1, by omega⟩
  obtain ⟨i, s, r, rfl, hi, hs, hs2, hr⟩ := h
  rw [rn__law_taken]
  have m0 : (many : Int) ≠ 0 := by omega
  have ml : (many : Int).natAbs.log2 < 9000 := by
    have := log2_small (k := 40) (many := many) (by omega) (by omega) (by decide)
    omega
  have fm := fun x : Int => dBin_fdiv x (many : Int) m0 ml
  have mm := fun x : Int => dBin_mod x (many : Int) m0
  have f7 := fun x : Int => dBin_fdiv x 7 (by decide) (by decide)
  have mM := fun x : Int => dBin_mod x 2147483647 (by decide)
  have hmul : mulOk s 48271 = true := mulOk_of (j := 31) (k := 16) (by omega) (by decide) (by decide)
  have hp : dBin .pow (.int 10) (.int 18) = some (.int 1000000000000000000) := by rfl
  have vm : ∀ x : Int, ∃ v : Nat, x.fmod many = v ∧ v < many := fun x => by
    have a1 := Int.fmod_nonneg_of_pos x (show (0 : Int) < many by omega)
    have a2 := Int.fmod_lt_of_pos x (show (0 : Int) < many by omega)
    exact ⟨(x.fmod many).toNat, by omega, by omega⟩
  have sM : ∀ x : Int, 0 ≤ x.fmod 2147483647 ∧ x.fmod 2147483647 < 2147483647 := fun x => ⟨Int.fmod_nonneg_of_pos x (by decide), Int.fmod_lt_of_pos x (by decide)⟩
  by_cases hr0 : 0 < r
  · obtain ⟨v, hv, hv2⟩ := vm r
    refine ⟨v, rowS ns i s (r.fdiv many), ?_, hv2, i, s, _, rfl, hi, hs, hs2, ?_⟩
    · simp [d__law_taken, rowS, hr0, mm, fm, hv]
    · rw [Int.fdiv_eq_ediv_of_nonneg _ (by omega)]
      exact Int.ediv_nonneg hr (by omega)
  · by_cases hlen : (ns.length : Int) < i + 1
    · obtain ⟨v, hv, hv2⟩ := vm (((s * 48271 + 11).fmod 2147483647).fdiv 7)
      obtain ⟨b1, b2⟩ := sM (s * 48271 + 11)
      refine ⟨v, rowS ns (i + 1) ((s * 48271 + 11).fmod 2147483647) r, ?_, hv2, _, _, _, rfl, by omega, b1, b2, hr⟩
      simp [d__law_taken, rowS, hr0, mm, f7, mM, hv, hlen, dBin_mul _ _ hmul]
    · obtain ⟨k, rfl⟩ : ∃ k : Nat, i = k := ⟨i.toNat, by omega⟩
      have hk : k < ns.length := by omega
      have hc : atI (ns.map D.int) ((k : Int) + 1 - 1) = some (.int (ns.getD k 0)) := by
        rw [show (k : Int) + 1 - 1 = (k : Int) by omega, atI_nat]
        simp [hk]
      generalize ns.getD k 0 = c at hc
      obtain ⟨v, hv, hv2⟩ := vm c
      obtain ⟨b1, b2⟩ := sM (s * 48271 + c + 11)
      have hc' : atI (ns.map D.int) (k : Int) = some (.int c) := by rw [← hc]; congr 1; omega
      by_cases hbig : 1000000000000000000 ≤ c
      · refine ⟨v, rowS ns ((k : Int) + 1) ((s * 48271 + c + 11).fmod 2147483647) (c.fdiv many), ?_, hv2, _, _, _, rfl, by omega, b1, b2, ?_⟩
        · simp [d__law_taken, rowS, hr0, mm, fm, f7, mM, hv, hlen, dBin_mul _ _ hmul, hc, hc', hp, hbig]
        · rw [Int.fdiv_eq_ediv_of_nonneg _ (by omega)]
          exact Int.ediv_nonneg (by omega) (by omega)
      · refine ⟨v, rowS ns ((k : Int) + 1) ((s * 48271 + c + 11).fmod 2147483647) r, ?_, hv2, _, _, _, rfl, by omega, b1, b2, hr⟩
        simp [d__law_taken, rowS, hr0, mm, fm, f7, mM, hv, hlen, dBin_mul _ _ hmul, hc, hc', hp, hbig]
--@ _law_pick
theorem sp_pick (n : Nat) (hn : 2 ≤ n) (ns : List Int) (st : Sto) (h : Rw ns st) (ds : List D) (h0 : 0 < ds.length) (h1 : ds.length < 1000000) : ∃ (d : D) (st' : Sto), run PP n "_law_pick" [.ref 0, .lst ds] st = .ok d st' ∧ d ∈ ds ∧ Rw ns st' := by
  obtain ⟨m, rfl⟩ : ∃ m, n = m + 1 := ⟨n - 1, by omega⟩
  obtain ⟨v, s1, e, hv, hR⟩ := sp_taken m (by omega) ns st h ds.length h0 (by omega)
  refine ⟨ds.getD v .non, s1, ?_, ?_, hR⟩
  · rw [rn__law_pick]
    simp [d__law_pick, e, atI_nat, hv]
  · rw [List.getD_eq_getElem?_getD, List.getElem?_eq_getElem hv]
    exact List.getElem_mem hv
--@ _law_mixed
theorem sp_mixed (n : Nat) (hn : 2 ≤ n) (ns : List Int) (st : Sto) (h : Rw ns st) (d : D) (xs : List D) (hd : IsSeq d xs) : ∃ (d' : D) (st' : Sto), run PP n "_law_mixed" [.ref 0, d] st = .ok d' st' ∧ IsSeq d' xs ∧ Rw ns st' := by
  obtain ⟨m, rfl⟩ : ∃ m, n = m + 1 := ⟨n - 1, by omega⟩
  obtain ⟨v, s1, e, hv, hR⟩ := sp_taken m (by omega) ns st h 2 (by omega) (by omega)
  have e' : run PP m "_law_taken" [.ref 0, .int 2] st = .ok (.int v) s1 := e
  by_cases h0 : v = 0
  · refine ⟨.lst xs, s1, ?_, .lst _, hR⟩
    rw [rn__law_mixed]
    simp [d__law_mixed, e', h0, hd.list]
  · refine ⟨.tup xs, s1, ?_, .tup _, hR⟩
    rw [rn__law_mixed]
    have h1 : ¬ (v : Int) = 0 := by omega
    simp [d__law_mixed, e', h1, h0, hd.tuple]
--@ _law_frac
theorem lfrac_while (P : Prog) (R : String → List D → Sto → Res D) (st : Sto) (x y : Sl) : ∀ (b a : Nat), a < 2 ^ 8600 → b < 2 ^ 8600 → whileR (wCond P R (.cmp .ne (.var 3) (.con (.int 0)))) (wBody P R [.par [2, 3] [.var 3, .bin .sub (.var 2) (.bin .mul (.bin .fdiv (.var 2) (.var 3)) (.var 3))]]) [x, y, .val (.int a), .val (.int b)] st = .nx [x, y, .val (.int (Nat.gcd a b : Nat)), .val (.int 0)] st := by
  intro b
  induction b using Nat.strongRecOn with
  | _ b ih =>
    intro a ha hb
    by_cases h0 : b = 0
    · subst h0
      rw [whileR_end (st1 := st)]
      · simp
      · simp
    · have hb0 : (b : Int) ≠ 0 := by omega
      rw [whileR_eq (st1 := st) (ρ2 := [x, y, .val (.int b), .val (.int (a % b : Nat))]) (st2 := st)]
      · rw [ih (a % b) (Nat.mod_lt _ (by omega)) b hb (Nat.lt_of_le_of_lt (Nat.mod_le _ _) ha)]
        rw [Nat.gcd_comm a b, Nat.gcd_rec b a, Nat.gcd_comm]
      · simp [h0]
      · have f1 : dBin .fdiv (.int (a : Int)) (.int (b : Int)) = some (.int ((a : Int) / (b : Int))) := by
          rw [dBin_fdiv _ _ hb0 (Nat.lt_trans (log2_lt hb (by decide)) (by decide)), Int.fdiv_eq_ediv_of_nonneg _ (by omega)]
        have f2 : mulOk ((a : Int) / (b : Int)) (b : Int) = true := mulOk_of (j := 8600) (k := 8600) (a := ((a / b : Nat) : Int)) (Nat.lt_of_le_of_lt (Nat.div_le_self _ _) ha) hb (by decide)
        have f3 : (a : Int) - (a : Int) / (b : Int) * (b : Int) = (a : Int) % (b : Int) := by
          rw [Int.emod_def, Int.mul_comm]
        simp [f1, dBin_mul _ _ f2, f3]
theorem sp_lfrac (n : Nat) (hn : 1 ≤ n) (st : Sto) (a b : Int) (hb : b ≠ 0) (ha : a.natAbs < 2 ^ 8500) (hs : b.natAbs < 2 ^ 8500) : run PP n "_law_frac" [.int a, .int b] st = .ok (enc (Rat.divInt a b)) st := by
  obtain ⟨m, rfl⟩ : ∃ m, n = m + 1 := ⟨n - 1, by omega⟩
  rw [rn__law_frac]
  obtain ⟨g1, g2⟩ := gcd_side (a := a) hb hs
  obtain ⟨e1, e2⟩ := num_of (a := a) hb
  have hg : Nat.gcd a.natAbs b.natAbs = Int.gcd a b := rfl
  have l1 : a.natAbs < 2 ^ 8600 := Nat.lt_of_lt_of_le ha (Nat.pow_le_pow_right (by decide) (by decide))
  have l2 : b.natAbs < 2 ^ 8600 := Nat.lt_of_lt_of_le hs (Nat.pow_le_pow_right (by decide) (by decide))
  have ff := fun i => dBin_fdiv i _ g1 g2
  rw [enc_rat, ← e1, ← e2]
  by_cases hlt : b < 0
  · have q1 : (if 0 < a then a else -a) = (a.natAbs : Int) := by split <;> omega
    have q2 : (b.natAbs : Int) = -b := by omega
    have w := fun (x y : Sl) => lfrac_while PP (run PP m) st x y _ _ l1 l2
    rw [hg, q2] at w
    simp [d__law_frac, hlt, q1, w, ff]
  · have q1 : (if a < 0 then -a else a) = (a.natAbs : Int) := by split <;> omega
    have q2 : b = (b.natAbs : Int) := by omega
    have w := fun (x y : Sl) => lfrac_while PP (run PP m) st x y _ _ l1 l2
    rw [hg, ← q2] at w
    simp [d__law_frac, hlt, q1, w, ff]
--@ _law_plus
theorem nat_add_lt {a b : Int} {k : Nat} (ha : a.natAbs < 2 ^ k) (hb : b.natAbs < 2 ^ k) : (a + b).natAbs < 2 ^ (k + 1) := by
  rw [Nat.pow_succ]
  have := Int.natAbs_add_le a b
  omega
theorem nd_lt {a b : Rat} (ha : Sz 4000 a) (hb : Sz 4000 b) : (a.num * b.den).natAbs < 2 ^ 8000 := by
  rw [Int.natAbs_mul, Int.natAbs_natCast]; exact nat_mul_lt ha.1 hb.2
theorem nn_lt {a b : Rat} (ha : Sz 4000 a) (hb : Sz 4000 b) : (a.num * b.num).natAbs < 2 ^ 8500 := by
  rw [Int.natAbs_mul]; exact Nat.lt_of_lt_of_le (nat_mul_lt ha.1 hb.1) (Nat.pow_le_pow_right (by decide) (by decide))
theorem sp_lplus (n : Nat) (hn : 2 ≤ n) (st : Sto) (a b : Rat) (ha : Sz 4000 a) (hb : Sz 4000 b) : run PP n "_law_plus" [enc a, enc b] st = .ok (enc (a + b)) st := by
  obtain ⟨m, rfl⟩ : ∃ m, n = m + 1 := ⟨n - 1, by omega⟩
  rw [rn__law_plus]
  have h1 : (a.num * b.den + b.num * a.den).natAbs < 2 ^ 8500 := Nat.lt_of_lt_of_le (nat_add_lt (nd_lt ha hb) (nd_lt hb ha)) (Nat.pow_le_pow_right (by decide) (by decide))
  simp [d__law_plus, dBin_mul, mo_nd ha hb, mo_nd hb ha, mo_dd ha hb, sp_lfrac m (by omega), Int.mul_ne_zero (den_ne a) (den_ne b), big2 ha hb, rat_add_eq, h1]
--@ _law_times
theorem sp_ltimes (n : Nat) (hn : 2 ≤ n) (st : Sto) (a b : Rat) (ha : Sz 4000 a) (hb : Sz 4000 b) : run PP n "_law_times" [enc a, enc b] st = .ok (enc (a * b)) st := by
  obtain ⟨m, rfl⟩ : ∃ m, n = m + 1 := ⟨n - 1, by omega⟩
  rw [rn__law_times]
  simp [d__law_times, dBin_mul, mo_nn ha hb, mo_dd ha hb, sp_lfrac m (by omega), Int.mul_ne_zero (den_ne a) (den_ne b), big2 ha hb, rat_mul_eq, nn_lt ha hb]
--@ _law_dot
theorem sp_ldot (n : Nat) (hn : 3 ≤ n) (st : Sto) (d1 d2 : D) (a b : List Rat) (h1 : IsSeq d1 (a.map enc)) (h2 : IsSeq d2 (b.map enc)) (hab : a.length ≤ b.length) (j k : Nat) (ha : ∀ q ∈ a, Sz j q) (hb : ∀ q ∈ b, Sz k q) (hk : 1 + a.length * (j + k + 1) ≤ 4000) (hj : j ≤ 4000) (hk' : k ≤ 4000) (hl : a.length ≤ 1000000) : run PP n "_law_dot" [d1, d2] st = .ok (enc (dot a b)) st := by
  obtain ⟨m, rfl⟩ : ∃ m, n = m + 1 := ⟨n - 1, by omega⟩
  rw [rn__law_dot]
  have hlen := h1.len
  have hi1 : ∀ s i, i < a.length → dIdx s d1 (.int (i : Nat)) = some (enc (pc a i)) := fun s i hi => by
    cases h1 <;> simp [atI_nat, pc_get hi]
  have hi2 : ∀ s i, i < b.length → dIdx s d2 (.int (i : Nat)) = some (enc (pc b i)) := fun s i hi => by
    cases h2 <;> simp [atI_nat, pc_get hi]
  have htl : ∀ i, i ≤ a.length → Sz 4000 (tot ((a.zipWith (· * ·) b).take i)) := fun i hi => by
    refine (tot_sz (k := j + k) fun q hq => ?_).mono ?_
    · have hq := List.mem_of_mem_take hq
      rw [← List.map_uncurry_zip_eq_zipWith] at hq
      obtain ⟨p, hp, rfl⟩ := List.mem_map.mp hq
      exact (ha _ (List.of_mem_zip hp).1).mul (hb _ (List.of_mem_zip hp).2)
    · have : ((a.zipWith (· * ·) b).take i).length ≤ a.length := by simp; omega
      have := Nat.mul_le_mul_right (j + k + 1) this
      omega
  simp [d__law_dot, hlen, rng_one _ hl]
  obtain ⟨ρ', s', e, ⟨x, rfl⟩, rfl⟩ := forR_range (f := lStep PP (run PP m) (.one 3) [.asg 2 (.call "_law_plus" [.var 2, .call "_law_times" [.idx (.var 0) (.var 3), .idx (.var 1) (.var 3)]])]) (fun i ρ s => (∃ x, ρ = [.val d1, .val d2, .val (enc (tot ((a.zipWith (· * ·) b).take i))), x]) ∧ s = st) enc a.length (ρ := [.val d1, .val d2, .val (.tup [.int 0, .int 1]), .no]) (st := st) ⟨⟨_, rfl⟩, rfl⟩ (by
    rintro i hi ρ s ⟨⟨x, rfl⟩, rfl⟩
    refine ⟨_, s, ?_, ⟨.val (.int i), rfl⟩, rfl⟩
    have z1 : Sz j (pc a i) := ha _ (pc_mem hi)
    have z2 : Sz k (pc b i) := hb _ (pc_mem (by omega))
    have hm : j + k ≤ 4000 := by
      have : 1 * (j + k + 1) ≤ a.length * (j + k + 1) := Nat.mul_le_mul_right _ (by omega)
      omega
    have z3 : Sz 4000 (pc a i * pc b i) := (z1.mul z2).mono hm
    simp [enc_nat, hi1 s i hi, hi2 s i (by omega), sp_ltimes m (by omega) _ _ _ (z1.mono hj) (z2.mono hk'), sp_lplus m (by omega) _ _ _ (htl i (by omega)) z3, dot_take a b i hi (by omega)])
  rw [e]
  have e2 : (a.zipWith (· * ·) b).take a.length = a.zipWith (· * ·) b := List.take_of_length_le (by simp; omega)
  simp [e2, dot]
--@ _law_part
theorem sp_part (n : Nat) (hn : 3 ≤ n) (ns : List Int) (st : Sto) (h : Rw ns st) : ∃ (q : Rat) (st' : Sto), run PP n "_law_part" [.ref 0] st = .ok (enc q) st' ∧ Dr q ∧ Rw ns st' := by
  obtain ⟨m, rfl⟩ : ∃ m, n = m + 1 := ⟨n - 1, by omega⟩
  obtain ⟨v, s1, e1, hv, h1⟩ := sp_taken m (by omega) ns st h 19 (by omega) (by omega)
  obtain ⟨u, s2, e2, hu, h2⟩ := sp_taken m (by omega) ns s1 h1 5 (by omega) (by omega)
  have e1' : run PP m "_law_taken" [.ref 0, .int 19] st = .ok (.int v) s1 := e1
  have e2' : run PP m "_law_taken" [.ref 0, .int 5] s1 = .ok (.int u) s2 := e2
  have b1 : ((v : Int) - 9).natAbs ≤ 9 := by omega
  have b2 : (1 + (u : Int)).natAbs ≤ 5 := by omega
  have b0 : 1 + (u : Int) ≠ 0 := by omega
  have p4 : (2 : Nat) ^ 4 ≤ 2 ^ 8500 := Nat.pow_le_pow_right (by decide) (by decide)
  have e3 := sp_lfrac m (by omega) s2 ((v : Int) - 9) (1 + (u : Int)) b0 (by omega) (by omega)
  obtain ⟨d, s3, e4, hd, h3⟩ := sp_pick m (by omega) ns s2 h2 [.tup [.int 0, .int 1], .tup [.int 1, .int 1], .tup [.int 1, .int 1], .tup [.int 1, .int 2], .tup [.int (-1), .int 1], .tup [.int 2, .int 3], .tup [.int (-3), .int 4], .tup [.int 3, .int 1], enc (Rat.divInt ((v : Int) - 9) (1 + (u : Int)))] (by simp) (by simp)
  have hq : ∃ q : Rat, d = enc q ∧ Dr q := by
    simp only [List.mem_cons, List.not_mem_nil, or_false] at hd
    rcases hd with rfl | rfl | rfl | rfl | rfl | rfl | rfl | rfl | rfl
    · exact ⟨⟨0, 1, by decide, by decide⟩, rfl, by decide, by decide⟩
    · exact ⟨⟨1, 1, by decide, by decide⟩, rfl, by decide, by decide⟩
    · exact ⟨⟨1, 1, by decide, by decide⟩, rfl, by decide, by decide⟩
    · exact ⟨⟨1, 2, by decide, by decide⟩, rfl, by decide, by decide⟩
    · exact ⟨⟨-1, 1, by decide, by decide⟩, rfl, by decide, by decide⟩
    · exact ⟨⟨2, 3, by decide, by decide⟩, rfl, by decide, by decide⟩
    · exact ⟨⟨-3, 4, by decide, by decide⟩, rfl, by decide, by decide⟩
    · exact ⟨⟨3, 1, by decide, by decide⟩, rfl, by decide, by decide⟩
    · exact ⟨_, rfl, divInt_dr b0 b1 b2⟩
  obtain ⟨q, rfl, hq⟩ := hq
  refine ⟨q, s3, ?_, hq, h3⟩
  rw [rn__law_part]
  simp [d__law_part, e1', e2', e3, e4]
--@ _law_drawn
theorem sp_drawn (n : Nat) (hn : 4 ≤ n) (ns : List Int) (st : Sto) (h : Rw ns st) (high wide : Nat) (hh : high ≤ 1000) (hw : wide ≤ 1000) : ∃ (t : List (List Rat)) (st' : Sto), run PP n "_law_drawn" [.ref 0, .int high, .int wide] st = .ok (enc t) st' ∧ t.length = high ∧ (∀ l ∈ t, l.length = wide) ∧ Drt t ∧ Rw ns st' := by
  obtain ⟨m, rfl⟩ : ∃ m, n = m + 1 := ⟨n - 1, by omega⟩
  obtain ⟨t, s', e, hR, hl, hq⟩ := compR_inv (f := cStep PP (run PP m) (.one 3) none (.bi .tuple [.comp (.one 4) (.range [.var 2]) none (.call "_law_part" [.var 0])]) [.val (.ref 0), .val (.int high), .val (.int wide), .no, .no]) (Rw ns) (enc : Nat → D) (enc : List Rat → D) (fun _ l => l.length = wide ∧ ∀ q ∈ l, Dr q) (List.range high) st h (by
    intro k hk s hs
    obtain ⟨l, s', e, hR, hl, hq⟩ := compR_inv (f := cStep PP (run PP m) (.one 4) none (.call "_law_part" [.var 0]) [.val (.ref 0), .val (.int high), .val (.int wide), .val (.int k), .no]) (Rw ns) (enc : Nat → D) (enc : Rat → D) (fun _ q => Dr q) (List.range wide) s hs (by
      intro i hi s hs
      obtain ⟨q, s', e, hq, hR⟩ := sp_part m (by omega) ns s hs
      exact ⟨q, s', by simp [e], hR, hq⟩)
    refine ⟨l, s', by simp [enc_nat, rng_one wide (by omega), e], hR, by simpa using hl, fun q hm => ?_⟩
    obtain ⟨i, hi, rfl⟩ := List.getElem_of_mem hm
    exact hq ((List.range wide)[i]'(by rw [← hl]; exact hi), l[i]) (by
      rw [List.mem_iff_getElem]
      exact ⟨i, by simp at hl; simp; omega, by simp⟩))
  refine ⟨t, s', ?_, by simpa using hl, ?_, ?_, hR⟩
  · rw [rn__law_drawn]
    simp [d__law_drawn, rng_one high (by omega), e]
  all_goals
    intro l hm
    obtain ⟨i, hi, rfl⟩ := List.getElem_of_mem hm
    have := hq ((List.range high)[i]'(by rw [← hl]; exact hi), t[i]) (by
      rw [List.mem_iff_getElem]
      exact ⟨i, by simp at hl; simp; omega, by simp⟩)
    first
      | exact this.1
      | exact this.2
--@ _law_alike
theorem sp_alike : ∀ (k n : Nat) (_ : k + 1 ≤ n) (st : Sto) (d : D) (_ : Fine k d), run PP n "_law_alike" [d, d] st = .ok (.bl true) st := by
  intro k
  induction k with
  | zero =>
    intro n hn st d hd
    obtain ⟨m, rfl⟩ : ∃ m, n = m + 1 := ⟨n - 1, by omega⟩
    rw [rn__law_alike]
    cases hd with
    | non => simp [d__law_alike, dEq_refl (.non 0)]
    | bl _ b => simp [d__law_alike, dEq_refl (.bl 0 b)]
    | int _ i => simp [d__law_alike, dEq_refl (.int 0 i)]
    | str _ s h => simp [d__law_alike, dEq_refl (.str 0 s h)]
  | succ k ih =>
    intro n hn st d hd
    obtain ⟨m, rfl⟩ : ∃ m, n = m + 1 := ⟨n - 1, by omega⟩
    rw [rn__law_alike]
    cases hd with
    | non => simp [d__law_alike, dEq_refl (.non 0)]
    | bl _ b => simp [d__law_alike, dEq_refl (.bl 0 b)]
    | int _ i => simp [d__law_alike, dEq_refl (.int 0 i)]
    | str _ s h => simp [d__law_alike, dEq_refl (.str 0 s h)]
    | tup _ xs h hl =>
      simp [d__law_alike, rng_one xs.length (by omega)]
      rw [compR_none]
      · simp [dEq_refl (.lst 0 [] (by simp) (by simp))]
      · intro i hi
        have hi : i < xs.length := List.mem_range.mp hi
        simp [enc_nat, atI_nat, hi, ih m (by omega) st _ (h _ (List.getElem_mem hi))]
    | lst _ xs h hl =>
      simp [d__law_alike, rng_one xs.length (by omega)]
      rw [compR_none]
      · simp [dEq_refl (.lst 0 [] (by simp) (by simp))]
      · intro i hi
        have hi : i < xs.length := List.mem_range.mp hi
        simp [enc_nat, atI_nat, hi, ih m (by omega) st _ (h _ (List.getElem_mem hi))]
--@ _law_pairs
theorem sp_pairs (n : Nat) (hn : 1 ≤ n) (st : Sto) (a b : Nat) (ha : a ≤ 100) (hb : b ≤ 100) : run PP n "_law_pairs" [.int a, .int b] st = .ok (.lst ((prs a b).map enc)) st := by
  obtain ⟨m, rfl⟩ : ∃ m, n = m + 1 := ⟨n - 1, by omega⟩
  rw [rn__law_pairs]
  simp [d__law_pairs, rng_one a (by omega)]
  obtain ⟨ρ', s', e, ⟨x, rfl⟩, rfl⟩ := forR_range (f := lStep PP (run PP m) (.one 3) [.asg 2 (.bin .add (.var 2) (.comp (.one 4) (.range [.var 1]) none (.tup [.var 3, .var 4])))]) (fun i ρ s => (∃ x, ρ = [.val (.int a), .val (.int b), .val (.lst ((prs i b).map enc)), x, .no]) ∧ s = st) enc a (ρ := [.val (.int a), .val (.int b), .val (.lst []), .no, .no]) (st := st) ⟨⟨_, rfl⟩, rfl⟩ (by
    rintro i hi ρ s ⟨⟨x, rfl⟩, rfl⟩
    refine ⟨_, s, ?_, ⟨.val (.int i), rfl⟩, rfl⟩
    have hl : (prs i b).length + b ≤ 16777216 := by
      rw [prs_length]
      have : i * b ≤ 100 * 100 := Nat.mul_le_mul (by omega) hb
      omega
    simp [enc_nat, rng_one b (by omega)]
    rw [compR_map (g := fun k : Nat => enc ((i, k) : Nat × Nat))]
    · have e1 : dBin .add (.lst ((prs i b).map enc)) (.lst ((List.range b).map fun k : Nat => enc ((i, k) : Nat × Nat))) = some (.lst ((prs (i + 1) b).map enc)) := by
        show (if lenOk (((prs i b).map enc).length + ((List.range b).map fun k : Nat => enc ((i, k) : Nat × Nat)).length) then _ else _) = _
        rw [if_pos (lenOk_of (by simpa using hl))]
        congr 2
        simp [prs, List.range_succ, Function.comp_def]
      simp [e1]
    · intro k hk
      simp [enc_nat]
      rfl)
  rw [e]
  simp
end Dp
end SK14L
set_option maxHeartbeats 4000000
set_option autoImplicit false
noncomputable section SK14M
namespace Dp
open PySem PySem.Spec PyProof.Rows L2
open Enc (enc)
--@ minus
theorem sp_minus (n : Nat) (hn : 3 ≤ n) (st : Sto) (a b : Rat) (ha : Sz 4000 a) (hb : Sz 4000 b) : run PP n "minus" [enc a, enc b] st = .ok (enc (a - b)) st := by
  obtain ⟨m, rfl⟩ : ∃ m, n = m + 1 := ⟨n - 1, by omega⟩
  rw [rn_minus]
  simp [d_minus, dBin_mul, mo_nd ha hb, mo_nd hb ha, mo_dd ha hb, sp_fraction m (by omega), Int.mul_ne_zero (den_ne a) (den_ne b), big2 ha hb, rat_sub_eq]
--@ over
theorem mo_dn {a b : Rat} (ha : Sz 4000 a) (hb : Sz 4000 b) : mulOk a.den b.num = true := mulOk_of (by rw [Int.natAbs_natCast]; exact ha.2) hb.1 (by decide)
theorem dn_lt {a b : Rat} (ha : Sz 4000 a) (hb : Sz 4000 b) : ((a.den : Int) * b.num).natAbs < 2 ^ 8500 := by
  rw [Int.natAbs_mul, Int.natAbs_natCast]; exact Nat.lt_of_lt_of_le (nat_mul_lt ha.2 hb.1) (Nat.pow_le_pow_right (by decide) (by decide))
theorem sp_over (n : Nat) (hn : 3 ≤ n) (st : Sto) (a b : Rat) (ha : Sz 4000 a) (hb : Sz 4000 b) (h0 : b ≠ 0) : run PP n "over" [enc a, enc b] st = .ok (enc (a / b)) st := by
  obtain ⟨m, rfl⟩ : ∃ m, n = m + 1 := ⟨n - 1, by omega⟩
  rw [rn_over]
  have hn0 : b.num ≠ 0 := fun z => h0 (Rat.num_eq_zero.mp z)
  have h1 : (a.den : Int) * b.num ≠ 0 := Int.mul_ne_zero (den_ne a) hn0
  simp [d_over, hn0, dBin_mul, mo_nd ha hb, mo_dn ha hb]
  rw [sp_fraction m (by omega) st _ _ h1 (dn_lt ha hb), ← rat_div_eq]
  simp
--@ is_less
theorem lt_num (a b : Rat) : decide (a.num * b.den < b.num * a.den) = decide (a < b) := decide_eq_decide.mpr (Rat.lt_iff a b).symm
theorem sp_is_less (n : Nat) (hn : 1 ≤ n) (st : Sto) (a b : Rat) (ha : Sz 4000 a) (hb : Sz 4000 b) : run PP n "is_less" [enc a, enc b] st = .ok (.bl (decide (a < b))) st := by
  obtain ⟨m, rfl⟩ : ∃ m, n = m + 1 := ⟨n - 1, by omega⟩
  rw [rn_is_less, ← lt_num]
  simp [d_is_less, dBin_mul, mo_nd ha hb, mo_nd hb ha]
--@ _law_less is_less
theorem sp_lless (n : Nat) (hn : 1 ≤ n) (st : Sto) (a b : Rat) (ha : Sz 4000 a) (hb : Sz 4000 b) : run PP n "_law_less" [enc a, enc b] st = .ok (.bl (decide (a < b))) st := by
  obtain ⟨m, rfl⟩ : ∃ m, n = m + 1 := ⟨n - 1, by omega⟩
  rw [rn__law_less, ← lt_num]
  simp [d__law_less, dBin_mul, mo_nd ha hb, mo_nd hb ha]
--@ want_long
theorem sp_want_long (n : Nat) (hn : 3 ≤ n) (st : Sto) (w : Nat) (h1 : 1 ≤ w) (h2 : w ≤ 24) : run PP n "want_long" [.int w] st = .ok (.int w) st := by
  obtain ⟨m, rfl⟩ : ∃ m, n = m + 1 := ⟨n - 1, by omega⟩
  rw [rn_want_long]
  have e1 : (1 : Int) ≤ w := by omega
  have e2 : (w : Int) ≤ 24 := by omega
  simp [d_want_long, sp_is_number m (by omega), e1, e2]
theorem sp_want_long_bad (n : Nat) (hn : 3 ≤ n) (st : Sto) (w : Int) (h : ¬ (1 ≤ w ∧ w ≤ 24)) : run PP n "want_long" [.int w] st = .exc "BadNumber" [.int w] st := by
  obtain ⟨m, rfl⟩ : ∃ m, n = m + 1 := ⟨n - 1, by omega⟩
  rw [rn_want_long]
  have h1 : w < 1 ∨ 24 < w := by omega
  simp [d_want_long, sp_is_number m (by omega), h1]
--@ nearest
theorem small_mul {a b : Int} (ha : a.natAbs < 1000000) (hb : b.natAbs < 1000000) : dBin .mul (.int a) (.int b) = some (.int (a * b)) := dBin_mul _ _ (mulOk_of (j := 20) (k := 20) (by omega) (by omega) (by decide))
theorem small_div {a b : Nat} (hb : 0 < b) (h : b < 1000000) : dBin .fdiv (.int (a : Int)) (.int (b : Int)) = some (.int ((a / b : Nat) : Int)) := by
  rw [dBin_fdiv _ _ (by omega) (Nat.lt_of_lt_of_le (log2_lt (k := 20) (by omega) (by decide)) (by decide)), Int.fdiv_eq_ediv_of_nonneg _ (by omega)]
  rfl
theorem sp_nearest (n : Nat) (hn : 6 ≤ n) (st : Sto) (w l : Nat) (h1 : 1 ≤ w) (h2 : w ≤ 24) (h3 : 1 ≤ l) (h4 : l ≤ 24) : run PP n "nearest" [.int w, .int l] st = .ok (tbl w ((nearL w l).map (uo w))) st := by
  obtain ⟨m, rfl⟩ : ∃ m, n = m + 1 := ⟨n - 1, by omega⟩
  rw [rn_nearest]
  simp [d_nearest, sp_want_long m (by omega) _ _ h1 h2, sp_want_long m (by omega) _ _ h3 h4, rng_one l (by omega)]
  rw [compR_map (g := fun i : Nat => eo (some (min (w - 1) ((2 * i + 1) * w / (2 * l)))))]
  · have hp := sp_picked m (by omega) st w (.lst ((nearL w l).map eo)) (nearL w l) (.lst _) h1 h2 (by simpa [nearL] using h3) (by simpa [nearL] using h4) (fun k hk => by
      unfold nearL at hk
      obtain ⟨i, _, e⟩ := List.mem_map.mp hk
      cases e
      omega)
    have e : (nearL w l).map eo = (List.range l).map fun i => eo (some (min (w - 1) ((2 * i + 1) * w / (2 * l)))) := by unfold nearL; rw [List.map_map]; rfl
    rw [e] at hp
    simp [hp]
  · intro i hi
    have hi : i < l := List.mem_range.mp hi
    have q0 : (2 * (i : Int)).natAbs < 1000000 := by omega
    have q1 : (2 * (i : Int) + 1).natAbs < 1000000 := by omega
    have q2 : (w : Int).natAbs < 1000000 := by omega
    have e1 := small_mul (a := 2) (b := i) (by decide) (by omega)
    have e2 := small_mul q1 q2
    have e3 := small_mul (a := 2) (b := l) (by decide) (by omega)
    have e4 := small_div (a := (2 * i + 1) * w) (b := 2 * l) (by omega) (by omega)
    generalize (2 * i + 1) * w / (2 * l) = z at e4 ⊢
    have c1 : (((2 * i + 1) * w : Nat) : Int) = (2 * (i : Int) + 1) * w := by simp
    have c2 : ((2 * l : Nat) : Int) = 2 * (l : Int) := by simp
    rw [c1, c2] at e4
    simp only [cStep_one, evC_none, Res.bind_ok, kCst_app, if_true, evE_bi, evL_cons, evE_bin, evE_var, evE_con, List.set_cons_zero, List.set_cons_succ, slotD_zero, slotD_succ, lift_some, kBin_app, kBin2_app, dBin_sub, dBin_add, kL_app, e1, e2, e3, e4, enc_nat, evL_nil, kL2_app, kBi_app, bi_min, kSm_app]
    simp only [eo]
    congr 4
    by_cases h : z < w - 1
    · rw [Nat.min_eq_right (by omega), if_pos (by omega)]
    · rw [Nat.min_eq_left (by omega), if_neg (by omega)]
      omega
--@ shared
theorem sp_shared (n : Nat) (hn : 4 ≤ n) (st : Sto) (i k w l : Nat) (hi : i ≤ 100) (hk : k ≤ 100) (hw : 1 ≤ w) (hw2 : w ≤ 100) (hl : 1 ≤ l) (hl2 : l ≤ 100) : run PP n "shared" [.int i, .int k, .int w, .int l] st = .ok (enc (sharedQ i k w l)) st := by
  obtain ⟨m, rfl⟩ : ∃ m, n = m + 1 := ⟨n - 1, by omega⟩
  rw [rn_shared]
  have p : (2 : Nat) ^ 10 ≤ 2 ^ 8500 := Nat.pow_le_pow_right (by decide) (by decide)
  have ff : ∀ (a : Int) (b : Nat), b ≠ 0 → b ≤ 100 → run PP m "fraction" [.int a, .int b] st = .ok (enc (mkRat a b)) st := fun a b h0 h => by
    rw [← Rat.divInt_ofNat]; exact sp_fraction m (by omega) st a b (by omega) (by omega)
  have s1 : Sz 10 (mkRat i l) := mk_sz (by omega) (by omega) (by omega)
  have s2 : Sz 10 (mkRat (i + 1) l) := mk_sz (by omega) (by omega) (by omega)
  have s3 : Sz 10 (mkRat k w) := mk_sz (by omega) (by omega) (by omega)
  have s4 : Sz 10 (mkRat (k + 1) w) := mk_sz (by omega) (by omega) (by omega)
  have s5 : Sz 10 (mkRat 1 l) := mk_sz (by omega) (by omega) (by omega)
  have n5 : mkRat 1 l ≠ 0 := mk_one_ne (by omega)
  have b := fun {q : Rat} (h : Sz 10 q) => h.big (by decide)
  have l0 : l ≠ 0 := by omega
  have w0 : w ≠ 0 := by omega
  have h1 : Sz 10 (if mkRat i l < mkRat k w then mkRat k w else mkRat i l) := by split <;> assumption
  have h2 : Sz 10 (if mkRat (k + 1) w < mkRat (i + 1) l then mkRat (k + 1) w else mkRat (i + 1) l) := by split <;> assumption
  have i1 := sp_is_less m (by omega) st _ _ (b s1) (b s3)
  have i2 := sp_is_less m (by omega) st _ _ (b s4) (b s2)
  have i3 := sp_is_less m (by omega) st _ _ (b h1) (b h2)
  have i4 := sp_minus m (by omega) st _ _ (b h2) (b h1)
  have i5 := sp_over m (by omega) st _ _ ((Sz.sub h2 h1).big (by decide)) (b s5) n5
  have hc := Decidable.em ((if mkRat i l < mkRat k w then mkRat k w else mkRat i l) < (if mkRat (k + 1) w < mkRat (i + 1) l then mkRat (k + 1) w else mkRat (i + 1) l))
  have f1 := ff 1 l l0 (by omega)
  have z0 : D.tup [.int 0, .int 1] = enc (0 : Rat) := rfl
  by_cases c1 : mkRat i l < mkRat k w <;> by_cases c2 : mkRat (k + 1) w < mkRat (i + 1) l <;> simp only [c1, c2, if_true, if_false] at i3 i4 i5 hc <;> rcases hc with hc | hc <;> simp [d_shared, ff _ _ l0 (by omega), ff _ _ w0 (by omega), i1, i2, i3, i4, i5, f1, c1, c2, hc, sharedQ, z0]
--@ box
theorem sp_box (n : Nat) (hn : 6 ≤ n) (st : Sto) (w l : Nat) (h1 : 1 ≤ w) (h2 : w ≤ 24) (h3 : 1 ≤ l) (h4 : l ≤ 24) : run PP n "box" [.int w, .int l] st = .ok (tbl w (boxT w l)) st := by
  obtain ⟨m, rfl⟩ : ∃ m, n = m + 1 := ⟨n - 1, by omega⟩
  rw [rn_box]
  simp [d_box, sp_want_long m (by omega) _ _ h1 h2, sp_want_long m (by omega) _ _ h3 h4, rng_one l (by omega)]
  obtain ⟨ρ', s', e, ⟨x, rfl⟩, rfl⟩ := forR_range (f := lStep PP (run PP m) (.one 3) [.app 2 (.comp (.one 4) (.range [.var 0]) none (.call "shared" [.var 3, .var 4, .var 0, .var 1]))]) (fun i ρ s => (∃ x, ρ = [.val (.int w), .val (.int l), .own (.lst ((List.range i).map fun i => .lst ((List.range w).map fun k => enc (sharedQ i k w l)))), x, .no]) ∧ s = st) enc l (ρ := [.val (.int w), .val (.int l), .own (.lst []), .no, .no]) (st := st) ⟨⟨_, rfl⟩, rfl⟩ (by
    rintro i hi ρ s ⟨⟨x, rfl⟩, rfl⟩
    refine ⟨_, s, ?_, ⟨.val (.int i), rfl⟩, rfl⟩
    simp [enc_nat, rng_one w (by omega)]
    rw [compR_map (g := fun k : Nat => enc (sharedQ i k w l))]
    · simp
      rw [appO_own rfl (by simp; omega)]
      simp [List.range_succ]
    · intro k hk
      have hk : k < w := List.mem_range.mp hk
      simp [enc_nat, sp_shared m (by omega) s i k w l (by omega) (by omega) h1 (by omega) h3 (by omega)])
  rw [e]
  have e3 := sp_Table' m (by omega) s' (boxT w l) _ w (Tw.box h1 h2 h3 h4) (IsRows.map (f := fun i => .lst ((List.range w).map fun k => enc (sharedQ i k w l))) (fun i => IsSeq.lm (fun k => sharedQ i k w l) (List.range w)) (List.range l))
  simp [e3]
--@ between
theorem sp_between (n : Nat) (hn : 4 ≤ n) (st : Sto) (w : Nat) (q : Rat) (h1 : 1 ≤ w) (h2 : w ≤ 100) (hq : Sz 100 q) : run PP n "between" [.int w, enc q] st = .ok (.lst ((betweenQ w q).map enc)) st := by
  obtain ⟨m, rfl⟩ : ∃ m, n = m + 1 := ⟨n - 1, by omega⟩
  rw [rn_between]
  have hh : (D.tup [.int 1, .int 2]) = enc (Rat.divInt 1 2) := by rw [enc_rat, Rat.num_divInt, Rat.den_divInt]; rfl
  have sh : Sz 10 (Rat.divInt 1 2) := dv_sz (by decide) (by decide) (by decide)
  have sb : Sz 111 (q - Rat.divInt 1 2) := Sz.sub hq sh
  generalize hb : q - Rat.divInt 1 2 = back at sb
  have e1 := sp_minus m (by omega) st q (Rat.divInt 1 2) (hq.big (by decide)) (sh.big (by decide))
  rw [hb] at e1
  have hd0 : (back.den : Int) ≠ 0 := den_ne back
  have f1 : dBin .fdiv (.int back.num) (.int back.den) = some (.int (back.num.fdiv back.den)) := dBin_fdiv _ _ hd0 (by rw [Int.natAbs_natCast]; exact Nat.lt_of_lt_of_le (log2_lt sb.2 (by decide)) (by decide))
  have fl : (back.num.fdiv back.den).natAbs < 2 ^ 112 := Nat.lt_of_le_of_lt (Int.natAbs_fdiv_le_natAbs _ _) (Nat.lt_of_lt_of_le sb.1 (Nat.pow_le_pow_right (by decide) (by decide)))
  generalize hlow : back.num.fdiv back.den = low at f1 fl
  have sl : Sz 112 (Rat.divInt low 1) := divInt_sz (by decide) fl (by exact Nat.one_lt_two_pow (by decide))
  have hl : D.tup [.int low, .int 1] = enc (Rat.divInt low 1) := by
    rw [enc_rat, Rat.num_divInt, Rat.den_divInt]
    simp
  have sp : Sz 224 (back - Rat.divInt low 1) := Sz.sub sb sl
  have e2 := sp_minus m (by omega) st back (Rat.divInt low 1) (sb.big (by decide)) (sl.big (by decide))
  generalize hpart : back - Rat.divInt low 1 = part at e2 sp
  have e3 := sp_minus m (by omega) st 1 part (one_sz.big (by decide)) (sp.big (by decide))
  have sm : Sz 226 (1 - part) := Sz.sub one_sz sp
  have c1 : (clampI w low) = ((clamp w low : Nat) : Int) := (clamp_cast w low).symm
  have c2 : (clampI w (low + 1)) = ((clamp w (low + 1) : Nat) : Int) := (clamp_cast w (low + 1)).symm
  have k1 := clamp_lt w low h1
  have k2 := clamp_lt w (low + 1) h1
  have r0 : dBin .mul (.lst [.tup [.int 0, .int 1]]) (.int w) = some (.lst ((List.replicate w (0 : Rat)).map enc)) := by
    rw [List.map_replicate]; exact rep_lst (enc (0 : Rat)) w (by omega)
  have e4 : run PP m "plus" [enc (0 : Rat), enc (1 - part)] st = .ok (enc (0 + (1 - part))) st := sp_plus m (by omega) st 0 (1 - part) (zero_sz.big (by decide)) (sm.big (by decide))
  have g1 : pc (List.replicate w (0 : Rat)) (clamp w low) = 0 := by simp [pc, k1]
  have hs1 : setD ((List.replicate w (0 : Rat)).map enc) ((clamp w low : Nat) : Int) (enc (0 + (1 - part))) = some ((addAt (List.replicate w 0) (clamp w low) (1 - part)).map enc) := by
    rw [setD_nat (by simpa using k1)]
    simp [addAt, g1, List.map_set]
  have zz : ∀ x ∈ addAt (List.replicate w 0) (clamp w low) (1 - part), Sz 228 x := fun x hx => by
    unfold addAt at hx
    rcases List.mem_or_eq_of_mem_set hx with z | z
    · rw [(List.mem_replicate.mp z).2]; exact zero_sz.mono (by decide)
    · rw [z, g1]; exact Sz.add zero_sz sm
  generalize hA : addAt (List.replicate w 0) (clamp w low) (1 - part) = A at hs1 zz
  have lA : A.length = w := by rw [← hA]; simp [addAt_length]
  have zA := zz _ (pc_mem (show clamp w (low + 1) < A.length by omega))
  have e5 := sp_plus m (by omega) st (pc A (clamp w (low + 1))) part (zA.big (by decide)) (sp.big (by decide))
  have hs2 : setD (A.map enc) ((clamp w (low + 1) : Nat) : Int) (enc (pc A (clamp w (low + 1)) + part)) = some ((addAt A (clamp w (low + 1)) part).map enc) := by
    rw [setD_nat (by simpa [lA] using k2)]
    simp [addAt, List.map_set]
  have res : betweenQ w q = addAt A (clamp w (low + 1)) part := by
    unfold betweenQ
    dsimp only
    rw [hb, hlow, hpart, hA]
  have i1 : dIdx st (.lst ((List.replicate w (0 : Rat)).map enc)) (.int ((clamp w low : Nat) : Int)) = some (enc (0 : Rat)) := by
    rw [dIdx_lst, atI_nat]; simp [k1]
  have i2 : dIdx st (.lst (A.map enc)) (.int ((clamp w (low + 1) : Nat) : Int)) = some (enc (pc A (clamp w (low + 1)))) := by
    rw [dIdx_lst, atI_nat]; simp [pc_get (show clamp w (low + 1) < A.length by omega)]
  have o1 : ∀ (ρ : Ev), ρ[5]? = some (.own (.lst ((List.replicate w (0 : Rat)).map enc))) → setO ρ 5 st (.int ((clamp w low : Nat) : Int)) (enc (0 + (1 - part))) = .nx (ρ.set 5 (.own (.lst (A.map enc)))) st := fun ρ hρ => by
    rw [setO_of (xs := (List.replicate w (0 : Rat)).map enc) (ys := A.map enc) (by rw [listAt_eq, hρ]; rfl) hs1, putL_eq, hρ]; rfl
  have o2 : ∀ (ρ : Ev), ρ[5]? = some (.own (.lst (A.map enc))) → setO ρ 5 st (.int ((clamp w (low + 1) : Nat) : Int)) (enc (pc A (clamp w (low + 1)) + part)) = .nx (ρ.set 5 (.own (.lst ((addAt A (clamp w (low + 1)) part).map enc)))) st := fun ρ hρ => by
    rw [setO_of (xs := A.map enc) (ys := (addAt A (clamp w (low + 1)) part).map enc) (by rw [listAt_eq, hρ]; rfl) hs2, putL_eq, hρ]; rfl
  rw [res]
  unfold clampI at c1 c2
  simp only [d_between, evSs_cons, evSs_nil, evS_asg, evE_call, evL_cons, evL_nil, evE_var, evE_con, evE_tup, slotD_zero, slotD_succ, lift_some, Res.bind_ok, kL_app, kL2_app, kTup_app, hh, e1, Res.out_ok, kAsg_app, List.set_cons_zero, List.set_cons_succ, Out.bind_nx, kSs_app, evE_bin, evE_idx, kIdx_app, kIdx2_app, dIdx_fst, dIdx_snd, kBin_app, kBin2_app, f1, hl, e2, evS_par, evE_bi, dBin_sub, dBin_add, kBi_app, bi_min, bi_max, c1, c2, kPar_app, bindT_two, nxO_some, evS_own, evE_lst, evE_glo, con_NOTHING, kLst_app, r0, kOwn_app, ownO_lst, evS_seti, evE_oix, ownL_succ, ownL_zero, oixR_some, kOix_app, kIdx2_app, i1, con_ONE, ← enc_one, e3, e4, kSet_app, listAt_eq, List.getElem?_cons_succ, List.getElem?_cons_zero, lstS_own, listO'_some, kSet2_app, o1, o2, i2, e5, evS_frz, listO_some, evS_ret, kRet_app, Out.bind_ret, endB_ret]
--@ tent
theorem sp_tent (n : Nat) (hn : 6 ≤ n) (st : Sto) (w l : Nat) (h1 : 1 ≤ w) (h2 : w ≤ 24) (h3 : 1 ≤ l) (h4 : l ≤ 24) : run PP n "tent" [.int w, .int l] st = .ok (tbl w (tentT w l)) st := by
  obtain ⟨m, rfl⟩ : ∃ m, n = m + 1 := ⟨n - 1, by omega⟩
  rw [rn_tent]
  simp [d_tent, sp_want_long m (by omega) _ _ h1 h2, sp_want_long m (by omega) _ _ h3 h4, rng_one l (by omega)]
  rw [compR_map (g := fun i : Nat => .lst ((betweenQ w (Rat.divInt ((2 * (i : Int) + 1) * w) (2 * (l : Int)))).map enc))]
  · have e3 := sp_Table' m (by omega) st (tentT w l) _ w (Tw.tent h1 h2 h3 h4) (IsRows.map (f := fun i : Nat => .lst ((betweenQ w (Rat.divInt ((2 * (i : Int) + 1) * w) (2 * (l : Int)))).map enc)) (fun i => .lst _) (List.range l))
    simp [e3]
  · intro i hi
    have hi : i < l := List.mem_range.mp hi
    have b1 : (((2 * (i : Int) + 1) * w)).natAbs < 2 ^ 12 := by
      rw [Int.natAbs_mul]
      have : (2 * (i : Int) + 1).natAbs * (w : Int).natAbs ≤ 49 * 24 := Nat.mul_le_mul (by omega) (by omega)
      omega
    have b2 : (2 * (l : Int)).natAbs < 2 ^ 12 := by omega
    have l0 : 2 * (l : Int) ≠ 0 := by omega
    have e1 := small_mul (a := 2) (b := i) (by decide) (by omega)
    have e2 := small_mul (a := 2 * (i : Int) + 1) (b := w) (by omega) (by omega)
    have e3 := small_mul (a := 2) (b := l) (by decide) (by omega)
    have e4 := sp_fraction m (by omega) st ((2 * (i : Int) + 1) * w) (2 * (l : Int)) l0 (Nat.lt_of_lt_of_le b2 (Nat.pow_le_pow_right (by decide) (by decide)))
    have s4 : Sz 100 (Rat.divInt ((2 * (i : Int) + 1) * w) (2 * (l : Int))) := (divInt_sz l0 b1 b2).mono (by decide)
    simp [enc_nat, e1, e2, e3, e4, sp_between m (by omega) st w _ h1 (by omega) s4]
--@ led
theorem sp_led_near (n : Nat) (hn : 7 ≤ n) (st : Sto) (w l : Nat) (h1 : 1 ≤ w) (h2 : w ≤ 24) (h3 : 1 ≤ l) (h4 : l ≤ 24) : run PP n "led" [.str [110, 101, 97, 114, 101, 115, 116], .int w, .int l] st = .ok (tbl w ((nearL w l).map (uo w))) st := by
  obtain ⟨m, rfl⟩ : ∃ m, n = m + 1 := ⟨n - 1, by omega⟩
  rw [rn_led]
  have e1 : dEq (.str [110, 101, 97, 114, 101, 115, 116]) (.str [110, 101, 97, 114, 101, 115, 116]) = some true := by decide
  simp [d_led, e1, sp_nearest m (by omega) st w l h1 h2 h3 h4]
theorem sp_led_box (n : Nat) (hn : 7 ≤ n) (st : Sto) (w l : Nat) (h1 : 1 ≤ w) (h2 : w ≤ 24) (h3 : 1 ≤ l) (h4 : l ≤ 24) : run PP n "led" [.str [98, 111, 120], .int w, .int l] st = .ok (tbl w (boxT w l)) st := by
  obtain ⟨m, rfl⟩ : ∃ m, n = m + 1 := ⟨n - 1, by omega⟩
  rw [rn_led]
  have e1 : dEq (.str [98, 111, 120]) (.str [110, 101, 97, 114, 101, 115, 116]) = some false := by decide
  have e2 : dEq (.str [98, 111, 120]) (.str [98, 111, 120]) = some true := by decide
  simp [d_led, e1, e2, sp_box m (by omega) st w l h1 h2 h3 h4]
theorem sp_led_tent (n : Nat) (hn : 7 ≤ n) (st : Sto) (w l : Nat) (h1 : 1 ≤ w) (h2 : w ≤ 24) (h3 : 1 ≤ l) (h4 : l ≤ 24) : run PP n "led" [.str [116, 101, 110, 116], .int w, .int l] st = .ok (tbl w (tentT w l)) st := by
  obtain ⟨m, rfl⟩ : ∃ m, n = m + 1 := ⟨n - 1, by omega⟩
  rw [rn_led]
  have e1 : dEq (.str [116, 101, 110, 116]) (.str [110, 101, 97, 114, 101, 115, 116]) = some false := by decide
  have e2 : dEq (.str [116, 101, 110, 116]) (.str [98, 111, 120]) = some false := by decide
  have e3 : dEq (.str [116, 101, 110, 116]) (.str [116, 101, 110, 116]) = some true := by decide
  simp [d_led, e1, e2, e3, sp_tent m (by omega) st w l h1 h2 h3 h4]
--@ mirror
theorem sp_mirror (n : Nat) (hn : 6 ≤ n) (st : Sto) (w : Nat) (h1 : 1 ≤ w) (h2 : w ≤ 24) : run PP n "mirror" [.int w] st = .ok (tbl w ((mirL w).map (uo w))) st := by
  obtain ⟨m, rfl⟩ : ∃ m, n = m + 1 := ⟨n - 1, by omega⟩
  rw [rn_mirror]
  simp [d_mirror, sp_want_long m (by omega) _ _ h1 h2, rng_one w (by omega)]
  rw [compR_map (g := fun i : Nat => eo (some (w - 1 - i)))]
  · have hp := sp_picked m (by omega) st w (.lst ((mirL w).map eo)) (mirL w) (.lst _) h1 h2 (by simpa [mirL] using h1) (by simpa [mirL] using h2) (fun k hk => by
      obtain ⟨i, _, e⟩ := List.mem_map.mp hk
      cases e
      omega)
    have e : (mirL w).map eo = (List.range w).map fun i => eo (some (w - 1 - i)) := by unfold mirL; rw [List.map_map]; rfl
    rw [e] at hp
    simp [hp]
  · intro i hi
    have hi : i < w := List.mem_range.mp hi
    have e : (w : Int) - 1 - i = ((w - 1 - i : Nat) : Int) := by omega
    simp [enc_nat, eo]
    omega
--@ moved
theorem sp_moved (n : Nat) (hn : 6 ≤ n) (st : Sto) (w : Nat) (h1 : 1 ≤ w) (h2 : w ≤ 24) (k : Int) (k1 : -24 ≤ k) (k2 : k ≤ 24) : run PP n "moved" [.int w, .int k] st = .ok (tbl w ((movL w k).map (uo w))) st := by
  obtain ⟨m, rfl⟩ : ∃ m, n = m + 1 := ⟨n - 1, by omega⟩
  rw [rn_moved]
  simp [d_moved, sp_want_long m (by omega) _ _ h1 h2, rng_one w (by omega), sp_is_number m (by omega), k1, k2]
  rw [compR_map (g := fun i : Nat => eo (movO w k i))]
  · have hp := sp_picked m (by omega) st w (.lst ((movL w k).map eo)) (movL w k) (.lst _) h1 h2 (by simpa [movL] using h1) (by simpa [movL] using h2) (fun j hj => by
      obtain ⟨i, _, e⟩ := List.mem_map.mp hj
      unfold movO at e
      split at e
      · cases e; omega
      · cases e)
    have e : (movL w k).map eo = (List.range w).map fun i => eo (movO w k i) := by unfold movL; rw [List.map_map]; rfl
    rw [e] at hp
    simp [hp]
  · intro i hi
    have hi : i < w := List.mem_range.mp hi
    unfold movO
    by_cases c1 : 0 ≤ (i : Int) - k
    · by_cases c2 : (i : Int) - k < w
      · have c3 : k ≤ i := by omega
        rw [if_pos ⟨c1, c2⟩]
        simp [enc_nat, c3, c2, eo]
        omega
      · have c3 : k ≤ i := by omega
        rw [if_neg fun z => c2 z.2]
        simp [enc_nat, c3, c2, eo]
    · have c3 : ¬ k ≤ i := by omega
      rw [if_neg fun z => c1 z.1]
      simp [enc_nat, c3, eo]
--@ around
theorem sp_around (n : Nat) (hn : 6 ≤ n) (st : Sto) (w : Nat) (h1 : 1 ≤ w) (h2 : w ≤ 24) (k : Int) (k1 : -24 ≤ k) (k2 : k ≤ 24) : run PP n "around" [.int w, .int k] st = .ok (tbl w ((aroL w k).map (uo w))) st := by
  obtain ⟨m, rfl⟩ : ∃ m, n = m + 1 := ⟨n - 1, by omega⟩
  rw [rn_around]
  have fb : ∀ z : Int, 0 ≤ z.fmod w ∧ z.fmod w < w := fun z => ⟨Int.fmod_nonneg_of_pos z (by omega), Int.fmod_lt_of_pos z (by omega)⟩
  simp [d_around, sp_want_long m (by omega) _ _ h1 h2, rng_one w (by omega), sp_is_number m (by omega), k1, k2]
  rw [compR_map (g := fun i : Nat => eo (some (((i : Int) - k).fmod w).toNat))]
  · have hp := sp_picked m (by omega) st w (.lst ((aroL w k).map eo)) (aroL w k) (.lst _) h1 h2 (by simpa [aroL] using h1) (by simpa [aroL] using h2) (fun j hj => by
      obtain ⟨i, _, e⟩ := List.mem_map.mp hj
      cases e
      have := fb ((i : Int) - k)
      omega)
    have e : (aroL w k).map eo = (List.range w).map fun (i : Nat) => eo (some (((i : Int) - k).fmod w).toNat) := by unfold aroL; rw [List.map_map]; rfl
    rw [e] at hp
    simp [hp]
  · intro i hi
    have := fb ((i : Int) - k)
    have w0 : (w : Int) ≠ 0 := by omega
    have e := dBin_mod ((i : Int) - k) w w0
    simp [enc_nat, e, eo]
    omega
--@ cut
theorem sp_cut (n : Nat) (hn : 6 ≤ n) (st : Sto) (w a b : Nat) (h1 : 1 ≤ w) (h2 : w ≤ 24) (hab : a < b) (hb : b ≤ w) : run PP n "cut" [.int w, .int a, .int b] st = .ok (tbl w ((cutL a b).map (uo w))) st := by
  obtain ⟨m, rfl⟩ : ∃ m, n = m + 1 := ⟨n - 1, by omega⟩
  rw [rn_cut]
  have e1 : (1 : Int) ≤ b := by omega
  have e3 : (a : Int) ≤ (b : Int) - 1 := by omega
  simp [d_cut, sp_want_long m (by omega) _ _ h1 h2, rng_two a b (by omega) (by omega), sp_is_number m (by omega), e1, hb, e3]
  rw [compR_map (g := fun i : Nat => eo (some i))]
  · have hp := sp_picked m (by omega) st w (.lst ((cutL a b).map eo)) (cutL a b) (.lst _) h1 h2 (by simp [cutL]; omega) (by simp [cutL]; omega) (fun j hj => by
      obtain ⟨i, hi, e⟩ := List.mem_map.mp hj
      cases e
      have := List.mem_range'_1.mp hi
      omega)
    have e : (cutL a b).map eo = (List.range' a (b - a)).map fun i => eo (some i) := by unfold cutL; rw [List.map_map]; rfl
    rw [e] at hp
    simp [hp]
  · intro i hi
    simp [enc_nat, eo]
--@ repeated
theorem sp_repeated (n : Nat) (hn : 6 ≤ n) (st : Sto) (w k : Nat) (h1 : 1 ≤ w) (h2 : w ≤ 24) (h3 : 1 ≤ k) (h4 : k ≤ 24) (h5 : w * k ≤ 24) : run PP n "repeated" [.int w, .int k] st = .ok (tbl w ((repL w k).map (uo w))) st := by
  obtain ⟨m, rfl⟩ : ∃ m, n = m + 1 := ⟨n - 1, by omega⟩
  rw [rn_repeated]
  have h6 : 1 ≤ w * k := Nat.mul_pos h1 h3
  have e1 := small_mul (a := w) (b := k) (by omega) (by omega)
  have e2 := sp_want_long m (by omega) st (w * k) h6 h5
  have e3 := rng_one (w * k) (by omega)
  rw [Int.natCast_mul] at e2 e3
  simp [d_repeated, sp_want_long m (by omega) _ _ h1 h2, sp_want_long m (by omega) _ _ h3 h4, e1, e2, e3]
  rw [compR_map (g := fun i : Nat => eo (some (i / k)))]
  · have hp := sp_picked m (by omega) st w (.lst ((repL w k).map eo)) (repL w k) (.lst _) h1 h2 (by simpa [repL] using h6) (by simpa [repL] using h5) (fun j hj => by
      obtain ⟨i, hi, e⟩ := List.mem_map.mp hj
      cases e
      exact (Nat.div_lt_iff_lt_mul (by omega)).mpr (List.mem_range.mp hi))
    have e : (repL w k).map eo = (List.range (w * k)).map fun i => eo (some (i / k)) := by unfold repL; rw [List.map_map]; rfl
    rw [e] at hp
    simp [hp]
  · intro i hi
    have e := small_div (a := i) (b := k) (by omega) (by omega)
    simp only [cStep_one, evC_none, Res.bind_ok, kCst_app, if_true, evE_bin, evE_var, List.set_cons_zero, List.set_cons_succ, slotD_zero, slotD_succ, lift_some, kBin_app, kBin2_app, enc_nat, e, kSm_app, eo]
--@ every
theorem sp_every (n : Nat) (hn : 6 ≤ n) (st : Sto) (w k : Nat) (h1 : 1 ≤ w) (h2 : w ≤ 24) (h3 : 1 ≤ k) (h4 : k ≤ 24) : run PP n "every" [.int w, .int k] st = .ok (tbl w ((evyL w k).map (uo w))) st := by
  obtain ⟨m, rfl⟩ : ∃ m, n = m + 1 := ⟨n - 1, by omega⟩
  rw [rn_every]
  simp [d_every, sp_want_long m (by omega) _ _ h1 h2, sp_want_long m (by omega) _ _ h3 h4, rng_one w (by omega)]
  rw [compR_filter (p := fun i => decide (i % k = 0)) (g := fun i : Nat => eo (some i))]
  · have hm : (0 : Nat) ∈ (List.range w).filter fun i => decide (i % k = 0) := by simp; omega
    have hp := sp_picked m (by omega) st w (.lst ((evyL w k).map eo)) (evyL w k) (.lst _) h1 h2 (by
      unfold evyL
      rw [List.length_map]
      exact List.length_pos_iff.mpr (List.ne_nil_of_mem hm)) (by
      unfold evyL
      rw [List.length_map]
      have := List.length_filter_le (fun i => decide (i % k = 0)) (List.range w)
      simp at this
      omega) (fun j hj => by
      obtain ⟨i, hi, e⟩ := List.mem_map.mp hj
      cases e
      have := List.mem_filter.mp hi
      simpa using this.1)
    have e : (evyL w k).map eo = ((List.range w).filter fun i => decide (i % k = 0)).map fun i => eo (some i) := by unfold evyL; rw [List.map_map]; rfl
    rw [e] at hp
    simp [hp]
  · intro i hi
    have k0 : (k : Int) ≠ 0 := by omega
    have e := dBin_mod (i : Int) k k0
    have e2 : (i : Int).fmod k = ((i % k : Nat) : Int) := by
      rw [Int.fmod_eq_emod_of_nonneg _ (by omega)]; rfl
    rw [e2] at e
    by_cases c : i % k = 0
    · rw [c] at e
      simp [enc_nat, e, eo, c]
    · have c2 : ¬ ((i % k : Nat) : Int) = 0 := by omega
      generalize ((i % k : Nat) : Int) = z at e c2
      simp [enc_nat, e, eo, c, c2]
--@ wider
theorem wider_facts (m : Nat) (hm : 5 ≤ m) (st : Sto) (w a b : Nat) (h1 : 1 ≤ w) (h2 : w + a + b ≤ 24) (f l : Option Nat) (hf : ∀ k, f = some k → k < w) (hl : ∀ k, l = some k → k < w) :
    dBin .mul (.lst [eo f]) (.int a) = some (.lst ((List.replicate a f).map eo)) ∧ dBin .mul (.lst [eo l]) (.int b) = some (.lst ((List.replicate b l).map eo)) ∧
    dBin .add (.lst ((List.replicate a f).map eo)) (.lst (((List.range w).map some).map eo)) = some (.lst ((List.replicate a f ++ (List.range w).map some).map eo)) ∧
    dBin .add (.lst ((List.replicate a f ++ (List.range w).map some).map eo)) (.lst ((List.replicate b l).map eo)) = some (.lst ((widL w a b f l).map eo)) ∧
    run PP m "picked" [.int w, .lst ((widL w a b f l).map eo)] st = .ok (tbl w ((widL w a b f l).map (uo w))) st := by
  have r1 := rep_lst (eo f) a (by omega)
  have r2 := rep_lst (eo l) b (by omega)
  have q1 : List.replicate a (eo f) = (List.replicate a f).map eo := by rw [List.map_replicate]
  have q2 : List.replicate b (eo l) = (List.replicate b l).map eo := by rw [List.map_replicate]
  rw [q1] at r1
  rw [q2] at r2
  refine ⟨r1, r2, dAdd_eo _ _ (by simp; omega), dAdd_eo _ _ (by simp; omega), ?_⟩
  refine sp_picked m (by omega) st w (.lst ((widL w a b f l).map eo)) (widL w a b f l) (.lst _) h1 (by omega) (by simp [widL]; omega) (by simp [widL]; omega) (fun k hk => ?_)
  unfold widL at hk
  rcases List.mem_append.mp hk with z | z
  · rcases List.mem_append.mp z with y | y
    · exact hf k (List.mem_replicate.mp y).2.symm
    · obtain ⟨i, hi, e⟩ := List.mem_map.mp y
      cases e
      exact List.mem_range.mp hi
  · exact hl k (List.mem_replicate.mp z).2.symm
theorem wider_comp (m : Nat) (st : Sto) (w : Nat) (s0 s1 s2 s3 s4 s5 s6 s7 : Sl) : compR (cStep PP (run PP m) (.one 7) none (.var 7) [s0, s1, s2, s3, s4, s5, s6, s7]) ((List.range w).map enc) st = .ok (((List.range w).map some).map eo) st := by
  rw [compR_map (g := fun i : Nat => eo (some i))]
  · rw [List.map_map]; rfl
  · intro i hi
    simp [enc_nat, eo]
theorem sp_wider (n : Nat) (hn : 6 ≤ n) (st : Sto) (w a b : Nat) (e : Bool) (h1 : 1 ≤ w) (h2 : w + a + b ≤ 24) : run PP n "wider" [.int w, .int a, .int b, .bl e] st = .ok (tbl w ((widL w a b (if e then some 0 else none) (if e then some (w - 1) else none)).map (uo w))) st := by
  obtain ⟨m, rfl⟩ : ∃ m, n = m + 1 := ⟨n - 1, by omega⟩
  rw [rn_wider]
  have a1 : (a : Int) ≤ 24 := by omega
  have b1 : (b : Int) ≤ 24 := by omega
  have wl := sp_want_long m (by omega) st (w + a + b) (by omega) h2
  simp only [Int.natCast_add] at wl
  have c : ((w - 1 : Nat) : Int) = (w : Int) - 1 := by omega
  have z0 : ((0 : Nat) : Int) = 0 := rfl
  cases e with
  | true =>
    obtain ⟨f1, f2, f3, f4, f5⟩ := wider_facts m (by omega) st w a b h1 h2 (some 0) (some (w - 1)) (fun k z => by cases z; omega) (fun k z => by cases z; omega)
    simp only [eo, c, z0] at f1 f2
    simp only [d_wider, evSs_cons, evSs_nil, evS_ex, evE_call, evL_cons, evL_nil, evE_var, slotD_zero, slotD_succ, lift_some, Res.bind_ok, kL_app, kL2_app, sp_want_long m (by omega) st w h1 (show w ≤ 24 by omega), Res.out_ok, kEx_app, Out.bind_nx, kSs_app, evS_loop, evI_seq, evE_tup, kTup_app, kSeq_app, items_tup, optL_some, kLoop_app, forR, lStep_one, List.set_cons_zero, List.set_cons_succ, evS_cond, evT_eq, evE_not, evE_con, evE_glo, con_MOST_LONG, sp_is_number m (by omega), a1, b1, decide_true, Int.natCast_nonneg, Bool.and_self, kNot_app, asTru_bl, kNot2_app, Bool.not_true, kCond_app, if_false, Bool.false_eq_true, evE_bin, kBin_app, kBin2_app, dBin_add, dBin_sub, wl, evS_asgT, evE_ite, kIte_app, if_true, kAsgT_app, bindT_two, nxO_some, evS_ret, evE_lst, kLst_app, f1, evE_comp, evI_range, kRng_app, rng_one w (show w ≤ 1000000 by omega), kComp_app, wider_comp, f2, f3, f4, f5, kRet_app, Out.bind_ret, endB_ret]
  | false =>
    obtain ⟨f1, f2, f3, f4, f5⟩ := wider_facts m (by omega) st w a b h1 h2 none none (fun k z => by cases z) (fun k z => by cases z)
    simp only [eo] at f1 f2
    simp only [d_wider, evSs_cons, evSs_nil, evS_ex, evE_call, evL_cons, evL_nil, evE_var, slotD_zero, slotD_succ, lift_some, Res.bind_ok, kL_app, kL2_app, sp_want_long m (by omega) st w h1 (show w ≤ 24 by omega), Res.out_ok, kEx_app, Out.bind_nx, kSs_app, evS_loop, evI_seq, evE_tup, kTup_app, kSeq_app, items_tup, optL_some, kLoop_app, forR, lStep_one, List.set_cons_zero, List.set_cons_succ, evS_cond, evT_eq, evE_not, evE_con, evE_glo, con_MOST_LONG, sp_is_number m (by omega), a1, b1, decide_true, Int.natCast_nonneg, Bool.and_self, kNot_app, asTru_bl, kNot2_app, Bool.not_true, kCond_app, if_false, Bool.false_eq_true, evE_bin, kBin_app, kBin2_app, dBin_add, dBin_sub, wl, evS_asgT, evE_ite, kIte_app, if_true, kAsgT_app, bindT_two, nxO_some, evS_ret, evE_lst, kLst_app, f1, evE_comp, evI_range, kRng_app, rng_one w (show w ≤ 1000000 by omega), kComp_app, wider_comp, f2, f3, f4, f5, kRet_app, Out.bind_ret, endB_ret]
--@ runs
theorem sp_runs (n : Nat) (hn : 5 ≤ n) (st : Sto) (w : Nat) (h1 : 1 ≤ w) (h2 : w ≤ 24) : run PP n "runs" [.int w] st = .ok (tbl w (runT w)) st := by
  obtain ⟨m, rfl⟩ : ∃ m, n = m + 1 := ⟨n - 1, by omega⟩
  rw [rn_runs]
  simp [d_runs, sp_want_long m (by omega) _ _ h1 h2, rng_one w (by omega)]
  rw [compR_map (g := fun i : Nat => .lst ((List.range w).map fun k => enc (if k ≤ i then (1 : Rat) else 0)))]
  · have e3 := sp_Table' m (by omega) st (runT w) _ w (Tw.runs h1 h2) (IsRows.map (f := fun i : Nat => .lst ((List.range w).map fun k => enc (if k ≤ i then (1 : Rat) else 0))) (fun i => IsSeq.lm (fun k => if k ≤ i then (1 : Rat) else 0) (List.range w)) (List.range w))
    simp [e3]
  · intro i hi
    simp [enc_nat, rng_one w (by omega)]
    rw [compR_map (g := fun k : Nat => enc (if k ≤ i then (1 : Rat) else 0))]
    · simp
    · intro k hk
      by_cases c : k ≤ i
      · simp [enc_nat, c, enc_one]
      · simp [enc_nat, c, enc_zero]
--@ differences
theorem sp_differences (n : Nat) (hn : 5 ≤ n) (st : Sto) (w : Nat) (h1 : 1 ≤ w) (h2 : w ≤ 24) : run PP n "differences" [.int w] st = .ok (tbl w (difT w)) st := by
  obtain ⟨m, rfl⟩ : ∃ m, n = m + 1 := ⟨n - 1, by omega⟩
  rw [rn_differences]
  simp [d_differences, sp_want_long m (by omega) _ _ h1 h2, rng_one w (by omega)]
  obtain ⟨ρ', s', e, ⟨x, y, rfl⟩, rfl⟩ := forR_range (f := lStep PP (run PP m) (.one 2) [.own 3 (.bi .list [.call "unit_row" [.var 0, .var 2]]), .cond (.cmp .gt (.var 2) (.con (.int 0))) [.seti 3 (.bin .sub (.var 2) (.con (.int 1))) (.tup [.neg (.con (.int 1)), .con (.int 1)])] [], .frz 3, .app 1 (.var 3)]) (fun i ρ s => (∃ x y, ρ = [.val (.int w), .own (.lst ((List.range i).map fun i => .lst ((difR w i).map enc))), x, y]) ∧ s = st) enc w (ρ := [.val (.int w), .own (.lst []), .no, .no]) (st := st) ⟨⟨_, _, rfl⟩, rfl⟩ (by
    rintro i hi ρ s ⟨⟨x, y, rfl⟩, rfl⟩
    refine ⟨_, s, ?_, ⟨.val (.int i), .val (.lst ((difR w i).map enc)), rfl⟩, rfl⟩
    by_cases c : 0 < i
    · have hm : D.tup [.int (-1), .int 1] = enc (-1 : Rat) := rfl
      have hc : (i : Int) - 1 = ((i - 1 : Nat) : Int) := by omega
      have hs := setO_own (ρ := [.val (.int w), .own (.lst ((List.range i).map fun i => .lst ((difR w i).map enc))), .val (.int i), .own (.lst ((unit w i).map enc))]) (st := s) (i := 3) (k := i - 1) (A := unit w i) (-1) rfl (by simp; omega)
      have hd : difR w i = (unit w i).set (i - 1) (-1) := by unfold difR; rw [if_pos c]
      simp [enc_nat, sp_unit_row m (by omega) s w i (by omega), c, hm, hc]
      rw [hs]
      simp
      rw [appO_own rfl (by simp; omega)]
      simp [List.range_succ, hd]
    · have hd : difR w i = unit w i := by unfold difR; rw [if_neg c]
      have c0 : i = 0 := by omega
      simp [enc_nat, sp_unit_row m (by omega) s w i (by omega), c]
      rw [appO_own rfl (by simp; omega)]
      simp [List.range_succ, hd])
  rw [e]
  have e3 := sp_Table' m (by omega) s' (difT w) _ w (Tw.difs h1 h2) (IsRows.map (f := fun i => .lst ((difR w i).map enc)) (fun i => .lst _) (List.range w))
  simp [e3]
--@ shortest_period
theorem sp_period (n : Nat) (hn : 4 ≤ n) (st : Sto) (w l : Nat) (h1 : 1 ≤ w) (h2 : w ≤ 24) (h3 : 1 ≤ l) (h4 : l ≤ 24) : run PP n "shortest_period" [.int w, .int l] st = .ok (.tup [.int ((l / Nat.gcd w l : Nat) : Int), .int ((w / Nat.gcd w l : Nat) : Int)]) st := by
  obtain ⟨m, rfl⟩ : ∃ m, n = m + 1 := ⟨n - 1, by omega⟩
  rw [rn_shortest_period]
  have hg : Int.gcd (w : Int) l = Nat.gcd w l := rfl
  have g0 : 0 < Nat.gcd w l := Nat.gcd_pos_of_pos_left _ h1
  have g1 : Nat.gcd w l ≤ w := Nat.gcd_le_left _ h1
  have d1 := small_div (a := l) (b := Nat.gcd w l) g0 (by omega)
  have d2 := small_div (a := w) (b := Nat.gcd w l) g0 (by omega)
  have dv := sp_divisor m (by omega) st w l
  rw [hg] at dv
  generalize ((l / Nat.gcd w l : Nat) : Int) = x at d1 ⊢
  generalize ((w / Nat.gcd w l : Nat) : Int) = y at d2 ⊢
  simp [d_shortest_period, sp_want_long m (by omega) _ _ h1 h2, sp_want_long m (by omega) _ _ h3 h4, dv, d1, d2]
--@ blur
theorem sp_blur (n : Nat) (hn : 5 ≤ n) (st : Sto) (w : Nat) (h1 : 1 ≤ w) (h2 : w ≤ 24) (d : D) (ws : List Rat) (hd : IsSeq d (ws.map enc)) (ho : ws.length % 2 = 1) (hl : ws.length ≤ 100) (k : Nat) (hz : ∀ q ∈ ws, Sz k q) (hk : 1 + ws.length * (k + 1) ≤ 4000) : run PP n "blur" [.int w, d] st = .ok (tbl w (blurT w ws)) st := by
  obtain ⟨m, rfl⟩ : ∃ m, n = m + 1 := ⟨n - 1, by omega⟩
  rw [rn_blur]
  have l2 : dBin .mod (.int ws.length) (.int 2) = some (.int 1) := by
    rw [dBin_mod _ _ (by decide), Int.fmod_eq_emod_of_nonneg _ (by decide)]
    congr 2
    omega
  have l3 := small_div (a := ws.length) (b := 2) (by decide) (by decide)
  have l3' : dBin .fdiv (.int (ws.length : Int)) (.int 2) = some (.int ((ws.length / 2 : Nat) : Int)) := l3
  have all : compR (cStep PP (run PP m) (.one 7) none (.call "is_fraction" [.var 7]) [.val (.int w), .val d, .no, .no, .no, .no, .no, .no, .no]) (ws.map enc) st = .ok (ws.map fun _ => .bl true) st := by
    rw [compR_map (g := fun _ : Rat => .bl true)]
    intro q hq
    simp [sp_is_fraction m (by omega)]
  generalize hhalf : ws.length / 2 = half at l3'
  simp only [d_blur, evSs_cons, evSs_nil, evS_ex, evE_call, evL_cons, evL_nil, evE_var, slotD_zero, slotD_succ, lift_some, Res.bind_ok, kL_app, kL2_app, sp_want_long m (by omega) st w h1 h2, Res.out_ok, kEx_app, Out.bind_nx, kSs_app, evS_cond, evT_eq, evE_or, evE_not, sp_is_row m (by omega) st _ _ hd, kNot_app, asTru_bl, kNot2_app, Bool.not_true, kOr_app, asBool_bl, kOr2_app, if_false, Bool.false_eq_true, evE_cmp, evE_bin, evE_bi, kBi_app, hd.len, List.length_map, kBin_app, evE_con, kBin2_app, l2, kCmp_app, kCmp2_app, dCmp_eq, dEq_int, liftB_some, show decide ((1 : Int) = 0) = false from rfl, evE_comp, evI_seq, kSeq_app, hd.items, optL_some, kComp_app, all, kLst_app, bi_all, allB_map (fun _ => true), Option.map_some, kCond_app, evS_parO, killO_val, killO_own, killO_nil, List.set_cons_zero, List.set_cons_succ, l3', evE_lst, kParO_app, setsO_val, setsO_own, setsO_nil, nxO_some, evS_loop, evI_range, kRng_app, rng_one w (show w ≤ 1000000 by omega), kLoop_app]
  have hall : (ws.all fun _ => true) = true := by simp
  simp only [hall, Bool.not_true, if_false, Bool.false_eq_true, Res.bind_ok, asTru_bl, Res.out_ok, kCond_app, evSs_nil, Out.bind_nx, kSs_app, evSs_cons, evS_parO, killO_val, killO_own, killO_nil, List.set_cons_zero, List.set_cons_succ, evL_cons, evE_bin, evE_bi, evE_var, slotD_succ, slotD_zero, lift_some, kL_app, evL_nil, kL2_app, kBi_app, hd.len, List.length_map, kBin_app, evE_con, kBin2_app, l3', evE_lst, kLst_app, kParO_app, setsO_val, setsO_own, setsO_nil, nxO_some, evS_loop, evI_range, kRng_app, rng_one w (show w ≤ 1000000 by omega), optL_some, kLoop_app]
  obtain ⟨ρ', s', e, ⟨x, y, z, u, v, rfl⟩, rfl⟩ := forR_range (f := lStep PP (run PP m) (.one 2) [.own 5 (.bin .mul (.lst [.glo "NOTHING"]) (.var 0)), .loop (.many [6, 7]) (.enum (.var 1)) [.asg 8 (.bi .max [.con (.int 0), .bi .min [.bin .sub (.var 0) (.con (.int 1)), .bin .sub (.bin .add (.var 2) (.var 6)) (.var 3)]]), .seti 5 (.var 8) (.call "plus" [.oix 5 (.var 8), .bi .tuple [.var 7]])], .frz 5, .app 4 (.var 5)]) (fun i ρ s => (∃ x y z u v, ρ = [.val (.int w), .val d, x, .val (.int half), .own (.lst ((List.range i).map fun i => .lst ((blurR w half i ws).map enc))), y, z, u, v]) ∧ s = st) enc w (ρ := [.val (.int w), .val d, .no, .val (.int half), .own (.lst []), .no, .no, .no, .no]) (st := st) ⟨⟨_, _, _, _, _, rfl⟩, rfl⟩ (by
    rintro i hi ρ s ⟨⟨x, y, z, u, v, rfl⟩, rfl⟩
    have r0 : dBin .mul (.lst [.tup [.int 0, .int 1]]) (.int w) = some (.lst ((List.replicate w (0 : Rat)).map enc)) := by
      rw [List.map_replicate]; exact rep_lst (enc (0 : Rat)) w (by omega)
    generalize hRows : (List.range i).map (fun i => D.lst ((blurR w half i ws).map enc)) = RW
    have hRl : RW.length = i := by rw [← hRows]; simp
    obtain ⟨ρ2, s2, e2, ⟨z2, u2, v2, rfl⟩, rfl⟩ := forR_range (f := lStep PP (run PP m) (.many [6, 7]) [.asg 8 (.bi .max [.con (.int 0), .bi .min [.bin .sub (.var 0) (.con (.int 1)), .bin .sub (.bin .add (.var 2) (.var 6)) (.var 3)]]), .seti 5 (.var 8) (.call "plus" [.oix 5 (.var 8), .bi .tuple [.var 7]])]) (fun j ρ s' => (∃ z u v, ρ = [.val (.int w), .val d, .val (.int i), .val (.int half), .own (.lst RW), .own (.lst ((blurP w half i ws j).map enc)), z, u, v]) ∧ s' = s) (fun j : Nat => D.tup [.int (j : Int), enc (pc ws j)]) ws.length (ρ := [.val (.int w), .val d, .val (.int i), .val (.int half), .own (.lst RW), .own (.lst ((List.replicate w (0 : Rat)).map enc)), z, u, v]) (st := s) ⟨⟨_, _, _, rfl⟩, rfl⟩ (by
      rintro j hj ρ s' ⟨⟨z, u, v, rfl⟩, rfl⟩
      have hA := blurP_length w half i ws j
      have zA := blurP_sz w half i ws h1 hz j (by omega)
      have hc := clamp_lt w ((i : Int) + (j : Int) - (half : Int)) h1
      have cc := (clamp_cast w ((i : Int) + (j : Int) - (half : Int))).symm
      unfold clampI at cc
      generalize hkk : clamp w ((i : Int) + (j : Int) - (half : Int)) = kk at hc cc
      have hS := blurP_succ w half i ws j
      rw [hkk] at hS
      generalize blurP w half i ws j = A at hA zA hS ⊢
      have jb : 1 + j * (k + 1) ≤ 4000 := by
        have : j * (k + 1) ≤ ws.length * (k + 1) := Nat.mul_le_mul_right _ (by omega)
        omega
      have kb : k ≤ 4000 := by
        have : 1 * (k + 1) ≤ ws.length * (k + 1) := Nat.mul_le_mul_right _ (by omega)
        omega
      have pl := sp_plus m (by omega) s' (pc A kk) (pc ws j) ((zA _ (pc_mem (by omega))).mono jb) ((hz _ (pc_mem hj)).mono kb)
      have i1 : dIdx s' (.lst (A.map enc)) (.int (kk : Int)) = some (enc (pc A kk)) := by
        rw [dIdx_lst, atI_nat]; simp [pc_get (show kk < A.length by omega)]
      have so := setO_own (ρ := [.val (.int w), .val d, .val (.int i), .val (.int half), .own (.lst RW), .own (.lst (A.map enc)), .val (.int j), .val (enc (pc ws j)), .val (.int kk)]) (st := s') (i := 5) (k := kk) (A := A) (pc A kk + pc ws j) rfl (by omega)
      refine ⟨_, s', ?_, ⟨.val (.int j), .val (enc (pc ws j)), .val (.int kk), rfl⟩, rfl⟩
      rw [hS]
      simp only [lStep_two, List.set_cons_zero, List.set_cons_succ, evSs_cons, evSs_nil, evS_asg, evE_bi, evL_cons, evL_nil, evE_con, evE_bin, evE_var, slotD_zero, slotD_succ, lift_some, Res.bind_ok, kBin_app, kBin2_app, dBin_sub, dBin_add, kL_app, kL2_app, kBi_app, bi_min, bi_max, cc, Res.out_ok, kAsg_app, Out.bind_nx, kSs_app, evS_seti, evE_call, evE_oix, ownL_succ, ownL_zero, oixR_some, kOix_app, kIdx2_app, i1, bi_tup_rat, pl, kSet_app, listAt_eq, List.getElem?_cons_succ, List.getElem?_cons_zero, lstS_own, listO'_some, kSet2_app, so]
      rfl)
    refine ⟨_, s2, ?_, ⟨.val (.int i), .val (.lst ((blurR w half i ws).map enc)), z2, u2, v2, rfl⟩, rfl⟩
    have hap := appO_own (ρ := [.val (.int w), .val d, .val (.int i), .val (.int half), .own (.lst RW), .val (.lst ((blurR w half i ws).map enc)), z2, u2, v2]) (i := 4) (xs := RW) (d := .lst ((blurR w half i ws).map enc)) (st := s2) rfl (by omega)
    have hb : blurP w half i ws ws.length = blurR w half i ws := rfl
    rw [hb] at e2
    have hR2 : (List.range (i + 1)).map (fun i => D.lst ((blurR w half i ws).map enc)) = RW ++ [.lst ((blurR w half i ws).map enc)] := by rw [List.range_succ, List.map_append, hRows]; rfl
    rw [hR2]
    simp only [lStep_one, enc_nat, List.set_cons_zero, List.set_cons_succ, evSs_cons, evSs_nil, evS_own, evE_bin, evE_lst, evL_cons, evL_nil, evE_glo, con_NOTHING, evE_var, slotD_zero, slotD_succ, lift_some, Res.bind_ok, kL_app, kL2_app, kLst_app, kBin_app, kBin2_app, r0, Res.out_ok, kOwn_app, ownO_lst, Out.bind_nx, kSs_app, evS_loop, evI_enum, kEnum_app, hd.items, Option.map_some, enumD_pc, optL_some, kLoop_app, e2, evS_frz, ownL_succ, ownL_zero, listO_some, evS_app, listAt_eq, List.getElem?_cons_succ, List.getElem?_cons_zero, lstS_own, listO'_some, kApp_app, hap])
  rw [e]
  have e3 := sp_Table' m (by omega) s' (blurT w ws) _ w (Tw.blur h1 h2) (by
    unfold blurT
    rw [hhalf]
    exact IsRows.map (f := fun i => .lst ((blurR w half i ws).map enc)) (fun i => .lst _) (List.range w))
  simp [e3]
--@ evened
theorem sp_evened_none (n : Nat) (hn : 6 ≤ n) (st : Sto) (w : Nat) (t : List (List Rat)) (ht : Tw w t) (j : Nat) (ha : Szt j t) (hj : 1 + w * (j + 1) ≤ 4000) (h0 : ∃ l ∈ t, tot l = 0) : run PP n "evened" [tbl w t] st = .ok .non st := by
  obtain ⟨m, rfl⟩ : ∃ m, n = m + 1 := ⟨n - 1, by omega⟩
  rw [rn_evened]
  have hs := sp_Table_sums m (by omega) st w t j ha ht.ln hj
  have hi : ((t.map tot).any fun x => decide (x = 0)) = true := by
    obtain ⟨l, hl, e⟩ := h0
    exact List.any_eq_true.mpr ⟨tot l, List.mem_map_of_mem hl, decide_eq_true e⟩
  have z0 : D.tup [.int 0, .int 1] = enc (0 : Rat) := rfl
  have hd := dIn_frs 0 (t.map tot)
  rw [hi] at hd
  simp [d_evened, hs, z0, hd]
theorem sp_evened (n : Nat) (hn : 6 ≤ n) (st : Sto) (w : Nat) (t : List (List Rat)) (ht : Tw w t) (j : Nat) (ha : Szt j t) (hj : 1 + w * (j + 1) ≤ 4000) (h0 : ∀ l ∈ t, tot l ≠ 0) : run PP n "evened" [tbl w t] st = .ok (tbl w (evnT t)) st := by
  obtain ⟨m, rfl⟩ : ∃ m, n = m + 1 := ⟨n - 1, by omega⟩
  rw [rn_evened]
  have hs := sp_Table_sums m (by omega) st w t j ha ht.ln hj
  have hi : ((t.map tot).any fun x => decide (x = 0)) = false := by
    rw [Bool.eq_false_iff]
    intro z
    obtain ⟨x, hx, e⟩ := List.any_eq_true.mp z
    obtain ⟨l, hl, rfl⟩ := List.mem_map.mp hx
    exact h0 l hl (of_decide_eq_true e)
  have z0 : D.tup [.int 0, .int 1] = enc (0 : Rat) := rfl
  have hd := dIn_frs 0 (t.map tot)
  rw [hi] at hd
  have hzipA : ∀ t : List (List Rat), t.zip (t.map tot) = t.map fun l => (l, tot l) := by
    intro t
    induction t with
    | nil => rfl
    | cons x t ih => rw [List.map_cons, List.zip_cons_cons, ih, List.map_cons]
  have hzip := hzipA t
  have hh := ht.h2
  have hz : zipD (t.map (enc (α := List Rat))) ((t.map tot).map (enc (α := Rat))) = t.map fun l => D.tup [enc l, enc (tot l)] := by rw [zipD_map, hzip, List.map_map]; rfl
  have hit : items (enc (t.map tot)) = some ((t.map tot).map enc) := rfl
  have hit2 : items (enc t) = some (t.map enc) := rfl
  simp only [d_evened, evSs_cons, evSs_nil, evS_asg, evE_meth, evE_var, slotD_zero, lift_some, Res.bind_ok, kMeth_app, mcls_tbl, methR_some, im_Table_sums, if_true, kMeth2_app, evL_nil, kMeth3_app, String.reduceAppend, hs, Res.out_ok, kAsg_app, List.set_cons_zero, List.set_cons_succ, Out.bind_nx, kSs_app, evS_cond, evT_eq, evE_cmp, evE_glo, con_NOTHING, kCmp_app, slotD_succ, kCmp2_app, dCmp_in, z0, hd, liftB_some, asTru_bl, kCond_app, Bool.false_eq_true, if_false, evS_own, evE_lst, kLst_app, kOwn_app, ownO_lst, evS_loop, evI_zip, evL_cons, evE_fld, kFld_app, fld_tbl_rows, kL_app, kL2_app, kZip_app, zipO_two, hit, hit2, Option.bind_some, Option.map_some, hz, optL_some, kLoop_app]
  obtain ⟨ρ', s', e, ⟨x, y, rfl⟩, rfl⟩ := forR_ix (f := lStep PP (run PP m) (.many [3, 4]) [.app 2 (.comp (.one 5) (.seq (.var 3)) none (.call "over" [.var 5, .var 4]))]) (fun (a : List (List Rat)) ρ s => (∃ x y, ρ = [.val (tbl w t), .val (enc (t.map tot)), .own (.lst (a.map fun l => .lst ((l.map (· / tot l)).map enc))), x, y, .no]) ∧ s = st) (fun l : List Rat => D.tup [enc l, enc (tot l)]) t (ρ := [.val (tbl w t), .val (enc (t.map tot)), .own (.lst []), .no, .no, .no]) (st := st) ⟨⟨_, _, rfl⟩, rfl⟩ (by
    rintro a l b hab ρ s ⟨⟨x, y, rfl⟩, rfl⟩
    have hm : l ∈ t := by rw [hab]; simp
    have hal : a.length < 16000000 := by
      have := congrArg List.length hab
      simp at this; omega
    have st0 : Sz 4000 (tot l) := (tot_sz (ha l hm)).mono (by rw [ht.ln l hm]; exact hj)
    have j4 : j ≤ 4000 := by
      have : 1 * (j + 1) ≤ w * (j + 1) := Nat.mul_le_mul_right _ ht.w1
      omega
    refine ⟨_, s, ?_, ⟨.val (enc l), .val (enc (tot l)), rfl⟩, rfl⟩
    simp
    rw [compR_map (g := fun q : Rat => enc (q / tot l))]
    · simp
      rw [appO_own rfl (by simpa using hal)]
      simp [Function.comp_def]
    · intro q hq
      simp [sp_over m (by omega) s q (tot l) ((ha l hm q hq).mono j4) st0 (h0 l hm)])
  rw [e]
  have e3 := sp_Table' m (by omega) s' (evnT t) _ w ht.evn (IsRows.map (f := fun l : List Rat => .lst ((l.map (· / tot l)).map enc)) (g := fun l => l.map (· / tot l)) (fun l => .lst _) t)
  simp only [List.map_map] at e3
  simp [e3]
--@ middle_of
theorem sp_middle_of (n : Nat) (hn : 5 ≤ n) (st : Sto) (l : List Rat) (hl : l.length ≤ 24) (k : Nat) (hz : ∀ q ∈ l, Sz k q) (hk : 1 + l.length * (k + 11) ≤ 4000) (hk2 : k ≤ 3000) (h0 : tot l ≠ 0) : run PP n "middle_of" [enc l] st = .ok (enc (midQ l)) st := by
  obtain ⟨m, rfl⟩ : ∃ m, n = m + 1 := ⟨n - 1, by omega⟩
  rw [rn_middle_of]
  have kk : 1 + l.length * (k + 1) ≤ 4000 := by
    have : l.length * (k + 1) ≤ l.length * (k + 11) := Nat.mul_le_mul_left _ (by omega)
    omega
  have e1 := sp_total m (by omega) st (enc l) l (.enc l) k hz kk
  have s1 : Sz 4000 (tot l) := (tot_sz hz).mono kk
  have z0 : D.tup [.int 0, .int 1] = enc (0 : Rat) := rfl
  have d0 : dEq (enc (tot l)) (enc (0 : Rat)) = some false := by rw [dEq_enc _ _ (by decide)]; simp [h0]
  have c1 : compR (cStep PP (run PP m) (.many [3, 4]) none (.tup [.bin .mul (.var 3) (.idx (.var 4) (.con (.int 0))), .idx (.var 4) (.con (.int 1))]) [.val (enc l), .val (enc (tot l)), .no, .no, .no, .no]) ((List.range l.length).map fun (i : Nat) => D.tup [.int (i : Int), enc (pc l i)]) st = .ok ((List.range l.length).map fun (i : Nat) => D.tup [.int ((i : Int) * (pc l i).num), .int (pc l i).den]) st := by
    rw [compR_map (g := fun (i : Nat) => D.tup [.int ((i : Int) * (pc l i).num), .int (pc l i).den])]
    intro i hi
    have hi : i < l.length := List.mem_range.mp hi
    have hq := hz _ (pc_mem hi)
    have hm := dBin_mul (i : Int) (pc l i).num (mulOk_of (j := 10) (k := k) (by omega) hq.1 (by omega))
    simp [hm]
  have sz : ∀ q ∈ (List.range l.length).map (fun (i : Nat) => Rat.divInt ((i : Int) * (pc l i).num) (pc l i).den), Sz (k + 10) q := fun q hq => by
    obtain ⟨i, hi, rfl⟩ := List.mem_map.mp hq
    have hi : i < l.length := List.mem_range.mp hi
    have hq := hz _ (pc_mem hi)
    refine divInt_sz (den_ne _) ?_ ?_
    · rw [Int.natAbs_mul, Int.natAbs_natCast, Nat.add_comm]
      exact nat_mul_lt (j := 10) (by omega) hq.1
    · rw [Int.natAbs_natCast]
      exact Nat.lt_of_lt_of_le hq.2 (Nat.pow_le_pow_right (by decide) (by omega))
  have c2 : compR (cStep PP (run PP m) (.one 5) none (.call "fraction" [.idx (.var 5) (.con (.int 0)), .idx (.var 5) (.con (.int 1))]) [.val (enc l), .val (enc (tot l)), .val (.lst ((List.range l.length).map fun (i : Nat) => D.tup [.int ((i : Int) * (pc l i).num), .int (pc l i).den])), .no, .no, .no]) ((List.range l.length).map fun (i : Nat) => D.tup [.int ((i : Int) * (pc l i).num), .int (pc l i).den]) st = .ok (((List.range l.length).map fun (i : Nat) => Rat.divInt ((i : Int) * (pc l i).num) (pc l i).den).map enc) st := by
    rw [compR_map (g := fun (i : Nat) => enc (Rat.divInt ((i : Int) * (pc l i).num) (pc l i).den))]
    · rw [List.map_map]; rfl
    intro i hi
    have hi : i < l.length := List.mem_range.mp hi
    have hq := hz _ (pc_mem hi)
    have fr := sp_fraction m (by omega) st ((i : Int) * (pc l i).num) (pc l i).den (den_ne _) (by rw [Int.natAbs_natCast]; exact Nat.lt_of_lt_of_le hq.2 (Nat.pow_le_pow_right (by decide) (by omega)))
    have g1 : ∀ (s : Sto) (x y : D), dIdx s (.tup [x, y]) (.int 0) = some x := fun _ _ _ => rfl
    have g2 : ∀ (s : Sto) (x y : D), dIdx s (.tup [x, y]) (.int 1) = some y := fun _ _ _ => rfl
    simp only [cStep_one, evC_none, Res.bind_ok, kCst_app, if_true, evE_call, evL_cons, evE_idx, evE_var, List.set_cons_zero, List.set_cons_succ, slotD_zero, slotD_succ, lift_some, kIdx_app, evE_con, kIdx2_app, g1, g2, kL_app, evL_nil, kL2_app, fr, kSm_app]
  have e2 := sp_total m (by omega) st (.lst (((List.range l.length).map fun (i : Nat) => Rat.divInt ((i : Int) * (pc l i).num) (pc l i).den).map enc)) _ (.lst _) (k + 10) sz (by simpa using hk)
  have s2 : Sz 4000 (tot ((List.range l.length).map fun (i : Nat) => Rat.divInt ((i : Int) * (pc l i).num) (pc l i).den)) := (tot_sz sz).mono (by simpa using hk)
  have e3 := sp_over m (by omega) st _ _ s2 s1 h0
  simp only [d_middle_of, evSs_cons, evSs_nil, evS_asg, evE_call, evL_cons, evL_nil, evE_var, slotD_zero, slotD_succ, lift_some, Res.bind_ok, kL_app, kL2_app, e1, Res.out_ok, kAsg_app, List.set_cons_zero, List.set_cons_succ, Out.bind_nx, kSs_app, evS_cond, evT_eq, evE_ocmp, kOcmp_app, evE_glo, con_NOTHING, kOcmp2_app, ocmpR_rat, dCmp_eq, z0, d0, liftB_some, asTru_bl, kCond_app, Bool.false_eq_true, if_false, evE_comp, evI_enum, kEnum_app, items_enc, Option.map_some, enumD_pc, optL_some, kComp_app, c1, kLst_app, evS_ret, evI_seq, kSeq_app, items_lst, c2, e2, e3, kRet_app, Out.bind_ret, endB_ret]
  rfl
end Dp
end SK14M
set_option maxHeartbeats 4000000
set_option autoImplicit false
noncomputable section SK14N
namespace Dp
open PySem PySem.Spec PyProof.Rows L2
open Enc (enc)
--@ _law_led
theorem alike_str : dEq (.str [110, 101, 97, 114, 101, 115, 116]) (.str [110, 101, 97, 114, 101, 115, 116]) = some true ∧ dEq (.str [110, 101, 97, 114, 101, 115, 116]) (.str [98, 111, 120]) = some false ∧ dEq (.str [110, 101, 97, 114, 101, 115, 116]) (.str [116, 101, 110, 116]) = some false ∧
    dEq (.str [98, 111, 120]) (.str [110, 101, 97, 114, 101, 115, 116]) = some false ∧ dEq (.str [98, 111, 120]) (.str [98, 111, 120]) = some true ∧ dEq (.str [98, 111, 120]) (.str [116, 101, 110, 116]) = some false ∧
    dEq (.str [116, 101, 110, 116]) (.str [110, 101, 97, 114, 101, 115, 116]) = some false ∧ dEq (.str [116, 101, 110, 116]) (.str [98, 111, 120]) = some false ∧ dEq (.str [116, 101, 110, 116]) (.str [116, 101, 110, 116]) = some true := by decide
def ledBody : List Sm := [.own 5 (.bin .mul (.lst [.tup [.con (.int 0), .con (.int 1)]]) (.var 1)), .cond (.cmp .eq (.var 0) (.con (.str [110, 101, 97, 114, 101, 115, 116]))) [.seti 5 (.bi .min [.bin .sub (.var 1) (.con (.int 1)), .bin .fdiv (.bin .mul (.bin .add (.bin .mul (.con (.int 2)) (.var 4)) (.con (.int 1))) (.var 1)) (.bin .mul (.con (.int 2)) (.var 2))]) (.tup [.con (.int 1), .con (.int 1)])] [], .cond (.cmp .eq (.var 0) (.con (.str [98, 111, 120]))) [.loop (.one 6) (.range [.var 1]) [.asg 10 (.bin .sub (.bi .min [.bin .mul (.bin .add (.var 4) (.con (.int 1))) (.var 1), .bin .mul (.bin .add (.var 6) (.con (.int 1))) (.var 2)]) (.bi .max [.bin .mul (.var 4) (.var 1), .bin .mul (.var 6) (.var 2)])), .seti 5 (.var 6) (.call "_law_frac" [.bi .max [.con (.int 0), .var 10], .var 1])]] [], .cond (.cmp .eq (.var 0) (.con (.str [116, 101, 110, 116]))) [.asg 7 (.bin .sub (.bin .mul (.bin .add (.bin .mul (.con (.int 2)) (.var 4)) (.con (.int 1))) (.var 1)) (.var 2)), .asg 8 (.bin .fdiv (.var 7) (.bin .mul (.con (.int 2)) (.var 2))), .asg 9 (.call "_law_frac" [.bin .sub (.var 7) (.bin .mul (.bin .mul (.con (.int 2)) (.var 2)) (.var 8)), .bin .mul (.con (.int 2)) (.var 2)]), .par [11, 12] [.bi .max [.con (.int 0), .bi .min [.bin .sub (.var 1) (.con (.int 1)), .var 8]], .bi .max [.con (.int 0), .bi .min [.bin .sub (.var 1) (.con (.int 1)), .bin .add (.var 8) (.con (.int 1))]]], .seti 5 (.var 11) (.call "_law_plus" [.oix 5 (.var 11), .call "_law_plus" [.tup [.con (.int 1), .con (.int 1)], .tup [.neg (.idx (.var 9) (.con (.int 0))), .idx (.var 9) (.con (.int 1))]]]), .seti 5 (.var 12) (.call "_law_plus" [.oix 5 (.var 12), .var 9])] []]
theorem lled_of (m : Nat) (st : Sto) (way : D) (w l : Nat) (hl : l ≤ 1000) (F : Nat → List Rat)
    (hstep : ∀ i, i < l → ∀ (RW : List D) (s5 s6 s7 s8 s9 s10 s11 s12 : Sl) (I : Ev → Sto → Prop), (∀ s6 s7 s8 s9 s10 s11 s12, I [.val way, .val (.int w), .val (.int l), .own (.lst RW), .val (.int i), .own (.lst ((F i).map enc)), s6, s7, s8, s9, s10, s11, s12] st) →
      NxI (evSs PP (run PP m) ledBody [.val way, .val (.int w), .val (.int l), .own (.lst RW), .val (.int i), s5, s6, s7, s8, s9, s10, s11, s12] st) I) : run PP (m + 1) "_law_led" [way, .int w, .int l] st = .ok (enc ((List.range l).map F)) st := by
  rw [rn__law_led]
  have hb : d__law_led.body = [.own 3 (.lst []), .loop (.one 4) (.range [.var 2]) (ledBody ++ [.frz 5, .app 3 (.bi .tuple [.var 5])]), .frz 3, .ret (.bi .tuple [.var 3])] := rfl
  rw [hb]
  simp [rng_one l (by omega), -List.append_eq]
  obtain ⟨ρ', s', e, ⟨s4, s5, s6, s7, s8, s9, s10, s11, s12, rfl⟩, rfl⟩ := forR_range (f := lStep PP (run PP m) (.one 4) (ledBody ++ [.frz 5, .app 3 (.bi .tuple [.var 5])])) (fun i ρ s => (∃ s4 s5 s6 s7 s8 s9 s10 s11 s12, ρ = [.val way, .val (.int w), .val (.int l), .own (.lst ((List.range i).map fun i => enc (F i))), s4, s5, s6, s7, s8, s9, s10, s11, s12]) ∧ s = st) enc l (ρ := [.val way, .val (.int w), .val (.int l), .own (.lst []), .no, .no, .no, .no, .no, .no, .no, .no, .no]) (st := st) ⟨⟨_, _, _, _, _, _, _, _, _, rfl⟩, rfl⟩ (by
    rintro i hi ρ s ⟨⟨s4, s5, s6, s7, s8, s9, s10, s11, s12, rfl⟩, rfl⟩
    show NxI _ _
    rw [lStep_one, evSs_app]
    have h := hstep i hi ((List.range i).map fun i => enc (F i)) s5 s6 s7 s8 s9 s10 s11 s12 (fun ρ st' => NxI (kSs PP (run PP m) [.frz 5, .app 3 (.bi .tuple [.var 5])] ρ st') (fun ρ s_1 => (∃ s4 s5 s6 s7 s8 s9 s10 s11 s12, ρ = [.val way, .val (.int w), .val (.int l), .own (.lst ((List.range (i + 1)).map fun i => enc (F i))), s4, s5, s6, s7, s8, s9, s10, s11, s12]) ∧ s_1 = s)) (fun s6 s7 s8 s9 s10 s11 s12 => by
      have hap := appO_own (ρ := [.val way, .val (.int w), .val (.int l), .own (.lst ((List.range i).map fun i => enc (F i))), .val (.int i), .val (.lst ((F i).map enc)), s6, s7, s8, s9, s10, s11, s12]) (i := 3) (xs := (List.range i).map fun i => enc (F i)) (d := enc (F i)) (st := s) rfl (by simp; omega)
      refine ⟨_, _, ?_, ⟨.val (.int i), .val (.lst ((F i).map enc)), s6, s7, s8, s9, s10, s11, s12, rfl⟩, rfl⟩
      simp only [kSs_app, evSs_cons, evSs_nil, evS_frz, ownL_succ, ownL_zero, listO_some, List.set_cons_zero, List.set_cons_succ, Out.bind_nx, evS_app, listAt_eq, List.getElem?_cons_succ, List.getElem?_cons_zero, lstS_own, listO'_some, evE_bi, evL_cons, evL_nil, evE_var, slotD_succ, slotD_zero, lift_some, Res.bind_ok, kL_app, kL2_app, kBi_app, bi_tupl, fold_tup, Res.out_ok, kApp_app, hap]
      rw [List.range_succ, List.map_append]
      rfl)
    obtain ⟨ρ1, s1, e1, ρ2, s2, e2, h2⟩ := h
    refine ⟨ρ2, s2, ?_, h2⟩
    have e1' : evSs PP (run PP m) ledBody ([Sl.val way, Sl.val (.int w), Sl.val (.int l), Sl.own (.lst ((List.range i).map fun i => enc (F i))), s4, s5, s6, s7, s8, s9, s10, s11, s12].set 4 (.val (enc i))) s = .nx ρ1 s1 := e1
    rw [e1', Out.bind_nx]
    exact e2)
  rw [e]
  simp
theorem sp_lled_near (n : Nat) (hn : 3 ≤ n) (st : Sto) (w l : Nat) (h1 : 1 ≤ w) (h2 : w ≤ 24) (h3 : 1 ≤ l) (h4 : l ≤ 24) : run PP n "_law_led" [.str [110, 101, 97, 114, 101, 115, 116], .int w, .int l] st = .ok (enc (lnear w l)) st := by
  obtain ⟨m, rfl⟩ : ∃ m, n = m + 1 := ⟨n - 1, by omega⟩
  refine lled_of m st _ w l (by omega) _ fun i hi RW s5 s6 s7 s8 s9 s10 s11 s12 I hI => ?_
  obtain ⟨a1, a2, a3, _⟩ := alike_str
  have r0 : dBin .mul (.lst [.tup [.int 0, .int 1]]) (.int w) = some (.lst ((List.replicate w (0 : Rat)).map enc)) := by
    rw [List.map_replicate]; exact rep_lst (enc (0 : Rat)) w (by omega)
  have e1 := small_mul (a := 2) (b := i) (by decide) (by omega)
  have e2 := small_mul (a := 2 * (i : Int) + 1) (b := w) (by omega) (by omega)
  have e3 := small_mul (a := 2) (b := l) (by decide) (by omega)
  have e4 := small_div (a := (2 * i + 1) * w) (b := 2 * l) (by omega) (by omega)
  have mn : (if (((2 * i + 1) * w / (2 * l) : Nat) : Int) < (w : Int) - 1 then (((2 * i + 1) * w / (2 * l) : Nat) : Int) else (w : Int) - 1) = ((min (w - 1) ((2 * i + 1) * w / (2 * l)) : Nat) : Int) := by
    split <;> omega
  generalize (2 * i + 1) * w / (2 * l) = z at e4 hI mn
  have c1 : (((2 * i + 1) * w : Nat) : Int) = (2 * (i : Int) + 1) * w := by simp
  have c2 : ((2 * l : Nat) : Int) = 2 * (l : Int) := by simp
  rw [c1, c2] at e4
  have so := setO_own (ρ := [.val (.str [110, 101, 97, 114, 101, 115, 116]), .val (.int w), .val (.int l), .own (.lst RW), .val (.int i), .own (.lst ((List.replicate w (0 : Rat)).map enc)), s6, s7, s8, s9, s10, s11, s12]) (st := st) (i := 5) (k := min (w - 1) z) (A := List.replicate w (0 : Rat)) 1 rfl (by simp; omega)
  simp only [ledBody, evSs_cons, evSs_nil, evS_own, evE_bin, evE_lst, evL_cons, evL_nil, evE_tup, evE_con, Res.bind_ok, kL_app, kL2_app, kTup_app, kLst_app, kBin_app, evE_var, slotD_succ, slotD_zero, lift_some, kBin2_app, r0, Res.out_ok, kOwn_app, ownO_lst, List.set_cons_zero, List.set_cons_succ, Out.bind_nx, kSs_app, evS_cond, evT_eq, evE_cmp, kCmp_app, kCmp2_app, dCmp_eq, a1, a2, a3, liftB_some, asTru_bl, kCond_app, if_true, evS_seti, kSet_app, ← enc_one, listAt_eq, List.getElem?_cons_succ, List.getElem?_cons_zero, lstS_own, listO'_some, evE_bi, dBin_sub, dBin_add, e1, e2, e3, e4, kBi_app, bi_min, mn, kSet2_app, so, Bool.false_eq_true, if_false]
  exact (NxI_nx _ _ _).mpr (hI ..)
theorem setR (w k : Nat) (F : Nat → Rat) : ((List.range w).map fun j => if j < k then F j else 0).set k (F k) = (List.range w).map fun j => if j < k + 1 then F j else 0 := by
  apply List.ext_getElem
  · simp
  · intro j h1 h2
    simp at h1
    simp only [List.getElem_set, List.getElem_map, List.getElem_range]
    by_cases e : k = j
    · subst e; simp
    · have : j < k ↔ j < k + 1 := by omega
      simp only [e, if_false, this]
theorem sp_lled_box (n : Nat) (hn : 3 ≤ n) (st : Sto) (w l : Nat) (h1 : 1 ≤ w) (h2 : w ≤ 24) (h3 : 1 ≤ l) (h4 : l ≤ 24) : run PP n "_law_led" [.str [98, 111, 120], .int w, .int l] st = .ok (enc (lbox w l)) st := by
  obtain ⟨m, rfl⟩ : ∃ m, n = m + 1 := ⟨n - 1, by omega⟩
  refine lled_of m st _ w l (by omega) _ fun i hi RW s5 s6 s7 s8 s9 s10 s11 s12 I hI => ?_
  obtain ⟨_, _, _, a4, a5, a6, _⟩ := alike_str
  have r0 : dBin .mul (.lst [.tup [.int 0, .int 1]]) (.int w) = some (.lst ((List.replicate w (0 : Rat)).map enc)) := by
    rw [List.map_replicate]; exact rep_lst (enc (0 : Rat)) w (by omega)
  obtain ⟨F, hF⟩ : ∃ F : Nat → Rat, F = fun k => mkRat (if comI w l i k > 0 then comI w l i k else 0) w := ⟨_, rfl⟩
  have z0 : List.replicate w (0 : Rat) = (List.range w).map fun j => if j < 0 then F j else 0 := by
    apply List.ext_getElem <;> simp
  rw [← hF] at hI
  have zl : (List.range w).map F = (List.range w).map fun j => if j < w then F j else 0 := by
    refine List.map_congr_left fun j hj => ?_
    rw [if_pos (List.mem_range.mp hj)]
  rw [zl] at hI
  simp only [ledBody, evSs_cons, evSs_nil, evS_own, evE_bin, evE_lst, evL_cons, evL_nil, evE_tup, evE_con, Res.bind_ok, kL_app, kL2_app, kTup_app, kLst_app, kBin_app, evE_var, slotD_succ, slotD_zero, lift_some, kBin2_app, r0, Res.out_ok, kOwn_app, ownO_lst, List.set_cons_zero, List.set_cons_succ, Out.bind_nx, kSs_app, evS_cond, evT_eq, evE_cmp, kCmp_app, kCmp2_app, dCmp_eq, a4, a5, a6, liftB_some, asTru_bl, kCond_app, if_true, Bool.false_eq_true, if_false, evS_loop, evI_range, kRng_app, rng_one w (by omega), optL_some, kLoop_app]
  obtain ⟨ρ', s', e, ⟨t6, t10, rfl⟩, rfl⟩ := forR_range (f := lStep PP (run PP m) (.one 6) [.asg 10 (.bin .sub (.bi .min [.bin .mul (.bin .add (.var 4) (.con (.int 1))) (.var 1), .bin .mul (.bin .add (.var 6) (.con (.int 1))) (.var 2)]) (.bi .max [.bin .mul (.var 4) (.var 1), .bin .mul (.var 6) (.var 2)])), .seti 5 (.var 6) (.call "_law_frac" [.bi .max [.con (.int 0), .var 10], .var 1])]) (fun k ρ s => (∃ t6 t10, ρ = [.val (.str [98, 111, 120]), .val (.int w), .val (.int l), .own (.lst RW), .val (.int i), .own (.lst (((List.range w).map fun j => if j < k then F j else 0).map enc)), t6, s7, s8, s9, t10, s11, s12]) ∧ s = st) enc w (ρ := [.val (.str [98, 111, 120]), .val (.int w), .val (.int l), .own (.lst RW), .val (.int i), .own (.lst ((List.replicate w (0 : Rat)).map enc)), s6, s7, s8, s9, s10, s11, s12]) (st := st) ⟨⟨_, _, by rw [z0]⟩, rfl⟩ (by
    rintro k hk ρ s ⟨⟨t6, t10, rfl⟩, rfl⟩
    have e1 := small_mul (a := (i : Int) + 1) (b := w) (by omega) (by omega)
    have e2 := small_mul (a := (k : Int) + 1) (b := l) (by omega) (by omega)
    have e3 := small_mul (a := (i : Int)) (b := w) (by omega) (by omega)
    have e4 := small_mul (a := (k : Int)) (b := l) (by omega) (by omega)
    have bd : ∀ a b c d : Int, a.natAbs ≤ 1000 → b.natAbs ≤ 1000 → c.natAbs ≤ 1000 → d.natAbs ≤ 1000 → (if (if a < b then a else b) - (if c > d then c else d) > 0 then (if a < b then a else b) - (if c > d then c else d) else 0).natAbs < 4096 := by
      intro a b c d
      split <;> split <;> split <;> omega
    have bm : ∀ x y : Nat, x ≤ 25 → y ≤ 25 → ((x : Int) * y).natAbs ≤ 1000 := fun x y hx hy => by
      rw [Int.natAbs_mul, Int.natAbs_natCast, Int.natAbs_natCast]
      exact Nat.le_trans (Nat.mul_le_mul hx hy) (by decide)
    have hc := bd (((k : Int) + 1) * l) (((i : Int) + 1) * w) ((k : Int) * l) ((i : Int) * w) (bm (k + 1) l (by omega) (by omega)) (bm (i + 1) w (by omega) (by omega)) (bm k l (by omega) (by omega)) (bm i w (by omega) (by omega))
    have fk : F k = mkRat (if comI w l i k > 0 then comI w l i k else 0) w := by rw [hF]
    unfold comI at fk
    have p1 : (4096 : Nat) ≤ 2 ^ 8500 := by
      have : (2 : Nat) ^ 12 ≤ 2 ^ 8500 := Nat.pow_le_pow_right (by decide) (by decide)
      exact this
    have fr := fun (a : Int) (ha : a.natAbs < 4096) => sp_lfrac m (by omega) s a (w : Int) (by omega) (by omega) (by omega)
    have fr1 := fr _ hc
    rw [Rat.divInt_ofNat, ← fk] at fr1
    generalize hcm : (if ((k : Int) + 1) * l < ((i : Int) + 1) * w then ((k : Int) + 1) * l else ((i : Int) + 1) * w) - (if (k : Int) * l > (i : Int) * w then (k : Int) * l else (i : Int) * w) = cm at fr1
    have so := setO_own (ρ := [.val (.str [98, 111, 120]), .val (.int w), .val (.int l), .own (.lst RW), .val (.int i), .own (.lst (((List.range w).map fun j => if j < k then F j else 0).map enc)), .val (.int k), s7, s8, s9, .val (.int cm), s11, s12]) (st := s) (i := 5) (k := k) (A := (List.range w).map fun j => if j < k then F j else 0) (F k) rfl (by simpa using hk)
    rw [setR w k F] at so
    refine ⟨_, s, ?_, ⟨.val (.int k), .val (.int cm), rfl⟩, rfl⟩
    simp only [lStep_one, enc_nat, List.set_cons_zero, List.set_cons_succ, evSs_cons, evSs_nil, evS_asg, evE_bin, evE_bi, evL_cons, evL_nil, evE_var, evE_con, slotD_succ, slotD_zero, lift_some, Res.bind_ok, kBin_app, kBin2_app, dBin_add, dBin_sub, e1, e2, e3, e4, kL_app, kL2_app, kBi_app, bi_min, bi_max, hcm, Res.out_ok, kAsg_app, Out.bind_nx, kSs_app, evS_seti, evE_call, fr1, kSet_app, listAt_eq, List.getElem?_cons_succ, List.getElem?_cons_zero, lstS_own, listO'_some, kSet2_app, so])
  simp only [e, Out.bind_nx, kSs_app, evSs_cons, evS_cond, evT_eq, evE_cmp, evE_var, slotD_zero, lift_some, Res.bind_ok, kCmp_app, evE_con, kCmp2_app, dCmp_eq, a6, liftB_some, asTru_bl, Res.out_ok, kCond_app, Bool.false_eq_true, if_false, evSs_nil]
  exact (NxI_nx _ _ _).mpr (hI ..)
theorem sp_lled_tent (n : Nat) (hn : 4 ≤ n) (st : Sto) (w l : Nat) (h1 : 1 ≤ w) (h2 : w ≤ 24) (h3 : 1 ≤ l) (h4 : l ≤ 24) : run PP n "_law_led" [.str [116, 101, 110, 116], .int w, .int l] st = .ok (enc (ltent w l)) st := by
  obtain ⟨m, rfl⟩ : ∃ m, n = m + 1 := ⟨n - 1, by omega⟩
  refine lled_of m st _ w l (by omega) _ fun i hi RW s5 s6 s7 s8 s9 s10 s11 s12 I hI => ?_
  obtain ⟨_, _, _, _, _, _, a7, a8, a9⟩ := alike_str
  have r0 : dBin .mul (.lst [.tup [.int 0, .int 1]]) (.int w) = some (.lst ((List.replicate w (0 : Rat)).map enc)) := by
    rw [List.map_replicate]; exact rep_lst (enc (0 : Rat)) w (by omega)
  have bm : ∀ x y : Nat, x ≤ 50 → y ≤ 24 → ((x : Int) * y).natAbs ≤ 1200 := fun x y hx hy => by
    rw [Int.natAbs_mul, Int.natAbs_natCast, Int.natAbs_natCast]
    exact Nat.le_trans (Nat.mul_le_mul hx hy) (by decide)
  have b1 := bm (2 * i + 1) w (by omega) h2
  have c1 : ((2 * i + 1 : Nat) : Int) = 2 * (i : Int) + 1 := by simp
  rw [c1] at b1
  have e1 := small_mul (a := 2) (b := i) (by decide) (by omega)
  have e2 := small_mul (a := 2 * (i : Int) + 1) (b := w) (by omega) (by omega)
  have e3 := small_mul (a := 2) (b := l) (by decide) (by omega)
  unfold ltentR at hI
  dsimp only at hI
  generalize htop : (2 * (i : Int) + 1) * w - l = top at hI
  have ht : top.natAbs ≤ 1300 := by omega
  have l0 : (2 * (l : Int)) ≠ 0 := by omega
  have f1 : dBin .fdiv (.int top) (.int (2 * (l : Int))) = some (.int (top.fdiv (2 * l))) := dBin_fdiv _ _ l0 (Nat.lt_of_lt_of_le (log2_lt (k := 20) (by omega) (by decide)) (by decide))
  have hm := Int.fmod_def top (2 * (l : Int))
  have hm1 := Int.fmod_nonneg_of_pos top (b := 2 * (l : Int)) (by omega)
  have hm2 := Int.fmod_lt_of_pos top (b := 2 * (l : Int)) (by omega)
  have fl : (top.fdiv (2 * (l : Int))).natAbs ≤ 1300 := Nat.le_trans (Int.natAbs_fdiv_le_natAbs _ _) ht
  generalize hlow : top.fdiv (2 * (l : Int)) = low at f1 fl hI hm
  have e4 := small_mul (a := 2 * (l : Int)) (b := low) (by omega) (by omega)
  have ps := divInt_sz (k := 20) (a := top - 2 * l * low) l0 (by rw [← hm]; omega) (by omega)
  have p20 : (2 : Nat) ^ 20 ≤ 2 ^ 8500 := Nat.pow_le_pow_right (by decide) (by decide)
  have fr := sp_lfrac m (by omega) st (top - 2 * l * low) (2 * (l : Int)) l0 (Nat.lt_of_lt_of_le (show _ < 2 ^ 20 by rw [← hm]; omega) p20) (Nat.lt_of_lt_of_le (show _ < 2 ^ 20 by omega) p20)
  generalize hpart : Rat.divInt (top - 2 * l * low) (2 * l) = part at hI ps fr
  have sn : Sz 20 (-part) := ⟨by simpa using ps.1, by simpa using ps.2⟩
  have pn : D.tup [.int (-part.num), .int part.den] = enc (-part) := by rw [enc_rat]; simp
  have q1 := sp_lplus m (by omega) st 1 (-part) (one_sz.big (by decide)) (sn.big (by decide))
  have sm : Sz 22 (1 + -part) := Sz.add one_sz sn
  have q2 := sp_lplus m (by omega) st 0 (1 + -part) (zero_sz.big (by decide)) (sm.big (by decide))
  have d1 : (clampI w low) = ((clamp w low : Nat) : Int) := (clamp_cast w low).symm
  have d2 : (clampI w (low + 1)) = ((clamp w (low + 1) : Nat) : Int) := (clamp_cast w (low + 1)).symm
  have k1 := clamp_lt w low h1
  have k2 := clamp_lt w (low + 1) h1
  unfold clampI at d1 d2
  generalize clamp w low = x1 at hI d1 k1
  generalize clamp w (low + 1) = x2 at hI d2 k2
  have g1 : pc (List.replicate w (0 : Rat)) x1 = 0 := by simp [pc, k1]
  have zz : ∀ x ∈ addAt (List.replicate w 0) x1 (1 + -part), Sz 30 x := fun x hx => by
    unfold addAt at hx
    rcases List.mem_or_eq_of_mem_set hx with z | z
    · rw [(List.mem_replicate.mp z).2]; exact zero_sz.mono (by decide)
    · rw [z, g1]; exact (Sz.add zero_sz sm).mono (by decide)
  have hA1 : addAt (List.replicate w 0) x1 (1 + -part) = (List.replicate w 0).set x1 (0 + (1 + -part)) := by unfold addAt; rw [g1]
  have so1 := fun (s7 s8 s9 s11 s12 : Sl) => setO_own (ρ := [.val (.str [116, 101, 110, 116]), .val (.int w), .val (.int l), .own (.lst RW), .val (.int i), .own (.lst ((List.replicate w (0 : Rat)).map enc)), s6, s7, s8, s9, s10, s11, s12]) (st := st) (i := 5) (k := x1) (A := List.replicate w (0 : Rat)) (0 + (1 + -part)) rfl (by simpa using k1)
  rw [← hA1] at so1
  have lA : (addAt (List.replicate w 0) x1 (1 + -part)).length = w := by simp [addAt_length]
  have i1 : dIdx st (.lst ((List.replicate w (0 : Rat)).map enc)) (.int (x1 : Int)) = some (enc (0 : Rat)) := by
    rw [dIdx_lst, atI_nat]; simp [k1]
  generalize addAt (List.replicate w 0) x1 (1 + -part) = A at hI zz so1 lA
  have zA := zz _ (pc_mem (show x2 < A.length by omega))
  have q3 := sp_lplus m (by omega) st (pc A x2) part (zA.big (by decide)) (ps.big (by decide))
  have so2 := fun (s7 s8 s9 s11 s12 : Sl) => setO_own (ρ := [.val (.str [116, 101, 110, 116]), .val (.int w), .val (.int l), .own (.lst RW), .val (.int i), .own (.lst (A.map enc)), s6, s7, s8, s9, s10, s11, s12]) (st := st) (i := 5) (k := x2) (A := A) (pc A x2 + part) rfl (by omega)
  have i2 : dIdx st (.lst (A.map enc)) (.int (x2 : Int)) = some (enc (pc A x2)) := by
    rw [dIdx_lst, atI_nat]; simp [pc_get (show x2 < A.length by omega)]
  have hA2 : A.set x2 (pc A x2 + part) = addAt A x2 part := rfl
  rw [hA2] at so2
  simp only [ledBody, evSs_cons, evSs_nil, evS_own, evE_bin, evE_lst, evL_cons, evL_nil, evE_tup, evE_con, Res.bind_ok, kL_app, kL2_app, kTup_app, kLst_app, kBin_app, evE_var, slotD_succ, slotD_zero, lift_some, kBin2_app, r0, Res.out_ok, kOwn_app, ownO_lst, List.set_cons_zero, List.set_cons_succ, Out.bind_nx, kSs_app, evS_cond, evT_eq, evE_cmp, kCmp_app, kCmp2_app, dCmp_eq, a7, a8, a9, liftB_some, asTru_bl, kCond_app, if_true, Bool.false_eq_true, if_false, evS_asg, kAsg_app, dBin_add, dBin_sub, e1, e2, e3, e4, htop, f1, evE_call, fr, evS_par, evE_bi, kBi_app, bi_min, bi_max, d1, d2, kPar_app, bindT_two, nxO_some, evS_seti, evE_oix, ownL_succ, ownL_zero, oixR_some, kOix_app, kIdx2_app, i1, ← enc_one, evE_neg, evE_idx, kIdx_app, dIdx_fst, dIdx_snd, kNeg_app, dNeg_int, pn, q1, q2, kSet_app, listAt_eq, List.getElem?_cons_succ, List.getElem?_cons_zero, lstS_own, listO'_some, kSet2_app, so1, i2, q3, so2]
  exact (NxI_nx _ _ _).mpr (hI ..)
--@ _law_ways
theorem tent_szs {w l : Nat} (h1 : 1 ≤ w) (h2 : w ≤ 7) (h3 : 1 ≤ l) (h4 : l ≤ 7) : Szt 20 (tentT w l) := by
  have := upto_ok (p := fun w l => (tentT w l).all fun r => r.all fun q => decide (q.num.natAbs < 1048576) && decide (q.den < 1048576)) (by decide +kernel) h1 h2 h3 h4
  intro r hr q hq
  have h := List.all_eq_true.mp (List.all_eq_true.mp this r hr) q hq
  rw [Bool.and_eq_true] at h
  exact ⟨of_decide_eq_true h.1, of_decide_eq_true h.2⟩
theorem box_szs {w l : Nat} (h1 : 1 ≤ w) (h2 : w ≤ 7) (h3 : 1 ≤ l) (h4 : l ≤ 7) : Szt 32 (boxT w l) := by
  intro r hr q hq
  unfold boxT at hr
  obtain ⟨i, hi, rfl⟩ := List.mem_map.mp hr
  obtain ⟨k, hk, rfl⟩ := List.mem_map.mp hq
  have := List.mem_range.mp hi
  have := List.mem_range.mp hk
  exact sharedQ_sz (by omega) (by omega) h1 (by omega) h3 (by omega)
structure WayOk (m : Nat) (st : Sto) (w l : Nat) (p : D × List (List Rat)) : Prop where
  a : run PP m "_law_led" [p.1, .int w, .int l] st = .ok (enc p.2) st
  b : run PP m "led" [p.1, .int w, .int l] st = .ok (tbl w p.2) st
  c : p.2.map tot = List.replicate l 1
  d : dEq p.1 (.str [110, 101, 97, 114, 101, 115, 116]) = some true ∨ (dEq p.1 (.str [110, 101, 97, 114, 101, 115, 116]) = some false ∧ mirr p.2 = p.2)
  e : Tw w p.2
  f : Szt 40 p.2
  g : p.2.length = l
def waysA : List Sm := [.cond (.or (.not (.call "_law_alike" [.fld (.var 4) "rows", .call "_law_led" [.var 3, .var 0, .var 1]])) (.ocmp .ne (.call "led" [.var 3, .var 0, .var 1]) (.var 4))) [.ret (.con (.bl false))] [], .cond (.or (.cmp .ne (.meth (.var 4) "sums" []) (.bin .mul (.tup [.tup [.con (.int 1), .con (.int 1)]]) (.var 1))) (.ocmp .ne (.meth (.var 4) "mirrored" []) (.idx (.lst [.var 4, .meth (.var 4) "mirrored" []]) (.bi .int [.cmp .eq (.var 3) (.con (.str [110, 101, 97, 114, 101, 115, 116]))])))) [.ret (.con (.bl false))] []]
theorem ways_step (m : Nat) (hm : 8 ≤ m) (st : Sto) (w l : Nat) (h1 : 1 ≤ w) (h2 : w ≤ 7) (h3 : 1 ≤ l) (h4 : l ≤ 7) (p : D × List (List Rat)) (h : WayOk m st w l p) (s2 s3 s4 s5 s6 s7 s8 s9 : Sl) (I : Ev → Sto → Prop) (hI : ∀ s3 s4, I [.val (.int w), .val (.int l), s2, s3, s4, s5, s6, s7, s8, s9] st) :
    NxI (lStep PP (run PP m) (.many [3, 4]) waysA (.tup [p.1, tbl w p.2]) [.val (.int w), .val (.int l), s2, s3, s4, s5, s6, s7, s8, s9] st) I := by
  obtain ⟨y, t⟩ := p
  obtain ⟨a, b, c, d, e, f, g⟩ := h
  dsimp only at a b c d e f g
  have al := sp_alike 3 m (by omega) st (enc t) (.tab e.h2 e.ln e.w2)
  have hs := sp_Table_sums m (by omega) st w t 40 f e.ln (by omega)
  have hmi := sp_Table_mirrored m (by omega) st w t e
  have r1 : dBin .mul (.tup [.tup [.int 1, .int 1]]) (.int l) = some (enc (List.replicate l (1 : Rat))) := rep_ones 1 l h3 (by omega)
  have c1 := cmp_tbl m (by omega) st .ne (.inr rfl) w w
  have q : dEq (enc (t.map tot)) (enc (List.replicate l (1 : Rat))) = some true := by rw [dEq_enc _ _ (by decide), c]; simp
  rcases d with d | ⟨d, d'⟩
  · simp [waysA, a, al, b, c1, hs, r1, q, hmi, d]
    exact hI ..
  · simp [waysA, a, al, b, c1, hs, r1, q, hmi, d, d']
    exact hI ..
def waysB : List Sm := [.asg 7 (.call "_law_frac" [.bin .sub (.bin .mul (.bin .add (.bin .mul (.con (.int 2)) (.var 5)) (.con (.int 1))) (.var 0)) (.var 1), .bin .mul (.con (.int 2)) (.var 1)]), .cond (.cmp .ne (.call "between" [.var 0, .call "_law_plus" [.var 7, .tup [.con (.int 1), .con (.int 2)]]]) (.bi .list [.var 6])) [.ret (.con (.bl false))] [], .cond (.and (.not (.call "_law_less" [.var 7, .tup [.con (.int 0), .con (.int 1)]])) (.and (.not (.call "_law_less" [.tup [.bin .sub (.var 0) (.con (.int 1)), .con (.int 1)], .var 7])) (.cmp .ne (.call "middle_of" [.var 6]) (.var 7)))) [.ret (.con (.bl false))] []]
theorem ways_spot (m : Nat) (hm : 8 ≤ m) (st : Sto) (w l : Nat) (h1 : 1 ≤ w) (h2 : w ≤ 7) (h3 : 1 ≤ l) (h4 : l ≤ 7) (i : Nat) (hi : i < l) (s2 s3 s4 s5 s6 s7 s8 s9 : Sl) (I : Ev → Sto → Prop) (hI : ∀ s5 s6 s7, I [.val (.int w), .val (.int l), s2, s3, s4, s5, s6, s7, s8, s9] st) :
    NxI (lStep PP (run PP m) (.many [5, 6]) waysB (.tup [.int (i : Int), enc (ro (tentT w l) i)]) [.val (.int w), .val (.int l), s2, s3, s4, s5, s6, s7, s8, s9] st) I := by
  have bm : ∀ x y : Nat, x ≤ 50 → y ≤ 24 → ((x : Int) * y).natAbs ≤ 1200 := fun x y hx hy => by
    rw [Int.natAbs_mul, Int.natAbs_natCast, Int.natAbs_natCast]
    exact Nat.le_trans (Nat.mul_le_mul hx hy) (by decide)
  have b1 := bm (2 * i + 1) w (by omega) (by omega)
  have c1 : ((2 * i + 1 : Nat) : Int) = 2 * (i : Int) + 1 := by simp
  rw [c1] at b1
  have e1 := small_mul (a := 2) (b := i) (by decide) (by omega)
  have e2 := small_mul (a := 2 * (i : Int) + 1) (b := w) (by omega) (by omega)
  have e3 := small_mul (a := 2) (b := l) (by decide) (by omega)
  have l0 : (2 * (l : Int)) ≠ 0 := by omega
  have p20 : (2 : Nat) ^ 20 ≤ 2 ^ 8500 := Nat.pow_le_pow_right (by decide) (by decide)
  have hb := tent_between h1 h2 h3 h4 i hi
  have hmid := tent_mid h1 h2 h3 h4 i hi
  have tw := Tw.tent h1 (show w ≤ 24 by omega) h3 (show l ≤ 24 by omega)
  have hl : (tentT w l).length = l := by simp [tentT]
  have hz := tent_szs h1 h2 h3 h4 _ (ro_mem (show i < (tentT w l).length by omega))
  have hll := tw.len (show i < (tentT w l).length by omega)
  unfold spotQ at hb hmid
  generalize htop : (2 * (i : Int) + 1) * w - l = top at hb hmid
  have fr := sp_lfrac m (by omega) st top (2 * (l : Int)) l0 (Nat.lt_of_lt_of_le (show _ < 2 ^ 20 by omega) p20) (Nat.lt_of_lt_of_le (show _ < 2 ^ 20 by omega) p20)
  have sq : Sz 20 (Rat.divInt top (2 * (l : Int))) := divInt_sz l0 (by omega) (by omega)
  generalize Rat.divInt top (2 * (l : Int)) = q at hb hmid fr sq
  have sh : Sz 10 (Rat.divInt 1 2) := dv_sz (by decide) (by decide) (by decide)
  have hh : (D.tup [.int 1, .int 2]) = enc (Rat.divInt 1 2) := by rw [enc_rat, Rat.num_divInt, Rat.den_divInt]; rfl
  have sw : Sz 10 (Rat.divInt ((w : Int) - 1) 1) := dv_sz (by decide) (by omega) (by decide)
  have hw : (D.tup [.int ((w : Int) - 1), .int 1]) = enc (Rat.divInt ((w : Int) - 1) 1) := by rw [enc_rat, Rat.num_divInt, Rat.den_divInt]; simp
  have f1 := sp_lplus m (by omega) st q (Rat.divInt 1 2) (sq.big (by decide)) (sh.big (by decide))
  have f2 := sp_between m (by omega) st w (q + Rat.divInt 1 2) h1 (by omega) ((Sz.add sq sh).mono (by decide))
  rw [hb] at f2
  have f3 := sp_lless m (by omega) st q 0 (sq.big (by decide)) (zero_sz.big (by decide))
  have f4 := sp_lless m (by omega) st (Rat.divInt ((w : Int) - 1) 1) q (sw.big (by decide)) (sq.big (by decide))
  generalize q + Rat.divInt 1 2 = q2 at f1 f2
  generalize hW : Rat.divInt ((w : Int) - 1) 1 = W at hw f4 hmid
  generalize Rat.divInt 1 2 = H at hh f1
  have z0 : D.tup [.int 0, .int 1] = enc (0 : Rat) := rfl
  have li : dBi st .list [enc (ro (tentT w l) i)] = some (.lst ((ro (tentT w l) i).map enc)) := rfl
  have dq := dEq_lst (ro (tentT w l) i) (ro (tentT w l) i) (by decide)
  simp only [decide_true] at dq
  have key : ∀ (b1 b2 : Bool), decide (q < 0) = b1 → decide (W < q) = b2 → NxI (lStep PP (run PP m) (.many [5, 6]) waysB (.tup [.int (i : Int), enc (ro (tentT w l) i)]) [.val (.int w), .val (.int l), s2, s3, s4, s5, s6, s7, s8, s9] st) I := by
    intro b1 b2 hb1 hb2
    rw [hb1] at f3
    rw [hb2] at f4
    by_cases hc : b1 = false ∧ b2 = false
    · obtain ⟨rfl, rfl⟩ := hc
      have hm2 := (hmid.resolve_left (of_decide_eq_false hb1)).resolve_left (of_decide_eq_false hb2)
      have f5 := sp_middle_of m (by omega) st (ro (tentT w l) i) (by omega) 20 hz (by rw [hll]; omega) (by decide) hm2.1
      rw [hm2.2] at f5
      have d2 := dEq_enc q q (by decide)
      simp only [decide_true] at d2
      simp only [lStep_two, List.set_cons_zero, List.set_cons_succ, waysB, evSs_cons, evSs_nil, evS_asg, evE_call, evL_cons, evL_nil, evE_bin, evE_var, evE_con, slotD_succ, slotD_zero, lift_some, Res.bind_ok, kBin_app, kBin2_app, dBin_add, dBin_sub, e1, e2, e3, htop, kL_app, kL2_app, fr, Res.out_ok, kAsg_app, Out.bind_nx, kSs_app, evS_cond, evT_eq, evE_cmp, evE_tup, kTup_app, hh, f1, f2, kCmp_app, evE_bi, kBi_app, li, kCmp2_app, dCmp_ne, dq, Bool.not_true, liftB_some, asTru_bl, kCond_app, Bool.false_eq_true, if_false, evE_and, evE_not, z0, f3, kNot_app, kNot2_app, Bool.not_false, kAnd_app, asBool_bl, kAnd2_app, if_true, hw, f4, f5, d2, Option.map_some]
      exact (NxI_nx _ _ _).mpr (hI ..)
    · have hc' : b1 = true ∨ (b1 = false ∧ b2 = true) := by cases b1 <;> cases b2 <;> simp at hc ⊢
      rcases hc' with rfl | ⟨rfl, rfl⟩ <;>
      · simp only [lStep_two, List.set_cons_zero, List.set_cons_succ, waysB, evSs_cons, evSs_nil, evS_asg, evE_call, evL_cons, evL_nil, evE_bin, evE_var, evE_con, slotD_succ, slotD_zero, lift_some, Res.bind_ok, kBin_app, kBin2_app, dBin_add, dBin_sub, e1, e2, e3, htop, kL_app, kL2_app, fr, Res.out_ok, kAsg_app, Out.bind_nx, kSs_app, evS_cond, evT_eq, evE_cmp, evE_tup, kTup_app, hh, f1, f2, kCmp_app, evE_bi, kBi_app, li, kCmp2_app, dCmp_ne, dq, Bool.not_true, liftB_some, asTru_bl, kCond_app, Bool.false_eq_true, if_false, evE_and, evE_not, z0, f3, kNot_app, kNot2_app, Bool.not_false, kAnd_app, asBool_bl, kAnd2_app, if_true, hw, f4, Option.map_some]
        exact (NxI_nx _ _ _).mpr (hI ..)
  exact key _ _ rfl rfl
def waysC : List Sm := [.cond (.cmp .ne (.call "shared" [.var 5, .var 8, .var 0, .var 1]) (.idx (.meth (.call "box" [.var 0, .var 1]) "row" [.var 5]) (.var 8))) [.ret (.con (.bl false))] []]
theorem ways_pair (m : Nat) (hm : 8 ≤ m) (st : Sto) (w l : Nat) (h1 : 1 ≤ w) (h2 : w ≤ 7) (h3 : 1 ≤ l) (h4 : l ≤ 7) (p : Nat × Nat) (hp : p.1 < l ∧ p.2 < w) (s2 s3 s4 s5 s6 s7 s8 s9 : Sl) (I : Ev → Sto → Prop) (hI : ∀ s5 s8, I [.val (.int w), .val (.int l), s2, s3, s4, s5, s6, s7, s8, s9] st) :
    NxI (lStep PP (run PP m) (.many [5, 8]) waysC (enc p) [.val (.int w), .val (.int l), s2, s3, s4, s5, s6, s7, s8, s9] st) I := by
  obtain ⟨i, k⟩ := p
  obtain ⟨hi, hk⟩ := hp
  dsimp only at hi hk
  have f1 := sp_shared m (by omega) st i k w l (by omega) (by omega) h1 (by omega) h3 (by omega)
  have f2 := sp_box m (by omega) st w l h1 (by omega) h3 (by omega)
  have hl : (boxT w l).length = l := by simp [boxT]
  have f3 := sp_Table_row m (by omega) st w (boxT w l) i (by omega)
  have hr : ro (boxT w l) i = (List.range w).map fun k => sharedQ i k w l := by simp [ro, boxT, hi]
  have hll : k < (ro (boxT w l) i).length := by rw [hr]; simpa using hk
  have hv : pc (ro (boxT w l) i) k = sharedQ i k w l := by rw [hr]; simp [pc, hk]
  have f4 := at_pc hll
  rw [hv] at f4
  have ee : enc ((i, k) : Nat × Nat) = D.tup [.int i, .int k] := rfl
  rw [ee]
  simp [waysC, f1, f2, f3, f4, dEq_enc]
  exact hI ..
theorem sp_ways (n : Nat) (hn : 9 ≤ n) (st : Sto) (w l : Nat) (h1 : 1 ≤ w) (h2 : w ≤ 7) (h3 : 1 ≤ l) (h4 : l ≤ 7) : run PP n "_law_ways" [.int w, .int l] st = .ok (.bl true) st := by
  obtain ⟨m, rfl⟩ : ∃ m, n = m + 1 := ⟨n - 1, by omega⟩
  obtain ⟨a1, a2, a3, a4, a5, a6, a7, a8, a9⟩ := alike_str
  have n1 := sp_nearest m (by omega) st w l h1 (by omega) h3 (by omega)
  have n2 := sp_box m (by omega) st w l h1 (by omega) h3 (by omega)
  have n3 := sp_tent m (by omega) st w l h1 (by omega) h3 (by omega)
  have w1 : WayOk m st w l (.str [110, 101, 97, 114, 101, 115, 116], (nearL w l).map (uo w)) := ⟨by rw [← near_eq h1 h2 h3 h4]; exact sp_lled_near m (by omega) st w l h1 (by omega) h3 (by omega), sp_led_near m (by omega) st w l h1 (by omega) h3 (by omega), near_sums h1 h2 h3 h4, .inl a1, Tw.near h1 (by omega) h3 (by omega), fun r hr q hq => (uos_sz w _ r hr q hq).mono (by decide), by simp [nearL]⟩
  have w2 : WayOk m st w l (.str [98, 111, 120], boxT w l) := ⟨by rw [← box_eq h1 h2 h3 h4]; exact sp_lled_box m (by omega) st w l h1 (by omega) h3 (by omega), sp_led_box m (by omega) st w l h1 (by omega) h3 (by omega), box_sums h1 h2 h3 h4, .inr ⟨a4, box_mirr h1 h2 h3 h4⟩, Tw.box h1 (by omega) h3 (by omega), fun r hr q hq => (box_szs h1 h2 h3 h4 r hr q hq).mono (by decide), by simp [boxT]⟩
  have w3 : WayOk m st w l (.str [116, 101, 110, 116], tentT w l) := ⟨by rw [← tent_eq h1 h2 h3 h4]; exact sp_lled_tent m (by omega) st w l h1 (by omega) h3 (by omega), sp_led_tent m (by omega) st w l h1 (by omega) h3 (by omega), tent_sums h1 h2 h3 h4, .inr ⟨a7, tent_mirr h1 h2 h3 h4⟩, Tw.tent h1 (by omega) h3 (by omega), fun r hr q hq => (tent_szs h1 h2 h3 h4 r hr q hq).mono (by decide), by simp [tentT]⟩
  have hall : ∀ p ∈ ([(.str [110, 101, 97, 114, 101, 115, 116], (nearL w l).map (uo w)), (.str [98, 111, 120], boxT w l), (.str [116, 101, 110, 116], tentT w l)] : List (D × List (List Rat))), WayOk m st w l p := by
    intro p hp
    simp only [List.mem_cons, List.not_mem_nil, or_false] at hp
    rcases hp with rfl | rfl | rfl
    · exact w1
    · exact w2
    · exact w3
  obtain ⟨ρ1, s1, e1, ⟨s3, s4, rfl⟩, rfl⟩ := forR_inv (f := lStep PP (run PP m) (.many [3, 4]) waysA) (fun ρ s => (∃ s3 s4, ρ = [.val (.int w), .val (.int l), .no, s3, s4, .no, .no, .no, .no, .no]) ∧ s = st) (fun p : D × List (List Rat) => .tup [p.1, tbl w p.2]) _ (ρ := [.val (.int w), .val (.int l), .no, .no, .no, .no, .no, .no, .no, .no]) (st := st) ⟨⟨_, _, rfl⟩, rfl⟩ (by
    rintro p hp ρ s ⟨⟨s3, s4, rfl⟩, rfl⟩
    exact ways_step m (by omega) s w l h1 h2 h3 h4 p (hall p hp) _ s3 s4 _ _ _ _ _ _ (fun s3 s4 => ⟨⟨_, _, rfl⟩, rfl⟩))
  simp only [List.map_cons, List.map_nil] at e1
  have hl : (tentT w l).length = l := by simp [tentT]
  obtain ⟨ρ2, s2, e2, ⟨s5, s6, s7, rfl⟩, rfl⟩ := forR_range (f := lStep PP (run PP m) (.many [5, 6]) waysB) (fun _ ρ s => (∃ s5 s6 s7, ρ = [.val (.int w), .val (.int l), .no, s3, s4, s5, s6, s7, .no, .no]) ∧ s = s1) (fun i : Nat => .tup [.int (i : Int), enc (ro (tentT w l) i)]) l (ρ := [.val (.int w), .val (.int l), .no, s3, s4, .no, .no, .no, .no, .no]) (st := s1) ⟨⟨_, _, _, rfl⟩, rfl⟩ (by
    rintro i hi ρ s ⟨⟨s5, s6, s7, rfl⟩, rfl⟩
    exact ways_spot m (by omega) s w l h1 h2 h3 h4 i hi _ _ _ s5 s6 s7 _ _ _ (fun s5 s6 s7 => ⟨⟨_, _, _, rfl⟩, rfl⟩))
  obtain ⟨ρ3, s3', e3, ⟨t5, t8, rfl⟩, rfl⟩ := forR_inv (f := lStep PP (run PP m) (.many [5, 8]) waysC) (fun ρ s => (∃ s5 s8, ρ = [.val (.int w), .val (.int l), .no, s3, s4, s5, s6, s7, s8, .no]) ∧ s = s2) (enc (α := Nat × Nat)) (prs l w) (ρ := [.val (.int w), .val (.int l), .no, s3, s4, s5, s6, s7, .no, .no]) (st := s2) ⟨⟨_, _, rfl⟩, rfl⟩ (by
    rintro p hp ρ s ⟨⟨s5, s8, rfl⟩, rfl⟩
    have hp' : p.1 < l ∧ p.2 < w := by
      unfold prs at hp
      simp at hp
      obtain ⟨i, hi, k, hk, rfl⟩ := hp
      exact ⟨hi, hk⟩
    exact ways_pair m (by omega) s w l h1 h2 h3 h4 p hp' _ _ _ s5 _ _ s8 _ _ (fun s5 s8 => ⟨⟨_, _, rfl⟩, rfl⟩))
  have b2 := sp_box m (by omega) s3' w l h1 (by omega) h3 (by omega)
  have t2 := sp_tent m (by omega) s3' w l h1 (by omega) h3 (by omega)
  have cs := sp_Table_column_sums m (by omega) s3' w (boxT w l) 32 (box_szs h1 h2 h3 h4) (Tw.box h1 (by omega) h3 (by omega)) (by simp [boxT]; omega)
  rw [box_cols h1 h2 h3 h4] at cs
  have p20 : (2 : Nat) ^ 20 ≤ 2 ^ 8500 := Nat.pow_le_pow_right (by decide) (by decide)
  have fr := sp_lfrac m (by omega) s3' (l : Int) (w : Int) (by omega) (Nat.lt_of_lt_of_le (show _ < 2 ^ 20 by omega) p20) (Nat.lt_of_lt_of_le (show _ < 2 ^ 20 by omega) p20)
  rw [Rat.divInt_ofNat] at fr
  have r1 : dBin .mul (.tup [enc (mkRat l w)]) (.int w) = some (enc (List.replicate w (mkRat l w))) := rep_ones _ w h1 (by omega)
  have pr := sp_pairs m (by omega) s3' l w (by omega) (by omega)
  have pe := sp_period m (by omega) s3' w l h1 (by omega) h3 (by omega)
  have g0 : 0 < Nat.gcd w l := Nat.gcd_pos_of_pos_left _ h1
  have pl : l / Nat.gcd w l ≤ l := Nat.div_le_self _ _
  have pw : w / Nat.gcd w l ≤ w := Nat.div_le_self _ _
  have pm := period_mul h1 h2 h3 h4
  have pk := period_least h1 h2 h3 h4
  generalize l / Nat.gcd w l = A at pe pl pm pk
  generalize w / Nat.gcd w l = B at pe pw pm
  have m1 := small_mul (a := (A : Int)) (b := w) (by omega) (by omega)
  have m2 := small_mul (a := (B : Int)) (b := l) (by omega) (by omega)
  have dq : dEq (.int ((A : Int) * w)) (.int ((B : Int) * l)) = some true := by
    have : ((A : Int) * w) = ((B : Int) * l) := by exact_mod_cast pm
    rw [this]
    have d2 := dEq_enc ((B : Int) * l) ((B : Int) * l) (by decide)
    simpa using d2
  have rg : rng [.int 1, .int (A : Int)] = some ((List.range' 1 (A - 1)).map (enc (α := Nat))) := rng_two 1 A (by decide) (by omega)
  have cn : compR (cStep PP (run PP m) (.one 9) (some (.cmp .eq (.bin .mul (.bin .fdiv (.bin .mul (.var 9) (.var 0)) (.var 1)) (.var 1)) (.bin .mul (.var 9) (.var 0)))) (.var 9) [.val (.int w), .val (.int l), .val (.tup [.int (A : Int), .int (B : Int)]), s3, s4, t5, s6, s7, t8, .no]) ((List.range' 1 (A - 1)).map (enc (α := Nat))) s3' = .ok [] s3' := by
    apply compR_none
    intro k hk
    have hk' : 1 ≤ k ∧ k < A := by
      have := List.mem_range'_1.mp hk
      omega
    have q1 := small_mul (a := (k : Int)) (b := w) (by omega) (by omega)
    have kw : k * w ≤ 49 := Nat.le_trans (Nat.mul_le_mul (show k ≤ 7 by omega) h2) (by decide)
    have q2 := small_div (a := k * w) (b := l) (by omega) (by omega)
    have q3 : k * w / l ≤ k * w := Nat.div_le_self _ _
    have q4 := small_mul (a := ((k * w / l : Nat) : Int)) (b := l) (by rw [Int.natAbs_natCast]; exact Nat.lt_of_le_of_lt q3 (by omega)) (by omega)
    have q5 := pk k hk'.2 hk'.1
    have q6 := dEq_enc (k * w / l * l) (k * w) (by decide)
    simp only [q5, decide_false, enc_nat] at q6
    simp only [Int.natCast_mul] at q2 q4 q6
    simp only [cStep_one, List.set_cons_zero, List.set_cons_succ, evC_some, evE_cmp, evE_bin, evE_var, slotD_succ, slotD_zero, lift_some, Res.bind_ok, kBin_app, kBin2_app, enc_nat, q1, q2, q4, kCmp_app, kCmp2_app, dCmp_eq, q6, liftB_some, asTru_bl, kCst_app, Bool.false_eq_true, if_false]
  have g1 : ∀ (s : Sto) (x y : D), dIdx s (.tup [x, y]) (.int 0) = some x := fun _ _ _ => rfl
  have g2 : ∀ (s : Sto) (x y : D), dIdx s (.tup [x, y]) (.int 1) = some y := fun _ _ _ => rfl
  have d3 := dEq_enc (List.replicate w (mkRat l w)) (List.replicate w (mkRat l w)) (by decide)
  simp only [decide_true] at d3
  rw [rn__law_ways]
  have hb : d__law_ways.body = [.loop (.many [3, 4]) (.seq (.lst [.tup [.con (.str [110, 101, 97, 114, 101, 115, 116]), .call "nearest" [.var 0, .var 1]], .tup [.con (.str [98, 111, 120]), .call "box" [.var 0, .var 1]], .tup [.con (.str [116, 101, 110, 116]), .call "tent" [.var 0, .var 1]]])) waysA, .cond (.cmp .ne (.meth (.call "box" [.var 0, .var 1]) "column_sums" []) (.bin .mul (.tup [.call "_law_frac" [.var 1, .var 0]]) (.var 0))) [.ret (.con (.bl false))] [], .loop (.many [5, 6]) (.enum (.fld (.call "tent" [.var 0, .var 1]) "rows")) waysB, .loop (.many [5, 8]) (.seq (.call "_law_pairs" [.var 1, .var 0])) waysC, .asg 2 (.call "shortest_period" [.var 0, .var 1]), .ret (.and (.cmp .eq (.bin .mul (.idx (.var 2) (.con (.int 0))) (.var 0)) (.bin .mul (.idx (.var 2) (.con (.int 1))) (.var 1))) (.cmp .eq (.comp (.one 9) (.range [.con (.int 1), .idx (.var 2) (.con (.int 0))]) (some (.cmp .eq (.bin .mul (.bin .fdiv (.bin .mul (.var 9) (.var 0)) (.var 1)) (.var 1)) (.bin .mul (.var 9) (.var 0)))) (.var 9)) (.lst [])))] := rfl
  rw [hb]
  simp [n1, n2, n3, e1, b2, t2, cs, fr, r1, d3, enumD_ro, hl, e2, pr, e3, pe, g1, g2, m1, m2, dq, rg, cn]
--@ _law_moves
def movesA : List Sm := [.asg 13 (.and (.cmp .gt (.bin .sub (.var 5) (.var 10)) (.neg (.con (.int 1)))) (.cmp .lt (.bin .sub (.var 5) (.var 10)) (.var 1))), .app 4 (.idx (.var 3) (.idx (.lst [.var 1, .bin .sub (.var 5) (.var 10)]) (.bi .int [.var 13])))]
theorem moves_step (m : Nat) (st : Sto) (w : Nat) (h2 : w ≤ 7) (p : List Rat) (hp : p.length = w) (many : Int) (k : Nat) (hk : k < w) (s0 s2 s5 s6 s7 s8 s9 s11 s12 s13 s14 : Sl) :
    ∃ s13', lStep PP (run PP m) (.one 5) movesA (enc k) [s0, .val (.int w), s2, .val (enc (p ++ [0])), .own (.lst ((List.range k).map fun i => enc (sel p (movO w many i)))), s5, s6, s7, s8, s9, .val (.int many), s11, s12, s13, s14] st =
      .nx [s0, .val (.int w), s2, .val (enc (p ++ [0])), .own (.lst ((List.range (k + 1)).map fun i => enc (sel p (movO w many i)))), .val (.int k), s6, s7, s8, s9, .val (.int many), s11, s12, s13', s14] st := by
  have hr : (List.range (k + 1)).map (fun i => enc (sel p (movO w many i))) = (List.range k).map (fun i => enc (sel p (movO w many i))) ++ [enc (sel p (movO w many k))] := by rw [List.range_succ, List.map_append]; rfl
  have hl : ((List.range k).map fun i => enc (sel p (movO w many i))).length < 16000000 := by simp; omega
  rw [hr]
  generalize (List.range k).map (fun i => enc (sel p (movO w many i))) = L at hl ⊢
  have ap := fun (d : D) (b : Bool) => appO_own (ρ := [s0, .val (.int w), s2, .val (enc (p ++ [0])), .own (.lst L), .val (.int k), s6, s7, s8, s9, .val (.int many), s11, s12, .val (.bl b), s14]) (i := 4) (xs := L) (d := d) (st := st) rfl hl
  have aw : atI (p ++ [0]) (w : Int) = some 0 := by
    rw [atI_nat, List.getElem?_append_right (by omega), hp, Nat.sub_self]
    rfl
  by_cases hc : 0 ≤ (k : Int) - many ∧ (k : Int) - many < w
  · obtain ⟨j, hj⟩ : ∃ j : Nat, (k : Int) - many = j := ⟨((k : Int) - many).toNat, by omega⟩
    have q1 : (-1 : Int) < j := by omega
    have q2 : j < w := by omega
    have e : sel p (movO w many k) = pc p j := by
      unfold movO
      rw [if_pos hc, hj]
      rfl
    have aj : atI (p ++ [0]) (j : Int) = some (pc p j) := by
      rw [atI_nat, List.getElem?_append_left (by omega), pc_get (by omega)]
    refine ⟨.val (.bl true), ?_⟩
    rw [e]
    simp [movesA, enc_nat, hj, q1, q2, aj, ap]
  · have e : sel p (movO w many k) = 0 := by
      unfold movO
      rw [if_neg hc]
      rfl
    refine ⟨.val (.bl false), ?_⟩
    rw [e]
    by_cases q1 : (-1 : Int) < (k : Int) - many
    · have q2 : ¬ (k : Int) - many < w := by omega
      simp [movesA, enc_nat, q1, q2, aw, ap]
    · simp [movesA, enc_nat, q1, aw, ap]
theorem sel_sz {k : Nat} {w : Nat} {p : List Rat} (hp : p.length = w) (hz : ∀ q ∈ p, Sz (k + 1) q) (o : Option Nat) (ho : ∀ j, o = some j → j < w) : Sz (k + 1) (sel p o) := by
  cases o with
  | none => exact zero_sz.mono (by omega)
  | some j => exact hz _ (pc_mem (by rw [hp]; exact ho j rfl))
theorem made_uos (m : Nat) (hm : 6 ≤ m) (st : Sto) (w : Nat) (hw : w ≤ 24) (ps : List (Option Nat)) (p : List Rat) (hp : p.length = w) (hz : ∀ q ∈ p, Sz 4 q) (ho : ∀ k, some k ∈ ps → k < w) : run PP m "Table.made" [tbl w (ps.map (uo w)), enc p] st = .ok (enc (ps.map (sel p))) st := by
  rw [← mad_uos w p hp ps ho]
  exact sp_Table_made m hm st w (ps.map (uo w)) p (enc p) (.enc p) hp (fun l hl => by
    obtain ⟨o, _, rfl⟩ := List.mem_map.mp hl
    cases o <;> simp [uo, unit]) 1 4 (uos_sz w ps) hz (by omega) (by decide) (by decide)
theorem mov_lt (w : Nat) (many : Int) : ∀ k, some k ∈ movL w many → k < w := by
  intro k hk
  obtain ⟨i, hi, e⟩ := List.mem_map.mp hk
  unfold movO at e
  split at e
  · cases e; omega
  · cases e
theorem aro_lt (w : Nat) (h1 : 1 ≤ w) (many : Int) : ∀ k, some k ∈ aroL w many → k < w := by
  intro k hk
  obtain ⟨i, hi, e⟩ := List.mem_map.mp hk
  cases e
  have := Int.fmod_nonneg_of_pos ((i : Int) - many) (b := (w : Int)) (by omega)
  have := Int.fmod_lt_of_pos ((i : Int) - many) (b := (w : Int)) (by omega)
  omega
theorem mir_lt (w : Nat) (h1 : 1 ≤ w) : ∀ k, some k ∈ mirL w → k < w := by
  intro k hk
  obtain ⟨i, hi, e⟩ := List.mem_map.mp hk
  cases e
  omega
theorem wid_lt (w a b : Nat) (f l : Option Nat) (hf : ∀ k, f = some k → k < w) (hl : ∀ k, l = some k → k < w) : ∀ k, some k ∈ widL w a b f l → k < w := by
  intro k hk
  unfold widL at hk
  rcases List.mem_append.mp hk with hk | hk
  · rcases List.mem_append.mp hk with hk | hk
    · exact hf k (List.mem_replicate.mp hk).2.symm
    · obtain ⟨i, hi, e⟩ := List.mem_map.mp hk
      cases e
      exact List.mem_range.mp hi
  · exact hl k (List.mem_replicate.mp hk).2.symm
theorem cut_lt (a b w : Nat) (h : b ≤ w) : ∀ k, some k ∈ cutL a b → k < w := by
  intro k hk
  obtain ⟨i, hi, e⟩ := List.mem_map.mp hk
  cases e
  have := List.mem_range'_1.mp hi
  omega
theorem rep_lt (w m : Nat) : ∀ k, some k ∈ repL w m → k < w := by
  intro k hk
  obtain ⟨i, hi, e⟩ := List.mem_map.mp hk
  cases e
  have := List.mem_range.mp hi
  exact Nat.div_lt_of_lt_mul (by rw [Nat.mul_comm]; exact this)
theorem evy_lt (w m : Nat) : ∀ k, some k ∈ evyL w m → k < w := by
  intro k hk
  obtain ⟨i, hi, e⟩ := List.mem_map.mp hk
  cases e
  exact List.mem_range.mp (List.mem_filter.mp hi).1
theorem evSs_app2' (P : Prog) (R : String → List D → Sto → Res D) (a b : List Sm) (ρ : Ev) (st : Sto) : evSs P R (a ++ b) ρ st = (evSs P R a ρ st).bind (kSs P R b) := evSs_app P R b a ρ st
theorem lmoves_a (m : Nat) (hm : 7 ≤ m) (w : Nat) (h1 : 1 ≤ w) (h2 : w ≤ 7) (p : List Rat) (hp : p.length = w) (hz : ∀ q ∈ p, Sz 4 q) (many : Int) (hmn : -5 ≤ many ∧ many ≤ 5) (b c : Nat) (hb : b < 4) (hc : c < 4) (s3 : Sto) (K : Ev → Sto → Out) (rr : Res D) (hK : ∀ x4 x5 x13, endB (K [.val (.ref 0), .val (.int w), .val (enc p), .val (enc (p ++ [0])), x4, x5, .no, .no, .no, .no, .val (.int many), .val (.int b), .val (.int c), x13, .no] s3) = rr) :
    endB ((evSs PP (run PP m) ((d__law_moves.body.drop 1).take 5) [.val (.ref 0), .val (.int w), .val (enc p), .no, .no, .no, .no, .no, .no, .no, .val (.int many), .val (.int b), .val (.int c), .no, .no] s3).bind K) = rr := by
  have dl : dBin .add (enc p) (.tup [.tup [.int 0, .int 1]]) = some (enc (p ++ [0])) := dAdd_enc p [0] (lenOk_of (by simp; omega))
  have mv := sp_moved m (by omega) s3 w h1 (by omega) many (by omega) (by omega)
  have mv' := made_uos m (by omega) s3 w (by omega) (movL w many) p hp hz (mov_lt w many)
  have hdue : (List.range w).map (fun i => enc (sel p (movO w many i))) = ((movL w many).map (sel p)).map enc := by unfold movL; rw [List.map_map, List.map_map]; rfl
  generalize (movL w many).map (sel p) = M at mv' hdue
  obtain ⟨ρ', s', el, ⟨s5', s13, rfl⟩, rfl⟩ := forR_range (f := lStep PP (run PP m) (.one 5) movesA) (fun k ρ s => (∃ s5 s13, ρ = [.val (.ref 0), .val (.int w), .val (enc p), .val (enc (p ++ [0])), .own (.lst ((List.range k).map fun i => enc (sel p (movO w many i)))), s5, .no, .no, .no, .no, .val (.int many), .val (.int b), .val (.int c), s13, .no]) ∧ s = s3) enc w (ρ := [.val (.ref 0), .val (.int w), .val (enc p), .val (enc (p ++ [0])), .own (.lst []), .no, .no, .no, .no, .no, .val (.int many), .val (.int b), .val (.int c), .no, .no]) (st := s3) ⟨⟨_, _, rfl⟩, rfl⟩ (by
    rintro k hk ρ s ⟨⟨s5, s13, rfl⟩, rfl⟩
    obtain ⟨s13', e⟩ := moves_step m s w h2 p hp many k hk (.val (.ref 0)) (.val (enc p)) s5 .no .no .no .no (.val (.int b)) (.val (.int c)) s13 .no
    exact ⟨_, _, e, ⟨_, _, rfl⟩, rfl⟩)
  rw [hdue] at el
  have hdt : D.tup (M.map enc) = enc M := rfl
  have dM := dEq_enc M M (by decide)
  simp only [decide_true] at dM
  have hb' : (d__law_moves.body.drop 1).take 5 = [.asg 3 (.bin .add (.var 2) (.tup [.tup [.con (.int 0), .con (.int 1)]])), .own 4 (.lst []), .loop (.one 5) (.range [.var 1]) movesA, .frz 4, .cond (.cmp .ne (.meth (.call "moved" [.var 1, .var 10]) "made" [.var 2]) (.bi .tuple [.var 4])) [.ret (.con (.bl false))] []] := rfl
  rw [hb']
  simp [dl, rng_one w (by omega), el, mv, mv', hdt, dM, -List.append_assoc, -List.map_map]
  exact hK _ _ _
theorem lmoves_b (m : Nat) (hm : 7 ≤ m) (w : Nat) (h1 : 1 ≤ w) (h2 : w ≤ 7) (p : List Rat) (hp : p.length = w) (hz : ∀ q ∈ p, Sz 4 q) (many : Int) (hmn : -5 ≤ many ∧ many ≤ 5) (b c : Nat) (hb : b < 4) (hc : c < 4) (s3 : Sto) (K : Ev → Sto → Out) (rr : Res D) (x4 x5 x6 x7 x8 x9 x13 x14 : Sl) (hK : ∀ x6, endB (K [.val (.ref 0), .val (.int w), .val (enc p), .val (enc (p ++ [0])), x4, x5, x6, x7, x8, x9, .val (.int many), .val (.int b), .val (.int c), x13, x14] s3) = rr) :
    endB ((evSs PP (run PP m) ((d__law_moves.body.drop 6).take 4) [.val (.ref 0), .val (.int w), .val (enc p), .val (enc (p ++ [0])), x4, x5, x6, x7, x8, x9, .val (.int many), .val (.int b), .val (.int c), x13, x14] s3).bind K) = rr := by
  have ar := sp_around m (by omega) s3 w h1 (by omega) many (by omega) (by omega)
  have ar' := made_uos m (by omega) s3 w (by omega) (aroL w many) p hp hz (aro_lt w h1 many)
  have mi := sp_mirror m (by omega) s3 w h1 (by omega)
  have mi' := made_uos m (by omega) s3 w (by omega) (mirL w) p hp hz (mir_lt w h1)
  rw [mir_sel w p hp] at mi'
  have wt := sp_wider m (by omega) s3 w b c true h1 (by omega)
  have wt' := made_uos m (by omega) s3 w (by omega) (widL w b c (some 0) (some (w - 1))) p hp hz (wid_lt w b c _ _ (fun k e => by cases e; omega) (fun k e => by cases e; omega))
  rw [wid_sel w b c _ _ p hp] at wt'
  have wf := sp_wider m (by omega) s3 w b c false h1 (by omega)
  have wf' := made_uos m (by omega) s3 w (by omega) (widL w b c none none) p hp hz (wid_lt w b c _ _ (fun k e => by cases e) (fun k e => by cases e))
  rw [wid_sel w b c _ _ p hp] at wf'
  simp only [if_true, Bool.false_eq_true, if_false] at wt wf
  have sl0 : sel p (some 0) = pc p 0 := rfl
  have slw : sel p (some (w - 1)) = pc p (w - 1) := rfl
  have sln : sel p none = 0 := rfl
  rw [sl0, slw] at wt'
  rw [sln] at wf'
  have hA := cutD_head p (by omega)
  have hB := cutD_last p (by omega)
  rw [hp] at hB
  have m1 : dBin .mul (enc [pc p 0]) (.int b) = some (enc (List.replicate b (pc p 0))) := rep_any _ b (by omega)
  have m2 : dBin .mul (enc [pc p (w - 1)]) (.int c) = some (enc (List.replicate c (pc p (w - 1)))) := rep_any _ c (by omega)
  have m3 : dBin .mul (.tup [.tup [.int 0, .int 1]]) (.int b) = some (enc (List.replicate b (0 : Rat))) := rep_any 0 b (by omega)
  have m4 : dBin .mul (.tup [.tup [.int 0, .int 1]]) (.int c) = some (enc (List.replicate c (0 : Rat))) := rep_any 0 c (by omega)
  have a1 : dBin .add (enc (List.replicate b (pc p 0))) (enc p) = some (enc (List.replicate b (pc p 0) ++ p)) := dAdd_enc _ _ (lenOk_of (by simp; omega))
  have a2 : dBin .add (enc (List.replicate b (pc p 0) ++ p)) (enc (List.replicate c (pc p (w - 1)))) = some (enc (List.replicate b (pc p 0) ++ p ++ List.replicate c (pc p (w - 1)))) := dAdd_enc _ _ (lenOk_of (by simp; omega))
  have a3 : dBin .add (enc (List.replicate b (0 : Rat))) (enc p) = some (enc (List.replicate b 0 ++ p)) := dAdd_enc _ _ (lenOk_of (by simp; omega))
  have a4 : dBin .add (enc (List.replicate b (0 : Rat) ++ p)) (enc (List.replicate c (0 : Rat))) = some (enc (List.replicate b 0 ++ p ++ List.replicate c 0)) := dAdd_enc _ _ (lenOk_of (by simp; omega))
  have haro : ∀ k, k < w → pc ((aroL w many).map (sel p)) k = pc p (((k : Int) - many).fmod w).toNat := fun k hk => aro_pc w many p k hk
  have laro : ((aroL w many).map (sel p)).length = w := by simp [aroL]
  generalize (aroL w many).map (sel p) = T at ar' haro laro
  have cn : ∀ s4 s5 s13 : Sl, compR (cStep PP (run PP m) (.one 5) (some (.cmp .ne (.idx (.var 6) (.var 5)) (.idx (.var 2) (.bin .sub (.bin .sub (.var 5) (.var 10)) (.bin .mul (.bin .fdiv (.bin .sub (.var 5) (.var 10)) (.var 1)) (.var 1)))))) (.var 5) [.val (.ref 0), .val (.int w), .val (enc p), .val (enc (p ++ [0])), s4, s5, .val (enc T), x7, x8, x9, .val (.int many), .val (.int b), .val (.int c), s13, x14]) ((List.range w).map enc) s3 = .ok [] s3 := fun s4 s5 s13 => by
    apply compR_none
    intro k hk
    have hk := List.mem_range.mp hk
    have f1 : dBin .fdiv (.int ((k : Int) - many)) (.int (w : Int)) = some (.int (((k : Int) - many).fdiv w)) := dBin_fdiv _ _ (by omega) (Nat.lt_of_lt_of_le (log2_lt (k := 20) (by omega) (by decide)) (by decide))
    have fl : (((k : Int) - many).fdiv w).natAbs ≤ ((k : Int) - many).natAbs := Int.natAbs_fdiv_le_natAbs _ _
    have f2 := small_mul (a := ((k : Int) - many).fdiv w) (b := w) (by omega) (by omega)
    have hm := Int.fmod_def ((k : Int) - many) (w : Int)
    have hm1 := Int.fmod_nonneg_of_pos ((k : Int) - many) (b := (w : Int)) (by omega)
    have hm2 := Int.fmod_lt_of_pos ((k : Int) - many) (b := (w : Int)) (by omega)
    have hk' := haro k hk
    generalize ((k : Int) - many).fmod w = r at hm hm1 hm2 hk'
    obtain ⟨x, rfl⟩ : ∃ x : Nat, r = x := ⟨r.toNat, by omega⟩
    rw [Int.toNat_natCast] at hk'
    have hm' : (k : Int) - many - ((k : Int) - many).fdiv w * w = x := by rw [hm, Int.mul_comm]
    have a1 := at_pc (l := T) (k := k) (by omega)
    have a2 := at_pc (l := p) (k := x) (by omega)
    have d1 := dEq_enc (pc T k) (pc p x) (by decide)
    rw [hk'] at d1 a1
    simp only [decide_true] at d1
    simp [enc_nat, f1, f2, hm', a1, a2, d1]
  have d1 := dEq_enc p.reverse p.reverse (by decide)
  have d2 := dEq_enc (List.replicate b (pc p 0) ++ p ++ List.replicate c (pc p (w - 1))) (List.replicate b (pc p 0) ++ p ++ List.replicate c (pc p (w - 1))) (by decide)
  have d3 := dEq_enc (List.replicate b (0 : Rat) ++ p ++ List.replicate c 0) (List.replicate b (0 : Rat) ++ p ++ List.replicate c 0) (by decide)
  simp only [decide_true] at d1 d2 d3
  have dn : dEq (.lst []) (.lst []) = some true := rfl
  simp [d__law_moves, rng_one w (by omega), ar, ar', cn, dn, mi, mi', d1, wt, wt', hA, hB, m1, m2, a1, a2, d2, wf, wf', m3, m4, a3, a4, d3, -List.append_assoc, -List.map_map]
  exact hK _
theorem lmoves_c (m : Nat) (hm : 7 ≤ m) (w : Nat) (h1 : 1 ≤ w) (h2 : w ≤ 7) (p : List Rat) (hp : p.length = w) (hz : ∀ q ∈ p, Sz 4 q) (many : Int) (hmn : -5 ≤ many ∧ many ≤ 5) (b c : Nat) (hb : b < 4) (hc : c < 4) (f g : Nat) (hf : f < w) (hg : g < w - f) (s3 s4 s5 : Sto) (ef : run PP m "_law_taken" [.ref 0, .int w] s3 = .ok (.int f) s4) (eg' : run PP m "_law_taken" [.ref 0, .int ((w : Int) - f)] s4 = .ok (.int g) s5) (x4 x5 x6 x7 x8 x9 x13 x14 : Sl) :
    endB (evSs PP (run PP m) (d__law_moves.body.drop 10) [.val (.ref 0), .val (.int w), .val (enc p), .val (enc (p ++ [0])), x4, x5, x6, x7, x8, x9, .val (.int many), .val (.int b), .val (.int c), x13, x14] s3) = .ok (.bl true) s5 := by
  have cu := sp_cut m (by omega) s5 w f (f + 1 + g) h1 (by omega) (by omega) (by omega)
  have cu' := made_uos m (by omega) s5 w (by omega) (cutL f (f + 1 + g)) p hp hz (cut_lt f (f + 1 + g) w (by omega))
  rw [cut_sel f (f + 1 + g) p (by omega)] at cu'
  have cs := cutD_nat p f (f + 1 + g) (by omega) (by omega)
  have ce : ((f + 1 + g : Nat) : Int) = (f : Int) + 1 + g := by simp
  rw [ce] at cu cs
  have hz2 : ∀ q ∈ List.replicate b (0 : Rat) ++ p, Sz 4 q := fun q hq => by
    rcases List.mem_append.mp hq with z | z
    · rw [(List.mem_replicate.mp z).2]; exact zero_sz.mono (by decide)
    · exact hz q z
  have cv := sp_cut m (by omega) s5 (w + b) b (b + w) (by omega) (by omega) (by omega) (by omega)
  have cv' := made_uos m (by omega) s5 (w + b) (by omega) (cutL b (b + w)) (List.replicate b 0 ++ p) (by simp; omega) hz2 (cut_lt b (b + w) (w + b) (by omega))
  rw [ahead_cut b w p hp] at cv'
  rw [Int.natCast_add, Int.natCast_add] at cv
  have rp := sp_repeated m (by omega) s5 w 3 h1 (by omega) (by decide) (by decide) (by omega)
  have rp' := made_uos m (by omega) s5 w (by omega) (repL w 3) p hp hz (rep_lt w 3)
  have ev := sp_every m (by omega) s5 (3 * w) 3 (by omega) (by omega) (by decide) (by decide)
  have ev' := made_uos m (by omega) s5 (3 * w) (by omega) (evyL (3 * w) 3) ((repL w 3).map (sel p)) (by rw [rep_sel_length]; omega) (fun q hq => by
    obtain ⟨o, ho, rfl⟩ := List.mem_map.mp hq
    exact sel_sz (k := 3) hp hz o (fun j e => rep_lt w 3 j (by rw [← e]; exact ho))) (evy_lt (3 * w) 3)
  rw [evy_sel w p hp] at ev'
  rw [Int.natCast_mul] at ev
  have k3 := small_mul (a := 3) (b := w) (by decide) (by omega)
  have rp0 : run PP m "repeated" [.int w, .int 3] s5 = .ok (tbl w ((repL w 3).map (uo w))) s5 := rp
  have ev0 : run PP m "every" [.int (3 * (w : Int)), .int 3] s5 = .ok (tbl (3 * w) ((evyL (3 * w) 3).map (uo (3 * w)))) s5 := ev
  have lrep : ∀ k, k < w → cutD ((repL w 3).map (sel p)) (some (3 * (k : Int))) (some (3 * (k : Int) + 3)) = List.replicate 3 (pc p k) := fun k hk => by
    have := rep_get w k p hk
    have e1 : ((3 * k : Nat) : Int) = 3 * (k : Int) := by simp
    have e2 : ((3 * k + 3 : Nat) : Int) = 3 * (k : Int) + 3 := by simp
    rw [e1, e2] at this
    exact this
  generalize (repL w 3).map (sel p) = G at rp' ev' lrep
  have c1 : ∀ t4 t5 t6 t7 t8 t13 : Sl, compR (cStep PP (run PP m) (.one 5) none (.slc (.var 9) (some (.bin .mul (.con (.int 3)) (.var 5))) (some (.bin .add (.bin .mul (.con (.int 3)) (.var 5)) (.con (.int 3))))) [.val (.ref 0), .val (.int w), .val (enc p), .val (enc (p ++ [0])), t4, t5, t6, t7, t8, .val (enc G), .val (.int many), .val (.int b), .val (.int c), t13, x14]) ((List.range w).map enc) s5 = .ok ((p.map (List.replicate 3)).map enc) s5 := fun t4 t5 t6 t7 t8 t13 => by
    rw [compR_map (g := fun k : Nat => enc (List.replicate 3 (pc p k)))]
    · conv => rhs; rw [← map_pc p w hp]
      rw [List.map_map, List.map_map]
      rfl
    · intro k hk
      have hk := List.mem_range.mp hk
      have k3 := small_mul (a := 3) (b := k) (by decide) (by omega)
      have l3 := lrep k hk
      simp [enc_nat, k3, l3]
  have c2 : ∀ t4 t5 t6 t7 t8 t9 t13 : Sl, compR (cStep PP (run PP m) (.one 14) none (.bin .mul (.tup [.var 14]) (.con (.int 3))) [.val (.ref 0), .val (.int w), .val (enc p), .val (enc (p ++ [0])), t4, t5, t6, t7, t8, t9, .val (.int many), .val (.int b), .val (.int c), t13, x14]) (p.map enc) s5 = .ok ((p.map (List.replicate 3)).map enc) s5 := fun t4 t5 t6 t7 t8 t9 t13 => by
    rw [compR_map (g := fun q : Rat => enc (List.replicate 3 q))]
    · rw [List.map_map]; rfl
    · intro q hq
      have r3 : dBin .mul (.tup [enc q]) (.int 3) = some (enc (List.replicate 3 q)) := rep_any q 3 (by decide)
      simp [r3]
  have d4 := dEq_enc ((p.drop f).take (f + 1 + g - f)) ((p.drop f).take (f + 1 + g - f)) (by decide)
  have d5 := dEq_enc p p (by decide)
  have d6 := dEq_lst (p.map (List.replicate 3)) (p.map (List.replicate 3)) (by decide)
  simp only [decide_true] at d4 d5 d6
  have m3 : dBin .mul (.tup [.tup [.int 0, .int 1]]) (.int b) = some (enc (List.replicate b (0 : Rat))) := rep_any 0 b (by omega)
  have a3 : dBin .add (enc (List.replicate b (0 : Rat))) (enc p) = some (enc (List.replicate b 0 ++ p)) := dAdd_enc _ _ (lenOk_of (by simp; omega))
  simp [d__law_moves, m3, a3, ef, eg', rng_one w (by omega), cu, cu', cs, d4, cv, cv', d5, rp0, rp', c1, c2, d6, k3, ev0, ev', -List.append_assoc, -List.map_map]
theorem sp_lmoves (n : Nat) (hn : 8 ≤ n) (ns : List Int) (st : Sto) (hR : Rw ns st) (w : Nat) (h1 : 1 ≤ w) (h2 : w ≤ 7) (p : List Rat) (hp : p.length = w) (hz : ∀ q ∈ p, Sz 4 q) : ∃ st', run PP n "_law_moves" [.ref 0, .int w, enc p] st = .ok (.bl true) st' ∧ Rw ns st' := by
  obtain ⟨m, rfl⟩ : ∃ m, n = m + 1 := ⟨n - 1, by omega⟩
  obtain ⟨a, s1, ea, ha, R1⟩ := sp_taken m (by omega) ns st hR 11 (by decide) (by decide)
  obtain ⟨b, s2, eb, hb, R2⟩ := sp_taken m (by omega) ns s1 R1 4 (by decide) (by decide)
  obtain ⟨c, s3, ec, hc, R3⟩ := sp_taken m (by omega) ns s2 R2 4 (by decide) (by decide)
  obtain ⟨f, s4, ef, hf, R4⟩ := sp_taken m (by omega) ns s3 R3 w (by omega) (by omega)
  obtain ⟨g, s5, eg, hg, R5⟩ := sp_taken m (by omega) ns s4 R4 (w - f) (by omega) (by omega)
  refine ⟨s5, ?_, R5⟩
  have ea' : run PP m "_law_taken" [.ref 0, .int 11] st = .ok (.int a) s1 := ea
  have eb' : run PP m "_law_taken" [.ref 0, .int 4] s1 = .ok (.int b) s2 := eb
  have ec' : run PP m "_law_taken" [.ref 0, .int 4] s2 = .ok (.int c) s3 := ec
  have eg' : run PP m "_law_taken" [.ref 0, .int ((w : Int) - f)] s4 = .ok (.int g) s5 := by rw [← eg]; congr 3; congr 1; omega
  obtain ⟨many, hmany⟩ : ∃ many : Int, (a : Int) - 5 = many := ⟨_, rfl⟩
  have hmn : -5 ≤ many ∧ many ≤ 5 := by omega
  rw [rn__law_moves]
  have hb' : d__law_moves.body = [.asgT [10, 11, 12] (.tup [.bin .sub (.call "_law_taken" [.var 0, .con (.int 11)]) (.con (.int 5)), .call "_law_taken" [.var 0, .con (.int 4)], .call "_law_taken" [.var 0, .con (.int 4)]])] ++ ((d__law_moves.body.drop 1).take 5 ++ ((d__law_moves.body.drop 6).take 4 ++ d__law_moves.body.drop 10)) := rfl
  rw [hb', evSs_app2']
  generalize hK : kSs PP (run PP m) ((d__law_moves.body.drop 1).take 5 ++ ((d__law_moves.body.drop 6).take 4 ++ d__law_moves.body.drop 10)) = K
  simp [ea', eb', ec', hmany]
  rw [← hK, kSs_app, evSs_app2']
  refine lmoves_a m (by omega) w h1 h2 p hp hz many hmn b c hb hc s3 _ _ fun x4 x5 x13 => ?_
  rw [kSs_app, evSs_app2']
  refine lmoves_b m (by omega) w h1 h2 p hp hz many hmn b c hb hc s3 _ _ _ _ _ _ _ _ _ _ fun x6 => ?_
  rw [kSs_app]
  exact lmoves_c m (by omega) w h1 h2 p hp hz many hmn b c hb hc f g hf hg s3 s4 s5 ef eg' _ _ _ _ _ _ _ _
end Dp
end SK14N
set_option maxHeartbeats 4000000
set_option autoImplicit false
noncomputable section SK14O
namespace Dp
open PySem PySem.Spec PyProof.Rows L2
open Enc (enc)
--@ _law_sums
theorem take_pc (p : List Rat) (k : Nat) (hk : k < p.length) : p.take (k + 1) = p.take k ++ [pc p k] := by
  rw [List.take_succ, pc_get hk]
  rfl
theorem tot_take (p : List Rat) (k : Nat) (hk : k < p.length) : tot (p.take (k + 1)) = tot (p.take k) + pc p k := by rw [take_pc p k hk, tot_snoc]
def runQ (p : List Rat) : List Rat := (List.range p.length).map fun i => tot (p.take (i + 1))
theorem runQ_pc (p : List Rat) (i : Nat) (h : i < p.length) : pc (runQ p) i = tot (p.take (i + 1)) := by
  unfold runQ
  rw [pc, List.getD_eq_getElem?_getD]
  simp [h]
theorem mad_runs (p : List Rat) : mad (runT p.length) p = runQ p := by
  unfold mad runT runQ
  rw [List.map_map]
  refine List.map_congr_left fun i hi => ?_
  have hi := List.mem_range.mp hi
  show dot ((List.range p.length).map fun k => if k ≤ i then (1 : Rat) else 0) p = _
  generalize ha : ((List.range p.length).map fun k => if k ≤ i then (1 : Rat) else 0) = a
  have la : a.length = p.length := by rw [← ha]; simp
  have key : ∀ n, n ≤ p.length → tot ((a.zipWith (· * ·) p).take n) = tot (p.take (min n (i + 1))) := by
    intro n
    induction n with
    | zero => intro _; simp
    | succ n ih =>
      intro hn
      rw [dot_take a p n (by omega) (by omega), ih (by omega)]
      have hp : pc a n = if n ≤ i then 1 else 0 := by
        rw [← ha, pc, List.getD_eq_getElem?_getD]
        simp [show n < p.length by omega]
      rw [hp]
      by_cases h : n ≤ i
      · rw [if_pos h, Nat.min_eq_left (by omega), Nat.min_eq_left (by omega), Rat.one_mul, tot_take p n (by omega)]
      · rw [if_neg h, Nat.min_eq_right (by omega), Nat.min_eq_right (by omega), Rat.zero_mul, Rat.add_zero]
  have := key p.length (Nat.le_refl _)
  rw [List.take_of_length_le (by simp [la]), Nat.min_eq_right (by omega)] at this
  exact this
theorem mad_difs (p : List Rat) : mad (difT p.length) (runQ p) = p := by
  have lr : (runQ p).length = p.length := by simp [runQ]
  unfold mad difT
  rw [List.map_map]
  conv => rhs; rw [← map_pc p p.length rfl]
  refine List.map_congr_left fun i hi => ?_
  have hi := List.mem_range.mp hi
  show dot (difR p.length i) (runQ p) = _
  unfold difR
  have du := dot_unit p.length i (runQ p) lr hi
  split
  · rename_i h0
    have e : (unit p.length i).set (i - 1) (-1) = addAt (unit p.length i) (i - 1) (-1) := by
      unfold addAt
      congr 1
      have : pc (unit p.length i) (i - 1) = 0 := by
        rw [pc, List.getD_eq_getElem?_getD]
        simp [unit, show i - 1 < p.length by omega, show i - 1 ≠ i by omega]
      rw [this, Rat.zero_add]
    rw [e, dot_addAt _ _ _ _ (by simp [unit]; omega) (by simp [unit, lr]), du, runQ_pc p i hi, runQ_pc p (i - 1) (by omega), tot_take p i hi, show i - 1 + 1 = i by omega, Rat.neg_mul, Rat.one_mul, Rat.add_comm (tot (p.take i)), Rat.add_assoc, Rat.add_neg_cancel, Rat.add_zero]
  · have : i = 0 := by omega
    subst this
    rw [du, runQ_pc p 0 hi, tot_take p 0 hi]
    simp [tot, Rat.zero_add]
theorem run_dif {w : Nat} (h1 : 1 ≤ w) (h2 : w ≤ 7) : after w (runT w) (difT w) = after w ((mirL w).map (uo w)) ((mirL w).map (uo w)) := by
  have := upto_ok (p := fun w _ => decide (after w (runT w) (difT w) = after w ((mirL w).map (uo w)) ((mirL w).map (uo w)))) (by decide +kernel) h1 h2 h1 h2
  exact of_decide_eq_true this
theorem runT_sz (w : Nat) : Szt 1 (runT w) := by
  intro l hl q hq
  obtain ⟨i, _, rfl⟩ := List.mem_map.mp hl
  obtain ⟨k, _, rfl⟩ := List.mem_map.mp hq
  split
  · exact one_sz
  · exact zero_sz
theorem neg_one_sz : Sz 1 (-1) := by constructor <;> decide
theorem difT_sz (w : Nat) : Szt 1 (difT w) := by
  intro l hl q hq
  obtain ⟨i, _, rfl⟩ := List.mem_map.mp hl
  unfold difR at hq
  split at hq
  · rcases List.mem_or_eq_of_mem_set hq with z | z
    · exact unit_sz w i q z
    · rw [z]; exact neg_one_sz
  · exact unit_sz w i q hq
theorem runQ_sz (p : List Rat) (hz : ∀ q ∈ p, Sz 4 q) : ∀ q ∈ runQ p, Sz (1 + p.length * 5) q := by
  intro q hq
  obtain ⟨i, hi, rfl⟩ := List.mem_map.mp hq
  refine (tot_sz (l := p.take (i + 1)) (k := 4) fun q hq => hz q (List.mem_of_mem_take hq)).mono ?_
  have : (p.take (i + 1)).length ≤ p.length := by simp; omega
  omega
def sumsA : List Sm := [.asg 6 (.call "_law_plus" [.var 6, .var 3]), .app 7 (.var 6)]
def sumsB : List Sm := [.asg 10 (.comp (.one 11) (.range [.bi .len [.var 4]]) none (.idx (.var 2) (.bi .max [.con (.int 0), .bi .min [.bin .sub (.var 1) (.con (.int 1)), .bin .sub (.bin .add (.var 5) (.var 11)) (.var 8)]]))), .app 9 (.call "_law_dot" [.var 4, .var 10])]
theorem sums_a (m : Nat) (hm : 3 ≤ m) (st : Sto) (p : List Rat) (hl : p.length ≤ 7) (hz : ∀ q ∈ p, Sz 4 q) (k : Nat) (hk : k < p.length) (s0 s1 s2 s3 s4 s5 s8 s9 s10 s11 : Sl) :
    lStep PP (run PP m) (.one 3) sumsA (enc (pc p k)) [s0, s1, s2, s3, s4, s5, .val (enc (tot (p.take k))), .own (.lst ((List.range k).map fun i => enc (tot (p.take (i + 1))))), s8, s9, s10, s11] st =
      .nx [s0, s1, s2, .val (enc (pc p k)), s4, s5, .val (enc (tot (p.take (k + 1)))), .own (.lst ((List.range (k + 1)).map fun i => enc (tot (p.take (i + 1))))), s8, s9, s10, s11] st := by
  have hr : (List.range (k + 1)).map (fun i => enc (tot (p.take (i + 1)))) = (List.range k).map (fun i => enc (tot (p.take (i + 1)))) ++ [enc (tot (p.take (k + 1)))] := by rw [List.range_succ, List.map_append]; rfl
  have hL : ((List.range k).map fun i => enc (tot (p.take (i + 1)))).length < 16000000 := by simp; omega
  rw [hr]
  generalize (List.range k).map (fun i => enc (tot (p.take (i + 1)))) = L at hL ⊢
  have sz : Sz 100 (tot (p.take k)) := (tot_sz (l := p.take k) (k := 4) fun q hq => hz q (List.mem_of_mem_take hq)).mono (by
    have : (p.take k).length ≤ 7 := by simp; omega
    omega)
  have e := sp_lplus m (by omega) st (tot (p.take k)) (pc p k) (sz.big (by decide)) ((hz _ (pc_mem hk)).big (by decide))
  rw [← tot_take p k hk] at e
  have ap := appO_own (ρ := [s0, s1, s2, .val (enc (pc p k)), s4, s5, .val (enc (tot (p.take (k + 1)))), .own (.lst L), s8, s9, s10, s11]) (i := 7) (xs := L) (d := enc (tot (p.take (k + 1)))) (st := st) rfl hL
  simp [sumsA, e, ap]
theorem sums_b (m : Nat) (hm : 4 ≤ m) (st : Sto) (w : Nat) (h1 : 1 ≤ w) (h2 : w ≤ 7) (p : List Rat) (hp : p.length = w) (hz : ∀ q ∈ p, Sz 4 q) (ws : List Rat) (hw : ws.length ≤ 5) (hz2 : ∀ q ∈ ws, Sz 4 q) (half : Nat) (F : Nat → Rat) (hF : F = fun (i : Nat) => dot ws ((List.range ws.length).map fun (j : Nat) => pc p (clamp w ((i : Int) + (j : Int) - (half : Int))))) (k : Nat) (hk : k < w) (s0 s3 s5 s6 s7 s10 s11 : Sl) :
    ∃ s10', lStep PP (run PP m) (.one 5) sumsB (enc k) [s0, .val (.int w), .val (enc p), s3, .val (enc ws), s5, s6, s7, .val (.int half), .own (.lst ((List.range k).map fun i => enc (F i))), s10, s11] st =
      .nx [s0, .val (.int w), .val (enc p), s3, .val (enc ws), .val (.int k), s6, s7, .val (.int half), .own (.lst ((List.range (k + 1)).map fun i => enc (F i))), s10', s11] st := by
  have hr : (List.range (k + 1)).map (fun i => enc (F i)) = (List.range k).map (fun i => enc (F i)) ++ [enc (F k)] := by rw [List.range_succ, List.map_append]; rfl
  have hL : ((List.range k).map fun i => enc (F i)).length < 16000000 := by simp; omega
  rw [hr]
  generalize (List.range k).map (fun i => enc (F i)) = L at hL ⊢
  have hFk : F k = dot ws ((List.range ws.length).map fun (j : Nat) => pc p (clamp w ((k : Int) + (j : Int) - (half : Int)))) := by rw [hF]
  rw [hFk]
  have co : ∀ t11 : Sl, compR (cStep PP (run PP m) (.one 11) none (.idx (.var 2) (.bi .max [.con (.int 0), .bi .min [.bin .sub (.var 1) (.con (.int 1)), .bin .sub (.bin .add (.var 5) (.var 11)) (.var 8)]])) [s0, .val (.int w), .val (enc p), s3, .val (enc ws), .val (.int k), s6, s7, .val (.int half), .own (.lst L), s10, t11]) ((List.range ws.length).map enc) st = .ok (((List.range ws.length).map fun (j : Nat) => pc p (clamp w ((k : Int) + (j : Int) - (half : Int)))).map enc) st := fun t11 => by
    rw [compR_map (g := fun j : Nat => enc (pc p (clamp w ((k : Int) + (j : Int) - (half : Int)))))]
    · rw [List.map_map]; rfl
    · intro j hj
      have cl := clamp_lt w ((k : Int) + (j : Int) - (half : Int)) h1
      have cc := (clamp_cast w ((k : Int) + (j : Int) - (half : Int))).symm
      unfold clampI at cc
      generalize clamp w ((k : Int) + (j : Int) - (half : Int)) = x at cl cc
      have ax := at_pc (l := p) (k := x) (by omega)
      simp only [cStep_one, evC_none, Res.bind_ok, kCst_app, if_true, evE_idx, evE_var, List.set_cons_zero, List.set_cons_succ, slotD_zero, slotD_succ, lift_some, kIdx_app, evE_bi, evL_cons, evE_con, evE_bin, kBin_app, kBin2_app, dBin_add, dBin_sub, enc_nat, kL_app, evL_nil, kL2_app, kBi_app, bi_min, bi_max, cc, kIdx2_app, dIdx_enc, ax, Option.map_some, kSm_app]
  have dt := sp_ldot m (by omega) st (enc ws) (.lst (((List.range ws.length).map fun (j : Nat) => pc p (clamp w ((k : Int) + (j : Int) - (half : Int)))).map enc)) ws _ (.enc _) (.lst _) (by simp) 4 4 hz2 (fun q hq => by
    obtain ⟨j, _, rfl⟩ := List.mem_map.mp hq
    exact hz _ (pc_mem (by rw [hp]; exact clamp_lt w _ h1))) (by omega) (by omega) (by omega) (by omega)
  generalize ((List.range ws.length).map fun (j : Nat) => pc p (clamp w ((k : Int) + (j : Int) - (half : Int)))) = T at co dt
  have ap := appO_own (ρ := [s0, .val (.int w), .val (enc p), s3, .val (enc ws), .val (.int k), s6, s7, .val (.int half), .own (.lst L), .val (.lst (T.map enc)), s11]) (i := 9) (xs := L) (d := enc (dot ws T)) (st := st) rfl hL
  refine ⟨.val (.lst (T.map enc)), ?_⟩
  simp [sumsB, enc_nat, rng_one ws.length (by omega), co, dt, ap]
theorem sp_lsums (n : Nat) (hn : 8 ≤ n) (ns : List Int) (st : Sto) (hR : Rw ns st) (w : Nat) (h1 : 1 ≤ w) (h2 : w ≤ 7) (p : List Rat) (hp : p.length = w) (hz : ∀ q ∈ p, Sz 4 q) : ∃ st', run PP n "_law_sums" [.ref 0, .int w, enc p] st = .ok (.bl true) st' ∧ Rw ns st' := by
  obtain ⟨m, rfl⟩ : ∃ m, n = m + 1 := ⟨n - 1, by omega⟩
  obtain ⟨a, s1, ea, ha, R1⟩ := sp_taken m (by omega) ns st hR 3 (by decide) (by decide)
  have ea' : run PP m "_law_taken" [.ref 0, .int 3] st = .ok (.int a) s1 := ea
  obtain ⟨N, hN, hodd, hN5⟩ : ∃ N : Nat, atI [D.int 1, D.int 3, D.int 5] (a : Int) = some (.int N) ∧ N % 2 = 1 ∧ N ≤ 5 := by
    have : a = 0 ∨ a = 1 ∨ a = 2 := by omega
    rcases this with rfl | rfl | rfl
    · exact ⟨1, rfl, by decide, by decide⟩
    · exact ⟨3, rfl, by decide, by decide⟩
    · exact ⟨5, rfl, by decide, by decide⟩
  obtain ⟨t1, s2, et, lt, wt, zt, R2⟩ := sp_drawn m (by omega) ns s1 R1 1 N (by omega) (by omega)
  obtain ⟨ws, rfl⟩ : ∃ ws, t1 = [ws] := by
    match t1, lt with
    | [ws], _ => exact ⟨ws, rfl⟩
  have lw : ws.length = N := wt ws (by simp)
  have zw : ∀ q ∈ ws, Sz 4 q := fun q hq => (zt ws (by simp) q hq).sz
  have et' : run PP m "_law_drawn" [.ref 0, .int 1, .int N] s1 = .ok (enc [ws]) s2 := et
  obtain ⟨d, s3, em, hd, R3⟩ := sp_mixed m (by omega) ns s2 R2 (enc ws) _ (.enc ws)
  refine ⟨s3, ?_, R3⟩
  have z0 : D.tup [.int 0, .int 1] = enc (tot (p.take 0)) := rfl
  have pp : (p.map enc) = (List.range w).map fun k => enc (pc p k) := by
    conv => lhs; rw [← map_pc p w hp]
    rw [List.map_map]; rfl
  obtain ⟨ρ1, t1, e1, ⟨x3, rfl⟩, rfl⟩ := forR_range (f := lStep PP (run PP m) (.one 3) sumsA) (fun k ρ s => (∃ x3, ρ = [.val (.ref 0), .val (.int w), .val (enc p), x3, .no, .no, .val (enc (tot (p.take k))), .own (.lst ((List.range k).map fun i => enc (tot (p.take (i + 1))))), .no, .no, .no, .no]) ∧ s = st) (fun k => enc (pc p k)) w (ρ := [.val (.ref 0), .val (.int w), .val (enc p), .no, .no, .no, .val (.tup [.int 0, .int 1]), .own (.lst []), .no, .no, .no, .no]) (st := st) ⟨⟨_, rfl⟩, rfl⟩ (by
    rintro k hk ρ s ⟨⟨x3, rfl⟩, rfl⟩
    exact ⟨_, _, sums_a m (by omega) s p (by omega) hz k (by omega) (.val (.ref 0)) (.val (.int w)) (.val (enc p)) x3 .no .no .no .no .no .no, ⟨_, rfl⟩, rfl⟩)
  rw [← pp] at e1
  have hq : (List.range w).map (fun i => enc (tot (p.take (i + 1)))) = (runQ p).map enc := by unfold runQ; rw [hp, List.map_map]; rfl
  rw [hq] at e1
  have ht : D.tup ((runQ p).map enc) = enc (runQ p) := rfl
  have rn := sp_runs m (by omega) t1 w h1 (by omega)
  have df := sp_differences m (by omega) t1 w h1 (by omega)
  have mi := sp_mirror m (by omega) t1 w h1 (by omega)
  have tr := Tw.runs h1 (show w ≤ 24 by omega)
  have td := Tw.difs h1 (show w ≤ 24 by omega)
  have rn' := sp_Table_made m (by omega) t1 w (runT w) p (enc p) (.enc p) hp tr.ln 1 4 (runT_sz w) hz (by omega) (by decide) (by decide)
  have mr := mad_runs p
  rw [hp] at mr
  rw [mr] at rn'
  have lQ : (runQ p).length = w := by simp [runQ, hp]
  have df' := sp_Table_made m (by omega) t1 w (difT w) (runQ p) (enc (runQ p)) (.enc _) lQ td.ln 1 (1 + p.length * 5) (difT_sz w) (runQ_sz p hz) (by
    rw [hp]
    have : w * (1 + (1 + w * 5) + 1) ≤ 7 * (1 + (1 + 7 * 5) + 1) := Nat.mul_le_mul h2 (by omega)
    omega) (by decide) (by omega)
  have md := mad_difs p
  rw [hp] at md
  rw [md] at df'
  have lr : (runT w).length = w := by simp [runT]
  have lm : ((mirL w).map (uo w)).length = w := by simp [mirL]
  have tm : Tw w ((mirL w).map (uo w)) := Tw.uos h1 (by omega) _ (by simp [mirL]; omega) (by simp [mirL]; omega)
  have th1 := sp_Table_then m (by omega) t1 w (runT w) (difT w) tr (by rw [lr]; exact td) 1 1 (runT_sz w) (difT_sz w) (by rw [lr]; omega) (by decide) (by decide)
  have th2 := sp_Table_then m (by omega) t1 w ((mirL w).map (uo w)) ((mirL w).map (uo w)) tm (by rw [lm]; exact tm) 1 1 (uos_sz w _) (uos_sz w _) (by rw [lm]; omega) (by decide) (by decide)
  rw [lr] at th1
  rw [lm] at th2
  rw [run_dif h1 h2] at th1
  have cm := cmp_tbl m (by omega) t1 .ne (.inr rfl) w w
  have g0 : atI ([ws] : List (List Rat)) 0 = some ws := rfl
  have l2 : dBin .fdiv (.int (ws.length : Int)) (.int 2) = some (.int ((ws.length / 2 : Nat) : Int)) := small_div (a := ws.length) (b := 2) (by decide) (by decide)
  have bl := sp_blur m (by omega) s3 w h1 (by omega) d ws hd (by omega) (by omega) 4 zw (by omega)
  have tb : Tw w (blurT w ws) := Tw.blur h1 (by omega)
  have zb : Szt 26 (blurT w ws) := by
    intro l hl q hq
    obtain ⟨i, _, rfl⟩ := List.mem_map.mp hl
    exact (blurP_sz w _ i ws h1 zw ws.length (Nat.le_refl _) q hq).mono (by omega)
  have bl' := sp_Table_made m (by omega) s3 w (blurT w ws) p (enc p) (.enc p) hp tb.ln 26 4 zb hz (by omega) (by decide) (by decide)
  rw [mad_blur w ws p h1 hp] at bl'
  generalize hhalf : ws.length / 2 = half at l2 bl'
  obtain ⟨F, hF⟩ : ∃ F : Nat → Rat, F = fun (i : Nat) => dot ws ((List.range ws.length).map fun (j : Nat) => pc p (clamp w ((i : Int) + (j : Int) - (half : Int)))) := ⟨_, rfl⟩
  rw [← hF] at bl'
  obtain ⟨ρ2, t2, e2, ⟨y5, y10, rfl⟩, rfl⟩ := forR_range (f := lStep PP (run PP m) (.one 5) sumsB) (fun k ρ s => (∃ y5 y10, ρ = [.val (.ref 0), .val (.int w), .val (enc p), x3, .val (enc ws), y5, .val (enc (tot (p.take w))), .val (.lst ((runQ p).map enc)), .val (.int half), .own (.lst ((List.range k).map fun i => enc (F i))), y10, .no]) ∧ s = s2) enc w (ρ := [.val (.ref 0), .val (.int w), .val (enc p), x3, .val (enc ws), .no, .val (enc (tot (p.take w))), .val (.lst ((runQ p).map enc)), .val (.int half), .own (.lst []), .no, .no]) (st := s2) ⟨⟨_, _, rfl⟩, rfl⟩ (by
    rintro k hk ρ s ⟨⟨y5, y10, rfl⟩, rfl⟩
    obtain ⟨y', e⟩ := sums_b m (by omega) s w h1 h2 p hp hz ws (by omega) zw half F hF k hk (.val (.ref 0)) x3 y5 (.val (enc (tot (p.take w)))) (.val (.lst ((runQ p).map enc))) y10 .no
    exact ⟨_, _, e, ⟨_, _, rfl⟩, rfl⟩)
  have hG : (List.range w).map (fun i => enc (F i)) = ((List.range w).map F).map enc := by rw [List.map_map]; rfl
  rw [hG] at e2
  have hgt : D.tup (((List.range w).map F).map enc) = enc ((List.range w).map F) := rfl
  generalize (List.range w).map F = G at e2 hgt bl'
  have d1 := dEq_enc (runQ p) (runQ p) (by decide)
  have d2 := dEq_enc p p (by decide)
  have d3 := dEq_enc G G (by decide)
  simp only [decide_true] at d1 d2 d3
  generalize runQ p = Q at e1 ht rn' df' d1 e2
  generalize tot (p.take w) = tw at e1 e2
  rw [rn__law_sums]
  have hb' : d__law_sums.body = [.parO [6, 7] [false, true] [.tup [.con (.int 0), .con (.int 1)], .lst []], .loop (.one 3) (.seq (.var 2)) sumsA, .frz 7, .cond (.or (.cmp .ne (.meth (.call "runs" [.var 1]) "made" [.var 2]) (.bi .tuple [.var 7])) (.or (.cmp .ne (.meth (.call "differences" [.var 1]) "made" [.bi .tuple [.var 7]]) (.var 2)) (.ocmp .ne (.meth (.call "runs" [.var 1]) "then" [.call "differences" [.var 1]]) (.meth (.call "mirror" [.var 1]) "then" [.call "mirror" [.var 1]])))) [.ret (.con (.bl false))] [], .asg 4 (.idx (.call "_law_drawn" [.var 0, .con (.int 1), .idx (.lst [.con (.int 1), .con (.int 3), .con (.int 5)]) (.call "_law_taken" [.var 0, .con (.int 3)])]) (.con (.int 0))), .parO [8, 9] [false, true] [.bin .fdiv (.bi .len [.var 4]) (.con (.int 2)), .lst []], .loop (.one 5) (.range [.var 1]) sumsB, .frz 9, .ret (.cmp .eq (.meth (.call "blur" [.var 1, .call "_law_mixed" [.var 0, .var 4]]) "made" [.var 2]) (.bi .tuple [.var 9]))] := rfl
  rw [hb']
  simp [e1, ht, rn, rn', d1, df, df', d2, mi, th1, th2, cm, ea', hN, et', g0, l2, rng_one w (by omega), e2, em, bl, bl', hgt, d3]
end Dp
end SK14O
set_option maxHeartbeats 4000000
set_option autoImplicit false
noncomputable section SK14P
namespace Dp
open PySem PySem.Spec PyProof.Rows L2
open Enc (enc)
--@ _law_evened
theorem sp_middle_none (n : Nat) (hn : 5 ≤ n) (st : Sto) (l : List Rat) (k : Nat) (hz : ∀ q ∈ l, Sz k q) (hk : 1 + l.length * (k + 1) ≤ 4000) (h0 : tot l = 0) : run PP n "middle_of" [enc l] st = .ok .non st := by
  obtain ⟨m, rfl⟩ : ∃ m, n = m + 1 := ⟨n - 1, by omega⟩
  rw [rn_middle_of]
  have e1 := sp_total m (by omega) st (enc l) l (.enc l) k hz hk
  rw [h0] at e1
  have z0 : D.tup [.int 0, .int 1] = enc (0 : Rat) := rfl
  have d0 : dEq (enc (0 : Rat)) (enc (0 : Rat)) = some true := by rw [dEq_enc _ _ (by decide)]; simp
  simp [d_middle_of, e1, z0, d0]
theorem sp_levened (n : Nat) (hn : 8 ≤ n) (ns : List Int) (st : Sto) (hR : Rw ns st) (w : Nat) (h1 : 1 ≤ w) (h2 : w ≤ 7) : ∃ st', run PP n "_law_evened" [.ref 0, .int w] st = .ok (.bl true) st' ∧ Rw ns st' := by
  obtain ⟨m, rfl⟩ : ∃ m, n = m + 1 := ⟨n - 1, by omega⟩
  obtain ⟨t, s1, et, lt, wt, zt, R1⟩ := sp_drawn m (by omega) ns st hR 2 w (by omega) (by omega)
  refine ⟨s1, ?_, R1⟩
  have et' : run PP m "_law_drawn" [.ref 0, .int 2, .int w] st = .ok (enc t) s1 := et
  have tw : Tw w t := ⟨h1, by omega, by omega, by omega, wt⟩
  have r1 : dBin .mul (.tup [.tup [.int 1, .int 1]]) (.int w) = some (enc (List.replicate w (1 : Rat))) := rep_ones 1 w h1 (by omega)
  have mk := sp_Table m (by omega) s1 (enc t) _ t w ⟨h1, by omega⟩ ⟨by omega, by omega⟩ (.enc t) (IsRows.enc t) wt
  have cs : compR (cStep PP (run PP m) (.one 5) none (.call "_law_dot" [.var 5, .bin .mul (.tup [.tup [.con (.int 1), .con (.int 1)]]) (.var 1)]) [.val (.ref 0), .val (.int w), .val (enc t), .no, .no, .no, .no, .no]) (t.map enc) s1 = .ok ((t.map tot).map enc) s1 := by
    rw [compR_map (g := fun l : List Rat => enc (tot l))]
    · rw [List.map_map]; rfl
    · intro l hl
      have ll := wt l hl
      have hd := sp_ldot m (by omega) s1 (enc l) (enc (List.replicate w (1 : Rat))) l (List.replicate w 1) (.enc _) (.enc _) (by simp [ll]) 4 1 (zt.sz l hl) (by simp [one_sz]) (by rw [ll]; omega) (by omega) (by omega) (by omega)
      rw [← ll, dot_ones, ll] at hd
      simp [r1, hd]
  have di := dIn_frl 0 (t.map tot)
  have z0 : D.tup [.int 0, .int 1] = enc (0 : Rat) := rfl
  rw [rn__law_evened]
  by_cases h0 : ∃ l ∈ t, tot l = 0
  · have hi : ((t.map tot).any fun x => decide (x = 0)) = true := by
      obtain ⟨l, hl, e⟩ := h0
      exact List.any_eq_true.mpr ⟨tot l, List.mem_map_of_mem hl, decide_eq_true e⟩
    rw [hi] at di
    have ev := sp_evened_none m (by omega) s1 w t tw 4 zt.sz (by omega) h0
    simp [d__law_evened, et', cs, mk, ev, z0, di, -List.map_map]
  · have h0' : ∀ l ∈ t, tot l ≠ 0 := fun l hl e => h0 ⟨l, hl, e⟩
    have hi : ((t.map tot).any fun x => decide (x = 0)) = false := by
      rw [Bool.eq_false_iff]
      intro z
      obtain ⟨x, hx, e⟩ := List.any_eq_true.mp z
      obtain ⟨l, hl, rfl⟩ := List.mem_map.mp hx
      exact h0' l hl (of_decide_eq_true e)
    rw [hi] at di
    have ev := sp_evened m (by omega) s1 w t tw 4 zt.sz (by omega) h0'
    have mz := sp_middle_none m (by omega) s1 (List.replicate 3 (0 : Rat)) 1 (by simp [zero_sz]) (by decide) (by decide +kernel)
    have r3 : dBin .mul (.tup [enc (0 : Rat)]) (.int 3) = some (enc (List.replicate 3 (0 : Rat))) := rep_any 0 3 (by decide)
    generalize List.replicate 3 (0 : Rat) = ZZ at mz r3
    have cn : ∀ t6 t7 : Sl, compR (cStep PP (run PP m) (.one 6) (some (.cmp .ne (.bi .tuple [.comp (.one 7) (.seq (.meth (.var 4) "row" [.var 6])) none (.call "_law_times" [.idx (.var 3) (.var 6), .var 7])]) (.idx (.var 2) (.var 6)))) (.var 6) [.val (.ref 0), .val (.int w), .val (enc t), .val (.lst ((t.map tot).map enc)), .val (tbl w (evnT t)), .no, t6, t7]) ((List.range 2).map enc) s1 = .ok [] s1 := fun t6 t7 => by
      apply compR_none
      intro i hi
      have hi := List.mem_range.mp hi
      have hi2 : i < t.length := by omega
      have hm := ro_mem hi2
      have rw1 := sp_Table_row m (by omega) s1 w (evnT t) i (by simp [evnT]; omega)
      have hr : ro (evnT t) i = (ro t i).map (· / tot (ro t i)) := by
        unfold evnT ro
        rw [List.getD_eq_getElem?_getD, List.getD_eq_getElem?_getD]
        simp [hi2]
      have at1 : (t.map tot)[i]? = some (tot (ro t i)) := by rw [List.getElem?_map, ro_get hi2]; rfl
      have t0 := h0' _ hm
      have st0 : Sz 100 (tot (ro t i)) := (tot_sz (zt.sz _ hm)).mono (by rw [wt _ hm]; omega)
      rw [hr] at rw1
      have cc : compR (cStep PP (run PP m) (.one 7) none (.call "_law_times" [.idx (.var 3) (.var 6), .var 7]) [.val (.ref 0), .val (.int w), .val (enc t), .val (.lst ((t.map tot).map enc)), .val (tbl w (evnT t)), .no, .val (.int i), t7]) (((ro t i).map (· / tot (ro t i))).map enc) s1 = .ok ((ro t i).map enc) s1 := by
        rw [List.map_map (l := ro t i), compR_map (e := enc ∘ (· / tot (ro t i))) (g := enc)]
        intro q hq
        have lt' := sp_ltimes m (by omega) s1 (tot (ro t i)) (q / tot (ro t i)) (st0.big (by decide)) ((Sz.div (zt.sz _ hm q hq) st0 t0).big (by decide))
        have hq' : tot (ro t i) * (q / tot (ro t i)) = q := by
          rw [Rat.div_def, Rat.mul_comm, Rat.mul_assoc, Rat.inv_mul_cancel _ t0, Rat.mul_one]
        rw [hq'] at lt'
        have ix : dIdx s1 (.lst ((t.map tot).map (enc (α := Rat)))) (.int (i : Int)) = some (enc (tot (ro t i))) := by
          rw [dIdx_lst, atI_nat, List.getElem?_map, at1]; rfl
        show cStep PP (run PP m) _ none _ _ (enc (q / tot (ro t i))) s1 = _
        simp only [cStep_one, evC_none, Res.bind_ok, kCst_app, if_true, evE_call, evL_cons, evE_idx, evE_var, List.set_cons_zero, List.set_cons_succ, slotD_zero, slotD_succ, lift_some, kIdx_app, kIdx2_app, ix, kL_app, evL_nil, kL2_app, lt', kSm_app]
      have dq := dEq_enc (ro t i) (ro t i) (by decide)
      simp only [decide_true] at dq
      have ar := at_ro hi2
      have it : items (enc ((ro t i).map (· / tot (ro t i)))) = some (((ro t i).map (· / tot (ro t i))).map enc) := rfl
      have tu : D.tup ((ro t i).map enc) = enc (ro t i) := rfl
      simp [enc_nat, rw1, cc, dq, ar, tu, it, -List.map_map]
    have g2 : rng [.int 2] = some ((List.range 2).map (enc (α := Nat))) := rng_one 2 (by decide)
    have dn : dEq (.lst []) (.lst []) = some true := rfl
    simp [d__law_evened, et', cs, mk, ev, z0, di, cn, g2, dn, r3, mz, -List.map_map]
--@ _law_refused
theorem sp_is_number_no (n : Nat) (hn : 2 ≤ n) (st : Sto) (d : D) (h : (∃ b, d = .bl b) ∨ (∃ s, d = .str s) ∨ d = .non) (x y : D) : run PP n "is_number" [d, x, y] st = .ok (.bl false) st := by
  obtain ⟨m, rfl⟩ : ∃ m, n = m + 1 := ⟨n - 1, by omega⟩
  obtain ⟨k, rfl⟩ : ∃ k, m = k + 1 := ⟨m - 1, by omega⟩
  have wh : run PP (k + 1) "is_whole" [d] st = .ok (.bl false) st := by
    rw [rn_is_whole]
    rcases h with ⟨b, rfl⟩ | ⟨s, rfl⟩ | rfl <;> simp [d_is_whole]
  rw [rn_is_number]
  simp [d_is_number, wh]
theorem want_bad (n : Nat) (hn : 3 ≤ n) (st : Sto) (d : D) (h : (∃ b, d = .bl b) ∨ (∃ s, d = .str s) ∨ d = .non) : run PP n "want_long" [d] st = .exc "BadNumber" [d] st := by
  obtain ⟨m, rfl⟩ : ∃ m, n = m + 1 := ⟨n - 1, by omega⟩
  rw [rn_want_long]
  simp [d_want_long, sp_is_number_no m (by omega) st d h]
theorem bad_nearest (n : Nat) (hn : 4 ≤ n) (st : Sto) : run PP n "nearest" [.int 0, .int 3] st = .exc "BadNumber" [.int 0] st := by
  obtain ⟨m, rfl⟩ : ∃ m, n = m + 1 := ⟨n - 1, by omega⟩
  rw [rn_nearest]
  have w0 := sp_want_long_bad m (by omega) st 0 (by decide)
  simp [d_nearest, w0]
theorem bad_box (n : Nat) (hn : 4 ≤ n) (st : Sto) : run PP n "box" [.int 3, .int 25] st = .exc "BadNumber" [.int 25] st := by
  obtain ⟨m, rfl⟩ : ∃ m, n = m + 1 := ⟨n - 1, by omega⟩
  rw [rn_box]
  have w0 := sp_want_long_bad m (by omega) st 25 (by decide)
  have w1 : run PP m "want_long" [.int 3] st = .ok (.int 3) st := sp_want_long m (by omega) st 3 (by decide) (by decide)
  simp [d_box, w0, w1]
theorem bad_tent (n : Nat) (hn : 4 ≤ n) (st : Sto) : run PP n "tent" [.str [97], .int 2] st = .exc "BadNumber" [.str [97]] st := by
  obtain ⟨m, rfl⟩ : ∃ m, n = m + 1 := ⟨n - 1, by omega⟩
  rw [rn_tent]
  have w0 := want_bad m (by omega) st (.str [97]) (.inr (.inl ⟨_, rfl⟩))
  simp [d_tent, w0]
theorem bad_moved (n : Nat) (hn : 4 ≤ n) (st : Sto) : run PP n "moved" [.int 3, .int 25] st = .exc "BadNumber" [.int 25] st := by
  obtain ⟨m, rfl⟩ : ∃ m, n = m + 1 := ⟨n - 1, by omega⟩
  rw [rn_moved]
  have w1 : run PP m "want_long" [.int 3] st = .ok (.int 3) st := sp_want_long m (by omega) st 3 (by decide) (by decide)
  simp [d_moved, w1, sp_is_number m (by omega)]
theorem bad_repeated (n : Nat) (hn : 4 ≤ n) (st : Sto) : run PP n "repeated" [.int 9, .int 3] st = .exc "BadNumber" [.int 27] st := by
  obtain ⟨m, rfl⟩ : ∃ m, n = m + 1 := ⟨n - 1, by omega⟩
  rw [rn_repeated]
  have w0 := sp_want_long_bad m (by omega) st 27 (by decide)
  have w1 : run PP m "want_long" [.int 9] st = .ok (.int 9) st := sp_want_long m (by omega) st 9 (by decide) (by decide)
  have w2 : run PP m "want_long" [.int 3] st = .ok (.int 3) st := sp_want_long m (by omega) st 3 (by decide) (by decide)
  have k := small_mul (a := 9) (b := 3) (by decide) (by decide)
  have k' : dBin .mul (.int 9) (.int 3) = some (.int 27) := k
  simp [d_repeated, w0, w1, w2, k']
theorem bad_wider (n : Nat) (hn : 4 ≤ n) (st : Sto) : run PP n "wider" [.int 3, .int (-1), .int 0, .bl true] st = .exc "BadNumber" [.int (-1)] st := by
  obtain ⟨m, rfl⟩ : ∃ m, n = m + 1 := ⟨n - 1, by omega⟩
  rw [rn_wider]
  have w1 : run PP m "want_long" [.int 3] st = .ok (.int 3) st := sp_want_long m (by omega) st 3 (by decide) (by decide)
  simp [d_wider, w1, forR, sp_is_number m (by omega)]
theorem bad_around (n : Nat) (hn : 4 ≤ n) (st : Sto) : run PP n "around" [.int 2, .non] st = .exc "BadNumber" [.non] st := by
  obtain ⟨m, rfl⟩ : ∃ m, n = m + 1 := ⟨n - 1, by omega⟩
  rw [rn_around]
  have w1 : run PP m "want_long" [.int 2] st = .ok (.int 2) st := sp_want_long m (by omega) st 2 (by decide) (by decide)
  simp [d_around, w1, sp_is_number_no m (by omega) st .non (.inr (.inr rfl))]
theorem bad_cut (n : Nat) (hn : 4 ≤ n) (st : Sto) (a b : Int) (h : ¬ (1 ≤ b ∧ b ≤ 3 ∧ 0 ≤ a ∧ a ≤ b - 1)) : run PP n "cut" [.int 3, .int a, .int b] st = .exc "BadItem" [.non] st := by
  obtain ⟨m, rfl⟩ : ∃ m, n = m + 1 := ⟨n - 1, by omega⟩
  rw [rn_cut]
  have w1 : run PP m "want_long" [.int 3] st = .ok (.int 3) st := sp_want_long m (by omega) st 3 (by decide) (by decide)
  by_cases c : 1 ≤ b ∧ b ≤ 3
  · have c2 : ¬ (0 ≤ a ∧ a ≤ b - 1) := by omega
    have e1 := sp_is_number m (by omega) st b 1 3
    have e2 := sp_is_number m (by omega) st a 0 (b - 1)
    rw [← Bool.decide_and, decide_eq_true c] at e1
    rw [← Bool.decide_and, decide_eq_false c2] at e2
    simp [d_cut, w1, e1, e2]
  · have e1 := sp_is_number m (by omega) st b 1 3
    rw [← Bool.decide_and, decide_eq_false c] at e1
    simp [d_cut, w1, e1]
theorem bad_blur2 (n : Nat) (hn : 4 ≤ n) (st : Sto) : run PP n "blur" [.int 3, .lst [.tup [.int 1, .int 2], .tup [.int 1, .int 2]]] st = .exc "BadItem" [.non] st := by
  obtain ⟨m, rfl⟩ : ∃ m, n = m + 1 := ⟨n - 1, by omega⟩
  rw [rn_blur]
  have w1 : run PP m "want_long" [.int 3] st = .ok (.int 3) st := sp_want_long m (by omega) st 3 (by decide) (by decide)
  have md : dBin .mod (.int 2) (.int 2) = some (.int 0) := by rw [dBin_mod _ _ (by decide)]; rfl
  simp [d_blur, w1, sp_is_row m (by omega) _ _ _ (.lst _), md]
theorem bad_blur1 (n : Nat) (hn : 4 ≤ n) (st : Sto) : run PP n "blur" [.int 3, .lst [.int 1]] st = .exc "BadItem" [.non] st := by
  obtain ⟨m, rfl⟩ : ∃ m, n = m + 1 := ⟨n - 1, by omega⟩
  rw [rn_blur]
  have w1 : run PP m "want_long" [.int 3] st = .ok (.int 3) st := sp_want_long m (by omega) st 3 (by decide) (by decide)
  have md : dBin .mod (.int 1) (.int 2) = some (.int 1) := by rw [dBin_mod _ _ (by decide)]; rfl
  have fi : run PP m "is_fraction" [.int 1] st = .ok (.bl false) st := by
    obtain ⟨k, rfl⟩ : ∃ k, m = k + 1 := ⟨m - 1, by omega⟩
    rw [rn_is_fraction]
    have hr : run PP k "is_row" [.int 1] st = .ok (.bl false) st := by
      obtain ⟨j, rfl⟩ : ∃ j, k = j + 1 := ⟨k - 1, by omega⟩
      rw [rn_is_row]
      simp [d_is_row]
    simp [d_is_fraction, hr]
  simp [d_blur, w1, sp_is_row m (by omega) _ _ _ (.lst _), md, compR, fi, allB]
theorem bad_led (n : Nat) (hn : 1 ≤ n) (st : Sto) : run PP n "led" [.str [102, 97, 114], .int 2, .int 2] st = .exc "BadItem" [.non] st := by
  obtain ⟨m, rfl⟩ : ∃ m, n = m + 1 := ⟨n - 1, by omega⟩
  rw [rn_led]
  have e1 : dEq (.str [102, 97, 114]) (.str [110, 101, 97, 114, 101, 115, 116]) = some false := by decide
  have e2 : dEq (.str [102, 97, 114]) (.str [98, 111, 120]) = some false := by decide
  have e3 : dEq (.str [102, 97, 114]) (.str [116, 101, 110, 116]) = some false := by decide
  simp [d_led, e1, e2, e3]
def refA : List Sm := [.tryx [.cond (.cmp .eq (.var 0) (.con (.int 0))) [.ex (.call "nearest" [.con (.int 0), .con (.int 3)])] [], .cond (.cmp .eq (.var 0) (.con (.int 1))) [.ex (.call "box" [.con (.int 3), .con (.int 25)])] [], .cond (.cmp .eq (.var 0) (.con (.int 2))) [.ex (.call "tent" [.con (.str [97]), .con (.int 2)])] [], .cond (.cmp .eq (.var 0) (.con (.int 3))) [.ex (.call "moved" [.con (.int 3), .con (.int 25)])] [], .cond (.cmp .eq (.var 0) (.con (.int 4))) [.ex (.call "repeated" [.con (.int 9), .con (.int 3)])] [], .cond (.cmp .eq (.var 0) (.con (.int 5))) [.ex (.call "wider" [.con (.int 3), .neg (.con (.int 1)), .con (.int 0), .con (.bl true)])] [], .cond (.cmp .eq (.var 0) (.con (.int 6))) [.ex (.call "around" [.con (.int 2), .con .non])] [], .cond (.cmp .eq (.var 0) (.con (.int 7))) [.ex (.call "want_long" [.con (.bl true)])] [], .ret (.con (.bl false))] "BadNumber" (some 1) [.cond (.cmp .ne (.xfld 1 "value") (.idx (.lst [.con (.int 0), .con (.int 25), .con (.str [97]), .con (.int 25), .con (.int 27), .neg (.con (.int 1)), .con .non, .con (.bl true)]) (.var 0))) [.ret (.con (.bl false))] []]]
def refB : List Sm := [.tryx [.cond (.cmp .eq (.var 0) (.con (.int 0))) [.ex (.call "cut" [.con (.int 3), .con (.int 2), .con (.int 2)])] [], .cond (.cmp .eq (.var 0) (.con (.int 1))) [.ex (.call "cut" [.con (.int 3), .con (.int 0), .con (.int 4)])] [], .cond (.cmp .eq (.var 0) (.con (.int 2))) [.ex (.call "blur" [.con (.int 3), .lst [.tup [.con (.int 1), .con (.int 2)], .tup [.con (.int 1), .con (.int 2)]]])] [], .cond (.cmp .eq (.var 0) (.con (.int 3))) [.ex (.call "blur" [.con (.int 3), .lst [.con (.int 1)]])] [], .cond (.cmp .eq (.var 0) (.con (.int 4))) [.ex (.call "led" [.con (.str [102, 97, 114]), .con (.int 2), .con (.int 2)])] [], .ret (.con (.bl false))] "BadItem" (some 1) [.cond (.cmp .notN (.xfld 1 "index") (.con .non)) [.ret (.con (.bl false))] []]]
theorem ref_a (m : Nat) (hm : 5 ≤ m) (st : Sto) (i : Nat) (hi : i < 8) (s0 s1 : Sl) (I : Ev → Sto → Prop) (hI : ∀ s0 s1, I [s0, s1] st) : NxI (lStep PP (run PP m) (.one 0) refA (enc i) [s0, s1] st) I := by
  have b0 := bad_nearest m (by omega) st
  have b1 := bad_box m (by omega) st
  have b2 := bad_tent m (by omega) st
  have b3 := bad_moved m (by omega) st
  have b4 := bad_repeated m (by omega) st
  have b5 := bad_wider m (by omega) st
  have b6 := bad_around m (by omega) st
  have b7 := want_bad m (by omega) st (.bl true) (.inl ⟨_, rfl⟩)
  have e2 : dEq (.str [97]) (.str [97]) = some true := by decide
  have e6 : dEq .non .non = some true := by decide
  have e7 : dEq (.bl true) (.bl true) = some true := by decide
  have v0 : atI [D.int 0, D.int 25, D.str [97], D.int 25, D.int 27, D.int (-1), D.non, D.bl true] 0 = some (.int 0) := rfl
  have v1 : atI [D.int 0, D.int 25, D.str [97], D.int 25, D.int 27, D.int (-1), D.non, D.bl true] 1 = some (.int 25) := rfl
  have v2 : atI [D.int 0, D.int 25, D.str [97], D.int 25, D.int 27, D.int (-1), D.non, D.bl true] 2 = some (.str [97]) := rfl
  have v3 : atI [D.int 0, D.int 25, D.str [97], D.int 25, D.int 27, D.int (-1), D.non, D.bl true] 3 = some (.int 25) := rfl
  have v4 : atI [D.int 0, D.int 25, D.str [97], D.int 25, D.int 27, D.int (-1), D.non, D.bl true] 4 = some (.int 27) := rfl
  have v5 : atI [D.int 0, D.int 25, D.str [97], D.int 25, D.int 27, D.int (-1), D.non, D.bl true] 5 = some (.int (-1)) := rfl
  have v6 : atI [D.int 0, D.int 25, D.str [97], D.int 25, D.int 27, D.int (-1), D.non, D.bl true] 6 = some (.non) := rfl
  have v7 : atI [D.int 0, D.int 25, D.str [97], D.int 25, D.int 27, D.int (-1), D.non, D.bl true] 7 = some (.bl true) := rfl
  have cases8 : i = 0 ∨ i = 1 ∨ i = 2 ∨ i = 3 ∨ i = 4 ∨ i = 5 ∨ i = 6 ∨ i = 7 := by omega
  rcases cases8 with rfl | rfl | rfl | rfl | rfl | rfl | rfl | rfl <;> simp [refA, enc_nat, b0, b1, b2, b3, b4, b5, b6, b7, e2, e6, e7, v0, v1, v2, v3, v4, v5, v6, v7] <;> exact hI ..
theorem ref_b (m : Nat) (hm : 5 ≤ m) (st : Sto) (i : Nat) (hi : i < 5) (s0 s1 : Sl) (I : Ev → Sto → Prop) (hI : ∀ s0 s1, I [s0, s1] st) : NxI (lStep PP (run PP m) (.one 0) refB (enc i) [s0, s1] st) I := by
  have b0 := bad_cut m (by omega) st 2 2 (by decide)
  have b1 := bad_cut m (by omega) st 0 4 (by decide)
  have b2 := bad_blur2 m (by omega) st
  have b3 := bad_blur1 m (by omega) st
  have b4 := bad_led m (by omega) st
  have cases5 : i = 0 ∨ i = 1 ∨ i = 2 ∨ i = 3 ∨ i = 4 := by omega
  rcases cases5 with rfl | rfl | rfl | rfl | rfl <;> simp [refB, enc_nat, b0, b1, b2, b3, b4] <;> exact hI ..
theorem sp_lrefused (n : Nat) (hn : 6 ≤ n) (st : Sto) : run PP n "_law_refused" [] st = .ok (.bl true) st := by
  obtain ⟨m, rfl⟩ : ∃ m, n = m + 1 := ⟨n - 1, by omega⟩
  rw [rn__law_refused]
  obtain ⟨ρ1, t1, e1, ⟨x0, x1, rfl⟩, rfl⟩ := forR_range (f := lStep PP (run PP m) (.one 0) refA) (fun _ ρ s => (∃ x0 x1, ρ = [x0, x1]) ∧ s = st) enc 8 (ρ := [.no, .no]) (st := st) ⟨⟨_, _, rfl⟩, rfl⟩ (by
    rintro k hk ρ s ⟨⟨x0, x1, rfl⟩, rfl⟩
    exact ref_a m (by omega) s k hk x0 x1 _ (fun x0 x1 => ⟨⟨_, _, rfl⟩, rfl⟩))
  obtain ⟨ρ2, t2, e2, ⟨y0, y1, rfl⟩, rfl⟩ := forR_range (f := lStep PP (run PP m) (.one 0) refB) (fun _ ρ s => (∃ x0 x1, ρ = [x0, x1]) ∧ s = t1) enc 5 (ρ := [x0, x1]) (st := t1) ⟨⟨_, _, rfl⟩, rfl⟩ (by
    rintro k hk ρ s ⟨⟨x0, x1, rfl⟩, rfl⟩
    exact ref_b m (by omega) s k hk x0 x1 _ (fun x0 x1 => ⟨⟨_, _, rfl⟩, rfl⟩))
  have g8 : rng [.int 8] = some ((List.range 8).map (enc (α := Nat))) := rng_one 8 (by decide)
  have g5 : rng [.int 5] = some ((List.range 5).map (enc (α := Nat))) := rng_one 5 (by decide)
  have hb' : d__law_refused.body = [.loop (.one 0) (.range [.con (.int 8)]) refA, .loop (.one 0) (.range [.con (.int 5)]) refB, .ret (.con (.bl true))] := rfl
  rw [hb']
  simp [g8, g5, e1, e2]
--@ law
theorem law_plain : Law PP 11 := by
  intro ns _ _
  have hR0 : Rw ns (rowS ns 0 127 0) := ⟨0, 127, 0, rfl, by decide, by decide, by decide, by decide⟩
  obtain ⟨a, s1, ea, ha, h1⟩ := sp_taken 11 (by decide) ns _ hR0 7 (by decide) (by decide)
  obtain ⟨b, s2, eb, hb, h2⟩ := sp_taken 11 (by decide) ns _ h1 7 (by decide) (by decide)
  obtain ⟨t, s3, et, lt, wt, zt, h3⟩ := sp_drawn 11 (by decide) ns _ h2 1 (1 + a) (by omega) (by omega)
  obtain ⟨p, rfl⟩ : ∃ p, t = [p] := by
    match t, lt with
    | [p], _ => exact ⟨p, rfl⟩
  have hp : p.length = 1 + a := wt p (by simp)
  have hz : ∀ q ∈ p, Sz 4 q := fun q hq => (zt p (by simp) q hq).sz
  have e1 := sp_ways 11 (by decide) s3 (1 + a) (1 + b) (by omega) (by omega) (by omega) (by omega)
  obtain ⟨s4, e2, h4⟩ := sp_lmoves 11 (by decide) ns s3 h3 (1 + a) (by omega) (by omega) p hp hz
  obtain ⟨s5, e3, h5⟩ := sp_lsums 11 (by decide) ns s4 h4 (1 + a) (by omega) (by omega) p hp hz
  obtain ⟨s6, e4, h6⟩ := sp_levened 11 (by decide) ns s5 h5 (1 + a) (by omega) (by omega)
  have e5 := sp_lrefused 11 (by decide) s6
  refine ⟨s6, ?_⟩
  have ea' : run PP 11 "_law_taken" [.ref 0, .int 7] (rowS ns 0 127 0) = .ok (.int a) s1 := ea
  have eb' : run PP 11 "_law_taken" [.ref 0, .int 7] s1 = .ok (.int b) s2 := eb
  have et' : run PP 11 "_law_drawn" [.ref 0, .int 1, .int (1 + (a : Int))] s2 = .ok (enc [p]) s3 := by rw [← et]; simp
  have h0 : atI ([p] : List (List Rat)) 0 = some p := rfl
  simp only [Int.natCast_add, Int.natCast_one] at e1 e2 e3 e4
  show run PP 12 "law" _ _ = _
  rw [rn_law]
  simp only [rowS] at ea'
  simp [d_law, ea', eb', et', h0, e1, e2, e3, e4, e5]
end Dp
end SK14P
set_option maxHeartbeats 0
open PySem PySem.W PySem.Calls PyProof.Rows
theorem PySem.Challenge.cw_picturescales_k14_whole_makers_holds : PySem.Challenge.rw_picturescales_k14_whole_makers.Holds := by
  w_on; o_law
  refine HandSHeadRun.head_any (r := OpenLaw.row PySem.Challenge.rw_picturescales_k14_whole_makers) (q := view (OpenLaw.row PySem.Challenge.rw_picturescales_k14_whole_makers).prog [69]) (H := Dp.hookP Dp.LL Dp.fl) (ob := Dp.ob) (M := 4000) (loose := Dp.loose) (d := HandSHeadRun.topDef (OpenLaw.row PySem.Challenge.rw_picturescales_k14_whole_makers).prog 69) (kwd := []) Dp.ob_eq
    (by kernel_rfl) (fun s => by kernel_rfl) Dp.head_run (by kernel_rfl) (by kernel_rfl) (by kernel_rfl) (by rfl) (by first | assumption | decide +kernel) (by decide +kernel) ⟨rfl, rfl, rfl, rfl, rfl, by decide +kernel⟩ ?hw ?hc
  case hw => w_witness2
  case hc =>
    exact Dp.walk_law (l := PySem.Challenge.rw_picturescales_k14_whole_makers) (n := 11) (L := Dp.LL) (e := Dp.e_law) rfl (by kernel_rfl) (by kernel_rfl) ⟨rfl, by decide, by decide⟩ Dp.law_ok (by rfl) rfl rfl rfl (by decide) Dp.law_plain
