import PyProof.Rows.All
import Wide.All
import OpenK.AllK
import Wide.FinOn
import HandS.ForMost
import HandS.ForExc
import HandS.Flow
import HandS.CallSlots
import HandS.Star
import HandS.MakeKwOnly
import HandS.IsInst
import HandS.Strs
import HandS.Wide
import KE.GoesMore
import KE.GoesEnum
import HandS.Iter
import HandS.ClsMeth
import HandS.More
import HandS.OwnEq
import HandS.HeadHook4
import HandS.MakeKw
import HandS.HeadEnd
import HandS.Head0
import HandS.Head1
import HandS.Head2
import KE.KStateDown
import PySem.Challenge.RW_writtenbehind_k09_told_readers_part
set_option Elab.async false
set_option linter.all false
set_option maxRecDepth 100000
set_option maxHeartbeats 0
/-! L3: functional readings. A Python value as a tree of data (D); what the hand layer's heap says of it (Rep, OR); the state of a def's body (ER); results (R, RS). -/
namespace L3
open PySem PySem.Spec PyProof.Rows L2

/-- a value with all that hangs on it -/
inductive D where
  | non | bl (b : Bool) | int (i : Int) | str (x : Str) | ty (n : String) | fn (n : Str)
  | lst (xs : List D) | lsk (xs : List D) | tup (xs : List D) | ins (C : Str) (fs : List (Str × D))
deriving Inhabited

/-- where the module's name n points (a class, a def) -/
def clsA (K : PySem.W.Frag) (n : Str) : Addr := match PySem.W.nsIn K mainGlobals n with
  | some (some (.ref a)) => a
  | _ => 0
theorem clsA_of {K : PySem.W.Frag} {n : Str} {a : Addr} (h : PySem.W.nsIn K mainGlobals n = some (some (.ref a))) : clsA K n = a := by unfold clsA; rw [h]
theorem Same.tup {K : PySem.W.Frag} {H H' : Hp} {a : Addr} {xs : List V} (e : Same H H') (h : SqT K H a xs) : SqT K H' a xs := by
  rcases h with (h | ⟨o, h⟩) | h
  · exact .inl (.inl (e _ _ h))
  · exact .inl (.inr ⟨o, e _ _ h⟩)
  · exact .inr h

mutual
inductive Rep (K : PySem.W.Frag) (B : Hp) : V → D → Prop
  | non : Rep K B .non .non
  | bl (b : Bool) : Rep K B (.bl b) (.bl b)
  | int (i : Int) : Rep K B (.int i) (.int i)
  | str (x : Str) : Rep K B (.str x) (.str x)
  | ty (n : String) : Rep K B (.ty n) (.ty n)
  | fn (n : Str) : Rep K B (.ref (clsA K n)) (.fn n)
  | lst {a : Addr} {xs : List V} {ds : List D} : B a = some (.lst xs) → RepL K B xs ds → Rep K B (.ref a) (.lst ds)
  | lsk {a : Addr} {xs : List V} {ds : List D} : SqL K B a xs → RepL K B xs ds → Rep K B (.ref a) (.lsk ds)
  | tup {a : Addr} {xs : List V} {ds : List D} : SqT K B a xs → RepL K B xs ds → Rep K B (.ref a) (.tup ds)
  | ins {a dx : Addr} {C : Str} {fs : List (Str × V)} {gs : List (Str × D)} : B a = some (.ins (clsA K C) dx fs) → RepF K B fs gs → Rep K B (.ref a) (.ins C gs)
inductive RepL (K : PySem.W.Frag) (B : Hp) : List V → List D → Prop
  | nil : RepL K B [] []
  | cons {v : V} {vs : List V} {d : D} {ds : List D} : Rep K B v d → RepL K B vs ds → RepL K B (v :: vs) (d :: ds)
inductive RepF (K : PySem.W.Frag) (B : Hp) : List (Str × V) → List (Str × D) → Prop
  | nil : RepF K B [] []
  | cons {f : Str} {v : V} {vs : List (Str × V)} {d : D} {ds : List (Str × D)} : Rep K B v d → RepF K B vs ds → RepF K B ((f, v) :: vs) ((f, d) :: ds)
end

section
variable {K : PySem.W.Frag} {B B' : Hp}
mutual
theorem Rep.mono (s : Same B B') : ∀ (d : D) {v : V}, Rep K B v d → Rep K B' v d
  | .non, _, h => by cases h; exact .non
  | .bl _, _, h => by cases h; exact .bl _
  | .int _, _, h => by cases h; exact .int _
  | .str _, _, h => by cases h; exact .str _
  | .ty _, _, h => by cases h; exact .ty _
  | .fn _, _, h => by cases h; exact .fn _
  | .lst ds, _, h => by cases h with | lst h1 h2 => exact .lst (s _ _ h1) (RepL.mono s ds h2)
  | .lsk ds, _, h => by cases h with | lsk h1 h2 => exact .lsk (s.seq h1) (RepL.mono s ds h2)
  | .tup ds, _, h => by cases h with | tup h1 h2 => exact .tup (Same.tup s h1) (RepL.mono s ds h2)
  | .ins _ gs, _, h => by cases h with | ins h1 h2 => exact .ins (s _ _ h1) (RepF.mono s gs h2)
theorem RepL.mono (s : Same B B') : ∀ (ds : List D) {vs : List V}, RepL K B vs ds → RepL K B' vs ds
  | [], _, h => by cases h; exact .nil
  | d :: ds, _, h => by cases h with | cons h1 h2 => exact .cons (Rep.mono s d h1) (RepL.mono s ds h2)
theorem RepF.mono (s : Same B B') : ∀ (ds : List (Str × D)) {vs : List (Str × V)}, RepF K B vs ds → RepF K B' vs ds
  | [], _, h => by cases h; exact .nil
  | (f, d) :: ds, _, h => by cases h with | cons h1 h2 => exact .cons (Rep.mono s d h1) (RepF.mono s ds h2)
end
theorem Rep.up {d : D} {v : V} (h : Rep K B v d) (s : Same B B') : Rep K B' v d := Rep.mono s d h
theorem RepL.up {ds : List D} {vs : List V} (h : RepL K B vs ds) (s : Same B B') : RepL K B' vs ds := RepL.mono s ds h
theorem RepF.up {ds : List (Str × D)} {vs : List (Str × V)} (h : RepF K B vs ds) (s : Same B B') : RepF K B' vs ds := RepF.mono s ds h
theorem RepL.length : ∀ {ds : List D} {vs : List V}, RepL K B vs ds → vs.length = ds.length
  | [], _, h => by cases h; rfl
  | d :: ds, _, h => by cases h with | cons h1 h2 => simp [RepL.length h2]
theorem RepL.get : ∀ {ds : List D} {vs : List V}, RepL K B vs ds → ∀ {i : Nat} {d : D}, ds[i]? = some d → ∃ v, vs[i]? = some v ∧ Rep K B v d
  | [], _, h, i, d, e => by simp at e
  | d :: ds, _, h, 0, x, e => by
    cases h with
    | cons h1 h2 => simp at e; subst e; exact ⟨_, rfl, h1⟩
  | d :: ds, _, h, i + 1, x, e => by
    cases h with
    | cons h1 h2 =>
      obtain ⟨v, e1, e2⟩ := RepL.get h2 (i := i) (d := x) (by simpa using e)
      exact ⟨v, by simpa using e1, e2⟩
theorem RepL.getV : ∀ {ds : List D} {vs : List V}, RepL K B vs ds → ∀ {i : Nat} {v : V}, vs[i]? = some v → ∃ d, ds[i]? = some d ∧ Rep K B v d
  | [], _, h, i, d, e => by cases h; simp at e
  | d :: ds, _, h, 0, x, e => by
    cases h with
    | cons h1 h2 => simp at e; subst e; exact ⟨_, rfl, h1⟩
  | d :: ds, _, h, i + 1, x, e => by
    cases h with
    | cons h1 h2 =>
      obtain ⟨v, e1, e2⟩ := RepL.getV h2 (i := i) (v := x) (by simpa using e)
      exact ⟨v, by simpa using e1, e2⟩
theorem RepL.append : ∀ {ds es : List D} {vs ws : List V}, RepL K B vs ds → RepL K B ws es → RepL K B (vs ++ ws) (ds ++ es)
  | [], _, _, _, h, g => by cases h; exact g
  | _ :: _, _, _, _, h, g => by cases h with | cons h1 h2 => exact .cons h1 (RepL.append h2 g)
theorem RepL.take : ∀ {ds : List D} {vs : List V} (n : Nat), RepL K B vs ds → RepL K B (vs.take n) (ds.take n)
  | _, _, 0, _ => .nil
  | [], _, _ + 1, h => by cases h; exact .nil
  | _ :: _, _, n + 1, h => by cases h with | cons h1 h2 => exact .cons h1 (RepL.take n h2)
theorem RepL.drop : ∀ {ds : List D} {vs : List V} (n : Nat), RepL K B vs ds → RepL K B (vs.drop n) (ds.drop n)
  | _, _, 0, h => h
  | [], _, _ + 1, h => by cases h; exact .nil
  | _ :: _, _, n + 1, h => by cases h with | cons h1 h2 => exact RepL.drop n h2
theorem RepL.reverse : ∀ {ds : List D} {vs : List V}, RepL K B vs ds → RepL K B vs.reverse ds.reverse
  | [], _, h => by cases h; exact .nil
  | _ :: _, _, h => by
    cases h with
    | cons h1 h2 => rw [List.reverse_cons, List.reverse_cons]; exact RepL.append (RepL.reverse h2) (.cons h1 .nil)
theorem RepL.dropLast {ds : List D} {vs : List V} (h : RepL K B vs ds) : RepL K B vs.dropLast ds.dropLast := by
  rw [List.dropLast_eq_take, List.dropLast_eq_take, h.length]; exact h.take _
theorem RepL.set : ∀ {ds : List D} {vs : List V} (i : Nat) {d : D} {v : V}, RepL K B vs ds → Rep K B v d → RepL K B (vs.set i v) (ds.set i d)
  | [], _, _, _, _, h, _ => by cases h; exact .nil
  | _ :: _, _, 0, _, _, h, r => by cases h with | cons h1 h2 => exact .cons r h2
  | _ :: _, _, i + 1, _, _, h, r => by cases h with | cons h1 h2 => exact .cons h1 (RepL.set i h2 r)
theorem RepF.length : ∀ {ds : List (Str × D)} {vs : List (Str × V)}, RepF K B vs ds → vs.length = ds.length
  | [], _, h => by cases h; rfl
  | _ :: ds, _, h => by cases h with | cons h1 h2 => simp [RepF.length h2]
theorem RepF.look : ∀ {ds : List (Str × D)} {vs : List (Str × V)}, RepF K B vs ds → ∀ {f : Str} {d : D}, ds.lookup f = some d → ∃ v, vs.lookup f = some v ∧ Rep K B v d
  | [], _, h, f, d, e => by simp at e
  | (g, d) :: ds, _, h, f, x, e => by
    cases h with
    | cons h1 h2 =>
      simp only [List.lookup] at e ⊢
      split at e
      · cases e; exact ⟨_, rfl, h1⟩
      · exact RepF.look h2 e
theorem RepF.lookN : ∀ {ds : List (Str × D)} {vs : List (Str × V)}, RepF K B vs ds → ∀ {f : Str}, ds.lookup f = none → vs.lookup f = none
  | [], _, h, f, e => by cases h; rfl
  | (g, d) :: ds, _, h, f, e => by
    cases h with
    | cons h1 h2 =>
      simp only [List.lookup] at e ⊢
      split at e
      · cases e
      · exact RepF.lookN h2 e
/-- the data of an attribute stored -/
def putD (f : Str) (v : D) : List (Str × D) → List (Str × D)
  | [] => [(f, v)]
  | (g, u) :: r => if g = f then (f, v) :: r else (g, u) :: putD f v r
end
end L3

namespace L3
open PySem PySem.Spec PyProof.Rows L2

/-! ### who may change what: frozen, an own list of .., an own instance -/
inductive OT where
  | fz | ow (e : OT) | oi
deriving DecidableEq, Inhabited
abbrev Oo := List (Option OT)
inductive ORs (P : V → D → List Addr → Prop) : List V → List D → List Addr → Prop
  | nil : ORs P [] [] []
  | cons {v : V} {d : D} {f1 f2 : List Addr} {vs : List V} {ds : List D} : P v d f1 → ORs P vs ds f2 → ORs P (v :: vs) (d :: ds) (f1 ++ f2)
theorem ORs.mp {P P' : V → D → List Addr → Prop} {vs : List V} {ds : List D} {fp : List Addr} (h : ORs P vs ds fp) (m : ∀ v d f, (∀ a ∈ f, a ∈ fp) → P v d f → P' v d f) : ORs P' vs ds fp := by
  induction h with
  | nil => exact .nil
  | cons h1 h2 ih =>
    exact .cons (m _ _ _ (fun a ha => List.mem_append_left _ ha) h1) (ih fun v d f hf p => m v d f (fun a ha => List.mem_append_right _ (hf a ha)) p)
def OR (K : PySem.W.Frag) (B H : Hp) : OT → V → D → List Addr → Prop
  | .fz => fun v d fp => Rep K B v d ∧ fp = []
  | .ow e => fun v d fp => ∃ a vs ds f, v = .ref a ∧ d = .lst ds ∧ H a = some (.lst vs) ∧ ORs (OR K B H e) vs ds f ∧ fp = a :: f
  | .oi => fun v d fp => ∃ a C dx fs gs, v = .ref a ∧ d = .ins C gs ∧ H a = some (.ins (clsA K C) dx fs) ∧ RepF K B fs gs ∧ fp = [a]
section
variable {K : PySem.W.Frag} {B B' H H' : Hp}
theorem OR.mono (s : Same B B') : ∀ (ot : OT) {v : V} {d : D} {fp : List Addr}, (∀ a ∈ fp, H' a = H a) → OR K B H ot v d fp → OR K B' H' ot v d fp
  | .fz, _, _, _, _, h => ⟨h.1.up s, h.2⟩
  | .ow e, _, _, _, hf, h => by
    obtain ⟨a, vs, ds, f, rfl, rfl, ha, hs, rfl⟩ := h
    refine ⟨a, vs, ds, f, rfl, rfl, (hf a List.mem_cons_self).trans ha, hs.mp fun v d g hg p => OR.mono s e (fun b hb => hf b (List.mem_cons_of_mem _ (hg b hb))) p, rfl⟩
  | .oi, _, _, _, hf, h => by
    obtain ⟨a, C, dx, fs, gs, rfl, rfl, ha, hs, rfl⟩ := h
    exact ⟨a, C, dx, fs, gs, rfl, rfl, (hf a List.mem_cons_self).trans ha, hs.up s, rfl⟩
theorem ORs.has {P : V → D → List Addr → Prop} {vs : List V} {ds : List D} {fp : List Addr} (h : ORs P vs ds fp) (m : ∀ v d f, P v d f → ∀ a ∈ f, H a ≠ none) : ∀ a ∈ fp, H a ≠ none := by
  induction h with
  | nil => intro a ha; cases ha
  | cons h1 h2 ih =>
    intro a ha
    rcases List.mem_append.mp ha with q | q
    · exact m _ _ _ h1 a q
    · exact ih a q
theorem OR.has : ∀ (ot : OT) {v : V} {d : D} {fp : List Addr}, OR K B H ot v d fp → ∀ a ∈ fp, H a ≠ none
  | .fz, _, _, _, h => by intro a ha; rw [h.2] at ha; cases ha
  | .ow e, _, _, _, h => by
    obtain ⟨a, vs, ds, f, rfl, rfl, ha, hs, rfl⟩ := h
    intro b hb
    rcases List.mem_cons.mp hb with rfl | hb
    · rw [ha]; exact fun z => nomatch z
    · exact hs.has (fun v d f p => OR.has e p) b hb
  | .oi, _, _, _, h => by
    obtain ⟨a, C, dx, fs, gs, rfl, rfl, ha, hs, rfl⟩ := h
    intro b hb
    rw [List.mem_singleton.mp hb, ha]; exact fun z => nomatch z
/-- frozen from now on: B' takes the footprint in -/
theorem OR.freeze (s : Same B B') : ∀ (ot : OT) {v : V} {d : D} {fp : List Addr}, (∀ a ∈ fp, ∀ o, H a = some o → B' a = some o) → OR K B H ot v d fp → Rep K B' v d
  | .fz, _, _, _, _, h => h.1.up s
  | .ow e, _, _, _, hf, h => by
    obtain ⟨a, vs, ds, f, rfl, rfl, ha, hs, rfl⟩ := h
    refine .lst (hf a List.mem_cons_self _ ha) ?_
    have hf' : ∀ b ∈ f, ∀ o, H b = some o → B' b = some o := fun b hb => hf b (List.mem_cons_of_mem _ hb)
    clear ha hf
    induction hs with
    | nil => exact .nil
    | cons h1 h2 ih => exact .cons (OR.freeze s e (fun b hb => hf' b (List.mem_append_left _ hb)) h1) (ih fun b hb => hf' b (List.mem_append_right _ hb))
  | .oi, _, _, _, hf, h => by
    obtain ⟨a, C, dx, fs, gs, rfl, rfl, ha, hs, rfl⟩ := h
    exact .ins (hf a List.mem_cons_self _ ha) (hs.up s)
end

/-! ### the state of a def's body -/
abbrev E := List (Option D)
abbrev Fp := Nat → List Addr
/-- F: what stood at the entry and is not this def's (kept); B0: what it may read at the entry; pin: the slots of what is changed for the caller -/
structure Cst where
  K : PySem.W.Frag
  F : Hp
  B0 : Hp
  pin : List Nat
  pv : Nat → V
structure ER (c : Cst) (O : Oo) (B H : Hp) (fp : Fp) (σ : L2.St) (ρ : E) : Prop where
  bh : Same B H
  fh : Same c.F H
  b0 : Same c.B0 B
  bf : ∀ b, B b ≠ none → c.F b = none
  len : ρ.length = σ.length
  slot : ∀ i ot, O[i]? = some (some ot) → ∃ v d, σ[i]? = some (some v) ∧ ρ[i]? = some (some d) ∧ OR c.K B H ot v d (fp i)
  nofp : ∀ i, (∀ ot, O[i]? ≠ some (some ot)) → fp i = []
  fpb : ∀ i a, a ∈ fp i → B a = none ∧ c.F a = none
  nd : ∀ i, (fp i).Nodup
  dis : ∀ i j a, a ∈ fp i → a ∈ fp j → i = j
  pins : ∀ i ∈ c.pin, σ[i]? = some (some (c.pv i))
/-- at most new frozen objects have come -/
structure Grow (B H B' H' : Hp) : Prop where
  bb : Same B B'
  bh : Same B' H'
  hh : Same H H'
  new : ∀ b, B b = none → B' b ≠ none → H b = none
structure Fresh (c : Cst) (B : Hp) (fp : Fp) (f : List Addr) : Prop where
  nd : f.Nodup
  inB : ∀ a ∈ f, B a = none
  inF : ∀ a ∈ f, c.F a = none
  inO : ∀ a ∈ f, ∀ i, a ∉ fp i
theorem Fresh.nil {c : Cst} {B : Hp} {fp : Fp} : Fresh c B fp [] := ⟨List.nodup_nil, fun _ h => (nomatch h), fun _ h => (nomatch h), fun _ h => (nomatch h)⟩
theorem ne_some_of {α : Type} {x : Option α} (h : x ≠ none) : ∃ a, x = some a := by
  cases x with
  | none => exact absurd rfl h
  | some a => exact ⟨a, rfl⟩
section
variable {c : Cst} {O O' : Oo} {B B' H H' : Hp} {fp fp' : Fp} {σ : L2.St} {ρ : E}
theorem ER.has (e : ER c O B H fp σ ρ) {i : Nat} {a : Addr} (h : a ∈ fp i) : H a ≠ none := by
  cases q : O[i]? with
  | none => rw [e.nofp i (fun ot z => by rw [q] at z; cases z)] at h; cases h
  | some x =>
    cases x with
    | none => rw [e.nofp i (fun ot z => by rw [q] at z; cases z)] at h; cases h
    | some ot =>
      obtain ⟨v, d, _, _, r⟩ := e.slot i ot q
      exact OR.has ot r a h
theorem Grow.refl (h : Same B H) : Grow B H B H := ⟨.refl _, h, .refl _, fun b h1 h2 => absurd h1 h2⟩
theorem Grow.trans {B1 H1 B2 H2 B3 H3 : Hp} (a : Grow B1 H1 B2 H2) (b : Grow B2 H2 B3 H3) : Grow B1 H1 B3 H3 :=
  ⟨a.bb.trans b.bb, b.bh, a.hh.trans b.hh, fun x h1 h2 => by
    cases q : B2 x with
    | none => exact a.hh.free (b.new x q h2)
    | some o => exact a.new x h1 (by rw [q]; exact fun z => nomatch z)⟩
theorem ER.grow (e : ER c O B H fp σ ρ) (g : Grow B H B' H') : ER c O B' H' fp σ ρ := by
  have hk : ∀ i a, a ∈ fp i → H' a = H a := fun i a ha => by
    obtain ⟨o, q⟩ := ne_some_of (e.has ha)
    rw [g.hh a o q, q]
  refine ⟨g.bh, e.fh.trans g.hh, e.b0.trans g.bb, fun b hb => ?_, e.len, fun i ot h => ?_, e.nofp, fun i a ha => ?_, e.nd, e.dis, e.pins⟩
  · cases q : c.F b with
    | none => rfl
    | some o =>
      have h1 := e.fh b o q
      cases q2 : B b with
      | none => rw [g.new b q2 hb] at h1; cases h1
      | some o2 => rw [e.bf b (by rw [q2]; exact fun z => nomatch z)] at q; cases q
  · obtain ⟨v, d, h1, h2, r⟩ := e.slot i ot h
    exact ⟨v, d, h1, h2, OR.mono g.bb ot (hk i) r⟩
  · refine ⟨?_, (e.fpb i a ha).2⟩
    cases q : B' a with
    | none => rfl
    | some o => exact absurd (g.new a (e.fpb i a ha).1 (by rw [q]; exact fun z => nomatch z)) (e.has ha)
/-- a value's footprint is taken in by B -/
def takeIn (B H : Hp) (f : List Addr) : Hp := fun b => if b ∈ f then H b else B b
theorem takeIn_same {f : List Addr} (hb : ∀ a ∈ f, B a = none) : Same B (takeIn B H f) := fun b o h => by
  unfold takeIn
  by_cases q : b ∈ f
  · rw [hb b q] at h; cases h
  · rw [if_neg q]; exact h
theorem takeIn_in {f : List Addr} {a : Addr} (h : a ∈ f) : takeIn B H f a = H a := by unfold takeIn; rw [if_pos h]
theorem takeIn_out {f : List Addr} {a : Addr} (h : a ∉ f) : takeIn B H f a = B a := by unfold takeIn; rw [if_neg h]
theorem ER.takeIn (e : ER c O B H fp σ ρ) {f : List Addr} (F : Fresh c B fp f) : ER c O (takeIn B H f) H fp σ ρ := by
  have sb : Same B (L3.takeIn B H f) := takeIn_same F.inB
  refine ⟨fun b o h => ?_, e.fh, e.b0.trans sb, fun b hb => ?_, e.len, fun i ot h => ?_, e.nofp, fun i a ha => ?_, e.nd, e.dis, e.pins⟩
  · by_cases q : b ∈ f
    · rw [takeIn_in q] at h; exact h
    · rw [takeIn_out q] at h; exact e.bh b o h
  · by_cases q : b ∈ f
    · exact F.inF b q
    · rw [takeIn_out q] at hb; exact e.bf b hb
  · obtain ⟨v, d, h1, h2, r⟩ := e.slot i ot h
    exact ⟨v, d, h1, h2, OR.mono sb ot (fun _ _ => rfl) r⟩
  · refine ⟨?_, (e.fpb i a ha).2⟩
    rw [takeIn_out fun z => F.inO a z i ha]; exact (e.fpb i a ha).1
/-- a slot takes a new value -/
theorem ER.set (e : ER c O B H fp σ ρ) {i : Nat} {ot : OT} {v : V} {d : D} {f : List Addr} (hi : i < σ.length) (hO : i < O.length) (hp : c.pin.contains i = false) (r : OR c.K B H ot v d f) (F : Fresh c B fp f) :
    ER c (O.set i (some ot)) B H (fun j => if j = i then f else fp j) (σ.set i (some v)) (ρ.set i (some d)) := by
  refine ⟨e.bh, e.fh, e.b0, e.bf, by simp [e.len], fun j ot' h => ?_, fun j h => ?_, fun j a ha => ?_, fun j => ?_, fun j k a ha hb => ?_, fun j hj => ?_⟩
  · by_cases hj : j = i
    · subst hj
      rw [List.getElem?_set_self hO] at h
      cases h
      exact ⟨v, d, List.getElem?_set_self hi, List.getElem?_set_self (by rw [e.len]; exact hi), by simp only [if_true]; exact r⟩
    · rw [List.getElem?_set_ne (Ne.symm hj)] at h
      obtain ⟨v', d', h1, h2, r'⟩ := e.slot j ot' h
      refine ⟨v', d', by rw [List.getElem?_set_ne (Ne.symm hj)]; exact h1, by rw [List.getElem?_set_ne (Ne.symm hj)]; exact h2, ?_⟩
      simp only [if_neg hj]; exact r'
  · by_cases hj : j = i
    · subst hj
      exact absurd (List.getElem?_set_self hO) (h ot)
    · simp only [if_neg hj]
      exact e.nofp j fun ot' z => h ot' (by rw [List.getElem?_set_ne (Ne.symm hj)]; exact z)
  · by_cases hj : j = i
    · simp only [if_pos hj] at ha
      exact ⟨F.inB a ha, F.inF a ha⟩
    · simp only [if_neg hj] at ha
      exact e.fpb j a ha
  · by_cases hj : j = i
    · simp only [if_pos hj]; exact F.nd
    · simp only [if_neg hj]; exact e.nd j
  · by_cases hj : j = i <;> by_cases hk : k = i
    · rw [hj, hk]
    · simp only [if_pos hj] at ha; simp only [if_neg hk] at hb
      exact absurd hb (F.inO a ha k)
    · simp only [if_neg hj] at ha; simp only [if_pos hk] at hb
      exact absurd ha (F.inO a hb j)
    · simp only [if_neg hj] at ha; simp only [if_neg hk] at hb
      exact e.dis j k a ha hb
  · have hne : j ≠ i := fun z => by
      subst z
      have : c.pin.contains j = true := by simpa using hj
      rw [this] at hp; cases hp
    rw [List.getElem?_set_ne (Ne.symm hne)]; exact e.pins j hj
/-- the static order: forget, freeze -/
def leO : Oo → Oo → Bool
  | [], _ => true
  | none :: r, [] => leO r []
  | some _ :: _, [] => false
  | none :: r, _ :: s => leO r s
  | some _ :: _, none :: _ => false
  | some t :: r, some u :: s => (t == u || t == .fz) && leO r s
theorem leO_at : ∀ {O' O : Oo}, leO O' O = true → ∀ {i : Nat} {ot : OT}, O'[i]? = some (some ot) → ∃ u, O[i]? = some (some u) ∧ (ot = u ∨ ot = .fz)
  | [], _, _, i, ot, h => by simp at h
  | none :: r, [], hl, 0, ot, h => by simp at h
  | none :: r, [], hl, i + 1, ot, h => by
    obtain ⟨u, h1, _⟩ := leO_at (O' := r) (O := []) (by simpa [leO] using hl) (i := i) (ot := ot) (by simpa using h)
    simp at h1
  | some _ :: _, [], hl, _, _, _ => by simp [leO] at hl
  | none :: r, _ :: s, hl, 0, ot, h => by simp at h
  | none :: r, x :: s, hl, i + 1, ot, h => by
    obtain ⟨u, h1, h2⟩ := leO_at (O' := r) (O := s) (by simpa [leO] using hl) (i := i) (ot := ot) (by simpa using h)
    exact ⟨u, by simpa using h1, h2⟩
  | some _ :: _, none :: _, hl, _, _, _ => by simp [leO] at hl
  | some t :: r, some u :: s, hl, 0, ot, h => by
    simp only [leO, Bool.and_eq_true, Bool.or_eq_true, beq_iff_eq] at hl
    simp at h; subst h
    exact ⟨u, rfl, hl.1⟩
  | some t :: r, some u :: s, hl, i + 1, ot, h => by
    simp only [leO, Bool.and_eq_true] at hl
    obtain ⟨u, h1, h2⟩ := leO_at (O' := r) (O := s) hl.2 (i := i) (ot := ot) (by simpa using h)
    exact ⟨u, by simpa using h1, h2⟩
open Classical in
theorem ER.weak (e : ER c O B H fp σ ρ) (hl : leO O' O = true) : ∃ B' fp', Same B B' ∧ ER c O' B' H fp' σ ρ ∧ (∀ b, B b = none → (∀ i, b ∉ fp i) → B' b = none) ∧ (∀ i a, a ∈ fp' i → a ∈ fp i) := by
  let S : Nat → Prop := fun i => O'[i]? = some (some OT.fz)
  let B' : Hp := fun b => if ∃ i, S i ∧ b ∈ fp i then H b else B b
  let fp' : Fp := fun i => if ∃ ot, O'[i]? = some (some ot) ∧ ot ≠ .fz then fp i else []
  have sb : Same B B' := fun b o h => by
    show (if ∃ i, S i ∧ b ∈ fp i then H b else B b) = some o
    by_cases q : ∃ i, S i ∧ b ∈ fp i
    · rw [if_pos q]; exact e.bh b o h
    · rw [if_neg q]; exact h
  have sub : ∀ i a, a ∈ fp' i → a ∈ fp i ∧ ∃ ot, O'[i]? = some (some ot) ∧ ot ≠ .fz := fun i a h => by
    have h' : a ∈ (if ∃ ot, O'[i]? = some (some ot) ∧ ot ≠ .fz then fp i else []) := h
    by_cases q : ∃ ot, O'[i]? = some (some ot) ∧ ot ≠ .fz
    · rw [if_pos q] at h'; exact ⟨h', q⟩
    · rw [if_neg q] at h'; cases h'
  refine ⟨B', fp', sb, ⟨fun b o h => ?_, e.fh, e.b0.trans sb, fun b hb => ?_, e.len, fun i ot h => ?_, fun i h => ?_, fun i a ha => ?_, fun i => ?_, fun i j a ha hb => e.dis i j a (sub i a ha).1 (sub j a hb).1, e.pins⟩, fun b h1 h2 => ?_, fun i a h => (sub i a h).1⟩
  · have h' : (if ∃ i, S i ∧ b ∈ fp i then H b else B b) = some o := h
    by_cases q : ∃ i, S i ∧ b ∈ fp i
    · rw [if_pos q] at h'; exact h'
    · rw [if_neg q] at h'; exact e.bh b o h'
  · have h' : (if ∃ i, S i ∧ b ∈ fp i then H b else B b) ≠ none := hb
    by_cases q : ∃ i, S i ∧ b ∈ fp i
    · obtain ⟨i, _, hi⟩ := q; exact (e.fpb i b hi).2
    · rw [if_neg q] at h'; exact e.bf b h'
  · obtain ⟨u, h1, h2⟩ := leO_at hl h
    obtain ⟨v, d, h3, h4, r⟩ := e.slot i u h1
    refine ⟨v, d, h3, h4, ?_⟩
    by_cases hz : ot = .fz
    · subst hz
      have hfp : fp' i = [] := by
        show (if ∃ ot, O'[i]? = some (some ot) ∧ ot ≠ .fz then fp i else []) = []
        rw [if_neg]; rintro ⟨ot, q1, q2⟩; rw [h] at q1; cases q1; exact q2 rfl
      rw [hfp]
      refine ⟨OR.freeze sb u (fun a ha o q => ?_) r, rfl⟩
      show (if ∃ i, S i ∧ a ∈ fp i then H a else B a) = some o
      rw [if_pos ⟨i, h, ha⟩]; exact q
    · have hu : ot = u := by rcases h2 with q | q; exact q; exact absurd q hz
      subst hu
      have hfp : fp' i = fp i := by
        show (if ∃ ot, O'[i]? = some (some ot) ∧ ot ≠ .fz then fp i else []) = fp i
        rw [if_pos ⟨ot, h, hz⟩]
      rw [hfp]
      exact OR.mono sb ot (fun _ _ => rfl) r
  · show (if ∃ ot, O'[i]? = some (some ot) ∧ ot ≠ .fz then fp i else []) = []
    rw [if_neg]; rintro ⟨ot, q1, q2⟩; exact h ot q1
  · obtain ⟨h1, ot, h2, h3⟩ := sub i a ha
    refine ⟨?_, (e.fpb i a h1).2⟩
    show (if ∃ i, S i ∧ a ∈ fp i then H a else B a) = none
    rw [if_neg]
    · exact (e.fpb i a h1).1
    · rintro ⟨j, q1, q2⟩
      have := e.dis i j a h1 q2
      subst this
      have q1' : O'[i]? = some (some OT.fz) := q1
      rw [h2] at q1'; cases q1'; exact h3 rfl
  · show (if ∃ ot, O'[i]? = some (some ot) ∧ ot ≠ .fz then fp i else []).Nodup
    by_cases q : ∃ ot, O'[i]? = some (some ot) ∧ ot ≠ .fz
    · rw [if_pos q]; exact e.nd i
    · rw [if_neg q]; exact List.nodup_nil
  · show (if ∃ i, S i ∧ b ∈ fp i then H b else B b) = none
    rw [if_neg fun ⟨i, _, hi⟩ => h2 i hi]; exact h1
end

/-! ### results -/
structure Exn where
  C : Str
  fs : List (Str × D)
inductive R (α : Type) where
  | ok (a : α) (ρ : E) | ex (e : Exn) (ρ : E) | no
def R.bind {α β : Type} (x : R α) (k : α → E → R β) : R β := match x with
  | .ok a ρ => k a ρ
  | .ex e ρ => .ex e ρ
  | .no => .no
/-- a step without effect; none: not served -/
def lift {α : Type} (x : Option α) (ρ : E) : R α := match x with
  | some a => .ok a ρ
  | none => .no
inductive RS where
  | nx (ρ : E) | rt (d : D) (ρ : E) | bk (ρ : E) | ct (ρ : E) | ex (e : Exn) (ρ : E) | no
def RS.seq (x : RS) (k : E → RS) : RS := match x with
  | .nx ρ => k ρ
  | y => y
def R.toS {α : Type} (x : R α) (k : α → E → RS) : RS := match x with
  | .ok a ρ => k a ρ
  | .ex e ρ => .ex e ρ
  | .no => .no

/-- an exception as it lies: its class, its dict's address -/
def XR (B : Hp) (K : PySem.W.Frag) (cls : Value) (dd : Option Addr) (e : Exn) : Prop := cls = .ref (clsA K e.C) ∧ ∃ d fs, dd = some d ∧ B d = some (.xd fs) ∧ RepF K B fs e.fs
theorem XR.up {B B' : Hp} {K : PySem.W.Frag} {cls : Value} {dd : Option Addr} {e : Exn} (h : XR B K cls dd e) (s : Same B B') : XR B' K cls dd e := by
  obtain ⟨h1, d, fs, h2, h3, h4⟩ := h
  exact ⟨h1, d, fs, h2, s _ _ h3, h4.up s⟩

/-- what follows a result that leaves the slots -/
def RG {α : Type} (c : Cst) (O : Oo) (W : WX) (σ : L2.St) (B : Hp) (r : R α) (G : α → E → Hp → Hp → Fp → Prop) : Prop := match r with
  | .ok d ρ => ∀ H' B' fp', Same B B' → ER c O B' H' fp' σ ρ → G d ρ H' B' fp'
  | .ex e ρ => ∀ cls dd H' B' fp', Same B B' → ER c O B' H' fp' σ ρ → XR B' c.K cls dd e → W cls dd σ H'
  | .no => False
section
variable {α β : Type} {c : Cst} {O : Oo} {W : WX} {σ : L2.St} {B B' H : Hp}
theorem RG.base {r : R α} {G : α → E → Hp → Hp → Fp → Prop} (s : Same B B') (h : RG c O W σ B r G) : RG c O W σ B' r G := by
  cases r with
  | ok d ρ => exact fun H' B'' fp' s' e => h H' B'' fp' (s.trans s') e
  | ex e ρ => exact fun cls dd H' B'' fp' s' e x => h cls dd H' B'' fp' (s.trans s') e x
  | no => exact h
theorem RG.mp {r : R α} {G G' : α → E → Hp → Hp → Fp → Prop} (h : RG c O W σ B r G) (m : ∀ d ρ H' B' fp', Same B B' → ER c O B' H' fp' σ ρ → G d ρ H' B' fp' → G' d ρ H' B' fp') : RG c O W σ B r G' := by
  cases r with
  | ok d ρ => exact fun H' B'' fp' s' e => m _ _ _ _ _ s' e (h H' B'' fp' s' e)
  | ex e ρ => exact h
  | no => exact h
theorem RG.bind {r : R α} {k : α → E → R β} {G : β → E → Hp → Hp → Fp → Prop} (h : RG c O W σ B (r.bind k) G) : RG c O W σ B r (fun d ρ _ B' _ => RG c O W σ B' (k d ρ) G) := by
  cases r with
  | ok d ρ => exact fun H' B'' fp' s' e => RG.base s' h
  | ex e ρ => exact h
  | no => exact h
theorem RG.lift {x : Option α} {ρ : E} {G : α → E → Hp → Hp → Fp → Prop} (h : RG c O W σ B (lift x ρ) G) : ∃ d, x = some d ∧ ∀ H' B' fp', Same B B' → ER c O B' H' fp' σ ρ → G d ρ H' B' fp' := by
  cases x with
  | none => exact h.elim
  | some d => exact ⟨d, rfl, h⟩
end
end L3

namespace L3
open PySem PySem.Spec PyProof.Rows L2

theorem PE.imp {X : Cx} {e : Expr} {t t' : TE} (h : PE X e t) (m : ∀ σ H Q, t' σ H Q → t σ H Q) : PE X e t' := ⟨fun pins s σ H Q I q => h.run pins s σ H Q I (m σ H Q q)⟩
theorem PT.imp {X : Cx} {e : Expr} {t t' : TT} (h : PT X e t) (m : ∀ σ H Q, t' σ H Q → t σ H Q) : PT X e t' := ⟨fun pins s σ H Q I q => h.run pins s σ H Q I (m σ H Q q)⟩
theorem PW.imp {X : Cx} {e : Expr} {t t' : TT} (h : PW X e t) (m : ∀ σ H Q, t' σ H Q → t σ H Q) : PW X e t' := ⟨fun wh pins s σ H Q I q => h.run wh pins s σ H Q I (m σ H Q q)⟩
theorem PA.imp {X : Cx} {e : List Expr} {t t' : TA} (h : PA X e t) (m : ∀ σ H Q, t' σ H Q → t σ H Q) : PA X e t' := ⟨fun pos pins s σ H Q I q => h.run pos pins s σ H Q I (m σ H Q q)⟩
theorem PS.imp {X : Cx} {e : Stmt} {t t' : TS} (h : PS X e t) (m : ∀ D σ H, t' D σ H → t D σ H) : PS X e t' := ⟨fun pins s σ H D I q => h.run pins s σ H D I (m D σ H q)⟩
theorem PSs.imp {X : Cx} {e : List Stmt} {t t' : TS} (h : PSs X e t) (m : ∀ D σ H, t' D σ H → t D σ H) : PSs X e t' := ⟨fun pins s σ H D I q => h.run pins s σ H D I (m D σ H q)⟩

abbrev FE := E → R D
abbrev FT := E → R Bool
abbrev FA := E → R (List D)
/-- the reading of an expression: a frozen value; a value of a kind ot; a truth value; several frozen values -/
def tF (c : Cst) (O : Oo) (W : WX) (f : FE) : TE := fun σ H Q => ∃ B fp ρ, ER c O B H fp σ ρ ∧ RG c O W σ B (f ρ) (fun d _ H' B' _ => ∀ v, Rep c.K B' v d → Q v H')
def tW (c : Cst) (O : Oo) (W : WX) (ot : OT) (f : FE) : TE := fun σ H Q => ∃ B fp ρ, ER c O B H fp σ ρ ∧ RG c O W σ B (f ρ) (fun d _ H' B' fp' => ∀ v g, OR c.K B' H' ot v d g → Fresh c B' fp' g → Q v H')
def tT (c : Cst) (O : Oo) (W : WX) (f : FT) : TT := fun σ H Q => ∃ B fp ρ, ER c O B H fp σ ρ ∧ RG c O W σ B (f ρ) (fun d _ H' _ _ => Q d H')
def tA (c : Cst) (O : Oo) (W : WX) (f : FA) : TA := fun σ H Q => ∃ B fp ρ, ER c O B H fp σ ρ ∧ RG c O W σ B (f ρ) (fun ds _ H' B' _ => ∀ vs, RepL c.K B' vs ds → Q vs H')

section
variable {X : Cx} {c : Cst} {O : Oo} {W : WX}
theorem e_of_w {e : Expr} {f : FE} (h : PE X e (tW c O W .fz f)) : PE X e (tF c O W f) :=
  PE.imp h fun σ H Q ⟨B, fp, ρ, er, g⟩ => ⟨B, fp, ρ, er, g.mp fun d ρ' H' B' fp' s e q v gg ⟨r, _⟩ _ => q v r⟩
theorem w_of_e {e : Expr} {f : FE} (h : PE X e (tF c O W f)) : PE X e (tW c O W .fz f) :=
  PE.imp h fun σ H Q ⟨B, fp, ρ, er, g⟩ => ⟨B, fp, ρ, er, g.mp fun d ρ' H' B' fp' s e q v r => q v [] ⟨r, rfl⟩ Fresh.nil⟩
/-- a new value frozen -/
theorem e_fz {e : Expr} {f : FE} {ot : OT} (h : PE X e (tW c O W ot f)) : PE X e (tF c O W f) :=
  PE.imp h fun σ H Q ⟨B, fp, ρ, er, g⟩ => ⟨B, fp, ρ, er, by
    cases hf : f ρ with
    | no => rw [hf] at g; exact g
    | ex e ρ' => rw [hf] at g; exact g
    | ok d ρ' =>
      rw [hf] at g
      intro H' B' fp' s e v g' r F
      exact g H' (takeIn B' H' g') fp' (s.trans (takeIn_same F.inB)) (e.takeIn F) v (OR.freeze (takeIn_same F.inB) ot (fun a ha o q => by rw [takeIn_in ha]; exact q) r)⟩

/-! ### names, constants -/
def fVar (i : Nat) : FE := fun ρ => match ρ[i]? with
  | some (some d) => .ok d ρ
  | _ => .no
def fC (d : D) : FE := fun ρ => .ok d ρ
theorem e_var {i : Nat} {x : Str} {pos : Pos} (hO : O[i]? = some (some .fz)) (hN : X.N[i]? = some x := by rfl) (hv : Vis X.env.scope x := by first | exact Or.inl rfl | exact Or.inr (Or.inl rfl) | exact Or.inr (Or.inr rfl)) (hd : (x == ("__debug__" : Str)) = false := by decide)
    (hcd : (x == ("__classdict__" : Str)) = false := by decide) : PE X (.Name x pos) (tF c O W (fVar i)) :=
  PE.imp (pe_var hN hv hd hcd) fun σ H Q ⟨B, fp, ρ, er, g⟩ => by
    obtain ⟨v, d, h1, h2, r, _⟩ := er.slot i .fz hO
    have e : fVar i ρ = .ok d ρ := by unfold fVar; rw [h2]
    rw [e] at g
    exact ⟨v, h1, g H B fp (.refl _) er v r⟩
/-- a constant of its own reading -/
theorem e_c {e : Expr} {v : V} {d : D} (h : PE X e (tC v)) (r : ∀ B, Rep c.K B v d) : PE X e (tF c O W (fC d)) :=
  PE.imp h fun σ H Q ⟨B, fp, ρ, er, g⟩ => g H B fp (.refl _) er v (r B)
theorem e_int {i j pos} : PE X (.Constant (.int i) j pos) (tF c O W (fC (.int i))) := e_c pe_int fun _ => .int i
theorem e_bl {b j pos} : PE X (.Constant (.bool b) j pos) (tF c O W (fC (.bl b))) := e_c pe_bl fun _ => .bl b
theorem e_non {j pos} : PE X (.Constant .none j pos) (tF c O W (fC .non)) := e_c pe_non fun _ => .non
theorem e_str {x j pos} : PE X (.Constant (.str x) j pos) (tF c O W (fC (.str x))) := e_c pe_str fun _ => .str x

/-! ### two in a row -/
def f1 (g : D → Option D) (a : FE) : FE := fun ρ => (a ρ).bind fun x ρ1 => lift (g x) ρ1
def f2 (g : D → D → Option D) (a b : FE) : FE := fun ρ => (a ρ).bind fun x ρ1 => (b ρ1).bind fun y ρ2 => lift (g x y) ρ2
/-- an operation on data that makes at most new frozen things -/
def rD (K : PySem.W.Frag) (g : D → D → Option D) : R2 := fun x y H Q => ∃ B dx dy d, Same B H ∧ Rep K B x dx ∧ Rep K B y dy ∧ g dx dy = some d ∧ ∀ v H' B', Grow B H B' H' → Rep K B' v d → Q v H'
def rD1 (K : PySem.W.Frag) (g : D → Option D) : V → Hp → VK → Prop := fun x H Q => ∃ B dx d, Same B H ∧ Rep K B x dx ∧ g dx = some d ∧ ∀ v H' B', Grow B H B' H' → Rep K B' v d → Q v H'
def rDL (K : PySem.W.Frag) (g : List D → Option D) : List V → Hp → VK → Prop := fun xs H Q => ∃ B ds d, Same B H ∧ RepL K B xs ds ∧ g ds = some d ∧ ∀ v H' B', Grow B H B' H' → Rep K B' v d → Q v H'
theorem tF_bin {r : R2} {g : D → D → Option D} {fa fb : FE} (hr : ∀ x y H Q, rD c.K g x y H Q → r x y H Q) {σ : L2.St} {H : Hp} {Q : VK} (h : tF c O W (f2 g fa fb) σ H Q) : tOp r (tF c O W fa) (tF c O W fb) σ H Q := by
  obtain ⟨B, fp, ρ, er, k⟩ := h
  refine ⟨B, fp, ρ, er, (RG.bind k).mp fun dx ρ1 H1 B1 fp1 s1 e1 k1 v rv => ?_⟩
  refine ⟨B1, fp1, ρ1, e1, (RG.bind k1).mp fun dy ρ2 H2 B2 fp2 s2 e2 k2 u ru => ?_⟩
  obtain ⟨d, hd, k3⟩ := RG.lift k2
  exact hr _ _ _ _ ⟨B2, dx, dy, d, e2.bh, rv.up s2, ru, hd, fun w H' B' gr rw' => k3 H' B' fp2 gr.bb (e2.grow gr) w rw'⟩
theorem e_bin {op : Operator} {r : R2} {g : D → D → Option D} {a b : Expr} {fa fb : FE} {pos : Pos} (ho : OpR X (binaryOp op) r) (hr : ∀ x y H Q, rD c.K g x y H Q → r x y H Q) (ha : PE X a (tF c O W fa)) (hb : PE X b (tF c O W fb)) :
    PE X (.BinOp a op b pos) (tF c O W (f2 g fa fb)) := PE.imp (pe_op ho ha hb) fun _ _ _ h => tF_bin hr h
theorem e_cmp {op : CmpOp} {r : R2} {g : D → D → Option D} {a b : Expr} {fa fb : FE} {pos : Pos} (ho : OpR X (compareOp op) r) (hr : ∀ x y H Q, rD c.K g x y H Q → r x y H Q) (ha : PE X a (tF c O W fa)) (hb : PE X b (tF c O W fb)) (hm : behindInMarks op b = false) :
    PE X (.Compare a [op] [b] pos) (tF c O W (f2 g fa fb)) := PE.imp (pe_cmpR ho ha hb hm) fun _ _ _ h => tF_bin hr h
theorem e_un {op : UnaryOp} {r : V → Hp → VK → Prop} {g : D → Option D} {a : Expr} {fa : FE} {pos : Pos} (ho : UnR X (unaryOp op) r) (hr : ∀ x H Q, rD1 c.K g x H Q → r x H Q) (ha : PE X a (tF c O W fa)) : PE X (.UnaryOp op a pos) (tF c O W (f1 g fa)) :=
  PE.imp (pe_un ho ha) fun σ H Q ⟨B, fp, ρ, er, k⟩ => ⟨B, fp, ρ, er, (RG.bind k).mp fun dx ρ1 H1 B1 fp1 s1 e1 k1 v rv => by
    obtain ⟨d, hd, k3⟩ := RG.lift k1
    exact hr _ _ _ ⟨B1, dx, d, e1.bh, rv, hd, fun w H' B' gr rw' => k3 H' B' fp1 gr.bb (e1.grow gr) w rw'⟩⟩
theorem e_ix {r : R2} {g : D → D → Option D} {a b : Expr} {fa fb : FE} {pos : Pos} (ho : IxR X r) (hr : ∀ x y H Q, rD c.K g x y H Q → r x y H Q) (ha : PE X a (tF c O W fa)) (hb : PE X b (tF c O W fb)) (hs : PlainIx b := by exact fun _ _ => rfl) :
    PE X (.Subscript a b pos) (tF c O W (f2 g fa fb)) := PE.imp (pe_ix ho ha hb hs) fun _ _ _ h => tF_bin hr h

/-! ### several -/
def faN : FA := fun ρ => .ok [] ρ
def faC (a : FE) (r : FA) : FA := fun ρ => (a ρ).bind fun x ρ1 => (r ρ1).bind fun xs ρ2 => .ok (x :: xs) ρ2
theorem a_nil : PA X [] (tA c O W faN) := PA.imp pa_nil fun σ H Q ⟨B, fp, ρ, er, g⟩ => g H B fp (.refl _) er [] .nil
theorem a_cons {e : Expr} {es : List Expr} {fa : FE} {fr : FA} (ha : PE X e (tF c O W fa)) (hr : PA X es (tA c O W fr)) (hs : starEach (e :: es) X.env = (false, eval e X.env) :: starEach es X.env := by rfl) : PA X (e :: es) (tA c O W (faC fa fr)) :=
  PA.imp (pa_cons ha hr hs) fun σ H Q ⟨B, fp, ρ, er, k⟩ => ⟨B, fp, ρ, er, (RG.bind k).mp fun dx ρ1 H1 B1 fp1 s1 e1 k1 v rv => ⟨B1, fp1, ρ1, e1, (RG.bind k1).mp fun ds ρ2 H2 B2 fp2 s2 e2 k2 vs rs =>
    k2 H2 B2 fp2 (.refl _) e2 (v :: vs) (.cons (rv.up s2) rs)⟩⟩
/-- what is made of several: a function of the data -/
def fL (g : List D → Option D) (a : FA) : FE := fun ρ => (a ρ).bind fun xs ρ1 => lift (g xs) ρ1
theorem tF_list {r : List V → Hp → VK → Prop} {g : List D → Option D} {fa : FA} (hr : ∀ xs H Q, rDL c.K g xs H Q → r xs H Q) {σ : L2.St} {H : Hp} {Q : VK} (h : tF c O W (fL g fa) σ H Q) : tCB r (tA c O W fa) σ H Q := by
  obtain ⟨B, fp, ρ, er, k⟩ := h
  refine ⟨B, fp, ρ, er, (RG.bind k).mp fun ds ρ1 H1 B1 fp1 s1 e1 k1 vs rs => ?_⟩
  obtain ⟨d, hd, k3⟩ := RG.lift k1
  exact hr _ _ _ ⟨B1, ds, d, e1.bh, rs, hd, fun w H' B' gr rw' => k3 H' B' fp1 gr.bb (e1.grow gr) w rw'⟩
theorem e_blt {x : Str} {id : String} {r : List V → Hp → VK → Prop} {g : List D → Option D} {e : Expr} {es : List Expr} {fa : FA} {p pos : Pos} (hc : CallR X (.builtin id) r) (hr : ∀ xs H Q, rDL c.K g xs H Q → r xs H Q) (hg : Gl X x) (hm : X.mg x = none) (hv : bootBuiltins x = some (.builtin id)) (ha : PA X (e :: es) (tA c O W fa)) (hn : x ≠ "__name__" := by decide)
    (hdb : (x == ("__debug__" : Str)) = false := by decide) (he : starEach (e :: es) X.env = (false, eval e X.env) :: starEach es X.env := by rfl) (hpl : (backTo pos (starEach es X.env)).any (·.1) = false := by rfl) :
    PE X (.Call (.Name x p) (e :: es) [] pos) (tF c O W (fL g fa)) := PE.imp (pe_callB hc hg hm hv ha hn hdb he hpl) fun _ _ _ h => tF_list hr h
theorem e_ty {x : Str} {T : String} {r : List V → Hp → VK → Prop} {g : List D → Option D} {e : Expr} {es : List Expr} {fa : FA} {p pos : Pos} (hc : CallR X (.type T) r) (hr : ∀ xs H Q, rDL c.K g xs H Q → r xs H Q) (hg : Gl X x) (hm : X.mg x = none) (hv : bootBuiltins x = some (.type T)) (ha : PA X (e :: es) (tA c O W fa)) (hn : x ≠ "__name__" := by decide)
    (hdb : (x == ("__debug__" : Str)) = false := by decide) (he : starEach (e :: es) X.env = (false, eval e X.env) :: starEach es X.env := by rfl) (hpl : (backTo pos (starEach es X.env)).any (·.1) = false := by rfl) :
    PE X (.Call (.Name x p) (e :: es) [] pos) (tF c O W (fL g fa)) := PE.imp (pe_callTy hc hg hm hv ha hn hdb he hpl) fun _ _ _ h => tF_list hr h
/-- displays -/
def dLim (mk : List D → D) (xs : List D) : Option D := if xs.length ≤ sizeLine then some (mk xs) else none
theorem Grow.ofNew {B H : Hp} {p : Addr} {o : HO} (h : Same B H) (hp : H p = none) : Grow B H (upd B p o) (upd H p o) :=
  have hb : B p = none := h.free hp
  ⟨fun b u e => by rw [upd_ne (ne_of_none e hb)]; exact e, fun b u e => by
    by_cases q : b = p
    · subst q; rw [upd_same] at e ⊢; exact e
    · rw [upd_ne q] at e ⊢; exact h b u e, fun b u e => by rw [upd_ne (ne_of_none e hp)]; exact e, fun b h1 h2 => by
    by_cases q : b = p
    · subst q; exact hp
    · rw [upd_ne q] at h2; exact absurd h1 h2⟩
theorem same_upd {B : Hp} {p : Addr} {o : HO} (h : B p = none) : Same B (upd B p o) := fun b u e => by rw [upd_ne (ne_of_none e h)]; exact e
theorem dLim_some {mk : List D → D} {xs : List D} {d : D} (h : dLim mk xs = some d) : xs.length ≤ sizeLine ∧ d = mk xs := by
  unfold dLim at h
  split at h
  · rename_i q; exact ⟨q, (Option.some.inj h).symm⟩
  · cases h
theorem e_tup {es : List Expr} {k : Nat} {pos : Pos} {fa : FA} (ha : PA X es (tA c O W fa)) : PE X (.Tuple es k pos) (tF c O W (fL (dLim D.tup) fa)) :=
  PE.imp (pe_tup ha) fun σ H Q ⟨B, fp, ρ, er, k⟩ => ⟨B, fp, ρ, er, (RG.bind k).mp fun ds ρ1 H1 B1 fp1 s1 e1 k1 vs rs => by
    obtain ⟨d, hd, k3⟩ := RG.lift k1
    obtain ⟨hl, rfl⟩ := dLim_some hd
    refine ⟨by rw [rs.length]; exact hl, fun p hp => ?_⟩
    have gr : Grow B1 H1 (upd B1 p (.tup vs)) (upd H1 p (.tup vs)) := Grow.ofNew e1.bh hp
    exact k3 _ _ fp1 gr.bb (e1.grow gr) _ (.tup (SqT.of upd_same) (rs.up gr.bb))⟩
/-- a new thing at p that nobody knows: an own value -/
theorem ER.newOwn {B H : Hp} {fp : Fp} {σ : L2.St} {ρ : E} (er : ER c O B H fp σ ρ) {p : Addr} {o : HO} (hp : H p = none) : ER c O B (upd H p o) fp σ ρ ∧ Fresh c B fp [p] := by
  have hb : B p = none := er.bh.free hp
  have nf : ∀ i, p ∉ fp i := fun i h => er.has h hp
  refine ⟨⟨fun b u e => by rw [upd_ne (ne_of_none e hb)]; exact er.bh b u e, fun b u e => by rw [upd_ne (ne_of_none e (er.fh.free hp))]; exact er.fh b u e, er.b0, er.bf, er.len, fun i ot h => ?_, er.nofp, er.fpb, er.nd, er.dis, er.pins⟩,
    ⟨by simp, fun a ha => by rw [List.mem_singleton.mp ha]; exact hb, fun a ha => by rw [List.mem_singleton.mp ha]; exact er.fh.free hp, fun a ha i => by rw [List.mem_singleton.mp ha]; exact nf i⟩⟩
  obtain ⟨v, d, h1, h2, r⟩ := er.slot i ot h
  exact ⟨v, d, h1, h2, OR.mono (.refl _) ot (fun a ha => upd_ne fun z => nf i (z ▸ ha)) r⟩
theorem ORs.ofL {K : PySem.W.Frag} {B H : Hp} : ∀ {vs : List V} {ds : List D}, RepL K B vs ds → ORs (OR K B H .fz) vs ds []
  | _, [], h => by cases h; exact .nil
  | _, _ :: _, h => by cases h with | cons h1 h2 => exact .cons (f1 := []) (f2 := []) ⟨h1, rfl⟩ (ORs.ofL h2)
theorem w_lst {es : List Expr} {pos : Pos} {fa : FA} (ha : PA X es (tA c O W fa)) : PE X (.List es pos) (tW c O W (.ow .fz) (fL (dLim D.lst) fa)) :=
  PE.imp (pe_lst ha) fun σ H Q ⟨B, fp, ρ, er, k⟩ => ⟨B, fp, ρ, er, (RG.bind k).mp fun ds ρ1 H1 B1 fp1 s1 e1 k1 vs rs => by
    obtain ⟨d, hd, k3⟩ := RG.lift k1
    obtain ⟨hl, rfl⟩ := dLim_some hd
    refine ⟨by rw [rs.length]; exact hl, fun p hp => ?_⟩
    obtain ⟨e2, F⟩ := e1.newOwn (o := .lst vs) hp
    exact k3 _ _ fp1 (.refl _) e2 _ [p] ⟨p, vs, ds, [], rfl, rfl, upd_same, ORs.ofL rs, rfl⟩ F⟩
theorem e_lst {es : List Expr} {pos : Pos} {fa : FA} (ha : PA X es (tA c O W fa)) : PE X (.List es pos) (tF c O W (fL (dLim D.lst) fa)) := e_fz (w_lst ha)

/-! ### tests, and, or, not, if else -/
def toB : D → Option Bool
  | .bl b => some b
  | _ => none
def truth : D → Option Bool
  | .non => some false
  | .bl b => some b
  | .int i => some (i != 0)
  | .str y => if y.length ≤ sizeLine then some ((y.length : Int) != 0) else none
  | .lst xs => some (!xs.isEmpty)
  | .lsk xs => some (!xs.isEmpty)
  | .tup xs => some (!xs.isEmpty)
  | _ => none
def ftV (a : FE) : FT := fun ρ => (a ρ).bind fun x ρ1 => lift (truth x) ρ1
theorem isEmpty_rep {K : PySem.W.Frag} {B : Hp} {ds : List D} {vs : List V} (h : RepL K B vs ds) : ds.isEmpty = vs.isEmpty := by
  cases ds <;> cases h <;> rfl
theorem truth_rep {K : PySem.W.Frag} {B H : Hp} {x : V} {d : D} {k : Bool} (s : Same B H) (r : Rep K B x d) (h : truth d = some k) : TruV K x H k := by
  cases r with
  | non => cases h; rfl
  | bl b => cases h; rfl
  | int i => cases h; rfl
  | str y =>
    simp only [truth] at h
    split at h
    · rename_i q; cases h; exact ⟨q, rfl⟩
    · cases h
  | ty n => cases h
  | fn a => cases h
  | lst h1 h2 => cases h; exact .inl ⟨_, SqL.of (s _ _ h1), by rw [isEmpty_rep h2]⟩
  | lsk h1 h2 => cases h; exact .inl ⟨_, s.seq h1, by rw [isEmpty_rep h2]⟩
  | tup h1 h2 => cases h; exact .inr (.inl ⟨_, Same.tup s h1, by rw [isEmpty_rep h2]⟩)
  | ins h1 h2 => cases h
theorem t_val {a : Expr} {fa : FE} (ha : PE X a (tF c O W fa)) (he : ∀ whole, isTrue a X.env whole = (do let v ← whole; standAt a.pos; holding [v] (truthy v)) := by intro _; rfl) (hK : c.K = X.K := by rfl) : PT X a (tT c O W (ftV fa)) :=
  PT.imp (pt_truth ha he) fun σ H Q ⟨B, fp, ρ, er, k⟩ => ⟨B, fp, ρ, er, (RG.bind k).mp fun d ρ1 H1 B1 fp1 s1 e1 k1 v rv => by
    obtain ⟨b, hb, k3⟩ := RG.lift k1
    exact ⟨b, truth_rep e1.bh (hK ▸ rv) hb, k3 H1 B1 fp1 (.refl _) e1⟩⟩
/-- a comparison as a test -/
def ftB (a : FE) : FT := fun ρ => (a ρ).bind fun x ρ1 => lift (toB x) ρ1
theorem toB_rep {K : PySem.W.Frag} {B : Hp} {x : V} {d : D} {k : Bool} (r : Rep K B x d) (h : toB d = some k) : x = .bl k := by
  cases r <;> cases h
  rfl
theorem RG.bindB {fa : FE} {σ : L2.St} {H : Hp} {Q : Bool → Hp → Prop} {r : R2} {g : D → D → Option D} {fb : FE} (hr : ∀ x y H Q, rD c.K g x y H Q → r x y H Q) (h : tT c O W (ftB (f2 g fa fb)) σ H Q) : tTest (tOp r (tF c O W fa) (tF c O W fb)) σ H Q := by
  obtain ⟨B, fp, ρ, er, k⟩ := h
  refine tF_bin hr ⟨B, fp, ρ, er, (RG.bind k).mp fun d ρ1 H1 B1 fp1 s1 e1 k1 v rv => ?_⟩
  obtain ⟨b, hb, k3⟩ := RG.lift k1
  exact ⟨b, toB_rep rv hb, k3 H1 B1 fp1 (.refl _) e1⟩
theorem t_cmp {op : CmpOp} {r : R2} {g : D → D → Option D} {a b : Expr} {fa fb : FE} {pos : Pos} (ho : OpR X (compareOp op) r) (hr : ∀ x y H Q, rD c.K g x y H Q → r x y H Q) (ha : PE X a (tF c O W fa)) (hb : PE X b (tF c O W fb)) (hm : behindInMarks op b = false) :
    PT X (.Compare a [op] [b] pos) (tT c O W (ftB (f2 g fa fb))) := PT.imp (pt_cmpR ho ha hb hm) fun _ _ _ h => RG.bindB hr h
def ftAnd (a b : FT) : FT := fun ρ => (a ρ).bind fun x ρ1 => if x = true then b ρ1 else .ok false ρ1
def ftOr (a b : FT) : FT := fun ρ => (a ρ).bind fun x ρ1 => if x = true then .ok true ρ1 else b ρ1
def ftNot (a : FT) : FT := fun ρ => (a ρ).bind fun x ρ1 => .ok (!x) ρ1
theorem t_not {a : Expr} {fa : FT} {pos : Pos} (ha : PT X a (tT c O W fa)) : PT X (.UnaryOp .Not a pos) (tT c O W (ftNot fa)) :=
  PT.imp (pt_not ha) fun σ H Q ⟨B, fp, ρ, er, k⟩ => ⟨B, fp, ρ, er, (RG.bind k).mp fun d ρ1 H1 B1 fp1 s1 e1 k1 => k1 H1 B1 fp1 (.refl _) e1⟩
theorem tw_and1 {a : Expr} {fa : FT} {pos : Pos} (ha : PT X a (tT c O W fa)) : PW X (.BoolOp .And [a] pos) (tT c O W fa) := pw_and1 ha
theorem tw_or1 {a : Expr} {fa : FT} {pos : Pos} (ha : PT X a (tT c O W fa)) : PW X (.BoolOp .Or [a] pos) (tT c O W fa) := pw_or1 ha
theorem tw_and {a b : Expr} {rest : List Expr} {fa fb : FT} {pos : Pos} (ha : PT X a (tT c O W fa)) (hb : PW X (.BoolOp .And (b :: rest) pos) (tT c O W fb)) : PW X (.BoolOp .And (a :: b :: rest) pos) (tT c O W (ftAnd fa fb)) :=
  PW.imp (pw_and ha hb) fun σ H Q ⟨B, fp, ρ, er, k⟩ => ⟨B, fp, ρ, er, (RG.bind k).mp fun d ρ1 H1 B1 fp1 s1 e1 k1 => by
    cases d with
    | true => exact iteT ⟨B1, fp1, ρ1, e1, k1⟩
    | false => exact iteF (k1 H1 B1 fp1 (.refl _) e1)⟩
theorem tw_or {a b : Expr} {rest : List Expr} {fa fb : FT} {pos : Pos} (ha : PT X a (tT c O W fa)) (hb : PW X (.BoolOp .Or (b :: rest) pos) (tT c O W fb)) : PW X (.BoolOp .Or (a :: b :: rest) pos) (tT c O W (ftOr fa fb)) :=
  PW.imp (pw_or ha hb) fun σ H Q ⟨B, fp, ρ, er, k⟩ => ⟨B, fp, ρ, er, (RG.bind k).mp fun d ρ1 H1 B1 fp1 s1 e1 k1 => by
    cases d with
    | false => exact iteF ⟨B1, fp1, ρ1, e1, k1⟩
    | true => exact iteT (k1 H1 B1 fp1 (.refl _) e1)⟩
def fIf (t : FT) (a b : FE) : FE := fun ρ => (t ρ).bind fun x ρ1 => if x = true then a ρ1 else b ρ1
theorem e_if {t a b : Expr} {ft : FT} {fa fb : FE} {pos : Pos} (ht : PT X t (tT c O W ft)) (ha : PE X a (tF c O W fa)) (hb : PE X b (tF c O W fb)) : PE X (.IfExp t a b pos) (tF c O W (fIf ft fa fb)) :=
  PE.imp (pe_ifExp ht ha hb) fun σ H Q ⟨B, fp, ρ, er, k⟩ => ⟨B, fp, ρ, er, (RG.bind k).mp fun d ρ1 H1 B1 fp1 s1 e1 k1 => by
    cases d with
    | true => exact iteT ⟨B1, fp1, ρ1, e1, k1⟩
    | false => exact iteF ⟨B1, fp1, ρ1, e1, k1⟩⟩
/-- a and b, a or b, not a as values (bools but for the last) -/
def fAnd (a b : FE) : FE := fun ρ => (a ρ).bind fun x ρ1 => match x with
  | .bl true => b ρ1
  | .bl false => .ok (.bl false) ρ1
  | _ => .no
def fOr (a b : FE) : FE := fun ρ => (a ρ).bind fun x ρ1 => match x with
  | .bl true => .ok (.bl true) ρ1
  | .bl false => b ρ1
  | _ => .no
def dNot : D → Option D
  | .bl b => some (.bl !b)
  | _ => none
theorem e_one {a : Expr} {op : BoolOp} {fa : FE} {pos : Pos} (ha : PE X a (tF c O W fa)) : PE X (.BoolOp op [a] pos) (tF c O W fa) := pe_one ha
theorem e_and {a b : Expr} {rest : List Expr} {fa fb : FE} {pos : Pos} (ha : PE X a (tF c O W fa)) (hb : PE X (.BoolOp .And (b :: rest) pos) (tF c O W fb)) : PE X (.BoolOp .And (a :: b :: rest) pos) (tF c O W (fAnd fa fb)) :=
  PE.imp (pe_and ha hb) fun σ H Q ⟨B, fp, ρ, er, k⟩ => ⟨B, fp, ρ, er, (RG.bind k).mp fun d ρ1 H1 B1 fp1 s1 e1 k1 v rv => by
    cases rv with
    | bl b => cases b with
      | true => exact ⟨true, rfl, iteT ⟨B1, fp1, ρ1, e1, k1⟩⟩
      | false => exact ⟨false, rfl, iteF (k1 H1 B1 fp1 (.refl _) e1 _ (.bl false))⟩
    | _ => exact k1.elim⟩
theorem e_or {a b : Expr} {rest : List Expr} {fa fb : FE} {pos : Pos} (ha : PE X a (tF c O W fa)) (hb : PE X (.BoolOp .Or (b :: rest) pos) (tF c O W fb)) : PE X (.BoolOp .Or (a :: b :: rest) pos) (tF c O W (fOr fa fb)) :=
  PE.imp (pe_or ha hb) fun σ H Q ⟨B, fp, ρ, er, k⟩ => ⟨B, fp, ρ, er, (RG.bind k).mp fun d ρ1 H1 B1 fp1 s1 e1 k1 v rv => by
    cases rv with
    | bl b => cases b with
      | false => exact ⟨false, rfl, iteF ⟨B1, fp1, ρ1, e1, k1⟩⟩
      | true => exact ⟨true, rfl, iteT (k1 H1 B1 fp1 (.refl _) e1 _ (.bl true))⟩
    | _ => exact k1.elim⟩
theorem e_not {a : Expr} {fa : FE} {pos : Pos} (ha : PE X a (tF c O W fa)) : PE X (.UnaryOp .Not a pos) (tF c O W (f1 dNot fa)) :=
  PE.imp (pe_not ha) fun σ H Q ⟨B, fp, ρ, er, k⟩ => ⟨B, fp, ρ, er, (RG.bind k).mp fun d ρ1 H1 B1 fp1 s1 e1 k1 v rv => by
    obtain ⟨d', hd, k3⟩ := RG.lift k1
    cases rv <;> cases hd
    rename_i b
    exact ⟨b, rfl, k3 H1 B1 fp1 (.refl _) e1 _ (.bl _)⟩⟩
end
end L3

namespace L3
open PySem PySem.Spec PyProof.Rows L2

/-- what must stand at a break, a continue, the end, a raise; the kind of what is handed back -/
structure Zs where
  bk : Oo
  ct : Oo
  rO : Oo
  xO : Oo
  rT : OT
def SG (c : Cst) (N : Oo) (Z : Zs) (W : WX) (Dn : Ends) (B : Hp) (r : RS) : Prop := match r with
  | .nx ρ => ∀ σ' H' B' fp', Same B B' → ER c N B' H' fp' σ' ρ → Dn.nx σ' H'
  | .bk ρ => ∀ σ' H' B' fp', Same B B' → ER c Z.bk B' H' fp' σ' ρ → Dn.bk σ' H'
  | .ct ρ => ∀ σ' H' B' fp', Same B B' → ER c Z.ct B' H' fp' σ' ρ → Dn.ct σ' H'
  | .rt d ρ => ∀ σ' H' B' fp' v g, Same B B' → ER c Z.rO B' H' fp' σ' ρ → OR c.K B' H' Z.rT v d g → Fresh c B' fp' g → Dn.rt v H'
  | .ex e ρ => ∀ σ' cls dd H' B' fp', Same B B' → ER c Z.xO B' H' fp' σ' ρ → XR B' c.K cls dd e → W cls dd σ' H'
  | .no => False
def tS (c : Cst) (O N : Oo) (Z : Zs) (W : WX) (f : E → RS) : TS := fun Dn σ H => ∃ B fp ρ, ER c O B H fp σ ρ ∧ SG c N Z W Dn B (f ρ)
section
variable {X : Cx} {c : Cst} {O O1 N N1 : Oo} {Z : Zs} {W : WX} {Dn : Ends} {B B' : Hp}
theorem SG.base {r : RS} (s : Same B B') (h : SG c N Z W Dn B r) : SG c N Z W Dn B' r := by
  cases r with
  | nx ρ => exact fun σ' H' B'' fp' s' e => h σ' H' B'' fp' (s.trans s') e
  | bk ρ => exact fun σ' H' B'' fp' s' e => h σ' H' B'' fp' (s.trans s') e
  | ct ρ => exact fun σ' H' B'' fp' s' e => h σ' H' B'' fp' (s.trans s') e
  | rt d ρ => exact fun σ' H' B'' fp' v g s' e r F => h σ' H' B'' fp' v g (s.trans s') e r F
  | ex e ρ => exact fun σ' cls dd H' B'' fp' s' e x => h σ' cls dd H' B'' fp' (s.trans s') e x
  | no => exact h
theorem RG.toS {α : Type} {r : R α} {k : α → E → RS} {σ : L2.St} (hx : leO Z.xO O = true) (h : SG c N Z W Dn B (r.toS k)) : RG c O W σ B r (fun d ρ _ B' _ => SG c N Z W Dn B' (k d ρ)) := by
  cases r with
  | ok d ρ => exact fun H' B'' fp' s' e => SG.base s' h
  | ex e ρ =>
    intro cls dd H' B'' fp' s' e' x
    obtain ⟨B3, fp3, s3, e3, _, _⟩ := e'.weak hx
    exact h σ cls dd H' B3 fp3 (s'.trans s3) e3 (x.up s3)
  | no => exact h

/-! ### blocks -/
theorem ss_nil (hl : leO N O = true) : PSs X [] (tS c O N Z W .nx) :=
  PSs.imp pss_nil fun Dn σ H ⟨B, fp, ρ, er, g⟩ => by
    obtain ⟨B', fp', s, e, _, _⟩ := er.weak hl
    exact g σ H B' fp' s e
def fSeq (f g : E → RS) : E → RS := fun ρ => (f ρ).seq g
theorem ss_cons {st : Stmt} {rest : List Stmt} {f g : E → RS} (h1 : PS X st (tS c O N1 Z W f)) (h2 : PSs X rest (tS c N1 N Z W g)) : PSs X (st :: rest) (tS c O N Z W (fSeq f g)) :=
  PSs.imp (pss_cons h1 h2) fun Dn σ H ⟨B, fp, ρ, er, k⟩ => ⟨B, fp, ρ, er, by
    unfold fSeq at k
    cases hf : f ρ with
    | nx ρ' => rw [hf] at k; exact fun σ' H' B' fp' s e => ⟨B', fp', ρ', e, SG.base s k⟩
    | bk ρ' => rw [hf] at k; exact k
    | ct ρ' => rw [hf] at k; exact k
    | rt d ρ' => rw [hf] at k; exact k
    | ex e ρ' => rw [hf] at k; exact k
    | no => rw [hf] at k; exact k⟩
theorem ss_one {st : Stmt} {f : E → RS} (h1 : PS X st (tS c O N1 Z W f)) (hl : leO N N1 = true) : PSs X [st] (tS c O N Z W f) :=
  PSs.imp (pss_one h1) fun Dn σ H ⟨B, fp, ρ, er, k⟩ => ⟨B, fp, ρ, er, by
    cases hf : f ρ with
    | nx ρ' =>
      rw [hf] at k
      intro σ' H' B' fp' s e
      obtain ⟨B2, fp2, s2, e2, _, _⟩ := e.weak hl
      exact k σ' H' B2 fp2 (s.trans s2) e2
    | bk ρ' => rw [hf] at k; exact k
    | ct ρ' => rw [hf] at k; exact k
    | rt d ρ' => rw [hf] at k; exact k
    | ex e ρ' => rw [hf] at k; exact k
    | no => rw [hf] at k; exact k⟩
/-- forget, freeze ahead of a statement -/
theorem s_pre {st : Stmt} {f : E → RS} (hl : leO O1 O = true) (h : PS X st (tS c O1 N Z W f)) : PS X st (tS c O N Z W f) :=
  PS.imp h fun Dn σ H ⟨B, fp, ρ, er, k⟩ => by
    obtain ⟨B', fp', s, e, _, _⟩ := er.weak hl
    exact ⟨B', fp', ρ, e, SG.base s k⟩
theorem ss_pre {st : List Stmt} {f : E → RS} (hl : leO O1 O = true) (h : PSs X st (tS c O1 N Z W f)) : PSs X st (tS c O N Z W f) :=
  PSs.imp h fun Dn σ H ⟨B, fp, ρ, er, k⟩ => by
    obtain ⟨B', fp', s, e, _, _⟩ := er.weak hl
    exact ⟨B', fp', ρ, e, SG.base s k⟩

/-! ### small statements -/
theorem s_pass {pos : Pos} : PS X (.Pass pos) (tS c O O Z W .nx) := PS.imp ps_pass fun Dn σ H ⟨B, fp, ρ, er, g⟩ => g σ H B fp (.refl _) er
theorem s_brk {pos : Pos} (hl : leO Z.bk O = true) : PS X (.Break pos) (tS c O N Z W .bk) := PS.imp ps_break fun Dn σ H ⟨B, fp, ρ, er, g⟩ => by
  obtain ⟨B', fp', s, e, _, _⟩ := er.weak hl
  exact g σ H B' fp' s e
theorem s_cont {pos : Pos} (hl : leO Z.ct O = true) : PS X (.Continue pos) (tS c O N Z W .ct) := PS.imp ps_continue fun Dn σ H ⟨B, fp, ρ, er, g⟩ => by
  obtain ⟨B', fp', s, e, _, _⟩ := er.weak hl
  exact g σ H B' fp' s e
def fDrop (f : FE) : E → RS := fun ρ => (f ρ).toS fun _ ρ' => .nx ρ'
theorem s_expr {e : Expr} {f : FE} {pos : Pos} (he : PE X e (tF c O W f)) (hx : leO Z.xO O = true := by rfl) (hs : swapsWith e none pos.line X.env = pure false := by rfl) : PS X (.Expr e pos) (tS c O O Z W (fDrop f)) :=
  PS.imp (ps_expr he hs) fun Dn σ H ⟨B, fp, ρ, er, k⟩ => ⟨B, fp, ρ, er, (RG.toS hx k).mp fun d ρ1 H1 B1 fp1 s1 e1 k1 v rv => k1 σ H1 B1 fp1 (.refl _) e1⟩
def fRet (f : FE) : E → RS := fun ρ => (f ρ).toS fun d ρ' => .rt d ρ'
theorem s_ret {e : Expr} {f : FE} {pos : Pos} (he : PE X e (tW c O W Z.rT f)) (hr : leO Z.rO O = true := by rfl) (hx : leO Z.xO O = true := by rfl) : PS X (.Return (some e) pos) (tS c O N Z W (fRet f)) :=
  PS.imp (ps_ret he) fun Dn σ H ⟨B, fp, ρ, er, k⟩ => ⟨B, fp, ρ, er, (RG.toS hx k).mp fun d ρ1 H1 B1 fp1 s1 e1 k1 v g r F => by
    obtain ⟨B2, fp2, s2, e2, nb, sub⟩ := e1.weak hr
    exact k1 σ H1 B2 fp2 v g s2 e2 (OR.mono s2 _ (fun _ _ => rfl) r) ⟨F.nd, fun a ha => nb a (F.inB a ha) (F.inO a ha), F.inF, fun a ha i hi => F.inO a ha i (sub i a hi)⟩⟩
theorem s_retN {pos : Pos} (hT : Z.rT = .fz := by rfl) (hr : leO Z.rO O = true := by rfl) : PS X (.Return none pos) (tS c O N Z W (fun ρ => .rt .non ρ)) :=
  PS.imp ps_retN fun Dn σ H ⟨B, fp, ρ, er, k⟩ => by
    obtain ⟨B2, fp2, s2, e2, nb, sub⟩ := er.weak hr
    exact k σ H B2 fp2 .non [] s2 e2 (by rw [hT]; exact ⟨.non, rfl⟩) Fresh.nil
/-- return x, x an own thing: it is handed on -/
def fRetO (i : Nat) : E → RS := fun ρ => match ρ[i]? with
  | some (some d) => .rt d ρ
  | _ => .no
theorem s_retO {i : Nat} {x : Str} {pos pos' : Pos} (hO : O[i]? = some (some Z.rT)) (hr : leO Z.rO (O.set i none) = true := by rfl) (hN : X.N[i]? = some x := by rfl) (hv : Vis X.env.scope x := by first | exact Or.inl rfl | exact Or.inr (Or.inl rfl) | exact Or.inr (Or.inr rfl)) (hd : (x == ("__debug__" : Str)) = false := by decide)
    (hcd : (x == ("__classdict__" : Str)) = false := by decide) : PS X (.Return (some (.Name x pos')) pos) (tS c O N Z W (fRetO i)) :=
  PS.imp (ps_ret (pe_var hN hv hd hcd)) fun Dn σ H ⟨B, fp, ρ, er, k⟩ => by
    obtain ⟨v, d, h1, h2, r⟩ := er.slot i _ hO
    have e : fRetO i ρ = .rt d ρ := by unfold fRetO; rw [h2]
    rw [e] at k
    refine ⟨v, h1, ?_⟩
    have hO' : i < O.length := (List.getElem?_eq_some_iff.mp hO).1
    have er' : ER c (O.set i none) B H (fun j => if j = i then [] else fp j) σ ρ := by
      refine ⟨er.bh, er.fh, er.b0, er.bf, er.len, fun j ot h => ?_, fun j h => ?_, fun j a ha => ?_, fun j => ?_, fun j k' a ha hb => ?_, er.pins⟩
      · have hj : j ≠ i := fun z => by subst z; rw [List.getElem?_set_self hO'] at h; cases h
        rw [List.getElem?_set_ne (Ne.symm hj)] at h
        simp only [if_neg hj]; exact er.slot j ot h
      · by_cases hj : j = i
        · simp only [if_pos hj]
        · simp only [if_neg hj]; exact er.nofp j fun ot z => h ot (by rw [List.getElem?_set_ne (Ne.symm hj)]; exact z)
      · by_cases hj : j = i
        · simp only [if_pos hj] at ha; cases ha
        · simp only [if_neg hj] at ha; exact er.fpb j a ha
      · by_cases hj : j = i
        · simp only [if_pos hj]; exact List.nodup_nil
        · simp only [if_neg hj]; exact er.nd j
      · by_cases hj : j = i
        · simp only [if_pos hj] at ha; cases ha
        · by_cases hk : k' = i
          · simp only [if_pos hk] at hb; cases hb
          · simp only [if_neg hj] at ha; simp only [if_neg hk] at hb; exact er.dis j k' a ha hb
    obtain ⟨B2, fp2, s2, e2, nb, sub⟩ := er'.weak hr
    have hout : ∀ a ∈ fp i, ∀ j, a ∉ (if j = i then [] else fp j) := fun a ha j hj => by
      by_cases q : j = i
      · rw [if_pos q] at hj; cases hj
      · rw [if_neg q] at hj; exact q (er.dis j i a hj ha)
    exact k σ H B2 fp2 v (fp i) s2 e2 (OR.mono s2 _ (fun _ _ => rfl) r) ⟨er.nd i, fun a ha => nb a (er.fpb i a ha).1 (hout a ha), fun a ha => (er.fpb i a ha).2, fun a ha j hj => hout a ha j (sub j a hj)⟩
/-- x = e -/
def fSet (i : Nat) (f : FE) : E → RS := fun ρ => (f ρ).toS fun d ρ' => .nx (ρ'.set i (some d))
theorem s_set {i : Nat} {x : Str} {e : Expr} {f : FE} {ot : OT} {pos pos' : Pos} (hN : X.N.Nodup) (he : PE X e (tW c O W ot f)) (hO : i < O.length := by decide) (hp : c.pin.contains i = false := by rfl) (hi : X.N[i]? = some x := by rfl) (hlx : Loc X.env.scope x := by first | exact Or.inl rfl | exact Or.inr rfl) (hx : leO Z.xO O = true := by rfl)
    (hs : swapsWith e (some (.Name x pos')) pos.line X.env = pure false := by rfl) (hf : X.fn x = true ∨ X.env.scope.names.lookup x = some .local := by first | exact .inl rfl | exact .inr rfl | assumption) (hW : leO N (O.set i (some ot)) = true := by rfl) :
    PS X (.Assign [.Name x pos'] e pos) (tS c O N Z W (fSet i f)) := by
  have hlen : ∀ {pins : List (Addr × Obj)} {σ : L2.St} {H : Hp} {s : Shared}, Inv X pins σ H s → i < σ.length := fun I => by rw [I.len]; exact (List.getElem?_eq_some_iff.mp hi).1
  refine ⟨fun pins s σ H Dn I h => (L2.ps_set hN hi hlx he hs hf).run pins s σ H Dn I ?_⟩
  obtain ⟨B, fp, ρ, er, k⟩ := h
  refine ⟨B, fp, ρ, er, (RG.toS hx k).mp fun d ρ1 H1 B1 fp1 s1 e1 k1 v g r F => ?_⟩
  have e2 := e1.set (hlen I) hO hp r F
  obtain ⟨B2, fp2, s2, e3, _, _⟩ := e2.weak hW
  exact k1 _ H1 B2 fp2 s2 e3
def fIfS (t : FT) (a b : E → RS) : E → RS := fun ρ => (t ρ).toS fun x ρ1 => if x = true then a ρ1 else b ρ1
theorem s_if {t : Expr} {a b : List Stmt} {ft : FT} {fa fb : E → RS} {pos : Pos} (ht : PT X t (tT c O W ft)) (ha : PSs X a (tS c O N Z W fa)) (hb : PSs X b (tS c O N Z W fb)) (hx : leO Z.xO O = true := by rfl) : PS X (.If t a b pos) (tS c O N Z W (fIfS ft fa fb)) :=
  PS.imp (ps_if ht ha hb) fun Dn σ H ⟨B, fp, ρ, er, k⟩ => ⟨B, fp, ρ, er, (RG.toS hx k).mp fun d ρ1 H1 B1 fp1 s1 e1 k1 => by
    cases d with
    | true => exact iteT ⟨B1, fp1, ρ1, e1, k1⟩
    | false => exact iteF ⟨B1, fp1, ρ1, e1, k1⟩⟩
/-- what is never come to -/
theorem s_never {st : Stmt} : PS X st (tS c O N Z W (fun _ => .no)) := PS.imp ps_never fun Dn σ H ⟨B, fp, ρ, er, k⟩ => k.elim
theorem ss_never {st : List Stmt} : PSs X st (tS c O N Z W (fun _ => .no)) := PSs.imp pss_never fun Dn σ H ⟨B, fp, ρ, er, k⟩ => k.elim

/-! ### targets -/
abbrev FG := D → E → Option E
/-- the reading of a target: the slots alone change -/
def tG (c : Cst) (O N : Oo) (ws : List Nat) (h : FG) : TG := fun v σ H Q => ∃ B fp ρ d ρ', ER c O B H fp σ ρ ∧ Rep c.K B v d ∧ h d ρ = some ρ' ∧ ∀ σ' fp', wipe σ' ws = wipe σ ws → ER c N B H fp' σ' ρ' → Q σ' H
def tGs (c : Cst) (O N : Oo) (ws : List Nat) (h : List D → E → Option E) : TGs := fun vs σ H Q => ∃ B fp ρ ds ρ', ER c O B H fp σ ρ ∧ RepL c.K B vs ds ∧ h ds ρ = some ρ' ∧ ∀ σ' fp', wipe σ' ws = wipe σ ws → ER c N B H fp' σ' ρ' → Q σ' H
theorem PG.impI {tg : Expr} {t t' : TG} (h : PG X tg t) (m : ∀ v σ H Q, σ.length = X.N.length → t' v σ H Q → t v σ H Q) : PG X tg t' := ⟨fun pins s σ H v u Q I r q => h.run pins s σ H v u Q I r (m v σ H Q I.len q)⟩
theorem PGs.impI {tg : List Expr} {t t' : TGs} (h : PGs X tg t) (m : ∀ v σ H Q, σ.length = X.N.length → t' v σ H Q → t v σ H Q) : PGs X tg t' := ⟨fun pins s σ H v u Q I r q => h.run pins s σ H v u Q I r (m v σ H Q I.len q)⟩
theorem wipe_at (σ : L2.St) : ∀ (ws : List Nat) (i : Nat), i ∉ ws → (wipe σ ws)[i]? = σ[i]?
  | [], _, _ => rfl
  | w :: ws, i, h => by
    unfold wipe
    rw [List.getElem?_set_ne fun z => h (by rw [z]; exact List.mem_cons_self)]
    exact wipe_at σ ws i fun z => h (List.mem_cons_of_mem _ z)
theorem wipe_in (σ : L2.St) : ∀ (ws : List Nat) (i : Nat), i ∈ ws → i < σ.length → (wipe σ ws)[i]? = some none
  | [], _, h, _ => by cases h
  | w :: ws, i, h, hl => by
    unfold wipe
    by_cases q : w = i
    · subst q; rw [List.getElem?_set_self (by rw [wipe_length]; exact hl)]
    · rw [List.getElem?_set_ne q]
      exact wipe_in σ ws i ((List.mem_cons.mp h).resolve_left fun z => q z.symm) hl
theorem wipe_set {σ : L2.St} {ws : List Nat} {i : Nat} {x : Option V} (h : i ∈ ws) : wipe (σ.set i x) ws = wipe σ ws := by
  apply List.ext_getElem?
  intro j
  by_cases hj : j ∈ ws
  · by_cases hl : j < σ.length
    · rw [wipe_in _ ws j hj (by simpa using hl), wipe_in _ ws j hj hl]
    · rw [List.getElem?_eq_none (by rw [wipe_length]; simpa using hl), List.getElem?_eq_none (by rw [wipe_length]; simpa using hl)]
  · rw [wipe_at _ ws j hj, wipe_at _ ws j hj, List.getElem?_set_ne fun z => hj (by rw [← z]; exact h)]
def hName (i : Nat) : FG := fun d ρ => some (ρ.set i (some d))
theorem g_name {ws : List Nat} {i : Nat} {x : Str} {pos : Pos} (hN : X.N.Nodup) (hw : ws.contains i = true := by rfl) (hO : i < O.length := by decide) (hp : c.pin.contains i = false := by rfl) (hi : X.N[i]? = some x := by rfl) (hlx : Loc X.env.scope x := by first | exact Or.inl rfl | exact Or.inr rfl)
    (hf : X.fn x = true ∨ X.env.scope.names.lookup x = some .local := by first | exact .inl rfl | exact .inr rfl | assumption) : PG X (.Name x pos) (tG c O (O.set i (some .fz)) ws (hName i)) :=
  PG.impI (pg_name hN hi hlx hf) fun v σ H Q hl ⟨B, fp, ρ, d, ρ', er, r, e, k⟩ => by
    cases e
    exact k _ _ (wipe_set (by simpa using hw)) (er.set (by rw [hl]; exact (List.getElem?_eq_some_iff.mp hi).1) hO hp (ot := .fz) ⟨r, rfl⟩ Fresh.nil)
def hNil : List D → E → Option E := fun ds ρ => match ds with
  | [] => some ρ
  | _ => none
def hCons (h : FG) (r : List D → E → Option E) : List D → E → Option E := fun ds ρ => match ds with
  | d :: ds => (h d ρ).bind fun ρ1 => r ds ρ1
  | [] => none
theorem gs_nil {ws : List Nat} : PGs X [] (tGs c O O ws hNil) := PGs.impI pgs_nil fun vs σ H Q hl ⟨B, fp, ρ, ds, ρ', er, r, e, k⟩ => by
  cases r with
  | nil => cases e; exact ⟨rfl, k σ fp rfl er⟩
  | cons _ _ => cases e
theorem gs_cons {ws : List Nat} {e : Expr} {es : List Expr} {h : FG} {r : List D → E → Option E} (h1 : PG X e (tG c O N1 ws h)) (h2 : PGs X es (tGs c N1 N ws r)) (hs : (assignEach (e :: es) X.env).map (·.2) = assign e X.env :: (assignEach es X.env).map (·.2) := by rfl) :
    PGs X (e :: es) (tGs c O N ws (hCons h r)) := PGs.impI (pgs_cons h1 h2 hs) fun vs σ H Q hl ⟨B, fp, ρ, ds, ρ', er, rr, e, k⟩ => by
  cases rr with
  | nil => cases e
  | @cons v vs d ds r1 r2 =>
    simp only [hCons] at e
    cases q : h d ρ with
    | none => rw [q] at e; cases e
    | some ρ1 =>
      rw [q] at e
      exact ⟨v, vs, rfl, B, fp, ρ, d, ρ1, er, r1, q, fun σ' fp' hw er' => ⟨B, fp', ρ1, ds, ρ', er', r2, e, fun σ2 fp2 hw2 er2 => k σ2 fp2 (hw2.trans hw) er2⟩⟩
def hTup (n : Nat) (h : List D → E → Option E) : FG := fun d ρ => match d with
  | .tup ds => if ds.length = n then h ds ρ else none
  | _ => none
theorem g_tup {ws : List Nat} {es : List Expr} {k n : Nat} {pos : Pos} {h : List D → E → Option E} (hc : X.calm = true) (hg : PGs X es (tGs c O N ws h)) (hn : (assignEach es X.env).length = n := by rfl) (hst : (assignEach es X.env).findIdx? (·.1) = none := by rfl) (hK : c.K = X.K := by rfl) :
    PG X (.Tuple es k pos) (tG c O N ws (hTup n h)) := PG.impI (pg_tup hc hg hn hst) fun v σ H Q hl ⟨B, fp, ρ, d, ρ', er, r, e, k⟩ => by
  cases r with
  | tup h1 h2 =>
    simp only [hTup] at e
    split at e
    · rename_i q
      exact ⟨_, _, rfl, hK ▸ Same.tup er.bh h1, by rw [h2.length]; exact q, B, fp, ρ, _, ρ', er, h2, e, k⟩
    · cases e
  | _ => cases e
/-- target = e (not a name of an own kind) -/
def fAsg (h : FG) (f : FE) : E → RS := fun ρ => (f ρ).toS fun d ρ' => match h d ρ' with
  | some ρ2 => .nx ρ2
  | none => .no
theorem s_asg {ws : List Nat} {tg e : Expr} {h : FG} {f : FE} {pos : Pos} (he : PE X e (tF c O W f)) (hg : PG X tg (tG c O N ws h)) (hx : leO Z.xO O = true := by rfl) (hs : swapsWithSole [tg] e pos.line X.env = pure false := by rfl) (hw : swappedStores [tg] e X.env = pure none := by rfl)
    (h1 : (assignEach [tg] X.env).map (·.2) = [assign tg X.env] := by rfl) : PS X (.Assign [tg] e pos) (tS c O N Z W (fAsg h f)) :=
  PS.imp (ps_asg he hg hs hw h1) fun Dn σ H ⟨B, fp, ρ, er, k⟩ => ⟨B, fp, ρ, er, (RG.toS hx k).mp fun d ρ1 H1 B1 fp1 s1 e1 k1 v rv => by
    cases q : h d ρ1 with
    | none => rw [q] at k1; exact k1.elim
    | some ρ2 => rw [q] at k1; exact ⟨B1, fp1, ρ1, d, ρ2, e1, rv, q, fun σ' fp' _ er' => k1 σ' H1 B1 fp' (.refl _) er'⟩⟩

/-! ### what is walked -/
structure ItOk (K : PySem.W.Frag) (B : Hp) (J : It) (ds : List D) : Prop where
  go : ∀ i H, Same B H → i < ds.length → J.go i H
  stop : ∀ H, Same B H → J.stop ds.length H
  yld : ∀ i d H x H' B1, ds[i]? = some d → Same B B1 → Same B1 H → J.yld i H x H' → ∃ B2, Grow B1 H B2 H' ∧ Rep K B2 x d
def tIt (c : Cst) (O : Oo) (W : WX) (f : FA) : TI := fun σ H R => ∃ B fp ρ, ER c O B H fp σ ρ ∧ RG c O W σ B (f ρ) (fun ds _ H' B' _ => ∀ J, ItOk c.K B' J ds → R J H')
theorem PI.imp {tg iter : Expr} {t t' : TI} (h : PI X tg iter t) (m : ∀ σ H R, t' σ H R → t σ H R) : PI X tg iter t' := ⟨fun pins s σ H R I q => h.run pins s σ H R I (m σ H R q)⟩
theorem repL_at {K : PySem.W.Frag} {B : Hp} {ds : List D} {vs : List V} (r : RepL K B vs ds) {i : Nat} (h : i < ds.length) : ∃ v, vs[i]? = some v := by
  obtain ⟨v, e, _⟩ := r.get (List.getElem?_eq_getElem h)
  exact ⟨v, e⟩
theorem itl_ok {K : PySem.W.Frag} {B : Hp} {a : Addr} {xs : List V} {ds : List D} (h : SqL K B a xs) (r : RepL K B xs ds) : ItOk K B (Itl K a) ds where
  go := fun i H s hi => by
    obtain ⟨v, e⟩ := repL_at r hi
    exact ⟨xs, v, s.seq h, e⟩
  stop := fun H s => ⟨xs, s.seq h, by rw [r.length]; exact Nat.le_refl _⟩
  yld := fun i d H x H' B1 hd s s1 ⟨e, hx⟩ => by
    subst e
    obtain ⟨v, e, rv⟩ := r.get hd
    have := hx xs ((s.trans s1).seq h)
    rw [e] at this; cases this
    exact ⟨B1, Grow.refl s1, rv.up s⟩
theorem itt_ok {K : PySem.W.Frag} {B : Hp} {a : Addr} {xs : List V} {ds : List D} (h : SqT K B a xs) (r : RepL K B xs ds) : ItOk K B (Itt K a) ds where
  go := fun i H s hi => by
    obtain ⟨v, e⟩ := repL_at r hi
    exact ⟨xs, v, Same.tup s h, e⟩
  stop := fun H s => ⟨xs, Same.tup s h, by rw [r.length]; exact Nat.le_refl _⟩
  yld := fun i d H x H' B1 hd s s1 ⟨e, hx⟩ => by
    subst e
    obtain ⟨v, e, rv⟩ := r.get hd
    have := hx xs (Same.tup (s.trans s1) h)
    rw [e] at this; cases this
    exact ⟨B1, Grow.refl s1, rv.up s⟩
def fiL (f : FE) : FA := fun ρ => (f ρ).bind fun d ρ' => match d with
  | .lst ds => .ok ds ρ'
  | .lsk ds => .ok ds ρ'
  | _ => .no
def fiT (f : FE) : FA := fun ρ => (f ρ).bind fun d ρ' => match d with
  | .tup ds => .ok ds ρ'
  | _ => .no
theorem i_list {tg e : Expr} {f : FE} (he : PE X e (tF c O W f)) (hK : c.K = X.K := by rfl) : PI X tg e (tIt c O W (fiL f)) :=
  PI.imp (pi_list he) fun σ H R ⟨B, fp, ρ, er, k⟩ => ⟨B, fp, ρ, er, (RG.bind k).mp fun d ρ1 H1 B1 fp1 s1 e1 k1 v rv => by
    cases rv with
    | lst h1 h2 => exact ⟨_, rfl, ⟨_, SqL.of (e1.bh _ _ h1)⟩, by have := k1 H1 B1 fp1 (.refl _) e1 _ (itl_ok (SqL.of h1) h2); rw [hK] at this; exact this⟩
    | lsk h1 h2 => exact ⟨_, rfl, ⟨_, hK ▸ e1.bh.seq h1⟩, by have := k1 H1 B1 fp1 (.refl _) e1 _ (itl_ok h1 h2); rw [hK] at this; exact this⟩
    | _ => exact k1.elim⟩
theorem i_tup {tg e : Expr} {f : FE} (he : PE X e (tF c O W f)) (hK : c.K = X.K := by rfl) : PI X tg e (tIt c O W (fiT f)) :=
  PI.imp (pi_tup he) fun σ H R ⟨B, fp, ρ, er, k⟩ => ⟨B, fp, ρ, er, (RG.bind k).mp fun d ρ1 H1 B1 fp1 s1 e1 k1 v rv => by
    cases rv with
    | tup h1 h2 => exact ⟨_, rfl, ⟨_, hK ▸ Same.tup e1.bh h1⟩, by have := k1 H1 B1 fp1 (.refl _) e1 _ (itt_ok h1 h2); rw [hK] at this; exact this⟩
    | _ => exact k1.elim⟩
def rngD (lo : Int) (n : Nat) : List D := (List.range n).map fun i => .int (lo + (i : Nat))
theorem rngD_length (lo : Int) (n : Nat) : (rngD lo n).length = n := by simp [rngD]
theorem itr_ok {K : PySem.W.Frag} {B : Hp} (lo : Int) (n : Nat) : ItOk K B (Itr lo n) (rngD lo n) where
  go := fun i H s hi => by rw [rngD_length] at hi; exact hi
  stop := fun H s => by rw [rngD_length]; exact Nat.le_refl _
  yld := fun i d H x H' B1 hd s s1 ⟨e, hx⟩ => by
    subst e; subst hx
    have hi : i < n := by have := (List.getElem?_eq_some_iff.mp hd).1; rwa [rngD_length] at this
    have : d = .int (lo + (i : Nat)) := by
      have h2 := hd
      simp only [rngD, List.getElem?_map, List.getElem?_range hi, Option.map_some, Option.some.injEq] at h2
      exact h2.symm
    subst this
    exact ⟨B1, Grow.refl s1, .int _⟩
def inW (i : Int) : Bool := decide (-(2 ^ 62) ≤ i) && decide (i < 2 ^ 62)
theorem inW_of {i : Int} (h : inW i = true) : -(2 ^ 62) ≤ i ∧ i < 2 ^ 62 := by simpa [inW] using h
def fiR1 (f : FA) : FA := fun ρ => (f ρ).bind fun ds ρ' => match ds with
  | [.int j] => if inW j = true then .ok (rngD 0 j.toNat) ρ' else .no
  | _ => .no
def fiR2 (f : FA) : FA := fun ρ => (f ρ).bind fun ds ρ' => match ds with
  | [.int i, .int j] => if (inW i && inW j) = true then .ok (rngD i (j - i).toNat) ρ' else .no
  | _ => .no
theorem repL_int1 {K : PySem.W.Frag} {B : Hp} {vs : List V} {j : Int} (r : RepL K B vs [.int j]) : vs = [.int j] := by
  cases r with
  | cons h1 h2 => cases h1; cases h2; rfl
theorem repL_int2 {K : PySem.W.Frag} {B : Hp} {vs : List V} {i j : Int} (r : RepL K B vs [.int i, .int j]) : vs = [.int i, .int j] := by
  cases r with
  | cons h1 h2 => cases h1; cases h2 with | cons h3 h4 => cases h3; cases h4; rfl
theorem i_rng1 {tg a : Expr} {fa : FA} {p pos : Pos} (hm : X.mg "range" = none) (ha : PA X [a] (tA c O W fa)) (hg : Gl X "range" := by rfl) (hs : starEach [a] X.env = [(false, eval a X.env)] := by rfl) : PI X tg (.Call (.Name "range" p) [a] [] pos) (tIt c O W (fiR1 fa)) :=
  PI.imp (pi_range1 hg hm ha hs) fun σ H R ⟨B, fp, ρ, er, k⟩ => ⟨B, fp, ρ, er, (RG.bind k).mp fun ds ρ1 H1 B1 fp1 s1 e1 k1 vs rv => by
    split at k1
    · rename_i j
      split at k1
      · rename_i q
        obtain ⟨q1, q2⟩ := inW_of q
        exact ⟨j, repL_int1 rv, q1, q2, k1 H1 B1 fp1 (.refl _) e1 _ (itr_ok 0 _)⟩
      · exact k1.elim
    · exact k1.elim⟩
theorem i_rng2 {tg a b : Expr} {fa : FA} {p pos : Pos} (hm : X.mg "range" = none) (ha : PA X [a, b] (tA c O W fa)) (hg : Gl X "range" := by rfl) (hs : starEach [a, b] X.env = [(false, eval a X.env), (false, eval b X.env)] := by rfl) (hs2 : starEach [b] X.env = [(false, eval b X.env)] := by rfl) :
    PI X tg (.Call (.Name "range" p) [a, b] [] pos) (tIt c O W (fiR2 fa)) :=
  PI.imp (pi_range2 hg hm ha hs hs2) fun σ H R ⟨B, fp, ρ, er, k⟩ => ⟨B, fp, ρ, er, (RG.bind k).mp fun ds ρ1 H1 B1 fp1 s1 e1 k1 vs rv => by
    split at k1
    · rename_i i j
      split at k1
      · rename_i q
        rw [Bool.and_eq_true] at q
        obtain ⟨q1, q2⟩ := inW_of q.1
        obtain ⟨q3, q4⟩ := inW_of q.2
        exact ⟨i, j, repL_int2 rv, ⟨q1, q2, q3, q4⟩, k1 H1 B1 fp1 (.refl _) e1 _ (itr_ok i _)⟩
      · exact k1.elim
    · exact k1.elim⟩

/-! ### for -/
def forF (set : FG) (body : E → RS) : List D → E → RS
  | [], ρ => .nx ρ
  | d :: r, ρ => match set d ρ with
    | none => .no
    | some ρ1 => match body ρ1 with
      | .nx ρ2 => forF set body r ρ2
      | .ct ρ2 => forF set body r ρ2
      | .bk ρ2 => .nx ρ2
      | .rt d ρ2 => .rt d ρ2
      | .ex e ρ2 => .ex e ρ2
      | .no => .no
def fFor (it : FA) (set : FG) (body : E → RS) : E → RS := fun ρ => (it ρ).toS fun ds ρ1 => forF set body ds ρ1
theorem s_for {ws : List Nat} {tg iter : Expr} {body : List Stmt} {it : FA} {set : FG} {fb : E → RS} {pos : Pos} {O2 : Oo} (hp : PassesOwn (model X.prog X.w) X.A X.env X.xe) (hc : X.calm = true) (hi : PI X tg iter (tIt c O W it)) (hg : PG X tg (tG c O O2 ws set))
    (hb : PSs X body (tS c O2 O { Z with bk := O, ct := O } W fb)) (hx : leO Z.xO O = true := by rfl) (hs : ∀ x, foldedSetIterable iter X.env x = pure x := by intro _; rfl) : PS X (.For tg iter body [] pos) (tS c O O Z W (fFor it set fb)) :=
  PS.imp (ps_for hp hc hi hg hb hs) fun Dn σ H ⟨B, fp, ρ, er, k⟩ => ⟨B, fp, ρ, er, (RG.toS hx k).mp fun ds ρ1 H1 B1 fp1 s1 e1 k1 J hJ => by
    refine ⟨fun i m σ H => m = ds.length - i ∧ i ≤ ds.length ∧ ∃ B fp ρ, Same B1 B ∧ ER c O B H fp σ ρ ∧ SG c O Z W Dn B (forF set fb (ds.drop i) ρ), ⟨_, rfl, Nat.zero_le _, B1, fp1, ρ1, .refl _, e1, k1⟩, ?_⟩
    rintro i m σ H ⟨rfl, hi, B, fp, ρ, sB, er, k⟩
    rcases Nat.lt_or_ge i ds.length with hlt | hge
    · refine .inr ⟨hJ.go i H (sB.trans er.bh) hlt, fun σ' H' => ∃ B' fp' ρ', Same B1 B' ∧ ER c O B' H' fp' σ' ρ' ∧ SG c O Z W Dn B' (forF set fb (ds.drop (i + 1)) ρ'), fun σ' H' ⟨B', fp', ρ', q1, q2, q3⟩ => ⟨_, by omega, rfl, by omega, B', fp', ρ', q1, q2, q3⟩, ?_⟩
      intro x H' hy
      have hd : ds[i]? = some ds[i] := List.getElem?_eq_getElem hlt
      obtain ⟨B2, gr, rx⟩ := hJ.yld i _ H x H' B hd sB er.bh hy
      have e2 := er.grow gr
      rw [List.drop_eq_getElem_cons hlt] at k
      have k' := SG.base gr.bb k
      simp only [forF] at k'
      cases hset : set ds[i] ρ with
      | none => rw [hset] at k'; exact k'.elim
      | some ρ2 =>
        rw [hset] at k'
        refine ⟨B2, fp, ρ, _, ρ2, e2, rx, hset, fun σ' fp' _ er' => ⟨B2, fp', ρ2, er', ?_⟩⟩
        dsimp only at k'
        cases hbd : fb ρ2 with
        | nx ρ3 => rw [hbd] at k'; exact fun σ3 H3 B3 fp3 s3 e3 => ⟨B3, fp3, ρ3, (sB.trans gr.bb).trans s3, e3, SG.base s3 k'⟩
        | ct ρ3 => rw [hbd] at k'; exact fun σ3 H3 B3 fp3 s3 e3 => ⟨B3, fp3, ρ3, (sB.trans gr.bb).trans s3, e3, SG.base s3 k'⟩
        | bk ρ3 => rw [hbd] at k'; exact k'
        | rt d ρ3 => rw [hbd] at k'; exact k'
        | ex e ρ3 => rw [hbd] at k'; exact k'
        | no => rw [hbd] at k'; exact k'.elim
    · have e : i = ds.length := by omega
      subst e
      rw [List.drop_length] at k
      exact .inl ⟨hJ.stop H (sB.trans er.bh), k σ H B fp (.refl _) er⟩⟩

/-! ### while -/
def whileF (t : FT) (body : E → RS) : Nat → E → RS
  | 0, _ => .no
  | n + 1, ρ => (t ρ).toS fun b ρ1 => if b = true then (match body ρ1 with
      | .nx ρ2 => whileF t body n ρ2
      | .ct ρ2 => whileF t body n ρ2
      | .bk ρ2 => .nx ρ2
      | .rt d ρ2 => .rt d ρ2
      | .ex e ρ2 => .ex e ρ2
      | .no => .no) else .nx ρ1
theorem s_while {t : Expr} {body : List Stmt} {ft : FT} {fb : E → RS} {pos : Pos} (n : Nat) (hp : PassesOwn (model X.prog X.w) X.A X.env X.xe) (ht : PT X t (tT c O W ft)) (hb : PSs X body (tS c O O { Z with bk := O, ct := O } W fb)) (hx : leO Z.xO O = true := by rfl) :
    PS X (.While t body [] pos) (tS c O O Z W (whileF ft fb n)) :=
  PS.imp (ps_while hp ht hb) fun Dn σ H ⟨B, fp, ρ, er, k⟩ => by
    refine ⟨fun m σ H => ∃ B fp ρ, ER c O B H fp σ ρ ∧ SG c O Z W Dn B (whileF ft fb m ρ), ⟨n, B, fp, ρ, er, k⟩, ?_⟩
    rintro m σ H ⟨B, fp, ρ, er, k⟩
    cases m with
    | zero => exact k.elim
    | succ m =>
      refine ⟨B, fp, ρ, er, (RG.toS hx k).mp fun b ρ1 H1 B1 fp1 s1 e1 k1 => ?_⟩
      cases b with
      | false => exact iteF (k1 σ H1 B1 fp1 (.refl _) e1)
      | true =>
        refine iteT ⟨fun σ' H' => ∃ B fp ρ, ER c O B H' fp σ' ρ ∧ SG c O Z W Dn B (whileF ft fb m ρ), fun σ' H' q => ⟨m, Nat.lt_succ_self m, q⟩, B1, fp1, ρ1, e1, ?_⟩
        simp only [if_true] at k1
        cases hbd : fb ρ1 with
        | nx ρ3 => rw [hbd] at k1; exact fun σ3 H3 B3 fp3 s3 e3 => ⟨B3, fp3, ρ3, e3, SG.base s3 k1⟩
        | ct ρ3 => rw [hbd] at k1; exact fun σ3 H3 B3 fp3 s3 e3 => ⟨B3, fp3, ρ3, e3, SG.base s3 k1⟩
        | bk ρ3 => rw [hbd] at k1; exact k1
        | rt d ρ3 => rw [hbd] at k1; exact k1
        | ex e ρ3 => rw [hbd] at k1; exact k1
        | no => rw [hbd] at k1; exact k1.elim
end
end L3

namespace L3
open PySem PySem.Spec PyProof.Rows L2

/-! ### what a def promises: the value of a function on data -/
def pinL : Nat → List OT → List Nat
  | _, [] => []
  | n, t :: r => if t == .fz then pinL (n + 1) r else n :: pinL (n + 1) r
def rOof (pt : List OT) : Oo := pt.map fun t => if t == .fz then none else some t
def pvOf (vs : List V) : Nat → V := fun i => vs.getD i .non
/-- what is handed back of the parameters -/
def maskE : List OT → E → E
  | [], _ => []
  | t :: r, ρ => (if t == .fz then none else ρ.head?.join) :: maskE r ρ.tail
abbrev FM := List D → R D
abbrev cOf (K : PySem.W.Frag) (F B : Hp) (pt : List OT) (vs : List V) : Cst := ⟨K, F, B, pinL 0 pt, pvOf vs⟩
def spF (K : PySem.W.Frag) (pt : List OT) (rt : OT) (m : FM) : Sp := fun vs H Q Ex => ∃ (F B : Hp) (fp : Fp) (ds : List D), vs.length = pt.length ∧ ER (cOf K F B pt vs) (pt.map some) B H fp (vs.map some) (ds.map some) ∧
  match m ds with
  | .ok d ρ' => ∀ v H' B' fp' g, Same B B' → ER (cOf K F B pt vs) (rOof pt) B' H' fp' (vs.map some) ρ' → OR K B' H' rt v d g → Fresh (cOf K F B pt vs) B' fp' g → Q v H'
  | .ex e ρ' => ∀ cls dd H' B' fp', Same B B' → ER (cOf K F B pt vs) (rOof pt) B' H' fp' (vs.map some) ρ' → XR B' K cls dd e → Ex cls dd H'
  | .no => False
theorem mem_pinL : ∀ {n : Nat} {pt : List OT} {i : Nat}, i ∈ pinL n pt → n ≤ i ∧ ∃ t, pt[i - n]? = some t ∧ t ≠ .fz
  | _, [], _, h => by cases h
  | n, t :: r, i, h => by
    unfold pinL at h
    split at h
    · obtain ⟨h1, t', h2, h3⟩ := mem_pinL h
      refine ⟨by omega, t', ?_, h3⟩
      have : i - n = (i - (n + 1)) + 1 := by omega
      rw [this]; simpa using h2
    · rename_i ht
      rcases List.mem_cons.mp h with rfl | h
      · exact ⟨Nat.le_refl _, t, by simp, fun z => ht (by simp [z])⟩
      · obtain ⟨h1, t', h2, h3⟩ := mem_pinL h
        refine ⟨by omega, t', ?_, h3⟩
        have : i - n = (i - (n + 1)) + 1 := by omega
        rw [this]; simpa using h2
theorem pinL_mem : ∀ {n : Nat} {pt : List OT} {i : Nat} {t : OT}, pt[i]? = some t → t ≠ .fz → n + i ∈ pinL n pt
  | _, [], _, _, h, _ => by simp at h
  | n, u :: r, 0, t, h, ht => by
    simp at h; subst h
    unfold pinL; rw [if_neg (by simpa using ht)]; exact List.mem_cons_self
  | n, u :: r, i + 1, t, h, ht => by
    have := pinL_mem (n := n + 1) (pt := r) (i := i) (t := t) (by simpa using h) ht
    have e : n + (i + 1) = n + 1 + i := by omega
    unfold pinL
    split
    · rw [e]; exact this
    · rw [e]; exact List.mem_cons_of_mem _ this
theorem rOof_at {pt : List OT} {i : Nat} {ot : OT} (h : (rOof pt)[i]? = some (some ot)) : pt[i]? = some ot ∧ ot ≠ .fz := by
  unfold rOof at h
  rw [List.getElem?_map] at h
  cases q : pt[i]? with
  | none => rw [q] at h; cases h
  | some t =>
    rw [q] at h
    simp only [Option.map_some, Option.some.injEq] at h
    split at h
    · cases h
    · rename_i ht
      cases h
      exact ⟨rfl, fun z => ht (by simp [z])⟩
theorem maskE_at : ∀ {pt : List OT} {ρ : E} {i : Nat} {ot : OT} {d : D}, pt[i]? = some ot → ot ≠ .fz → ρ[i]? = some (some d) → (maskE pt ρ)[i]? = some (some d)
  | [], _, _, _, _, h, _, _ => by simp at h
  | t :: r, ρ, 0, ot, d, h, ht, hd => by
    simp at h; subst h
    unfold maskE
    cases ρ with
    | nil => simp at hd
    | cons x r' => simp at hd; subst hd; simp [ht]
  | t :: r, ρ, i + 1, ot, d, h, ht, hd => by
    unfold maskE
    cases ρ with
    | nil => simp at hd
    | cons x r' => simpa using maskE_at (pt := r) (ρ := r') (i := i) (by simpa using h) ht (by simpa using hd)
theorem maskE_length : ∀ (pt : List OT) (ρ : E), (maskE pt ρ).length = pt.length
  | [], _ => rfl
  | t :: r, ρ => by unfold maskE; simp [maskE_length r]
section
variable {K : PySem.W.Frag} {F B B' H H' : Hp} {pt : List OT} {vs : List V} {fp fp' : Fp} {σ : L2.St} {ρ : E}
/-- at the def's end: the parameters' part of the slots -/
theorem ER.mask (er : ER (cOf K F B pt vs) (rOof pt) B' H' fp σ ρ) (hl : vs.length = pt.length) : ER (cOf K F B pt vs) (rOof pt) B' H' fp (vs.map some) (maskE pt ρ) := by
  have hv : ∀ i t, pt[i]? = some t → (vs.map some)[i]? = some (some (pvOf vs i)) := fun i t h => by
    have hi : i < vs.length := by rw [hl]; exact (List.getElem?_eq_some_iff.mp h).1
    rw [List.getElem?_map, List.getElem?_eq_getElem hi]
    simp [pvOf, List.getD, List.getElem?_eq_getElem hi]
  refine ⟨er.bh, er.fh, er.b0, er.bf, by rw [maskE_length]; simp [hl], fun i ot h => ?_, er.nofp, er.fpb, er.nd, er.dis, fun i hi => ?_⟩
  · obtain ⟨v, d, h1, h2, r⟩ := er.slot i ot h
    obtain ⟨h3, h4⟩ := rOof_at h
    have hp : i ∈ pinL 0 pt := by simpa using pinL_mem (n := 0) h3 h4
    have h5 := er.pins i hp
    have e5 : v = pvOf vs i := by
      have h6 : σ[i]? = some (some (pvOf vs i)) := h5
      rw [h1] at h6; cases h6; rfl
    subst e5
    exact ⟨_, d, hv i ot h3, maskE_at h3 h4 h2, r⟩
  · obtain ⟨_, t, h2, h3⟩ := mem_pinL hi
    exact hv i t (by simpa using h2)
/-- at the entry: the other slots are empty -/
theorem ER.start (er : ER (cOf K F B pt vs) (pt.map some) B H fp (vs.map some) (ρ)) (hl : vs.length = pt.length) (n : Nat) : ER (cOf K F B pt vs) (pt.map some ++ List.replicate n none) B H fp (vs.map some ++ List.replicate n none) (ρ ++ List.replicate n none) := by
  have hlen : ρ.length = vs.length := by have := er.len; simpa using this
  have hO : ∀ i ot, (pt.map some ++ List.replicate n none)[i]? = some (some ot) → (pt.map some)[i]? = some (some ot) := fun i ot h => by
    rw [List.getElem?_append] at h
    split at h
    · exact h
    · rw [List.getElem?_replicate] at h
      split at h <;> cases h
  refine ⟨er.bh, er.fh, er.b0, er.bf, by simp [hlen], fun i ot h => ?_, fun i h => er.nofp i fun ot z => h ot ?_, er.fpb, er.nd, er.dis, fun i hi => ?_⟩
  · have h' := hO i ot h
    have hi : i < pt.length := by have := (List.getElem?_eq_some_iff.mp h').1; simpa using this
    obtain ⟨v, d, h1, h2, r⟩ := er.slot i ot h'
    exact ⟨v, d, by rw [List.getElem?_append_left (by simp [hl, hi])]; exact h1, by rw [List.getElem?_append_left (by omega)]; exact h2, r⟩
  · rw [List.getElem?_append_left (by have := (List.getElem?_eq_some_iff.mp z).1; simpa using this)]; exact z
  · have h1 := er.pins i hi
    rw [List.getElem?_append_left (by have := (List.getElem?_eq_some_iff.mp h1).1; simpa using this)]; exact h1
end
/-- a def's function, by its body's -/
def defM (pt : List OT) (n : Nat) (fb : E → RS) : FM := fun ds => match fb (ds.map some ++ List.replicate n none) with
  | .nx ρ => .ok .non (maskE pt ρ)
  | .rt d ρ => .ok d (maskE pt ρ)
  | .ex e ρ => .ex e (maskE pt ρ)
  | _ => .no
abbrev zOf (pt : List OT) (rt : OT) : Zs := ⟨[], [], rOof pt, rOof pt, rt⟩
/-- .. where it hands nothing back: rt is fz -/
theorem fn_ok {P : Program} {w : World} {K : PySem.W.Frag} {mg : Str → Option Value} {base : Heap} {x qual : Str} {st : Stmt} {f : Addr} {fd : FuncData} {Nm ps : List Str} {k : Nat} {pt : List OT} {rt : OT} {fb : E → RS} (Fn : Fun K x qual st f fd) (S : FnScope Nm ps (defScope st))
    (hps : pt.length = ps.length)
    (hbody : ∀ (cdv : Value) (A : Around) (outer : List Env) (s : Shared) (H : Hp) (Ex : XK) (F B0 : Hp) (pv : Nat → V), Room k (A.deeper (envOfC qual (defScope st) s.heap.objs.size f cdv)) →
      PSs (cxOf (L2.CX P w) P w K mg base Nm qual (defScope st) f cdv A outer s H Ex) (defBody st) (tS ⟨K, F, B0, pinL 0 pt, pv⟩ (pt.map some ++ List.replicate (Nm.length - pt.length) none) (rOof pt) (zOf pt rt) (fun cls d _ H => Ex cls d H) fb))
    (hn : rt = .fz ∨ ∀ ρ ρ', fb ρ ≠ .nx ρ') : FnOk P w K mg base (L2.CX P w) (k + 1) f fd ps (spF K pt rt (defM pt (Nm.length - pt.length) fb)) := by
  refine Fn.okX S (fun vs H Q Ex h => ?_) (fun cdv A outer s H vs Q Ex hr h => ?_)
  · obtain ⟨F, B, fp, ds, hl, _⟩ := h
    rw [hl, hps]
  · obtain ⟨F, B, fp, ds, hl, er, k⟩ := h
    refine ⟨_, hbody cdv A outer s H Ex F B (pvOf vs) hr, B, fp, ds.map some ++ List.replicate (Nm.length - pt.length) none, ?_, ?_⟩
    · have := er.start hl (Nm.length - pt.length)
      rw [show L2.start Nm vs = vs.map some ++ List.replicate (Nm.length - pt.length) none from by unfold L2.start; rw [hl]]
      exact this
    · simp only [defM] at k
      cases hb : fb (ds.map some ++ List.replicate (Nm.length - pt.length) none) with
      | nx ρ =>
        rw [hb] at k
        rcases hn with rfl | hn
        · exact fun σ' H' B' fp' s' e => k .non H' B' fp' [] s' (ER.mask e hl) ⟨.non, rfl⟩ Fresh.nil
        · exact absurd hb (hn _ _)
      | rt d ρ => rw [hb] at k; exact fun σ' H' B' fp' v g s' e r Fr => k v H' B' fp' g s' (ER.mask e hl) r Fr
      | ex e ρ => rw [hb] at k; exact fun σ' cls dd H' B' fp' s' e x => k cls dd H' B' fp' s' (ER.mask e hl) x
      | bk ρ => rw [hb] at k; exact k.elim
      | ct ρ => rw [hb] at k; exact k.elim
      | no => rw [hb] at k; exact k.elim

/-! ### arguments: data, or an own thing of a slot -/
inductive RepA (K : PySem.W.Frag) (B : Hp) (σ : L2.St) : List (Option Nat) → List V → List D → Prop
  | nil : RepA K B σ [] [] []
  | dat {v : V} {d : D} {ai : List (Option Nat)} {vs : List V} {ds : List D} : Rep K B v d → RepA K B σ ai vs ds → RepA K B σ (none :: ai) (v :: vs) (d :: ds)
  | own {v : V} {i : Nat} {ai : List (Option Nat)} {vs : List V} {ds : List D} : σ[i]? = some (some v) → RepA K B σ ai vs ds → RepA K B σ (some i :: ai) (v :: vs) (.non :: ds)
def fill : List (Option Nat) → List D → E → Option (List D)
  | [], _, _ => some []
  | none :: r, d :: ds, ρ => (fill r ds ρ).map (d :: ·)
  | some i :: r, _ :: ds, ρ => match ρ[i]? with
    | some (some d) => (fill r ds ρ).map (d :: ·)
    | _ => none
  | _ :: _, [], _ => none
def unfill : List (Option Nat) → E → E → E
  | [], _, ρ => ρ
  | none :: r, ρo, ρ => unfill r ρo.tail ρ
  | some i :: r, ρo, ρ => (unfill r ρo.tail ρ).set i ρo.head?.join
def argOk (O : Oo) : List OT → List (Option Nat) → Bool
  | [], [] => true
  | .fz :: pt, none :: ai => argOk O pt ai
  | t :: pt, some i :: ai => t != .fz && O[i]? == some (some t) && !(ai.contains (some i)) && argOk O pt ai
  | _, _ => false
def tAo (c : Cst) (O : Oo) (W : WX) (ai : List (Option Nat)) (f : FA) : TA := fun σ H Q => ∃ B fp ρ, ER c O B H fp σ ρ ∧ RG c O W σ B (f ρ) (fun ds _ H' B' _ => ∀ vs, RepA c.K B' σ ai vs ds → Q vs H')
theorem RepA.up {K : PySem.W.Frag} {B B' : Hp} {σ : L2.St} {ai : List (Option Nat)} {vs : List V} {ds : List D} (h : RepA K B σ ai vs ds) (s : Same B B') : RepA K B' σ ai vs ds := by
  induction h with
  | nil => exact .nil
  | dat r _ ih => exact .dat (r.up s) ih
  | own e _ ih => exact .own e ih
section
variable {X : Cx} {c : Cst} {O : Oo} {W : WX}
theorem ao_nil : PA X [] (tAo c O W [] faN) := PA.imp pa_nil fun σ H Q ⟨B, fp, ρ, er, g⟩ => g H B fp (.refl _) er [] .nil
theorem ao_dat {e : Expr} {es : List Expr} {fa : FE} {fr : FA} {ai : List (Option Nat)} (ha : PE X e (tF c O W fa)) (hr : PA X es (tAo c O W ai fr)) (hs : starEach (e :: es) X.env = (false, eval e X.env) :: starEach es X.env := by rfl) : PA X (e :: es) (tAo c O W (none :: ai) (faC fa fr)) :=
  PA.imp (pa_cons ha hr hs) fun σ H Q ⟨B, fp, ρ, er, k⟩ => ⟨B, fp, ρ, er, (RG.bind k).mp fun dx ρ1 H1 B1 fp1 s1 e1 k1 v rv => ⟨B1, fp1, ρ1, e1, (RG.bind k1).mp fun ds ρ2 H2 B2 fp2 s2 e2 k2 vs rs =>
    k2 H2 B2 fp2 (.refl _) e2 (v :: vs) (.dat (rv.up s2) rs)⟩⟩
theorem ao_own {i : Nat} {x : Str} {pos : Pos} {es : List Expr} {fr : FA} {ai : List (Option Nat)} {t : OT} (hO : O[i]? = some (some t)) (hr : PA X es (tAo c O W ai fr)) (hN : X.N[i]? = some x := by rfl) (hv : Vis X.env.scope x := by first | exact Or.inl rfl | exact Or.inr (Or.inl rfl) | exact Or.inr (Or.inr rfl)) (hd : (x == ("__debug__" : Str)) = false := by decide)
    (hcd : (x == ("__classdict__" : Str)) = false := by decide) (hs : starEach (.Name x pos :: es) X.env = (false, eval (.Name x pos) X.env) :: starEach es X.env := by rfl) : PA X (.Name x pos :: es) (tAo c O W (some i :: ai) (faC (fC .non) fr)) :=
  PA.imp (pa_cons (pe_var hN hv hd hcd) hr hs) fun σ H Q ⟨B, fp, ρ, er, k⟩ => by
    obtain ⟨v, d, h1, h2, r⟩ := er.slot i t hO
    have k' : RG c O W σ B ((fr ρ).bind fun xs ρ2 => .ok (D.non :: xs) ρ2) (fun ds _ H' B' _ => ∀ vs, RepA c.K B' σ (some i :: ai) vs ds → Q vs H') := k
    exact ⟨v, h1, B, fp, ρ, er, (RG.bind k').mp fun ds ρ2 H2 B2 fp2 s2 e2 k2 vs rs => k2 H2 B2 fp2 (.refl _) e2 (v :: vs) (.own h1 rs)⟩
end
theorem RepA.len {K : PySem.W.Frag} {B : Hp} {σ : L2.St} {ai : List (Option Nat)} {vs : List V} {ds : List D} (h : RepA K B σ ai vs ds) : vs.length = ai.length := by
  induction h with
  | nil => rfl
  | dat r _ ih => simp [ih]
  | own e _ ih => simp [ih]
theorem argOk_len {O : Oo} : ∀ {pt : List OT} {ai : List (Option Nat)}, argOk O pt ai = true → ai.length = pt.length
  | [], [], _ => rfl
  | [], _ :: _, h => by simp [argOk] at h
  | t :: pt, [], h => by cases t <;> simp [argOk] at h
  | t :: pt, none :: ai, h => by cases t <;> simp [argOk] at h <;> simp [argOk_len h]
  | t :: pt, some i :: ai, h => by
    have h' : argOk O pt ai = true := by cases t <;> simp [argOk] at h <;> exact h.2
    simp [argOk_len h']
theorem argOk_at {O : Oo} : ∀ {pt : List OT} {ai : List (Option Nat)}, argOk O pt ai = true → ∀ {j : Nat} {t : OT}, pt[j]? = some t → (t = .fz ∧ ai[j]? = some none) ∨ (t ≠ .fz ∧ ∃ i, ai[j]? = some (some i) ∧ O[i]? = some (some t))
  | [], _, _, _, _, h => by simp at h
  | t :: pt, [], h, _, _, _ => by cases t <;> simp [argOk] at h
  | t :: pt, none :: ai, h, 0, u, e => by
    simp at e; subst e
    cases t <;> simp [argOk] at h
    exact .inl ⟨rfl, rfl⟩
  | t :: pt, none :: ai, h, j + 1, u, e => by
    have h' : argOk O pt ai = true := by cases t <;> simp [argOk] at h <;> exact h
    simpa using argOk_at h' (j := j) (t := u) (by simpa using e)
  | t :: pt, some i :: ai, h, 0, u, e => by
    simp at e; subst e
    refine .inr ?_
    cases t <;> simp [argOk] at h
    · exact ⟨fun z => (nomatch z), i, rfl, h.1.1⟩
    · exact ⟨fun z => (nomatch z), i, rfl, h.1.1⟩
  | t :: pt, some i :: ai, h, j + 1, u, e => by
    have h' : argOk O pt ai = true := by cases t <;> simp [argOk] at h <;> exact h.2
    simpa using argOk_at h' (j := j) (t := u) (by simpa using e)
theorem argOk_inj {O : Oo} : ∀ {pt : List OT} {ai : List (Option Nat)}, argOk O pt ai = true → ∀ {j k i : Nat}, ai[j]? = some (some i) → ai[k]? = some (some i) → j = k
  | [], [], _, _, _, _, e, _ => by simp at e
  | [], _ :: _, h, _, _, _, _, _ => by simp [argOk] at h
  | t :: pt, [], h, _, _, _, _, _ => by cases t <;> simp [argOk] at h
  | t :: pt, none :: ai, h, j, k, i, e1, e2 => by
    have h' : argOk O pt ai = true := by cases t <;> simp [argOk] at h <;> exact h
    cases j with
    | zero => simp at e1
    | succ j => cases k with
      | zero => simp at e2
      | succ k => rw [argOk_inj h' (j := j) (k := k) (by simpa using e1) (by simpa using e2)]
  | t :: pt, some i' :: ai, h, j, k, i, e1, e2 => by
    have h' : argOk O pt ai = true ∧ (some i') ∉ ai := by
      cases t <;> simp [argOk] at h <;> exact ⟨h.2, by simpa using h.1.2⟩
    cases j with
    | zero =>
      simp at e1; subst e1
      cases k with
      | zero => rfl
      | succ k => exact absurd (List.mem_of_getElem? (by simpa using e2)) h'.2
    | succ j => cases k with
      | zero => simp at e2; subst e2; exact absurd (List.mem_of_getElem? (by simpa using e1)) h'.2
      | succ k => rw [argOk_inj h'.1 (j := j) (k := k) (by simpa using e1) (by simpa using e2)]
end L3

namespace L3
open PySem PySem.Spec PyProof.Rows L2

theorem fill_get {K : PySem.W.Frag} {B : Hp} {σ : L2.St} {ρ : E} : ∀ {ai : List (Option Nat)} {vs : List V} {ds es : List D}, RepA K B σ ai vs ds → fill ai ds ρ = some es → es.length = vs.length ∧ ∀ j : Nat,
    (ai[j]? = some none → ∃ v d, vs[j]? = some v ∧ es[j]? = some d ∧ Rep K B v d) ∧ (∀ i : Nat, ai[j]? = some (some i) → ∃ v d, vs[j]? = some v ∧ es[j]? = some d ∧ σ[i]? = some (some v) ∧ ρ[i]? = some (some d))
  | _, _, _, es, .nil, h => by
    simp [fill] at h; subst h
    exact ⟨rfl, fun j => ⟨fun z => by simp at z, fun i z => by simp at z⟩⟩
  | _, _, _, es, .dat (v := v) (d := d) (ai := ai) (ds := ds) r q, h => by
    simp only [fill, Option.map_eq_some_iff] at h
    obtain ⟨es', h1, rfl⟩ := h
    obtain ⟨h2, h3⟩ := fill_get q h1
    refine ⟨by simp [h2], fun j => ?_⟩
    cases j with
    | zero => exact ⟨fun _ => ⟨v, d, rfl, rfl, r⟩, fun i z => by simp at z⟩
    | succ j => simpa using h3 j
  | _, _, _, es, .own (v := v) (i := i) (ai := ai) (ds := ds) e q, h => by
    simp only [fill] at h
    split at h
    · rename_i d hd
      rw [Option.map_eq_some_iff] at h
      obtain ⟨es', h1, rfl⟩ := h
      obtain ⟨h2, h3⟩ := fill_get q h1
      refine ⟨by simp [h2], fun j => ?_⟩
      cases j with
      | zero => exact ⟨fun z => by simp at z, fun i' z => by simp at z; subst z; exact ⟨v, d, rfl, rfl, e, hd⟩⟩
      | succ j => simpa using h3 j
    · cases h
theorem unfill_len : ∀ (ai : List (Option Nat)) (ρo ρ : E), (unfill ai ρo ρ).length = ρ.length
  | [], _, _ => rfl
  | none :: r, ρo, ρ => unfill_len r _ _
  | some i :: r, ρo, ρ => by simp [unfill, unfill_len r]
theorem unfill_out : ∀ (ai : List (Option Nat)) (ρo ρ : E) (i : Nat), (some i) ∉ ai → (unfill ai ρo ρ)[i]? = ρ[i]?
  | [], _, _, _, _ => rfl
  | none :: r, ρo, ρ, i, h => unfill_out r _ _ i fun z => h (List.mem_cons_of_mem _ z)
  | some k :: r, ρo, ρ, i, h => by
    have hk : k ≠ i := fun z => h (by rw [z]; exact List.mem_cons_self)
    simp only [unfill]
    rw [List.getElem?_set_ne hk]
    exact unfill_out r _ _ i fun z => h (List.mem_cons_of_mem _ z)
theorem unfill_in : ∀ (ai : List (Option Nat)) (ρo ρ : E) (j i : Nat) (d : D), ai[j]? = some (some i) → (∀ k, ai[k]? = some (some i) → k = j) → ρo[j]? = some (some d) → i < ρ.length → (unfill ai ρo ρ)[i]? = some (some d)
  | [], _, _, _, _, _, h, _, _, _ => by simp at h
  | none :: r, ρo, ρ, 0, i, d, h, _, _, _ => by simp at h
  | none :: r, ρo, ρ, j + 1, i, d, h, hu, hd, hi => by
    refine unfill_in r ρo.tail ρ j i d (by simpa using h) (fun k hk => by have := hu (k + 1) (by simpa using hk); omega) ?_ hi
    cases ρo with
    | nil => simp at hd
    | cons x xs => simpa using hd
  | some k :: r, ρo, ρ, 0, i, d, h, hu, hd, hi => by
    simp at h; subst h
    simp only [unfill]
    rw [List.getElem?_set_self (by rw [unfill_len]; exact hi)]
    cases ρo with
    | nil => simp at hd
    | cons x xs => simp at hd; subst hd; rfl
  | some k :: r, ρo, ρ, j + 1, i, d, h, hu, hd, hi => by
    have hk : k ≠ i := fun z => by have := hu 0 (by rw [z]; rfl); omega
    simp only [unfill]
    rw [List.getElem?_set_ne hk]
    refine unfill_in r ρo.tail ρ j i d (by simpa using h) (fun k' hk' => by have := hu (k' + 1) (by simpa using hk'); omega) ?_ hi
    cases ρo with
    | nil => simp at hd
    | cons x xs => simpa using hd

/-- the call of a def's function -/
def callM (m : FM) (ai : List (Option Nat)) (ds : List D) (ρ : E) : R D := match fill ai ds ρ with
  | none => .no
  | some es => match m es with
    | .ok d ρo => .ok d (unfill ai ρo ρ)
    | .ex e ρo => .ex e (unfill ai ρo ρ)
    | .no => .no
def fCall (m : FM) (ai : List (Option Nat)) (fa : FA) : FE := fun ρ => (fa ρ).bind fun ds ρ1 => callM m ai ds ρ1

section
open Classical
variable {K : PySem.W.Frag} {c : Cst} {O : Oo} {B H : Hp} {fp : Fp} {σ : L2.St} {ρ : E} {pt : List OT} {ai : List (Option Nat)} {vs : List V} {ds es : List D}
def fpC (ai : List (Option Nat)) (fp : Fp) : Fp := fun j => match ai[j]? with
  | some (some i) => fp i
  | _ => []
noncomputable def frC (B H : Hp) (f : Fp) : Hp := fun b => if B b ≠ none ∨ ∃ j, b ∈ f j then none else H b
theorem fpC_mem {j : Nat} {a : Addr} (h : a ∈ fpC ai fp j) : ∃ i, ai[j]? = some (some i) ∧ a ∈ fp i := by
  unfold fpC at h
  split at h
  · rename_i i q; exact ⟨i, q, h⟩
  · cases h
theorem fpC_of {j i : Nat} (h : ai[j]? = some (some i)) : fpC ai fp j = fp i := by unfold fpC; rw [h]
theorem frC_same {f : Fp} : Same (frC B H f) H := fun b o h => by
  unfold frC at h
  split at h
  · cases h
  · exact h
theorem frC_at {f : Fp} {b : Addr} (h1 : B b = none) (h2 : ∀ j, b ∉ f j) : frC B H f b = H b := by
  unfold frC; rw [if_neg]; rintro (q | ⟨j, q⟩); exact q h1; exact h2 j q
theorem frC_none {f : Fp} {b : Addr} (h : B b ≠ none ∨ ∃ j, b ∈ f j) : frC B H f b = none := by unfold frC; rw [if_pos h]
/-- the callee's state at the call -/
theorem ER.callee (er : ER c O B H fp σ ρ) (ra : RepA c.K B σ ai vs ds) (hf : fill ai ds ρ = some es) (ok : argOk O pt ai = true) :
    ER (cOf c.K (frC B H (fpC ai fp)) B pt vs) (pt.map some) B H (fpC ai fp) (vs.map some) (es.map some) := by
  obtain ⟨h1, h2⟩ := fill_get ra hf
  have lv : vs.length = pt.length := by rw [ra.len, argOk_len ok]
  refine ⟨er.bh, frC_same, .refl _, fun b hb => frC_none (.inl hb), by simp [h1], fun j t h => ?_, fun j h => ?_, fun j a ha => ?_, fun j => ?_, fun j k a ha hb => ?_, fun j hj => ?_⟩
  · rw [List.getElem?_map] at h
    cases q : pt[j]? with
    | none => rw [q] at h; cases h
    | some t' =>
      rw [q] at h; cases h
      rcases argOk_at ok q with ⟨rfl, q2⟩ | ⟨ht, i, q2, q3⟩
      · obtain ⟨v, d, e1, e2, r⟩ := (h2 j).1 q2
        refine ⟨v, d, by simp [e1], by simp [e2], r, ?_⟩
        unfold fpC; rw [q2]
      · obtain ⟨v, d, e1, e2, e3, e4⟩ := (h2 j).2 i q2
        obtain ⟨v', d', e5, e6, r⟩ := er.slot i t q3
        rw [e3] at e5; cases e5
        rw [e4] at e6; cases e6
        refine ⟨v, d, by simp [e1], by simp [e2], ?_⟩
        rw [fpC_of q2]; exact r
  · cases q : ai[j]? with
    | none => unfold fpC; rw [q]
    | some x =>
      have hj : j < pt.length := by rw [← argOk_len ok]; exact (List.getElem?_eq_some_iff.mp q).1
      exact absurd (by rw [List.getElem?_map, List.getElem?_eq_getElem hj]; rfl) (h pt[j])
  · obtain ⟨i, q1, q2⟩ := fpC_mem ha
    exact ⟨(er.fpb i a q2).1, frC_none (.inr ⟨j, ha⟩)⟩
  · unfold fpC
    split
    · exact er.nd _
    · exact List.nodup_nil
  · obtain ⟨i, q1, q2⟩ := fpC_mem ha
    obtain ⟨i', q3, q4⟩ := fpC_mem hb
    have := er.dis i i' a q2 q4
    subst this
    exact argOk_inj ok q1 q3
  · obtain ⟨_, t, h3, _⟩ := mem_pinL hj
    have hj' : j < vs.length := by rw [lv]; have := (List.getElem?_eq_some_iff.mp h3).1; omega
    show (vs.map some)[j]? = some (some (pvOf vs j))
    rw [List.getElem?_map, List.getElem?_eq_getElem hj']
    simp [pvOf, List.getD, List.getElem?_eq_getElem hj']
/-- the caller's slots behind the call -/
noncomputable def fpR (ai : List (Option Nat)) (fp fp' : Fp) : Fp := fun i => if h : ∃ j : Nat, ai[j]? = some (some i) then fp' (choose h) else fp i
theorem fpR_in {ok : argOk O pt ai = true} {fp' : Fp} {i j : Nat} (h : ai[j]? = some (some i)) : fpR ai fp fp' i = fp' j := by
  have hx : ∃ j : Nat, ai[j]? = some (some i) := ⟨j, h⟩
  unfold fpR; rw [dif_pos hx, argOk_inj ok (choose_spec hx) h]
theorem fpR_out {fp' : Fp} {i : Nat} (h : ∀ j : Nat, ai[j]? ≠ some (some i)) : fpR ai fp fp' i = fp i := by
  unfold fpR; rw [dif_neg fun ⟨j, q⟩ => h j q]
theorem ER.back (er : ER c O B H fp σ ρ) (ra : RepA c.K B σ ai vs ds) (hf : fill ai ds ρ = some es) (ok : argOk O pt ai = true) {B' H' : Hp} {fp' : Fp} {ρo : E} (s : Same B B')
    (e' : ER (cOf c.K (frC B H (fpC ai fp)) B pt vs) (rOof pt) B' H' fp' (vs.map some) ρo) : ER c O B' H' (fpR ai fp fp') σ (unfill ai ρo ρ) := by
  obtain ⟨h1, h2⟩ := fill_get ra hf
  -- what is the frame's stays
  have out : ∀ b, B b = none → (∀ j, b ∉ fpC ai fp j) → ∀ o, H b = some o → H' b = some o ∧ B' b = none ∧ ∀ j, b ∉ fp' j := fun b q1 q2 o q3 => by
    have e1 : frC B H (fpC ai fp) b = some o := (frC_at q1 q2).trans q3
    refine ⟨e'.fh b o e1, ?_, fun j hj => ?_⟩
    · cases z : B' b with
      | none => rfl
      | some u =>
        have := e'.bf b (by rw [z]; exact fun y => nomatch y)
        have this' : frC B H (fpC ai fp) b = none := this
        rw [e1] at this'; cases this'
    · have := (e'.fpb j b hj).2
      have this' : frC B H (fpC ai fp) b = none := this
      rw [e1] at this'; cases this'
  have cF : ∀ b o, c.F b = some o → frC B H (fpC ai fp) b = some o := fun b o q => by
    have q1 : B b = none := by
      cases z : B b with
      | none => rfl
      | some u =>
        have := er.bf b (by rw [z]; exact fun y => nomatch y)
        rw [q] at this; cases this
    refine (frC_at q1 fun j hj => ?_).trans (er.fh b o q)
    obtain ⟨i, _, q2⟩ := fpC_mem hj
    have := (er.fpb i b q2).2
    rw [q] at this; cases this
  have notF : ∀ b, frC B H (fpC ai fp) b = none → c.F b = none := fun b q => by
    cases z : c.F b with
    | none => rfl
    | some o => rw [cF b o z] at q; cases q
  have oth : ∀ i : Nat, (∀ j : Nat, ai[j]? ≠ some (some i)) → ∀ a ∈ fp i, B a = none ∧ (∀ j, a ∉ fpC ai fp j) := fun i hi a ha => ⟨(er.fpb i a ha).1, fun j hj => by
    obtain ⟨i', q1, q2⟩ := fpC_mem hj
    have := er.dis i i' a ha q2
    subst this
    exact hi j q1⟩
  have mine : ∀ i j : Nat, ai[j]? = some (some i) → ∀ {t}, O[i]? = some (some t) → t ≠ .fz → pt[j]? = some t → ∃ v d, σ[i]? = some (some v) ∧ ρo[j]? = some (some d) ∧ OR c.K B' H' t v d (fp' j) := fun i j q {t} qO ht qp => by
    have hr : (rOof pt)[j]? = some (some t) := by
      unfold rOof; rw [List.getElem?_map, qp]
      show some (if (t == OT.fz) = true then none else some t) = _
      rw [if_neg (by simpa using ht)]
    obtain ⟨v, d, e1, e2, r⟩ := e'.slot j t hr
    obtain ⟨v', d', e3, e4, e5, e6⟩ := (h2 j).2 i q
    have : v = v' := by
      rw [List.getElem?_map, e3] at e1; simpa using e1.symm
    subst this
    exact ⟨v, d, e5, e2, r⟩
  have kind : ∀ i j : Nat, ai[j]? = some (some i) → ∃ t, O[i]? = some (some t) ∧ t ≠ .fz ∧ pt[j]? = some t := fun i j q => by
    have hj : j < pt.length := by rw [← argOk_len ok]; exact (List.getElem?_eq_some_iff.mp q).1
    rcases argOk_at ok (List.getElem?_eq_getElem hj) with ⟨_, q2⟩ | ⟨ht, i', q2, q3⟩
    · rw [q] at q2; cases q2
    · rw [q] at q2; cases q2
      exact ⟨_, q3, ht, List.getElem?_eq_getElem hj⟩
  refine ⟨e'.bh, fun b o q => e'.fh b o (cF b o q), er.b0.trans s, fun b hb => notF b (e'.bf b hb), by rw [unfill_len]; exact er.len, fun i t hO => ?_, fun i hi => ?_, fun i a ha => ?_, fun i => ?_, fun i k a ha hb => ?_, er.pins⟩
  · by_cases hx : ∃ j : Nat, ai[j]? = some (some i)
    · obtain ⟨j, hj⟩ := hx
      obtain ⟨t', q1, q2, q3⟩ := kind i j hj
      rw [hO] at q1; cases q1
      obtain ⟨v, d, e1, e2, r⟩ := mine i j hj hO q2 q3
      have hi : i < ρ.length := by rw [er.len]; exact (List.getElem?_eq_some_iff.mp e1).1
      refine ⟨v, d, e1, unfill_in ai ρo ρ j i d hj (fun k hk => argOk_inj ok hk hj) e2 hi, ?_⟩
      rw [fpR_in (ok := ok) hj]; exact r
    · have hx' : ∀ j : Nat, ai[j]? ≠ some (some i) := fun j z => hx ⟨j, z⟩
      obtain ⟨v, d, e1, e2, r⟩ := er.slot i t hO
      refine ⟨v, d, e1, by rw [unfill_out ai ρo ρ i fun z => by obtain ⟨j, hj⟩ := List.getElem?_of_mem z; exact hx' j hj]; exact e2, ?_⟩
      rw [fpR_out hx']
      refine OR.mono s t (fun a ha => ?_) r
      obtain ⟨o, ho⟩ := ne_some_of (er.has ha)
      obtain ⟨q1, q2⟩ := oth i hx' a ha
      rw [(out a q1 q2 o ho).1, ho]
  · by_cases hx : ∃ j : Nat, ai[j]? = some (some i)
    · obtain ⟨j, hj⟩ := hx
      obtain ⟨t', q1, q2, q3⟩ := kind i j hj
      exact absurd q1 (hi t')
    · rw [fpR_out fun j z => hx ⟨j, z⟩]; exact er.nofp i hi
  · by_cases hx : ∃ j : Nat, ai[j]? = some (some i)
    · obtain ⟨j, hj⟩ := hx
      rw [fpR_in (ok := ok) hj] at ha
      exact ⟨(e'.fpb j a ha).1, notF a (e'.fpb j a ha).2⟩
    · have hx' : ∀ j : Nat, ai[j]? ≠ some (some i) := fun j z => hx ⟨j, z⟩
      rw [fpR_out hx'] at ha
      obtain ⟨o, ho⟩ := ne_some_of (er.has ha)
      obtain ⟨q1, q2⟩ := oth i hx' a ha
      exact ⟨(out a q1 q2 o ho).2.1, (er.fpb i a ha).2⟩
  · by_cases hx : ∃ j : Nat, ai[j]? = some (some i)
    · obtain ⟨j, hj⟩ := hx
      rw [fpR_in (ok := ok) hj]; exact e'.nd j
    · rw [fpR_out fun j z => hx ⟨j, z⟩]; exact er.nd i
  · by_cases hx : ∃ j : Nat, ai[j]? = some (some i) <;> by_cases hy : ∃ j : Nat, ai[j]? = some (some k)
    · obtain ⟨j, hj⟩ := hx
      obtain ⟨j', hj'⟩ := hy
      rw [fpR_in (ok := ok) hj] at ha
      rw [fpR_in (ok := ok) hj'] at hb
      have := e'.dis j j' a ha hb
      subst this
      rw [hj] at hj'; cases hj'; rfl
    · obtain ⟨j, hj⟩ := hx
      have hy' : ∀ j : Nat, ai[j]? ≠ some (some k) := fun j z => hy ⟨j, z⟩
      rw [fpR_in (ok := ok) hj] at ha
      rw [fpR_out hy'] at hb
      obtain ⟨o, ho⟩ := ne_some_of (er.has hb)
      obtain ⟨q1, q2⟩ := oth k hy' a hb
      exact absurd ha ((out a q1 q2 o ho).2.2 j)
    · obtain ⟨j, hj⟩ := hy
      have hx' : ∀ j : Nat, ai[j]? ≠ some (some i) := fun j z => hx ⟨j, z⟩
      rw [fpR_in (ok := ok) hj] at hb
      rw [fpR_out hx'] at ha
      obtain ⟨o, ho⟩ := ne_some_of (er.has ha)
      obtain ⟨q1, q2⟩ := oth i hx' a ha
      exact absurd hb ((out a q1 q2 o ho).2.2 j)
    · rw [fpR_out fun j z => hx ⟨j, z⟩] at ha
      rw [fpR_out fun j z => hy ⟨j, z⟩] at hb
      exact er.dis i k a ha hb
/-- a fresh value of the callee's is fresh for the caller -/
theorem Fresh.back (er : ER c O B H fp σ ρ) (ok : argOk O pt ai = true) {B' : Hp} {fp' : Fp} {g : List Addr} (F : Fresh (cOf c.K (frC B H (fpC ai fp)) B pt vs) B' fp' g) : Fresh c B' (fpR ai fp fp') g := by
  have hF : ∀ a ∈ g, frC B H (fpC ai fp) a = none := fun a ha => F.inF a ha
  have hB : ∀ a ∈ g, ∀ i : Nat, (∀ j : Nat, ai[j]? ≠ some (some i)) → a ∉ fp i := fun a ha i hi hm => by
    obtain ⟨o, ho⟩ := ne_some_of (er.has hm)
    have := hF a ha
    rw [frC_at (er.fpb i a hm).1 fun j hj => by
      obtain ⟨i', q1, q2⟩ := fpC_mem hj
      have := er.dis i i' a hm q2
      subst this
      exact hi j q1, ho] at this
    simp at this
  refine ⟨F.nd, F.inB, fun a ha => ?_, fun a ha i hi => ?_⟩
  · cases z : c.F a with
    | none => rfl
    | some o =>
      have q1 : B a = none := by
        cases y : B a with
        | none => rfl
        | some u =>
          have := er.bf a (by rw [y]; exact fun x => nomatch x)
          rw [z] at this; cases this
      have q3 : ∀ j, a ∉ fpC ai fp j := fun j hj => by
        obtain ⟨i', _, q2⟩ := fpC_mem hj
        have q4 := (er.fpb i' a q2).2
        rw [z] at q4
        cases q4
      have q5 := hF a ha
      rw [frC_at q1 q3, er.fh a o z] at q5
      cases q5
  · by_cases hx : ∃ j : Nat, ai[j]? = some (some i)
    · obtain ⟨j, hj⟩ := hx
      rw [fpR_in (ok := ok) hj] at hi
      exact F.inO a ha j hi
    · have hx' : ∀ j : Nat, ai[j]? ≠ some (some i) := fun j z => hx ⟨j, z⟩
      rw [fpR_out hx'] at hi
      exact hB a ha i hx' hi
/-- THE CALL: the callee's promise at the caller's state -/
theorem sp_call {W : WX} {rt : OT} {m : FM} {Q : VK} (er : ER c O B H fp σ ρ) (ra : RepA c.K B σ ai vs ds) (ok : argOk O pt ai = true) (h : RG c O W σ B (callM m ai ds ρ) (fun d _ H' B' fp' => ∀ v g, OR c.K B' H' rt v d g → Fresh c B' fp' g → Q v H')) :
    spF c.K pt rt m vs H Q (WE W σ) := by
  unfold callM at h
  cases hf : fill ai ds ρ with
  | none => rw [hf] at h; exact h.elim
  | some es =>
    rw [hf] at h
    refine ⟨frC B H (fpC ai fp), B, fpC ai fp, es, by rw [ra.len, argOk_len ok], er.callee ra hf ok, ?_⟩
    dsimp only at h
    cases hm : m es with
    | ok d ρo =>
      rw [hm] at h
      intro v H' B' fp' g s e' r F
      exact h H' B' (fpR ai fp fp') s (er.back ra hf ok s e') v g r (Fresh.back er ok F)
    | ex e ρo =>
      rw [hm] at h
      intro cls dd H' B' fp' s e' x
      exact h cls dd H' B' (fpR ai fp fp') s (er.back ra hf ok s e') x
    | no => rw [hm] at h; exact h.elim
end
/-! ### calls of the text's defs -/
section
variable {X : Cx} {c : Cst} {O : Oo} {W : WX} {k : Nat} {f : Addr} {fd : FuncData} {ps : List Str} {pt : List OT} {rt : OT} {m : FM} {x : Str} {p pos : Pos} {e : Expr} {es : List Expr} {ai : List (Option Nat)} {fa : FA}
/-- f(..), every parameter given -/
theorem w_call (Fn : FnOk X.prog X.w X.K X.mg X.base (L2.CX X.prog X.w) k f fd ps (spF X.K pt rt m)) (hr : Room k X.A) (tk : Takes X W) (hm : X.mg x = some (.ref f)) (hk : PySem.W.keepIn X.K (.ref f) = true) (hb : Binds X.K fd ps []) (ha : PA X (e :: es) (tAo c O W ai fa)) (ok : argOk O pt ai = true := by rfl) (hg : Gl X x := by rfl) (hK : c.K = X.K := by rfl)
    (hdb : (x == ("__debug__" : Str)) = false := by decide) (he : starEach (e :: es) X.env = (false, eval e X.env) :: starEach es X.env := by rfl) (hpl : (backTo pos (starEach es X.env)).any (·.1) = false := by rfl) :
    PE X (.Call (.Name x p) (e :: es) [] pos) (tW c O W rt (fCall m ai fa)) :=
  PE.imp (pe_callSD (dvs := []) Fn hr hg hm hk hb .nil (fun σ => L2.passAt tk σ) ha hdb he hpl) fun σ H Q ⟨B, fp, ρ, er, k⟩ => ⟨B, fp, ρ, er, (RG.bind k).mp fun ds ρ1 H1 B1 fp1 s1 e1 k1 vs ra => by
    show spF X.K pt rt m (vs ++ []) H1 Q (WE W σ)
    rw [List.append_nil, ← hK]
    exact sp_call e1 ra ok k1⟩
theorem run_fnS0 {pins : List (Addr × Obj)} {σ : L2.St} {H : Hp} {s : Shared} {Q : VK} {us : List Value} {vs : List V} {sp : Sp} {CX : CXT} {Ex : XK} (F : FnOk X.prog X.w X.K X.mg X.base CX k f fd ps sp) (hr : Room k X.A) (hb : Binds X.K fd ps []) (hx : PassesAt CX X σ Ex)
    (I : Inv X pins σ H s) (r : Vals vs us) (h : sp vs H Q Ex) : wpAny (model X.prog X.w) X.A (call (.ref f) us) (EP X pins σ Q) X.xe s :=
  run_fnSD (E := fun _ => Ex) (dvs := []) (ds := []) F hr hb .nil hx I r (by rw [List.append_nil]; exact h)
/-- f() -/
theorem w_call0 (Fn : FnOk X.prog X.w X.K X.mg X.base (L2.CX X.prog X.w) k f fd ps (spF X.K [] rt m)) (hr : Room k X.A) (tk : Takes X W) (hm : X.mg x = some (.ref f)) (hk : PySem.W.keepIn X.K (.ref f) = true) (hb : Binds X.K fd ps []) (hg : Gl X x := by rfl) (hK : c.K = X.K := by rfl)
    (hdb : (x == ("__debug__" : Str)) = false := by decide) : PE X (.Call (.Name x p) [] [] pos) (tW c O W rt (fCall m [] faN)) := by
  refine ⟨fun pins s σ H Q I h => ?_⟩
  refine wpAny_Call_Name_kw (ld_glob I hg hm ?_ hdb)
  refine PySem.W.callWith_K0 I.kIn hk (run_fnS0 (us := []) (vs := []) Fn hr hb (L2.passAt tk σ) I .nil ?_)
  obtain ⟨B, fp, ρ, er, k⟩ := h
  rw [← hK]
  exact sp_call er .nil (ai := []) (ds := []) rfl k
end
end L3

namespace L3
open PySem PySem.Spec PyProof.Rows L2

section
variable {c : Cst} {O : Oo} {B H H' : Hp} {fp : Fp} {σ : L2.St} {ρ : E}
/-- what is new is forgotten -/
theorem ER.forget (er : ER c O B H fp σ ρ) (s : Same H H') : ER c O B H' fp σ ρ :=
  er.grow ⟨.refl _, er.bh.trans s, s, fun b h1 h2 => absurd h1 h2⟩
/-- an own object changes -/
theorem ER.mut (er : ER c O B H fp σ ρ) {i : Nat} {a : Addr} {o : HO} {t : OT} {v : V} {d : D} (hO : O[i]? = some (some t)) (ha : a ∈ fp i) (hv : σ[i]? = some (some v)) (r : OR c.K B (upd H a o) t v d (fp i)) : ER c O B (upd H a o) fp σ (ρ.set i (some d)) := by
  have hb := er.fpb i a ha
  have hi : i < ρ.length := by rw [er.len]; exact (List.getElem?_eq_some_iff.mp hv).1
  refine ⟨fun b u e => by rw [upd_ne fun z => by rw [z, hb.1] at e; cases e]; exact er.bh b u e, fun b u e => by rw [upd_ne fun z => by rw [z, hb.2] at e; cases e]; exact er.fh b u e, er.b0, er.bf, by simp [er.len], fun j t' h => ?_, er.nofp, er.fpb, er.nd, er.dis, er.pins⟩
  by_cases hj : j = i
  · subst hj
    rw [hO] at h; cases h
    exact ⟨v, d, hv, List.getElem?_set_self hi, r⟩
  · obtain ⟨v', d', h1, h2, r'⟩ := er.slot j t' h
    refine ⟨v', d', h1, by rw [List.getElem?_set_ne (Ne.symm hj)]; exact h2, OR.mono (.refl _) t' (fun b hb' => upd_ne fun z => hj (er.dis j i b hb' (z ▸ ha))) r'⟩
theorem OR.list {K : PySem.W.Frag} {v : V} {d : D} {f : List Addr} (h : OR K B H (.ow .fz) v d f) : ∃ a vs ds, v = .ref a ∧ d = .lst ds ∧ H a = some (.lst vs) ∧ RepL K B vs ds ∧ f = [a] := by
  obtain ⟨a, vs, ds, f', rfl, rfl, ha, hs, rfl⟩ := h
  have : RepL K B vs ds ∧ f' = [] := by
    clear ha
    induction hs with
    | nil => exact ⟨.nil, rfl⟩
    | cons h1 h2 ih => exact ⟨.cons h1.1 ih.1, by rw [h1.2, ih.2]; rfl⟩
  exact ⟨a, vs, ds, rfl, rfl, ha, this.1, by rw [this.2]⟩
theorem OR.ofList {K : PySem.W.Frag} {a : Addr} {vs : List V} {ds : List D} (ha : H a = some (.lst vs)) (r : RepL K B vs ds) : OR K B H (.ow .fz) (.ref a) (.lst ds) [a] := ⟨a, vs, ds, [], rfl, rfl, ha, ORs.ofL r, rfl⟩
end

section
variable {X : Cx} {c : Cst} {O : Oo} {W : WX}
/-! ### attributes of instances -/
def dFld (C f : Str) : D → Option D
  | .ins n gs => if n = C then gs.lookup f else none
  | _ => none
theorem e_fld {e : Expr} {fe : FE} {C f : Str} {pos : Pos} (he : PE X e (tF c O W fe)) (hc : Cls X.K (clsA X.K C)) (hn : NoAttr X.K (clsA X.K C) f) (hb : attributeBase e f X.env (eval e X.env) = eval e X.env := by rfl) (hK : c.K = X.K := by rfl) : PE X (.Attribute e f pos) (tF c O W (f1 (dFld C f) fe)) :=
  PE.imp (pe_fld he hb) fun σ H Q ⟨B, fp, ρ, er, k⟩ => ⟨B, fp, ρ, er, (RG.bind k).mp fun dx ρ1 H1 B1 fp1 s1 e1 k1 v rv => by
    obtain ⟨d, hd, k3⟩ := RG.lift k1
    cases rv with
    | ins h1 h2 =>
      simp only [dFld] at hd
      split at hd
      · rename_i q
        subst q
        obtain ⟨v, l, r⟩ := h2.look hd
        exact ⟨_, _, _, _, v, rfl, hK ▸ e1.bh _ _ h1, hc, hn, l, k3 H1 B1 fp1 (.refl _) e1 v r⟩
      · cases hd
    | _ => cases hd⟩
/-- self.f = e, self an own instance -/
def fFldS (i : Nat) (C f : Str) (fe : FE) : E → RS := fun ρ => (fe ρ).toS fun d ρ1 => match ρ1[i]? with
  | some (some (.ins n gs)) => if n = C ∧ gs.length < 1000 then .nx (ρ1.set i (some (.ins C (putD f d gs)))) else .no
  | _ => .no
theorem RepF.put {K : PySem.W.Frag} {B : Hp} {f : Str} {v : V} {d : D} (r : Rep K B v d) : ∀ {fs : List (Str × V)} {gs : List (Str × D)}, RepF K B fs gs → RepF K B (putF f v fs) (putD f d gs)
  | _, [], h => by cases h; exact .cons r .nil
  | _, (g, u) :: r', h => by
    cases h with
    | cons h1 h2 =>
      simp only [putF, putD]
      split
      · rename_i q; subst q; exact .cons r h2
      · exact .cons h1 (RepF.put r h2)
theorem s_fld {i : Nat} {x C f : Str} {e : Expr} {fe : FE} {Z : Zs} {pos pos' posn : Pos} (hO : O[i]? = some (some .oi)) (he : PE X e (tF c O W fe)) (hc : Cls X.K (clsA X.K C)) (hn : NoAttr X.K (clsA X.K C) f) (hx : leO Z.xO O = true := by rfl) (hs : swapsWith e (some (.Attribute (.Name x posn) f pos')) pos.line X.env = pure false := by rfl) (hK : c.K = X.K := by rfl)
    (hN : X.N[i]? = some x := by rfl) (hv : Vis X.env.scope x := by first | exact Or.inl rfl | exact Or.inr (Or.inl rfl) | exact Or.inr (Or.inr rfl)) (hd : (x == ("__debug__" : Str)) = false := by decide) (hcd : (x == ("__classdict__" : Str)) = false := by decide) :
    PS X (.Assign [.Attribute (.Name x posn) f pos'] e pos) (tS c O O Z W (fFldS i C f fe)) :=
  PS.imp (ps_fld (pe_var hN hv hd hcd) he hs) fun Dn σ H ⟨B, fp, ρ, er, k⟩ => ⟨B, fp, ρ, er, (RG.toS hx k).mp fun d ρ1 H1 B1 fp1 s1 e1 k1 y ry => by
    obtain ⟨v, d0, h1, h2, r⟩ := e1.slot i _ hO
    obtain ⟨a, C', dx, fs, gs, rfl, rfl, ha, hr, hf⟩ := id r
    rw [h2] at k1
    dsimp only at k1
    split at k1
    · rename_i q
      obtain ⟨rfl, q⟩ := q
      refine ⟨_, h1, a, _, dx, fs, rfl, hK ▸ ha, hc, hn, by rw [hr.length]; exact q, ?_⟩
      have ha' : a ∈ fp1 i := by rw [hf]; exact List.mem_singleton.mpr rfl
      rw [hK] at ha
      have e2 := e1.mut (o := .ins (clsA X.K C') dx (putF f y fs)) (d := .ins C' (putD f d gs)) hO ha' h1 ⟨a, C', dx, _, _, rfl, rfl, by rw [upd_same, hK], RepF.put ry hr, hf⟩
      exact k1 σ _ B1 fp1 (.refl _) e2
    · exact k1.elim⟩

/-! ### methods of the text -/
variable {k : Nat} {f : Addr} {fd : FuncData} {ps : List Str} {pt : List OT} {rt : OT} {m : FM} {x mn C : Str} {p pos apos : Pos} {e o : Expr} {es : List Expr} {ai : List (Option Nat)} {fa : FA} {fo : FE}
def fMeth (C mn : Str) (m : FM) (ai : List (Option Nat)) (fo : FE) (fa : FA) : FE := fun ρ => (fo ρ).bind fun d ρ1 => match d with
  | .ins n gs => if n = C ∧ (gs.lookup mn).isNone = true then (fa ρ1).bind fun ds ρ2 => callM m (none :: ai) (.ins n gs :: ds) ρ2 else .no
  | _ => .no
theorem meth_core {σ : L2.St} {H : Hp} {Q : VK} (er : tW c O W rt (fMeth C mn m ai fo fa) σ H Q) (hK : c.K = X.K) (ok : argOk O pt (none :: ai) = true) :
    (tF c O W fo) σ H fun x H1 => ∃ a dx fs, x = .ref a ∧ H1 a = some (.ins (clsA X.K C) dx fs) ∧ fs.lookup mn = none ∧ (tAo c O W ai fa) σ H1 fun vs H2 => spF X.K pt rt m (x :: vs) H2 Q (WE W σ) := by
  obtain ⟨B, fp, ρ, er, kk⟩ := er
  refine ⟨B, fp, ρ, er, (RG.bind kk).mp fun d ρ1 H1 B1 fp1 s1 e1 k1 v rv => ?_⟩
  cases rv with
  | @ins a dx n fs gs h1 h2 =>
    dsimp only at k1
    split at k1
    · rename_i q
      obtain ⟨rfl, q2⟩ := q
      refine ⟨a, dx, fs, rfl, hK ▸ e1.bh _ _ h1, h2.lookN (by simpa using q2), B1, fp1, ρ1, e1, (RG.bind k1).mp fun ds ρ2 H2 B2 fp2 s2 e2 k3 vs ra => ?_⟩
      rw [← hK]
      exact sp_call e2 (.dat ((Rep.ins h1 h2).up s2) ra) ok k3
    · exact k1.elim
  | _ => exact k1.elim
theorem w_meth {pl : Sem Bool} (ho : PE X o (tF c O W fo)) (hc : Cls X.K (clsA X.K C)) (hm : Meth X.K (clsA X.K C) mn f) (Fn : FnOk X.prog X.w X.K X.mg X.base (L2.CX X.prog X.w) k f fd ps (spF X.K pt rt m)) (hr : Room k X.A) (tk : Takes X W) (hb : Binds X.K fd ps []) (ha : PA X (e :: es) (tAo c O W ai fa))
    (ok : argOk O pt (none :: ai) = true := by rfl) (hK : c.K = X.K := by rfl) (hst : starEach (e :: es) X.env = (false, eval e X.env) :: starEach es X.env := by rfl) (hpl : (backTo pos (starEach es X.env)).any (·.1) = false := by rfl)
    (ht : eval (.Call (.Attribute o mn apos) (e :: es) [] pos) X.env = (do
      let ov ← eval o X.env
      standAt apos.atName
      let (f, first) ← holding [ov] (getMethod ov mn pl)
      callWith pos f first (backTo pos (starEach (e :: es) X.env)) (backToKw pos (keywordEach [] X.env))) := by rfl) :
    PE X (.Call (.Attribute o mn apos) (e :: es) [] pos) (tW c O W rt (fMeth C mn m ai fo fa)) := by
  refine ⟨fun pins s σ H Q I h => ?_⟩
  have h := meth_core (X := X) h hK ok
  refine PySem.W.methodCall_KW (pl := pl) (thn (ho.run pins s σ H _ I h) fun u s1 ⟨x, H1, I1, rx, a, dx, fs, ex, ea, l, q⟩ => ?_) ht
  subst ex
  obtain rfl : u = Value.ref a := rx
  refine getmeth_ok I1 ea hc hm l ?_
  refine PySem.W.callWith_K (first := [.ref a]) (h₀ := X.base) I.ok.mod.kin hm.kp (thn (ha.run pos pins s1 σ H1 _ I1 q) fun us s2 ⟨vs, H2, I2, r, q2⟩ => ⟨I2.kIn, ?_⟩) hst hpl
  exact run_fnS0 (us := .ref a :: us) (vs := .ref a :: vs) Fn hr hb (L2.passAt tk σ) I2 (.cons rfl r) q2
theorem w_meth0 {pl : Sem Bool} (ho : PE X o (tF c O W fo)) (hc : Cls X.K (clsA X.K C)) (hm : Meth X.K (clsA X.K C) mn f) (Fn : FnOk X.prog X.w X.K X.mg X.base (L2.CX X.prog X.w) k f fd ps (spF X.K pt rt m)) (hr : Room k X.A) (tk : Takes X W) (hb : Binds X.K fd ps [])
    (ok : argOk O pt [none] = true := by rfl) (hK : c.K = X.K := by rfl)
    (ht : eval (.Call (.Attribute o mn apos) [] [] pos) X.env = (do
      let ov ← eval o X.env
      standAt apos.atName
      let (f, first) ← holding [ov] (getMethod ov mn pl)
      callWith pos f first (backTo pos (starEach [] X.env)) (backToKw pos (keywordEach [] X.env))) := by rfl) :
    PE X (.Call (.Attribute o mn apos) [] [] pos) (tW c O W rt (fMeth C mn m [] fo faN)) := by
  refine ⟨fun pins s σ H Q I h => ?_⟩
  have h := meth_core (X := X) h hK ok
  refine PySem.W.methodCall_KW (pl := pl) (thn (ho.run pins s σ H _ I h) fun u s1 ⟨x, H1, I1, rx, a, dx, fs, ex, ea, l, q⟩ => ?_) ht
  subst ex
  obtain rfl : u = Value.ref a := rx
  refine getmeth_ok I1 ea hc hm l ?_
  obtain ⟨B, fp, ρ, er, g⟩ := q
  exact PySem.W.callWith_K0 (first := [.ref a]) I1.kIn hm.kp (run_fnS0 (us := [.ref a]) (vs := [.ref a]) Fn hr hb (L2.passAt tk σ) I1 (.cons rfl .nil) (g H1 B fp (.refl _) er [] .nil))
/-- o(..), o an instance whose class has __call__ -/
def fCallI (C : Str) (m : FM) (ai : List (Option Nat)) (fo : FE) (fa : FA) : FE := fun ρ => (fo ρ).bind fun d ρ1 => match d with
  | .ins n gs => if n = C then (fa ρ1).bind fun ds ρ2 => callM m (none :: ai) (.ins n gs :: ds) ρ2 else .no
  | _ => .no
end
end L3

namespace L3
open PySem PySem.Spec PyProof.Rows L2

section
variable {X : Cx} {c : Cst} {O : Oo} {W : WX}
variable {k : Nat} {f : Addr} {fd : FuncData} {ps : List Str} {pt : List OT} {rt : OT} {m : FM} {x mn C : Str} {p pos apos : Pos} {e o : Expr} {es : List Expr} {ai : List (Option Nat)} {fa : FA} {fo : FE}
theorem w_callI (ho : PE X o (tF c O W fo)) (hc : StX.CallO X.K (clsA X.K C) f) (Fn : FnOk X.prog X.w X.K X.mg X.base (L2.CX X.prog X.w) k f fd ps (spF X.K pt rt m)) (hr : Room k X.A) (tk : Takes X W) (hb : Binds X.K fd ps []) (ha : PA X (e :: es) (tAo c O W ai fa))
    (ok : argOk O pt (none :: ai) = true := by rfl) (hK : c.K = X.K := by rfl)
    (ht : eval (.Call o (e :: es) [] pos) X.env = (do callWith pos (← eval o X.env) [] (backTo pos (starEach (e :: es) X.env)) (backToKw pos (keywordEach [] X.env))) := by rfl)
    (he : starEach (e :: es) X.env = (false, eval e X.env) :: starEach es X.env := by rfl) (hpl : (backTo pos (starEach es X.env)).any (·.1) = false := by rfl) :
    PE X (.Call o (e :: es) [] pos) (tW c O W rt (fCallI C m ai fo fa)) := by
  refine ⟨fun pins s σ H Q I h => ?_⟩
  obtain ⟨B, fp, ρ, er, kk⟩ := h
  have h1 : (tF c O W fo) σ H fun x H1 => ∃ a dx fs, x = .ref a ∧ H1 a = some (.ins (clsA X.K C) dx fs) ∧ (tAo c O W ai fa) σ H1 fun vs H2 => H2 a = some (.ins (clsA X.K C) dx fs) ∧ spF X.K pt rt m (x :: vs) H2 Q (WE W σ) := by
    refine ⟨B, fp, ρ, er, (RG.bind kk).mp fun d ρ1 H1 B1 fp1 s1 e1 k1 v rv => ?_⟩
    cases rv with
    | @ins a dx n fs gs h1 h2 =>
      dsimp only at k1
      split at k1
      · rename_i q
        subst q
        refine ⟨a, dx, fs, rfl, hK ▸ e1.bh _ _ h1, B1, fp1, ρ1, e1, (RG.bind k1).mp fun ds ρ2 H2 B2 fp2 s2 e2 k3 vs ra => ⟨hK ▸ e2.bh _ _ (s2 _ _ h1), ?_⟩⟩
        rw [← hK]
        exact sp_call e2 (.dat ((Rep.ins h1 h2).up s2) ra) ok k3
      · exact k1.elim
    | _ => exact k1.elim
  refine Call_ (thn (ho.run pins s σ H _ I h1) fun u s1 ⟨y, H1, I1, ry, a, dx, fs, ey, ea, q⟩ => ?_) ht
  subst ey
  obtain rfl : u = Value.ref a := ry
  refine StX.callO_with (thn (ha.run pos pins s1 σ H1 _ I1 q) fun us s2 ⟨vs, H2, I2, r, hi, q2⟩ => ?_) he hpl
  obtain ⟨ox, od, J, hd⟩ := StX.insC_at I2 (.inr ⟨dx, fs, hi⟩)
  refine ⟨⟨_, ox, od, J, hd⟩, ?_⟩
  have hl : (Value.ref a :: us).length = ps.length := by
    have e0 := Fn.len _ _ _ _ q2
    rw [← e0, List.length_cons, List.length_cons, r.length]
  have hb' := hb s2 (Value.ref a :: us) I2.kIn (by rw [List.append_nil]; exact hl)
  rw [List.append_nil] at hb'
  refine wpAny_call (PySem.W.kco_code I2.kIn J hd hc.at_ hc.fn hc.fi (codeAny_mono (Fn.run X.A X.stack s2 H2 ⟨.ref a :: us, []⟩ (.ref a :: us) (.ref a :: vs) Q (WE W σ) hr I2.env0 hb' (.cons rfl r) q2) fun r' s' hq => ?_))
  cases r' with
  | error e => exact L2.passAt tk σ pins H2 s2 e s' I2 hq
  | ok fl =>
    cases fl with
    | ret u => exact I2.after hq
    | next => exact False.elim hq
    | brk => exact False.elim hq
    | cont => exact False.elim hq

/-! ### an instance is made -/
def fMakeM (C : Str) (m : FM) (ds : List D) (ρ : E) : R D := match m (.ins C [] :: ds) with
  | .ok .non (some d :: _) => .ok d ρ
  | .ex e _ => .ex e ρ
  | _ => .no
def fMake (C : Str) (m : FM) (g : List D → Option (List D)) (fa : FA) : FE := fun ρ => (fa ρ).bind fun ds ρ1 => match g ds with
  | some es => fMakeM C m es ρ1
  | none => .no
section
open Classical
variable {B H : Hp} {fp : Fp} {σ : L2.St} {ρ : E}
theorem repL_at' {K : PySem.W.Frag} {vs : List V} {ds : List D} (r : RepL K B vs ds) {i : Nat} {t : D} (h : ds[i]? = some t) : ∃ v, vs[i]? = some v ∧ Rep K B v t := r.get h
/-- __init__'s promise at the new instance -/
theorem sp_make {vs : List V} {ds : List D} {Q : VK} {n : Nat} (er : ER c O B H fp σ ρ) (rs : RepL c.K B vs ds) (hn : pt = .oi :: List.replicate n .fz) (hl : ds.length = n)
    (h : RG c O W σ B (fMakeM C m ds ρ) (fun d _ H' B' fp' => ∀ v g, OR c.K B' H' .oi v d g → Fresh c B' fp' g → Q v H')) {x dx : Addr} (hx : H x = none) (hdx : H dx = none) (hne : dx ≠ x) :
    spF c.K pt .fz m (.ref x :: vs) (upd (upd H dx (.own x)) x (.ins (clsA c.K C) dx [])) (fun v H2 => v = .non ∧ Q (.ref x) H2) (WE W σ) := by
  let H2 : Hp := upd (upd H dx (.own x)) x (.ins (clsA c.K C) dx [])
  let F2 : Hp := fun b => if B b ≠ none ∨ b = x then none else H2 b
  have sH : Same H H2 := fun b o e => by
    show upd (upd H dx (.own x)) x _ b = _
    rw [upd_ne (ne_of_none e hx), upd_ne (ne_of_none e hdx)]; exact e
  have bx : B x = none := er.bh.free hx
  have hxx : H2 x = some (.ins (clsA c.K C) dx []) := upd_same
  have lv : vs.length = n := by rw [rs.length, hl]
  have ptl : pt.length = n + 1 := by rw [hn]; simp
  have fx : ∀ a, F2 a = none → a ≠ x → B a = none → H2 a = none := fun a q1 q2 q3 => by
    have : (if B a ≠ none ∨ a = x then none else H2 a) = none := q1
    rw [if_neg (by rintro (z | z); exact z q3; exact q2 z)] at this
    exact this
  have cF2 : ∀ b o, c.F b = some o → F2 b = some o := fun b o q => by
    have q1 : B b = none := by
      cases z : B b with
      | none => rfl
      | some u => rw [er.bf b (by rw [z]; exact fun y => nomatch y)] at q; cases q
    have q2 : b ≠ x := fun z => by rw [z, er.fh.free hx] at q; cases q
    show (if B b ≠ none ∨ b = x then none else H2 b) = _
    rw [if_neg (by rintro (z | z); exact z q1; exact q2 z)]
    exact sH b o (er.fh b o q)
  have e2 : ER (cOf c.K F2 B pt (.ref x :: vs)) (pt.map some) B H2 (fun j => if j = 0 then [x] else []) ((V.ref x :: vs).map some) ((D.ins C [] :: ds).map some) := by
    refine ⟨er.bh.trans sH, fun b o q => ?_, .refl _, fun b hb => ?_, by simp [lv, hl], fun j t h => ?_, fun j h => ?_, fun j a ha => ?_, fun j => ?_, fun j k' a ha hb => ?_, fun j hj => ?_⟩
    · have q' : (if B b ≠ none ∨ b = x then none else H2 b) = some o := q
      split at q'
      · cases q'
      · exact q'
    · show (if B b ≠ none ∨ b = x then none else H2 b) = none
      rw [if_pos (.inl hb)]
    · cases j with
      | zero =>
        rw [hn] at h; simp at h; subst h
        exact ⟨_, _, rfl, rfl, x, C, dx, [], [], rfl, rfl, hxx, .nil, rfl⟩
      | succ j =>
        rw [hn] at h
        simp only [List.map_cons, List.getElem?_cons_succ, List.map_replicate, List.getElem?_replicate] at h
        split at h
        · rename_i hj
          cases h
          obtain ⟨v, q1, q2⟩ := rs.get (List.getElem?_eq_getElem (show j < ds.length by omega))
          exact ⟨v, _, by simp [q1], by simp [List.getElem?_eq_getElem (show j < ds.length by omega)], q2, rfl⟩
        · cases h
    · cases j with
      | zero => exact absurd (show (pt.map some)[0]? = some (some OT.oi) by rw [hn]; rfl) (h .oi)
      | succ j => rfl
    · cases j with
      | zero =>
        have : a = x := by simpa using ha
        subst this
        exact ⟨bx, by show (if B a ≠ none ∨ a = a then none else H2 a) = none; rw [if_pos (.inr rfl)]⟩
      | succ j => simp at ha
    · cases j with
      | zero => simp
      | succ j => simp
    · cases j with
      | zero => cases k' with
        | zero => rfl
        | succ k' => simp at hb
      | succ j => simp at ha
    · obtain ⟨_, t, h3, h4⟩ := mem_pinL hj
      rw [hn] at h3
      cases j with
      | zero => rfl
      | succ j =>
        simp only [Nat.sub_zero, List.getElem?_cons_succ, List.getElem?_replicate] at h3
        split at h3
        · cases h3; exact absurd rfl h4
        · cases h3
  refine ⟨F2, B, _, _, by simp [lv, ptl], e2, ?_⟩
  -- behind __init__
  have back : ∀ {H' B' : Hp} {fp' : Fp} {ρo : E}, Same B B' → ER (cOf c.K F2 B pt (.ref x :: vs)) (rOof pt) B' H' fp' ((V.ref x :: vs).map some) ρo →
      ER c O B' H' fp σ ρ ∧ ∃ d, ρo[0]? = some (some d) ∧ OR c.K B' H' .oi (.ref x) d (fp' 0) ∧ Fresh c B' fp (fp' 0) := fun {H' B' fp' ρo} s e' => by
    have r0 : (rOof pt)[0]? = some (some OT.oi) := by rw [hn]; rfl
    obtain ⟨v, d, q1, q2, r⟩ := e'.slot 0 .oi r0
    have : v = .ref x := by simpa using q1.symm
    subst this
    have out : ∀ b o, H b = some o → B b = none → H' b = some o ∧ B' b = none ∧ ∀ j, b ∉ fp' j := fun b o q1 q2 => by
      have q3 : b ≠ x := ne_of_none q1 hx
      have q4 : F2 b = some o := by
        show (if B b ≠ none ∨ b = x then none else H2 b) = _
        rw [if_neg (by rintro (z | z); exact z q2; exact q3 z)]
        exact sH b o q1
      refine ⟨e'.fh b o q4, ?_, fun j hj => ?_⟩
      · cases z : B' b with
        | none => rfl
        | some u =>
          have q5 : F2 b = none := e'.bf b (by rw [z]; exact fun y => nomatch y)
          rw [q4] at q5; cases q5
      · have q5 : F2 b = none := (e'.fpb j b hj).2
        rw [q4] at q5; cases q5
    have notF : ∀ b, F2 b = none → c.F b = none := fun b q => by
      cases z : c.F b with
      | none => rfl
      | some o => rw [cF2 b o z] at q; cases q
    refine ⟨⟨e'.bh, fun b o q => e'.fh b o (cF2 b o q), er.b0.trans s, fun b hb => notF b (e'.bf b hb), er.len, fun i t h => ?_, er.nofp, fun i a ha => ?_, er.nd, er.dis, er.pins⟩, d, q2, r, e'.nd 0, fun a ha => (e'.fpb 0 a ha).1, fun a ha => notF a (e'.fpb 0 a ha).2, fun a ha i hi => ?_⟩
    · obtain ⟨v, d, h1, h2, r⟩ := er.slot i t h
      refine ⟨v, d, h1, h2, OR.mono s t (fun a ha => ?_) r⟩
      obtain ⟨o, ho⟩ := ne_some_of (er.has ha)
      rw [(out a o ho (er.fpb i a ha).1).1, ho]
    · obtain ⟨o, ho⟩ := ne_some_of (er.has ha)
      exact ⟨(out a o ho (er.fpb i a ha).1).2.1, (er.fpb i a ha).2⟩
    · obtain ⟨o, ho⟩ := ne_some_of (er.has hi)
      exact (out a o ho (er.fpb i a hi).1).2.2 0 ha
  cases hm : m (.ins C [] :: ds) with
  | ok d ρo =>
    have hh : RG c O W σ B (fMakeM C m ds ρ) (fun d _ H' B' fp' => ∀ v g, OR c.K B' H' .oi v d g → Fresh c B' fp' g → Q v H') := h
    unfold fMakeM at hh
    rw [hm] at hh
    intro v H' B' fp' g s e' r F
    obtain ⟨e3, d', q2, r', F'⟩ := back s e'
    cases ρo with
    | nil => cases q2
    | cons y ys =>
      have : y = some d' := by simpa using q2
      subst this
      cases d with
      | non =>
        obtain ⟨r1, _⟩ := r
        cases r1
        exact ⟨rfl, hh H' B' fp s e3 _ _ r' F'⟩
      | _ => exact hh.elim
  | ex e ρo =>
    have hh : RG c O W σ B (fMakeM C m ds ρ) (fun d _ H' B' fp' => ∀ v g, OR c.K B' H' .oi v d g → Fresh c B' fp' g → Q v H') := h
    unfold fMakeM at hh
    rw [hm] at hh
    intro cls dd H' B' fp' s e' xr
    exact hh cls dd H' B' fp s (back s e').1 xr
  | no =>
    unfold fMakeM at h
    rw [hm] at h
    exact h.elim
end
end
end L3

namespace L3
open PySem PySem.Spec PyProof.Rows L2

section
variable {X : Cx} {c : Cst} {O : Oo} {W : WX}
variable {k n : Nat} {f : Addr} {fd : FuncData} {ps ks : List Str} {pt : List OT} {rt : OT} {m : FM} {x mn C : Str} {p pos apos kpos : Pos} {e o : Expr} {es : List Expr} {kws : List Keyword} {ai : List (Option Nat)} {fa fk : FA} {fo fe : FE} {nm : Option Str}
/-! ### keywords -/
theorem k_nil : PK X [] (tA c O W faN) := ⟨fun pos pins s σ H Q I ⟨B, fp, ρ, er, g⟩ => pk_nil.run pos pins s σ H Q I (g H B fp (.refl _) er [] .nil)⟩
theorem k_cons (ha : PE X e (tF c O W fe)) (hr : PK X kws (tA c O W fk)) : PK X (⟨nm, e, kpos⟩ :: kws) (tA c O W (faC fe fk)) :=
  ⟨fun pos pins s σ H Q I ⟨B, fp, ρ, er, k⟩ => (pk_cons ha hr).run pos pins s σ H Q I ⟨B, fp, ρ, er, (RG.bind k).mp fun dx ρ1 H1 B1 fp1 s1 e1 k1 v rv => ⟨B1, fp1, ρ1, e1, (RG.bind k1).mp fun ds ρ2 H2 B2 fp2 s2 e2 k2 vs rs =>
    k2 H2 B2 fp2 (.refl _) e2 (v :: vs) (.cons (rv.up s2) rs)⟩⟩⟩
/-! ### C(..) -/
theorem run_makeS {pins : List (Addr × Obj)} {σ : L2.St} {H : Hp} {s : Shared} {Q : VK} {us ws : List Value} {vs vf : List V} {uf : List Value} {A : Addr} {kw : List (Str × Value)} {sp : Sp} {Ex : XK} (M : Mk X.K A f) (F : FnOk X.prog X.w X.K X.mg X.base (L2.CX X.prog X.w) k f fd ps sp) (hr : Room (k + 1) X.A)
    (hb : ∀ (s : Shared) (a : Value), X.K.In s.heap → BindsTo s fd ⟨a :: us, kw⟩ (ps.zip (a :: uf))) (hx : PassesAt (L2.CX X.prog X.w) X σ Ex) (I : Inv X pins σ H s) (r : Vals vf uf)
    (h : ∀ x dx, H x = none → H dx = none → dx ≠ x → sp (.ref x :: vf) (upd (upd H dx (.own x)) x (.ins A dx [])) (fun v H2 => v = .non ∧ Q (.ref x) H2) Ex) :
    wpAny (model X.prog X.w) X.A (call (.ref A) us kw) (EP X pins σ Q) X.xe s := by
  have hq := h (s.heap.objs.size + 1) s.heap.objs.size (I.hok.fresh (Nat.le_succ _)) (I.hok.fresh (Nat.le_refl _)) (Nat.ne_of_lt (Nat.lt_succ_self _))
  have I2 := Inv.made (C := A) I
  have r2 : Vals (V.ref (s.heap.objs.size + 1) :: vf) (Value.ref (s.heap.objs.size + 1) :: uf) := .cons rfl r
  refine wpAny_call (make_map (f := f) I.kIn M.makes M.init (beq_iff_eq.mp M.fn) (codeAny_mono (F.run _ X.stack _ _ ⟨Value.ref (s.heap.objs.size + 1) :: us, kw⟩ (Value.ref (s.heap.objs.size + 1) :: uf) _ _ Ex (hr.make A us kw)
    (I2.env0.make A us kw) (hb _ _ I2.kIn) r2 hq) fun r s' hq' => ?_))
  cases r with
  | error e => exact hx pins _ _ e s' I2 hq'
  | ok fl =>
    cases fl with
    | ret u =>
      obtain ⟨v, H', I3, rv, ev, q3⟩ := I2.after hq'
      subst ev
      exact ⟨rv, ⟨V.ref (s.heap.objs.size + 1), H', I3, rfl, q3⟩⟩
    | next => exact False.elim hq'
    | brk => exact False.elim hq'
    | cont => exact False.elim hq'
/-- the written values and the defaults -/
def withD (dds : List D) (n : Nat) (ds : List D) : Option (List D) := if (ds ++ dds).length = n then some (ds ++ dds) else none
/-- C(e, ..); dvs: the defaults that fill up -/
theorem w_make {dvs : List V} {dus : List Value} {dds : List D} (M : Mk X.K (clsA X.K C) f) (Fn : FnOk X.prog X.w X.K X.mg X.base (L2.CX X.prog X.w) k f fd ps (spF X.K pt .fz m)) (hr : Room (k + 1) X.A) (tk : Takes X W) (hm : X.mg x = some (.ref (clsA X.K C))) (hb : Binds X.K fd ps dus) (hd : Vals dvs dus) (hdd : ∀ B, RepL c.K B dvs dds)
    (ha : PA X (e :: es) (tA c O W fa)) (hn : pt = .oi :: List.replicate n .fz) (hg : Gl X x := by rfl) (hK : c.K = X.K := by rfl) (hdb : (x == ("__debug__" : Str)) = false := by decide) (he : starEach (e :: es) X.env = (false, eval e X.env) :: starEach es X.env := by rfl) (hpl : (backTo pos (starEach es X.env)).any (·.1) = false := by rfl) :
    PE X (.Call (.Name x p) (e :: es) [] pos) (tW c O W .oi (fMake C m (withD dds n) fa)) := by
  refine ⟨fun pins s σ H Q I h => ?_⟩
  obtain ⟨B, fp, ρ, er, kk⟩ := h
  have h1 : (tA c O W fa) σ H fun vs H1 => ∀ x dx, H1 x = none → H1 dx = none → dx ≠ x → spF X.K pt .fz m (.ref x :: (vs ++ dvs)) (upd (upd H1 dx (.own x)) x (.ins (clsA X.K C) dx [])) (fun v H2 => v = .non ∧ Q (.ref x) H2) (WE W σ) := by
    refine ⟨B, fp, ρ, er, (RG.bind kk).mp fun ds ρ1 H1 B1 fp1 s1 e1 k1 vs rs a dx ha1 ha2 ha3 => ?_⟩
    dsimp only [withD] at k1
    by_cases q : (ds ++ dds).length = n
    · rw [if_pos q] at k1
      rw [← hK]
      exact sp_make e1 (rs.append (hdd B1)) hn q k1 ha1 ha2 ha3
    · rw [if_neg q] at k1; exact k1.elim
  refine wpAny_Call_Name_kw (ld_glob I hg hm ?_ hdb)
  refine PySem.W.callWith_K (h₀ := X.base) I.ok.mod.kin M.kp (thn (ha.run pos pins s σ H _ I h1) fun us s1 ⟨vs, H1, I1, r, q⟩ => ⟨I1.kIn, ?_⟩) he hpl
  have hl : (us ++ dus).length + 1 = ps.length := by
    have hq := q (s1.heap.objs.size + 1) s1.heap.objs.size (I1.hok.fresh (Nat.le_succ _)) (I1.hok.fresh (Nat.le_refl _)) (Nat.ne_of_lt (Nat.lt_succ_self _))
    have e0 := Fn.len _ _ _ _ hq
    rw [← e0, List.length_cons, (r.append hd).length]
  exact run_makeS (us := us) (uf := us ++ dus) (vf := vs ++ dvs) (ws := []) (vs := vs) M Fn hr (fun s a X' => hb s (a :: us) X' (by simpa using hl)) (L2.passAt tk σ) I1 (r.append hd) q
/-- C(e, .., k = v, ..) -/
def fMakeK (C : Str) (m : FM) (g : List D → List D → Option (List D)) (fa fk : FA) : FE := fun ρ => (fa ρ).bind fun ds ρ1 => (fk ρ1).bind fun zs ρ2 => match g ds zs with
  | some es => fMakeM C m es ρ2
  | none => .no
theorem w_makeK {g : List Value → List Value → List Value} {gV : List V → List V → List V} {gD : List D → List D → Option (List D)} {j : Nat} (M : Mk X.K (clsA X.K C) f) (Fn : FnOk X.prog X.w X.K X.mg X.base (L2.CX X.prog X.w) k f fd ps (spF X.K pt .fz m)) (hr : Room (k + 1) X.A) (tk : Takes X W) (hm : X.mg x = some (.ref (clsA X.K C)))
    (hb : KBn X.K fd ps (j + 1) ks (fun us ws => match us with | a :: us => a :: g us ws | [] => []) (fun us ws => match us with | a :: us => a :: gV us ws | [] => []))
    (hgD : ∀ B vs zs ds es fs, RepL c.K B vs ds → RepL c.K B zs es → gD ds es = some fs → vs.length = j ∧ zs.length = ks.length ∧ fs.length = n ∧ RepL c.K B (gV vs zs) fs)
    (ha : PA X (e :: es) (tA c O W fa)) (hkw : PK X kws (tA c O W fk)) (hn : pt = .oi :: List.replicate n .fz) (hall : (backToKw pos (keywordEach kws X.env)).all (·.1.isSome) = true := by rfl) (hks : (backToKw pos (keywordEach kws X.env)).filterMap (·.1) = ks := by rfl) (hg : Gl X x := by rfl) (hK : c.K = X.K := by rfl) (hdb : (x == ("__debug__" : Str)) = false := by decide)
    (he : starEach (e :: es) X.env = (false, eval e X.env) :: starEach es X.env := by rfl) (hpl : ((backTo pos (starEach (e :: es) X.env)).any (·.1) || (backToKw pos (keywordEach kws X.env)).any (·.1.isNone)) = false := by rfl) :
    PE X (.Call (.Name x p) (e :: es) kws pos) (tW c O W .oi (fMakeK C m gD fa fk)) := by
  refine ⟨fun pins s σ H Q I h => ?_⟩
  obtain ⟨B, fp, ρ, er, kk⟩ := h
  have h1 : (tA c O W fa) σ H fun vs H1 => (tA c O W fk) σ H1 fun zs H2 => vs.length = j ∧ zs.length = ks.length ∧ ∀ x dx, H2 x = none → H2 dx = none → dx ≠ x → spF X.K pt .fz m (.ref x :: gV vs zs) (upd (upd H2 dx (.own x)) x (.ins (clsA X.K C) dx [])) (fun v H3 => v = .non ∧ Q (.ref x) H3) (WE W σ) := by
    refine ⟨B, fp, ρ, er, (RG.bind kk).mp fun ds ρ1 H1 B1 fp1 s1 e1 k1 vs rs => ⟨B1, fp1, ρ1, e1, (RG.bind k1).mp fun zs ρ2 H2 B2 fp2 s2 e2 k2 ws rz => ?_⟩⟩
    cases q : gD ds zs with
    | none => rw [q] at k2; exact k2.elim
    | some fs =>
      rw [q] at k2
      obtain ⟨l1, l2, l3, rr⟩ := hgD B2 vs ws ds zs fs (rs.up s2) rz q
      refine ⟨l1, l2, fun a dx ha1 ha2 ha3 => ?_⟩
      rw [← hK]
      exact sp_make e2 rr hn l3 k2 ha1 ha2 ha3
  refine wpAny_Call_Name_kw (ld_glob I hg hm ?_ hdb)
  refine PySem.W.callWith_KW (h₀ := X.base) I.ok.mod.kin M.kp hall (thn (ha.run pos pins s σ H _ I h1) fun us s1 ⟨vs, H1, I1, r, q⟩ => ?_) hpl he
  refine thn (hkw.run pos pins s1 σ H1 _ I1 q) fun ws s2 ⟨zs, H2, I2, rz, l1, l2, q2⟩ => ⟨I2.kIn, ?_⟩
  rw [hks]
  have rg : Vals (gV vs zs) (g us ws) := by
    have z := hb.rel (vs := .non :: vs) (us := .none :: us) (.cons rfl r) rz
    cases z with
    | cons _ z => exact z
  exact run_makeS (us := us) (uf := g us ws) (vf := gV vs zs) (ws := ws) (vs := vs) M Fn hr (fun s a X' => hb.to s (a :: us) ws X' (by rw [List.length_cons, ← r.length, l1]) (by rw [← rz.length, l2])) (L2.passAt tk σ) I2 rg q2

/-! ### methods that change an own list -/
def rMu (K : PySem.W.Frag) (g : List D → List D → Option (D × List D)) : V → List V → Hp → VK → Prop := fun x vs H Q => ∃ B l xs ds es d ds', Same B H ∧ B l = none ∧ x = .ref l ∧ H l = some (.lst xs) ∧ RepL K B xs ds ∧ RepL K B vs es ∧ g ds es = some (d, ds') ∧
  ∀ v ys, Rep K B v d → RepL K B ys ds' → Q v (upd H l (.lst ys))
def mutR (i : Nat) (g : List D → List D → Option (D × List D)) (es : List D) (ρ : E) : R D := match ρ[i]? with
  | some (some (.lst ds)) => match g ds es with
    | some (d, ds') => .ok d (ρ.set i (some (.lst ds')))
    | none => .no
  | _ => .no
def fMut (i : Nat) (g : List D → List D → Option (D × List D)) (fa : FA) : FE := fun ρ => (fa ρ).bind fun es ρ1 => mutR i g es ρ1
theorem mut_core {i : Nat} {g : List D → List D → Option (D × List D)} {σ : L2.St} {B H : Hp} {fp : Fp} {ρ : E} {vs : List V} {ds : List D} {v : V} {Q : VK} (hO : O[i]? = some (some (.ow .fz))) (er : ER c O B H fp σ ρ) (hv : σ[i]? = some (some v)) (rs : RepL c.K B vs ds)
    (h : RG c O W σ B (mutR i g ds ρ) (fun d _ H' B' _ => ∀ v, Rep c.K B' v d → Q v H')) : rMu c.K g v vs H Q ∧ ∃ l xs, v = .ref l ∧ H l = some (.lst xs) := by
  obtain ⟨v', d0, h1, h2, r⟩ := er.slot i _ hO
  rw [hv] at h1; cases h1
  obtain ⟨a, xs, ds0, rfl, rfl, ha, rx, hf⟩ := r.list
  unfold mutR at h
  rw [h2] at h
  dsimp only at h
  refine ⟨?_, a, xs, rfl, ha⟩
  cases hg : g ds0 ds with
  | none => rw [hg] at h; exact h.elim
  | some q =>
    obtain ⟨d, ds'⟩ := q
    rw [hg] at h
    have hai : a ∈ fp i := by rw [hf]; exact List.mem_singleton.mpr rfl
    refine ⟨B, a, xs, ds0, ds, d, ds', er.bh, (er.fpb i a hai).1, rfl, ha, rx, rs, hg, fun w ys rw' ry => ?_⟩
    exact h _ B fp (.refl _) (er.mut (o := .lst ys) hO hai hv (by rw [hf]; exact OR.ofList upd_same ry)) w rw'
theorem e_mut {i : Nat} {g : List D → List D → Option (D × List D)} {id : String} {r : V → List V → Hp → VK → Prop} {posn : Pos} {name : Str} (hO : O[i]? = some (some (.ow .fz))) (pa : PlainAttrs "list") (slot : Slot "list" name id) (hty : typeOf (.builtin id) = pure (.type "method_descriptor")) (hm : MtR X id r)
    (hr : ∀ x vs H Q, rMu c.K g x vs H Q → r x vs H Q) (ha : PA X (e :: es) (tA c O W fa)) (hN : X.N[i]? = some x := by rfl) (hv : Vis X.env.scope x := by first | exact Or.inl rfl | exact Or.inr (Or.inl rfl) | exact Or.inr (Or.inr rfl)) (hd : (x == ("__debug__" : Str)) = false := by decide) (hcd : (x == ("__classdict__" : Str)) = false := by decide)
    (hbase : attributeBase (.Name x posn) name X.env (eval (.Name x posn) X.env) = eval (.Name x posn) X.env := by rfl)
    (hfew : ((backTo pos (starEach (e :: es) X.env)).all (fun x => !x.1) && (backToKw pos (keywordEach [] X.env)).all (fun x => x.1.isSome)
      && decide ((e :: es).length + ([] : List Keyword).length + (if ([] : List Keyword).isEmpty then 0 else 1) < 30)) = true := by rfl)
    (hline : (apos.endLine == pos.line) = true := by rfl) (hs : starEach (e :: es) X.env = (false, eval e X.env) :: starEach es X.env := by rfl) (hplain : (backTo pos (starEach es X.env)).any (·.1) = false := by rfl) :
    PE X (.Call (.Attribute (.Name x posn) name apos) (e :: es) [] pos) (tF c O W (fMut i g fa)) :=
  PE.imp (pe_bm pa slot hty hm (pe_var hN hv hd hcd) ha hbase hfew hline hs hplain) fun σ H Q ⟨B, fp, ρ, er, k⟩ => by
    obtain ⟨v, d0, h1, h2, r0⟩ := er.slot i _ hO
    obtain ⟨a, xs, ds0, rfl, rfl, hha, rx, hf⟩ := r0.list
    refine ⟨_, h1, .inl ⟨rfl, _, SqL.of hha⟩, B, fp, ρ, er, (RG.bind k).mp fun ds ρ1 H1 B1 fp1 s1 e1 k1 vs rs => ?_⟩
    exact hr _ _ _ _ (mut_core hO e1 h1 rs k1).1
theorem e_mut0 {i : Nat} {g : List D → List D → Option (D × List D)} {id : String} {r : V → List V → Hp → VK → Prop} {posn : Pos} {name : Str} (hO : O[i]? = some (some (.ow .fz))) (pa : PlainAttrs "list") (slot : Slot "list" name id) (hty : typeOf (.builtin id) = pure (.type "method_descriptor")) (hm : MtR X id r)
    (hr : ∀ x vs H Q, rMu c.K g x vs H Q → r x vs H Q) (hN : X.N[i]? = some x := by rfl) (hv : Vis X.env.scope x := by first | exact Or.inl rfl | exact Or.inr (Or.inl rfl) | exact Or.inr (Or.inr rfl)) (hd : (x == ("__debug__" : Str)) = false := by decide) (hcd : (x == ("__classdict__" : Str)) = false := by decide)
    (hbase : attributeBase (.Name x posn) name X.env (eval (.Name x posn) X.env) = eval (.Name x posn) X.env := by rfl) (hline : (apos.endLine == pos.line) = true := by rfl) :
    PE X (.Call (.Attribute (.Name x posn) name apos) [] [] pos) (tF c O W (fMut i g faN)) :=
  PE.imp (pe_bm0 pa slot hty hm (pe_var hN hv hd hcd) hbase hline) fun σ H Q ⟨B, fp, ρ, er, k⟩ => by
    obtain ⟨v, d0, h1, h2, r0⟩ := er.slot i _ hO
    obtain ⟨a, xs, ds0, rfl, rfl, hha, rx, hf⟩ := r0.list
    exact ⟨_, h1, .inl ⟨rfl, _, SqL.of hha⟩, hr _ _ _ _ (mut_core hO er h1 .nil k).1⟩
/-- x[i] = v, x an own list -/
def setR (i : Nat) (y : D) (z : D) (ρ : E) : RS := match ρ[i]?, y with
  | some (some (.lst ds)), .int j => match ixN ds.length j with
    | some k => .nx (ρ.set i (some (.lst (ds.set k z))))
    | none => .no
  | _, _ => .no
def fSetI (i : Nat) (fi fv : FE) : E → RS := fun ρ => (fv ρ).toS fun z ρ1 => (fi ρ1).toS fun y ρ2 => setR i y z ρ2
theorem s_seti {i : Nat} {Z : Zs} {ix v : Expr} {fi fv : FE} {posn pos' : Pos} (hO : O[i]? = some (some (.ow .fz))) (hv : PE X v (tF c O W fv)) (hi : PE X ix (tF c O W fi)) (hx : leO Z.xO O = true := by rfl) (hN : X.N[i]? = some x := by rfl) (hvi : Vis X.env.scope x := by first | exact Or.inl rfl | exact Or.inr (Or.inl rfl) | exact Or.inr (Or.inr rfl)) (hd : (x == ("__debug__" : Str)) = false := by decide)
    (hcd : (x == ("__classdict__" : Str)) = false := by decide) (hA : ∀ v, assign (.Subscript (.Name x posn) ix pos') X.env v = (do
      let ov ← holding [v] (eval (.Name x posn) X.env)
      let iv ← holding [v, ov] (eval ix X.env)
      standAt pos'
      holding [v, ov, iv] (setItem ov iv v)
      release [v, ov, iv] []) := by intro _; rfl) (hs : swapsWithSole [.Subscript (.Name x posn) ix pos'] v pos.line X.env = pure false := by rfl) (hw : swappedStores [.Subscript (.Name x posn) ix pos'] v X.env = pure none := by rfl)
    (h1 : (assignEach [.Subscript (.Name x posn) ix pos'] X.env).map (·.2) = [assign (.Subscript (.Name x posn) ix pos') X.env] := by rfl) :
    PS X (.Assign [.Subscript (.Name x posn) ix pos'] v pos) (tS c O O Z W (fSetI i fi fv)) :=
  PS.imp (ps_asg hv (pg_sub (pe_var hN hvi hd hcd) hi set_list hA) hs hw h1) fun Dn σ H ⟨B, fp, ρ, er, k⟩ => ⟨B, fp, ρ, er, (RG.toS hx k).mp fun z ρ1 H1 B1 fp1 s1 e1 k1 w rw' => by
    obtain ⟨v0, d0, h1, h2, r0⟩ := e1.slot i _ hO
    refine ⟨v0, h1, B1, fp1, ρ1, e1, (RG.toS hx k1).mp fun y ρ2 H2 B2 fp2 s2 e2 k2 u ru => ?_⟩
    obtain ⟨v', d', h3, h4, r⟩ := e2.slot i _ hO
    rw [h1] at h3; cases h3
    obtain ⟨a, xs, ds0, rfl, rfl, ha, rx, hf⟩ := r.list
    unfold setR at k2
    rw [h4] at k2
    cases ru with
    | int j =>
      dsimp only at k2
      cases q : ixN ds0.length j with
      | none => rw [q] at k2; exact k2.elim
      | some kk =>
        rw [q] at k2
        have hai : a ∈ fp2 i := by rw [hf]; exact List.mem_singleton.mpr rfl
        refine ⟨a, xs, j, kk, rfl, rfl, ha, by rw [rx.length]; exact q, ?_⟩
        exact k2 σ _ B2 fp2 (.refl _) (e2.mut (o := .lst (xs.set kk w)) hO hai h1 (by rw [hf]; exact OR.ofList upd_same (rx.set kk (rw'.up s2))))
    | _ => exact k2.elim⟩

/-! ### looks at an own list -/
def dIx : D → D → Option D
  | .lst ds, .int i => atI ds i
  | .lsk ds, .int i => atI ds i
  | .tup ds, .int i => atI ds i
  | _, _ => none
/-- the own list's data, for a look -/
def peek (i : Nat) (ρ : E) : Option D := match ρ[i]? with
  | some (some (.lst ds)) => some (.lst ds)
  | _ => none
def fIxO (i : Nat) (fb : FE) : FE := fun ρ => (fb ρ).bind fun y ρ1 => lift ((peek i ρ1).bind fun d => dIx d y) ρ1
theorem repL_atI {K : PySem.W.Frag} {B : Hp} {vs : List V} {ds : List D} (r : RepL K B vs ds) {i : Int} {d : D} (h : atI ds i = some d) : ∃ v, atI vs i = some v ∧ Rep K B v d := by
  unfold atI at h ⊢
  cases q : ixN ds.length i with
  | none => rw [q] at h; cases h
  | some j =>
    rw [q] at h
    obtain ⟨v, h1, h2⟩ := r.get h
    refine ⟨v, ?_, h2⟩
    rw [r.length, q]; exact h1
theorem e_ixO {i : Nat} {b : Expr} {fb : FE} {posn : Pos} (hO : O[i]? = some (some (.ow .fz))) (hb : PE X b (tF c O W fb)) (hN : X.N[i]? = some x := by rfl) (hv : Vis X.env.scope x := by first | exact Or.inl rfl | exact Or.inr (Or.inl rfl) | exact Or.inr (Or.inr rfl)) (hd : (x == ("__debug__" : Str)) = false := by decide) (hcd : (x == ("__classdict__" : Str)) = false := by decide)
    (hs : PlainIx b := by exact fun _ _ => rfl) : PE X (.Subscript (.Name x posn) b pos) (tF c O W (fIxO i fb)) :=
  PE.imp (pe_ix ix_list (pe_var hN hv hd hcd) hb hs) fun σ H Q ⟨B, fp, ρ, er, k⟩ => by
    obtain ⟨v, d0, h1, h2, r0⟩ := er.slot i _ hO
    refine ⟨v, h1, B, fp, ρ, er, (RG.bind k).mp fun y ρ1 H1 B1 fp1 s1 e1 k1 u ru => ?_⟩
    obtain ⟨d, hd, k3⟩ := RG.lift k1
    obtain ⟨v', d', h3, h4, r⟩ := e1.slot i _ hO
    rw [h1] at h3; cases h3
    obtain ⟨a, xs, ds0, rfl, rfl, ha, rx, hf⟩ := r.list
    unfold peek at hd
    rw [h4] at hd
    simp only [Option.bind_some] at hd
    cases ru with
    | int j =>
      obtain ⟨w, q1, q2⟩ := repL_atI rx hd
      exact ⟨a, xs, j, w, rfl, rfl, SqL.of ha, q1, k3 H1 B1 fp1 (.refl _) e1 w q2⟩
    | _ => cases hd
/-- data without a heap -/
def atom : D → Bool
  | .non => true | .bl _ => true | .int _ => true | .str _ => true | .ty _ => true | _ => false
theorem atom_rep {K : PySem.W.Frag} {B B' : Hp} {v : V} {d : D} (h : atom d = true) (r : Rep K B v d) : Rep K B' v d := by
  cases r <;> first | (cases h; done) | constructor
/-- e in x, e not in x, x an own list: an answer without a heap -/
def f2O (g : D → D → Option D) (fa : FE) (i : Nat) : FE := fun ρ => (fa ρ).bind fun x ρ1 => lift ((peek i ρ1).bind fun d => g x d) ρ1
theorem peek_rep {i : Nat} {B H : Hp} {fp : Fp} {σ : L2.St} {ρ : E} (hO : O[i]? = some (some (.ow .fz))) (er : ER c O B H fp σ ρ) : ∃ v d, σ[i]? = some (some v) ∧ peek i ρ = some d ∧ Rep c.K (takeIn B H (fp i)) v d ∧ Same B (takeIn B H (fp i)) ∧ Same (takeIn B H (fp i)) H := by
  obtain ⟨v, d, h1, h2, r⟩ := er.slot i _ hO
  have sb : Same B (takeIn B H (fp i)) := takeIn_same fun a ha => (er.fpb i a ha).1
  obtain ⟨a, xs, ds0, rfl, rfl, ha, rx, hf⟩ := id r.list
  refine ⟨_, _, h1, by unfold peek; rw [h2], OR.freeze sb _ (fun a ha o q => by rw [takeIn_in ha]; exact q) r, sb, fun b o q => ?_⟩
  by_cases z : b ∈ fp i
  · rw [takeIn_in z] at q; exact q
  · rw [takeIn_out z] at q; exact er.bh b o q
theorem cmpO_core {i : Nat} {r : R2} {g : D → D → Option D} {fa : FE} {σ : L2.St} {H : Hp} {Q : VK} (hO : O[i]? = some (some (.ow .fz))) (hr : ∀ x y H Q, rD c.K g x y H Q → r x y H Q) (ha : ∀ x y d, g x y = some d → atom d = true) (h : tF c O W (f2O g fa i) σ H Q) : tOp r (tF c O W fa) (tVar i) σ H Q := by
  obtain ⟨B, fp, ρ, er, k⟩ := h
  refine ⟨B, fp, ρ, er, (RG.bind k).mp fun x ρ1 H1 B1 fp1 s1 e1 k1 u ru => ?_⟩
  obtain ⟨d, hd, k3⟩ := RG.lift k1
  obtain ⟨v, dl, h1, h2, r', sb, sh⟩ := peek_rep hO e1
  rw [h2] at hd
  simp only [Option.bind_some] at hd
  refine ⟨v, h1, hr _ _ _ _ ⟨_, x, dl, d, sh, ru.up sb, r', hd, fun w H' B' gr rw' => ?_⟩⟩
  exact k3 H' B1 fp1 (.refl _) (e1.forget gr.hh) w (atom_rep (ha _ _ _ hd) rw')
theorem e_cmpO {i : Nat} {op : CmpOp} {r : R2} {g : D → D → Option D} {a : Expr} {fa : FE} {posn : Pos} (hO : O[i]? = some (some (.ow .fz))) (ho : OpR X (compareOp op) r) (hr : ∀ x y H Q, rD c.K g x y H Q → r x y H Q) (hat : ∀ x y d, g x y = some d → atom d = true) (ha : PE X a (tF c O W fa)) (hm : behindInMarks op (.Name x posn) = false := by rfl)
    (hN : X.N[i]? = some x := by rfl) (hv : Vis X.env.scope x := by first | exact Or.inl rfl | exact Or.inr (Or.inl rfl) | exact Or.inr (Or.inr rfl)) (hd : (x == ("__debug__" : Str)) = false := by decide) (hcd : (x == ("__classdict__" : Str)) = false := by decide) :
    PE X (.Compare a [op] [.Name x posn] pos) (tF c O W (f2O g fa i)) := PE.imp (pe_cmpR ho ha (pe_var hN hv hd hcd) hm) fun _ _ _ h => cmpO_core hO hr hat h
theorem t_cmpO {i : Nat} {op : CmpOp} {r : R2} {g : D → D → Option D} {a : Expr} {fa : FE} {posn : Pos} (hO : O[i]? = some (some (.ow .fz))) (ho : OpR X (compareOp op) r) (hr : ∀ x y H Q, rD c.K g x y H Q → r x y H Q) (hat : ∀ x y d, g x y = some d → atom d = true) (ha : PE X a (tF c O W fa)) (hm : behindInMarks op (.Name x posn) = false := by rfl)
    (hN : X.N[i]? = some x := by rfl) (hv : Vis X.env.scope x := by first | exact Or.inl rfl | exact Or.inr (Or.inl rfl) | exact Or.inr (Or.inr rfl)) (hd : (x == ("__debug__" : Str)) = false := by decide) (hcd : (x == ("__classdict__" : Str)) = false := by decide) :
    PT X (.Compare a [op] [.Name x posn] pos) (tT c O W (ftB (f2O g fa i))) := PT.imp (pt_cmpR ho ha (pe_var hN hv hd hcd) hm) fun σ H Q ⟨B, fp, ρ, er, k⟩ => by
  refine cmpO_core hO hr hat ⟨B, fp, ρ, er, (RG.bind k).mp fun d ρ1 H1 B1 fp1 s1 e1 k1 v rv => ?_⟩
  obtain ⟨b, hb, k3⟩ := RG.lift k1
  exact ⟨b, toB_rep rv hb, k3 H1 B1 fp1 (.refl _) e1⟩
/-- len(x), x an own list -/
def f1O (g : D → Option D) (i : Nat) : FE := fun ρ => lift ((peek i ρ).bind g) ρ
def dLen : List D → Option D
  | [.lst ds] => some (.int ds.length)
  | [.lsk ds] => some (.int ds.length)
  | [.tup ds] => some (.int ds.length)
  | [.str z] => if z.length ≤ sizeLine then some (.int z.length) else none
  | _ => none
theorem e_lenO {i : Nat} {pn posn : Pos} (hO : O[i]? = some (some (.ow .fz))) (hm : X.mg "len" = none) (hg : Gl X "len" := by rfl) (hN : X.N[i]? = some x := by rfl) (hv : Vis X.env.scope x := by first | exact Or.inl rfl | exact Or.inr (Or.inl rfl) | exact Or.inr (Or.inr rfl)) (hd : (x == ("__debug__" : Str)) = false := by decide) (hcd : (x == ("__classdict__" : Str)) = false := by decide)
    (hs : starEach [.Name x posn] X.env = (false, eval (.Name x posn) X.env) :: starEach [] X.env := by rfl) : PE X (.Call (.Name "len" pn) [.Name x posn] [] pos) (tF c O W (f1O (fun d => dLen [d]) i)) :=
  PE.imp (pe_callB call_len_seq hg hm PySem.boot_len (pa_cons (pe_var hN hv hd hcd) pa_nil)) fun σ H Q ⟨B, fp, ρ, er, k⟩ => by
    obtain ⟨d, hd, k3⟩ := RG.lift k
    obtain ⟨v, d0, h1, h2, r⟩ := er.slot i _ hO
    obtain ⟨a, xs, ds0, rfl, rfl, ha, rx, hf⟩ := r.list
    unfold peek at hd
    rw [h2] at hd
    simp only [Option.bind_some, dLen] at hd
    cases hd
    refine ⟨_, h1, a, xs, rfl, .inl (SqL.of ha), ?_⟩
    rw [rx.length]
    exact k3 H B fp (.refl _) er _ (.int _)
end
end L3

namespace L3
open PySem PySem.Spec PyProof.Rows L2

/-! ### list comprehensions -/
abbrev W0 : WX := fun _ _ _ _ => False
def wipeE (ρ : E) : List Nat → E
  | [] => ρ
  | v :: vs => (wipeE ρ vs).set v none
def wipeO (O : Oo) : List Nat → Oo
  | [] => O
  | v :: vs => (wipeO O vs).set v none
theorem set_none_at {α : Type} {l : List (Option α)} {v i : Nat} {x : α} (h : (l.set v none)[i]? = some (some x)) : l[i]? = some (some x) ∧ i ≠ v := by
  by_cases hv : v = i
  · subst hv
    by_cases hl : v < l.length
    · rw [List.getElem?_set_self hl] at h; cases h
    · rw [List.getElem?_eq_none (by simpa using hl)] at h; cases h
  · rw [List.getElem?_set_ne hv] at h
    exact ⟨h, fun z => hv z.symm⟩
theorem wipeO_at {O : Oo} : ∀ {vs : List Nat} {i : Nat} {t : OT}, (wipeO O vs)[i]? = some (some t) → O[i]? = some (some t) ∧ i ∉ vs
  | [], i, t, h => ⟨h, by simp⟩
  | v :: vs, i, t, h => by
    obtain ⟨h1, h2⟩ := set_none_at h
    obtain ⟨h3, h4⟩ := wipeO_at h1
    exact ⟨h3, by simp only [List.mem_cons, not_or]; exact ⟨h2, h4⟩⟩
theorem wipeE_length (ρ : E) : ∀ vs : List Nat, (wipeE ρ vs).length = ρ.length
  | [] => rfl
  | v :: vs => by unfold wipeE; rw [List.length_set, wipeE_length ρ vs]
theorem wipeE_at (ρ : E) : ∀ (vs : List Nat) (i : Nat), i ∉ vs → (wipeE ρ vs)[i]? = ρ[i]?
  | [], _, _ => rfl
  | w :: ws, i, h => by
    unfold wipeE
    rw [List.getElem?_set_ne fun z => h (by rw [z]; exact List.mem_cons_self)]
    exact wipeE_at ρ ws i fun z => h (List.mem_cons_of_mem _ z)
/-- the block's own slots as they stood ahead of it -/
def restE (ρ0 ρ : E) : List Nat → E
  | [] => ρ
  | v :: vs => match ρ0[v]? with
    | some x => (restE ρ0 ρ vs).set v x
    | none => restE ρ0 ρ vs
theorem restE_length (ρ0 ρ : E) : ∀ vs : List Nat, (restE ρ0 ρ vs).length = ρ.length
  | [] => rfl
  | v :: vs => by
    unfold restE
    split
    · rw [List.length_set, restE_length ρ0 ρ vs]
    · exact restE_length ρ0 ρ vs
theorem restE_out (ρ0 ρ : E) : ∀ (vs : List Nat) (i : Nat), i ∉ vs → (restE ρ0 ρ vs)[i]? = ρ[i]?
  | [], _, _ => rfl
  | w :: ws, i, h => by
    unfold restE
    split
    · rw [List.getElem?_set_ne fun z => h (by rw [z]; exact List.mem_cons_self)]
      exact restE_out ρ0 ρ ws i fun z => h (List.mem_cons_of_mem _ z)
    · exact restE_out ρ0 ρ ws i fun z => h (List.mem_cons_of_mem _ z)
theorem restE_in (ρ0 ρ : E) (hl : ρ0.length = ρ.length) : ∀ (vs : List Nat) (i : Nat), i ∈ vs → (restE ρ0 ρ vs)[i]? = ρ0[i]?
  | [], _, h => by cases h
  | w :: ws, i, h => by
    unfold restE
    by_cases q : w = i
    · subst q
      cases e : ρ0[w]? with
      | none =>
        have h1 : ρ0.length ≤ w := List.getElem?_eq_none_iff.mp e
        show (restE ρ0 ρ ws)[w]? = none
        exact List.getElem?_eq_none (by rw [restE_length]; omega)
      | some x =>
        have h1 : w < ρ0.length := (List.getElem?_eq_some_iff.mp e).1
        show ((restE ρ0 ρ ws).set w x)[w]? = some x
        rw [List.getElem?_set_self (by rw [restE_length]; omega)]
    · have hi : i ∈ ws := (List.mem_cons.mp h).resolve_left fun z => q z.symm
      split
      · rw [List.getElem?_set_ne q]; exact restE_in ρ0 ρ hl ws i hi
      · exact restE_in ρ0 ρ hl ws i hi
def compF (set : FG) (tt : FT) (elt : FE) (vs : List Nat) : List D → E → List D → R (List D)
  | [], ρ, acc => .ok acc ρ
  | d :: r, ρ, acc => match set d ρ with
    | none => .no
    | some ρ1 => (tt ρ1).bind fun b ρ2 => if b = true then (elt ρ2).bind fun y ρ3 => if acc.length < sizeLine then compF set tt elt vs r (wipeE ρ3 vs) (acc ++ [y]) else .no else compF set tt elt vs r (wipeE ρ2 vs) acc
/-- within a block nothing may be raised -/
def R.nox {α : Type} (x : R α) : R α := match x with
  | .ex _ _ => .no
  | y => y
def fLc (it : FA) (set : FG) (tt : FT) (elt : FE) (vs : List Nat) : FE := fun ρ => (it ρ).bind fun ds ρ1 => (compF set tt elt vs ds (wipeE ρ1 vs) []).nox.bind fun ys ρ2 => .ok (.lst ys) (restE ρ1 ρ2 vs)
def ftYes : FT := fun ρ => .ok true ρ

section
variable {X : Cx} {c : Cst} {O : Oo} {W : WX}
theorem t_nil : PTs X [] (tT c O W ftYes) := ⟨fun pins s σ H Q I ⟨B, fp, ρ, er, g⟩ => pts_nil.run pins s σ H Q I (g H B fp (.refl _) er)⟩
theorem ER.wipe {B H : Hp} {fp : Fp} {σ : L2.St} {ρ : E} (er : ER c O B H fp σ ρ) {vs : List Nat} (hp : ∀ i ∈ c.pin, i ∉ vs) : ∃ fp', ER c (wipeO O vs) B H fp' (L2.wipe σ vs) (wipeE ρ vs) ∧ (∀ i a, a ∈ fp' i → a ∈ fp i) ∧ ∀ i, i ∉ vs → fp' i = fp i := by
  refine ⟨fun i => if i ∈ vs then [] else fp i, ⟨er.bh, er.fh, er.b0, er.bf, by rw [wipeE_length, wipe_length]; exact er.len, fun i t h => ?_, fun i h => ?_, fun i a ha => ?_, fun i => ?_, fun i j a ha hb => ?_, fun i hi => ?_⟩, fun i a ha => ?_, fun i hi => ?_⟩
  · obtain ⟨h1, h2⟩ := wipeO_at h
    obtain ⟨v, d, h3, h4, r⟩ := er.slot i t h1
    exact ⟨v, d, by rw [wipe_at σ vs i h2]; exact h3, by rw [wipeE_at ρ vs i h2]; exact h4, by rw [if_neg h2]; exact r⟩
  · by_cases q : i ∈ vs
    · simp [q]
    · simp only [if_neg q]
      refine er.nofp i fun t z => h t ?_
      clear h
      induction vs with
      | nil => exact z
      | cons w ws ih =>
        have h1 : i ≠ w := fun z => q (by rw [z]; exact List.mem_cons_self)
        have h2 : i ∉ ws := fun z => q (List.mem_cons_of_mem _ z)
        unfold wipeO
        rw [List.getElem?_set_ne h1.symm]
        exact ih (fun i hi z => hp i hi (List.mem_cons_of_mem _ z)) h2
  · by_cases q : i ∈ vs
    · simp [q] at ha
    · simp only [if_neg q] at ha; exact er.fpb i a ha
  · by_cases q : i ∈ vs
    · simp [q]
    · simp only [if_neg q]; exact er.nd i
  · by_cases q : i ∈ vs
    · simp [q] at ha
    · by_cases q2 : j ∈ vs
      · simp [q2] at hb
      · simp only [if_neg q] at ha; simp only [if_neg q2] at hb; exact er.dis i j a ha hb
  · rw [wipe_at σ vs i (hp i hi)]; exact er.pins i hi
  · by_cases q : i ∈ vs
    · simp [q] at ha
    · simpa only [if_neg q] using ha
  · simp only [if_neg hi]
def notOwn (O : Oo) (vs : List Nat) : Bool := vs.all fun i => match O[i]? with
  | some (some t) => t == .fz
  | _ => true
/-- the list that grows stands in the frame meanwhile -/
theorem ER.framed {B H : Hp} {fp : Fp} {σ : L2.St} {ρ : E} {D : Addr} {o : HO} (er : ER c O B H fp σ ρ) (hD : H D = some o) (hB : B D = none) (hf : ∀ i, D ∉ fp i) : ER { c with F := upd c.F D o } O B H fp σ ρ := by
  refine ⟨er.bh, fun b u e => ?_, er.b0, fun b hb => ?_, er.len, er.slot, er.nofp, fun i a ha => ⟨(er.fpb i a ha).1, ?_⟩, er.nd, er.dis, er.pins⟩
  · by_cases q : b = D
    · subst q
      have e' : upd c.F b o b = some u := e
      rw [upd_same] at e'; cases e'; exact hD
    · have e' : upd c.F D o b = some u := e
      rw [upd_ne q] at e'; exact er.fh b u e'
  · show upd c.F D o b = none
    rw [upd_ne fun q => by rw [q] at hb; exact hb hB]; exact er.bf b hb
  · show upd c.F D o a = none
    have q : a ≠ D := fun q => hf i (q ▸ ha)
    rw [upd_ne q]; exact (er.fpb i a ha).2
theorem ER.framedAt {B H : Hp} {fp : Fp} {σ : L2.St} {ρ : E} {D : Addr} {o : HO} (er : ER { c with F := upd c.F D o } O B H fp σ ρ) : H D = some o ∧ B D = none ∧ ∀ i, D ∉ fp i := by
  have h1 : upd c.F D o D = some o := upd_same
  refine ⟨er.fh D o h1, ?_, fun i hi => ?_⟩
  · cases q : B D with
    | none => rfl
    | some u =>
      have : upd c.F D o D = none := er.bf D (by rw [q]; exact fun z => nomatch z)
      rw [h1] at this; cases this
  · have : upd c.F D o D = none := (er.fpb i D hi).2
    rw [h1] at this; cases this
theorem ER.unframed {B H : Hp} {fp : Fp} {σ : L2.St} {ρ : E} {D : Addr} {o : HO} (er : ER { c with F := upd c.F D o } O B H fp σ ρ) (hF : c.F D = none) : ER c O B H fp σ ρ := by
  have hn : ∀ a, upd c.F D o a = none → c.F a = none := fun a h => by
    by_cases q : a = D
    · subst q; exact hF
    · rw [upd_ne q] at h; exact h
  refine ⟨er.bh, fun b u e => er.fh b u ?_, er.b0, fun b hb => hn b (er.bf b hb), er.len, er.slot, er.nofp, fun i a ha => ⟨(er.fpb i a ha).1, hn a (er.fpb i a ha).2⟩, er.nd, er.dis, er.pins⟩
  show upd c.F D o b = some u
  rw [upd_ne fun q => by rw [q, hF] at e; cases e]; exact e
theorem ER.reframed {B H : Hp} {fp : Fp} {σ : L2.St} {ρ : E} {D : Addr} {o o' : HO} (er : ER { c with F := upd c.F D o } O B H fp σ ρ) : ER { c with F := upd c.F D o' } O B (upd H D o') fp σ ρ := by
  obtain ⟨h1, h2, h3⟩ := er.framedAt
  refine ⟨fun b u e => by rw [upd_ne fun q => by rw [q, h2] at e; cases e]; exact er.bh b u e, fun b u e => ?_, er.b0, fun b hb => ?_, er.len, fun i t h => ?_, er.nofp, fun i a ha => ⟨(er.fpb i a ha).1, ?_⟩, er.nd, er.dis, er.pins⟩
  · have e' : upd c.F D o' b = some u := e
    by_cases q : b = D
    · subst q; rw [upd_same] at e' ⊢; exact e'
    · rw [upd_ne q] at e' ⊢
      exact er.fh b u (show upd c.F D o b = some u by rw [upd_ne q]; exact e')
  · show upd c.F D o' b = none
    have q : b ≠ D := fun q => hb (q ▸ h2)
    have := er.bf b hb
    have this' : upd c.F D o b = none := this
    rw [upd_ne q] at this' ⊢; exact this'
  · obtain ⟨v, d, q1, q2, r⟩ := er.slot i t h
    exact ⟨v, d, q1, q2, OR.mono (.refl _) t (fun a ha => upd_ne fun q => h3 i (q ▸ ha)) r⟩
  · show upd c.F D o' a = none
    have q : a ≠ D := fun q => h3 i (q ▸ ha)
    have := (er.fpb i a ha).2
    have this' : upd c.F D o a = none := this
    rw [upd_ne q] at this' ⊢; exact this'
theorem wipeO_out {O : Oo} : ∀ {vs : List Nat} {i : Nat}, i ∉ vs → (wipeO O vs)[i]? = O[i]?
  | [], _, _ => rfl
  | w :: ws, i, q => by
    unfold wipeO
    rw [List.getElem?_set_ne fun z => q (by rw [z]; exact List.mem_cons_self)]
    exact wipeO_out fun z => q (List.mem_cons_of_mem _ z)
/-- behind the block -/
theorem ER.unwipe {B B' H H' : Hp} {fp fp' : Fp} {σ : L2.St} {ρ ρ' : E} {vs : List Nat} (er : ER c O B H fp σ ρ) (e' : ER c (wipeO O vs) B' H' fp' (L2.wipe σ vs) ρ') (s : Same B B') (hn : notOwn O vs = true) : ER c O B' H' fp' σ (restE ρ ρ' vs) := by
  have hl : ρ.length = ρ'.length := by rw [er.len, e'.len, wipe_length]
  have inF : ∀ i ∈ vs, ∀ t, O[i]? = some (some t) → t = .fz := fun i hi t h => by
    have := List.all_eq_true.mp hn i hi
    rw [h] at this; simpa using this
  have empty : ∀ i ∈ vs, fp' i = [] := fun i hi => e'.nofp i fun t z => (wipeO_at z).2 hi
  refine ⟨e'.bh, e'.fh, e'.b0, e'.bf, by rw [restE_length, ← hl, er.len], fun i t h => ?_, fun i h => ?_, e'.fpb, e'.nd, e'.dis, er.pins⟩
  · by_cases q : i ∈ vs
    · have ht := inF i q t h
      subst ht
      obtain ⟨v, d, h1, h2, r⟩ := er.slot i .fz h
      exact ⟨v, d, h1, by rw [restE_in ρ ρ' hl vs i q]; exact h2, r.1.up s, empty i q⟩
    · obtain ⟨v, d, h1, h2, r⟩ := e'.slot i t (by rw [wipeO_out q]; exact h)
      exact ⟨v, d, by rw [wipe_at σ vs i q] at h1; exact h1, by rw [restE_out ρ ρ' vs i q]; exact h2, r⟩
  · by_cases q : i ∈ vs
    · exact empty i q
    · exact e'.nofp i fun t z => h t (by rw [wipeO_out q] at z; exact z)
/-- [elt for tg in iter if ..] -/
theorem lc_red {tg iter : Expr} {it : FA} {set : FG} {tt : FT} {fe : FE} {O2 : Oo} {vs : List Nat} {g : TG} {tT' : TT} {tE' : TE} (hgi : ∀ (F' : Hp) x σ H Q, tG { c with F := F' } (wipeO O vs) O2 vs set x σ H Q → g x σ H Q) (hti : ∀ (F' : Hp) σ H Q, tT { c with F := F' } O2 W0 tt σ H Q → tT' σ H Q)
    (hei : ∀ (F' : Hp) σ H Q, tF { c with F := F' } O2 W0 fe σ H Q → tE' σ H Q) (hO : leO (wipeO O vs) (wipeO O2 vs) = true) (hn : notOwn O vs = true) (hp : ∀ i ∈ c.pin, i ∉ vs) {σ : L2.St} {H : Hp} {Q : VK} (h : tW c O W (.ow .fz) (fLc it set tt fe vs) σ H Q) : tLc (tIt c O W it) g tT' tE' vs σ H Q := by
  obtain ⟨B, fp, ρ, er, k⟩ := h
  refine ⟨B, fp, ρ, er, (RG.bind k).mp fun ds ρ1 H1 B1 fp1 s1 e1 k1 J hJ A hA => ?_⟩
  have bA : B1 A = none := e1.bh.free hA
  have fA : c.F A = none := e1.fh.free hA
  obtain ⟨e2, Fr⟩ := e1.newOwn (o := .lst []) hA
  obtain ⟨fp2, e3, sub3, _⟩ := e2.wipe hp
  have e4 := e3.framed (o := .lst []) upd_same bA fun i hi => Fr.inO A List.mem_cons_self i (sub3 i A hi)
  -- what the rest of the turns leads to
  let Fin : R (List D) → Prop := fun r => match r with
    | .ok ys ρ2 => ∀ H' B' fp' ws, Same B1 B' → RepL c.K B' ws ys → ER { c with F := upd c.F A (.lst ws) } (wipeO O vs) B' H' fp' (L2.wipe σ vs) ρ2 → Q (.ref A) H'
    | _ => False
  have fin0 : Fin (compF set tt fe vs ds (wipeE ρ1 vs) []) := by
    show match compF set tt fe vs ds (wipeE ρ1 vs) [] with
      | .ok ys ρ2 => _
      | _ => False
    cases hcf : compF set tt fe vs ds (wipeE ρ1 vs) [] with
    | no => rw [hcf] at k1; exact k1.elim
    | ex e ρ2 => rw [hcf] at k1; exact k1.elim
    | ok ys ρ2 =>
      rw [hcf] at k1
      intro H' B' fp' ws s' rw' e'
      obtain ⟨q1, q2, q3⟩ := e'.framedAt
      have e5 := e1.unwipe (e'.unframed fA) s' hn
      exact k1 H' B' fp' s' e5 (.ref A) [A] (OR.ofList q1 rw') ⟨by simp, fun a ha => by rw [List.mem_singleton.mp ha]; exact q2, fun a ha => by rw [List.mem_singleton.mp ha]; exact fA, fun a ha i => by rw [List.mem_singleton.mp ha]; exact q3 i⟩
  refine ⟨fun i m H => m = ds.length - i ∧ i ≤ ds.length ∧ ∃ B fp ρ acc ws, Same B1 B ∧ RepL c.K B ws acc ∧ ER { c with F := upd c.F A (.lst ws) } (wipeO O vs) B H fp (L2.wipe σ vs) ρ ∧ Fin (compF set tt fe vs (ds.drop i) ρ acc),
    ⟨_, rfl, Nat.zero_le _, B1, fp2, wipeE ρ1 vs, [], [], .refl _, .nil, e4, fin0⟩, ?_⟩
  rintro i m H ⟨rfl, hi, B, fp, ρ, acc, ws, sB, rws, er, k⟩
  rcases Nat.lt_or_ge i ds.length with hlt | hge
  · refine .inr ⟨hJ.go i H (sB.trans er.bh) hlt, fun H' => ∃ B fp ρ acc ws, Same B1 B ∧ RepL c.K B ws acc ∧ ER { c with F := upd c.F A (.lst ws) } (wipeO O vs) B H' fp (L2.wipe σ vs) ρ ∧ Fin (compF set tt fe vs (ds.drop (i + 1)) ρ acc),
      fun H' q => ⟨_, by omega, rfl, by omega, q⟩, ?_⟩
    intro x H' hy
    have hd : ds[i]? = some ds[i] := List.getElem?_eq_getElem hlt
    obtain ⟨B2, gr, rx⟩ := hJ.yld i _ H x H' B hd sB er.bh hy
    have e2 := er.grow gr
    rw [List.drop_eq_getElem_cons hlt] at k
    simp only [compF] at k
    cases hset : set ds[i] ρ with
    | none => rw [hset] at k; exact k.elim
    | some ρ2 =>
      rw [hset] at k
      dsimp only at k
      refine hgi _ _ _ _ _ ⟨B2, fp, ρ, _, ρ2, e2, rx, hset, fun σ2 fp2 hw er2 => ⟨hw.trans (by
        apply List.ext_getElem?
        intro j
        by_cases hj : j ∈ vs
        · by_cases hl : j < σ.length
          · rw [wipe_in _ vs j hj (by rw [wipe_length]; exact hl), wipe_in _ vs j hj hl]
          · rw [List.getElem?_eq_none (by rw [wipe_length, wipe_length]; simpa using hl), List.getElem?_eq_none (by rw [wipe_length]; simpa using hl)]
        · rw [wipe_at _ vs j hj]), hti _ _ _ _ ⟨B2, fp2, ρ2, er2, ?_⟩⟩⟩
      have again : ∀ {ws' : List V} {B3 H3 : Hp} {fp3 : Fp} {ρ3 : E}, ER { c with F := upd c.F A (.lst ws') } O2 B3 H3 fp3 σ2 ρ3 → ∃ B4 fp4, Same B3 B4 ∧ ER { c with F := upd c.F A (.lst ws') } (wipeO O vs) B4 H3 fp4 (L2.wipe σ vs) (wipeE ρ3 vs) := fun {ws' B3 H3 fp3 ρ3} e => by
        obtain ⟨fp5, e5, _, _⟩ := e.wipe hp
        obtain ⟨B4, fp4, s4, e4, _, _⟩ := e5.weak hO
        have hww : L2.wipe σ2 vs = L2.wipe σ vs := by
          have hw' := hw
          apply List.ext_getElem?
          intro j
          have h1 : (L2.wipe σ2 vs)[j]? = (L2.wipe (L2.wipe σ vs) vs)[j]? := by rw [hw']
          rw [h1]
          by_cases hj : j ∈ vs
          · by_cases hl : j < σ.length
            · rw [wipe_in _ vs j hj (by rw [wipe_length]; exact hl), wipe_in _ vs j hj hl]
            · rw [List.getElem?_eq_none (by rw [wipe_length, wipe_length]; simpa using hl), List.getElem?_eq_none (by rw [wipe_length]; simpa using hl)]
          · rw [wipe_at _ vs j hj]
        rw [hww] at e4
        exact ⟨B4, fp4, s4, e4⟩
      cases htt : tt ρ2 with
      | no => rw [htt] at k; exact k.elim
      | ex e ρ3 => rw [htt] at k; exact k.elim
      | ok b ρ3 =>
        rw [htt] at k
        intro H3 B3 fp3 s3 e3
        have k' : Fin (if b = true then (fe ρ3).bind fun y ρ3 => if acc.length < sizeLine then compF set tt fe vs (ds.drop (i + 1)) (wipeE ρ3 vs) (acc ++ [y]) else .no else compF set tt fe vs (ds.drop (i + 1)) (wipeE ρ3 vs) acc) := k
        cases b with
        | false =>
          refine iteF ?_
          rw [if_neg Bool.false_ne_true] at k'
          obtain ⟨B4, fp4, s4, e4⟩ := again e3
          have s5 : Same B B4 := (gr.bb.trans s3).trans s4
          exact ⟨B4, fp4, _, acc, ws, sB.trans s5, rws.up s5, e4, k'⟩
        | true =>
          refine iteT (hei _ _ _ _ ⟨B3, fp3, ρ3, e3, ?_⟩)
          rw [if_pos rfl] at k'
          cases hfe : fe ρ3 with
          | no => rw [hfe] at k'; exact k'.elim
          | ex e ρ4 => rw [hfe] at k'; exact k'.elim
          | ok y ρ4 =>
            rw [hfe] at k'
            intro H4 B4 fp4 s4 e4 v rv
            have k2 : Fin (if acc.length < sizeLine then compF set tt fe vs (ds.drop (i + 1)) (wipeE ρ4 vs) (acc ++ [y]) else .no) := k'
            split at k2
            · rename_i hlen
              obtain ⟨q1, _, _⟩ := e4.framedAt
              refine ⟨ws, q1, by rw [rws.length]; exact hlen, ?_⟩
              obtain ⟨B5, fp5, s5, e5⟩ := again (e4.reframed (o' := .lst (ws ++ [v])))
              have s6 : Same B B4 := (gr.bb.trans s3).trans s4
              exact ⟨B5, fp5, _, acc ++ [y], ws ++ [v], sB.trans (s6.trans s5), (rws.up (s6.trans s5)).append (.cons (rv.up s5) .nil), e5, k2⟩
            · exact k2.elim
  · have e : i = ds.length := by omega
    subst e
    rw [List.drop_length] at k
    exact .inl ⟨hJ.stop H (sB.trans er.bh), k H B fp ws sB rws er⟩
theorem w_lc {elt tg iter : Expr} {ifs : List Expr} {scope : Scope} {own : List (Str × Nat)} {pos : Pos} {it : FA} {set : FG} {tt : FT} {fe : FE} {O2 : Oo} (hc : X.calm = true) (hN : X.N.Nodup) (hi : PI X tg iter (tIt c O W it)) (ok : BlkOk X.N X.env.scope scope own)
    (hg : ∀ (F' : Hp) (s : Shared) (H : Hp) (C : Addr) (cl : List (Str × Addr)) (fp : List Addr), PG (X.blk s H scope (compEnvC scope cl C X.env) fp) tg (tG { c with F := F' } (wipeO O (own.map (·.2))) O2 (own.map (·.2)) set))
    (ht : ∀ (F' : Hp) (s : Shared) (H : Hp) (C : Addr) (cl : List (Str × Addr)) (fp : List Addr), PTs (X.blk s H scope (compEnvC scope cl C X.env) fp) ifs (tT { c with F := F' } O2 W0 tt))
    (he : ∀ (F' : Hp) (s : Shared) (H : Hp) (C : Addr) (cl : List (Str × Addr)) (fp : List Addr), PE (X.blk s H scope (compEnvC scope cl C X.env) fp) elt (tF { c with F := F' } O2 W0 fe))
    (hO : leO (wipeO O (own.map (·.2))) (wipeO O2 (own.map (·.2))) = true := by rfl) (hn : notOwn O (own.map (·.2)) = true := by rfl) (hp : c.pin.all (fun i => !(own.map (·.2)).contains i) = true := by rfl) (hs : ∀ x, foldedSetIterable iter X.env x = pure x := by intro _; rfl) :
    PE X (.ListComp elt [⟨tg, iter, ifs, 0⟩] scope pos) (tW c O W (.ow .fz) (fLc it set tt fe (own.map (·.2)))) := by
  have hp' : ∀ i ∈ c.pin, i ∉ own.map (·.2) := fun i hi hm => by
    have := List.all_eq_true.mp hp i hi
    simp only [Bool.not_eq_true'] at this
    rw [List.contains_iff_mem.mpr hm] at this
    cases this
  refine PE.imp (pe_lc (g := fun x σ H Q => ∃ F', tG { c with F := F' } (wipeO O (own.map (·.2))) O2 (own.map (·.2)) set x σ H Q) (tt := fun σ H Q => ∃ F', tT { c with F := F' } O2 W0 tt σ H Q) (te := fun σ H Q => ∃ F', tF { c with F := F' } O2 W0 fe σ H Q) hc hN hi ok
    (fun s H C cl fp => ⟨fun pins s' σ H' v u Q I r ⟨F', q⟩ => (hg F' s H C cl fp).run pins s' σ H' v u Q I r q⟩) (fun s H C cl fp => ⟨fun pins s' σ H' Q I ⟨F', q⟩ => (ht F' s H C cl fp).run pins s' σ H' Q I q⟩) (fun s H C cl fp => ⟨fun pins s' σ H' Q I ⟨F', q⟩ => (he F' s H C cl fp).run pins s' σ H' Q I q⟩) hs) ?_
  intro σ H Q h
  exact lc_red (tg := tg) (iter := iter) (fun F' x σ H Q q => ⟨F', q⟩) (fun F' σ H Q q => ⟨F', q⟩) (fun F' σ H Q q => ⟨F', q⟩) hO hn hp' h
/-- y = [elt for tg in iter if ..] -/
theorem s_setLc {i : Nat} {y : Str} {py spos : Pos} {Z : Zs} {N : Oo} {elt tg iter : Expr} {ifs : List Expr} {scope : Scope} {own : List (Str × Nat)} {pos : Pos} {it : FA} {set : FG} {tt : FT} {fe : FE} {O2 : Oo} (hc : X.calm = true) (hN : X.N.Nodup) (hi : PI X tg iter (tIt c O W it)) (ok : BlkOk X.N X.env.scope scope own)
    (hg : ∀ (F' : Hp) (s : Shared) (H : Hp) (C : Addr) (cl : List (Str × Addr)) (fp : List Addr), PG (X.blk s H scope (compEnvC scope cl C X.env) fp) tg (tG { c with F := F' } (wipeO O (own.map (·.2))) O2 (own.map (·.2)) set))
    (ht : ∀ (F' : Hp) (s : Shared) (H : Hp) (C : Addr) (cl : List (Str × Addr)) (fp : List Addr), PTs (X.blk s H scope (compEnvC scope cl C X.env) fp) ifs (tT { c with F := F' } O2 W0 tt))
    (he : ∀ (F' : Hp) (s : Shared) (H : Hp) (C : Addr) (cl : List (Str × Addr)) (fp : List Addr), PE (X.blk s H scope (compEnvC scope cl C X.env) fp) elt (tF { c with F := F' } O2 W0 fe))
    (hW : leO N (O.set i (some (.ow .fz))) = true := by rfl) (hx : leO Z.xO O = true := by rfl) (hiO : i < O.length := by decide) (hpi : c.pin.contains i = false := by rfl) (hy : X.N[i]? = some y := by rfl) (hyl : X.env.scope.names.lookup y = some .local := by rfl)
    (hsw : swapsWith (.ListComp elt [⟨tg, iter, ifs, 0⟩] scope pos) (some (.Name y py)) spos.line X.env = pure true := by exact sw_true rfl rfl rfl (by decide +kernel))
    (hO : leO (wipeO O (own.map (·.2))) (wipeO O2 (own.map (·.2))) = true := by rfl) (hn : notOwn O (own.map (·.2)) = true := by rfl) (hp : c.pin.all (fun i => !(own.map (·.2)).contains i) = true := by rfl) (hs : ∀ x, foldedSetIterable iter X.env x = pure x := by intro _; rfl) :
    PS X (.Assign [.Name y py] (.ListComp elt [⟨tg, iter, ifs, 0⟩] scope pos) spos) (tS c O N Z W (fSet i (fLc it set tt fe (own.map (·.2))))) := by
  have hp' : ∀ i ∈ c.pin, i ∉ own.map (·.2) := fun i hi hm => by
    have := List.all_eq_true.mp hp i hi
    simp only [Bool.not_eq_true'] at this
    rw [List.contains_iff_mem.mpr hm] at this
    cases this
  have hlen : ∀ {pins : List (Addr × Obj)} {σ : L2.St} {H : Hp} {s : Shared}, Inv X pins σ H s → i < σ.length := fun I => by rw [I.len]; exact (List.getElem?_eq_some_iff.mp hy).1
  refine ⟨fun pins s σ H Dn I h => (ps_setLc (g := fun x σ H Q => ∃ F', tG { c with F := F' } (wipeO O (own.map (·.2))) O2 (own.map (·.2)) set x σ H Q) (tt := fun σ H Q => ∃ F', tT { c with F := F' } O2 W0 tt σ H Q) (te := fun σ H Q => ∃ F', tF { c with F := F' } O2 W0 fe σ H Q) hc hN hy hyl hsw hi ok
    (fun s H C cl fp => ⟨fun pins s' σ H' v u Q I r ⟨F', q⟩ => (hg F' s H C cl fp).run pins s' σ H' v u Q I r q⟩) (fun s H C cl fp => ⟨fun pins s' σ H' Q I ⟨F', q⟩ => (ht F' s H C cl fp).run pins s' σ H' Q I q⟩) (fun s H C cl fp => ⟨fun pins s' σ H' Q I ⟨F', q⟩ => (he F' s H C cl fp).run pins s' σ H' Q I q⟩) hs).run pins s σ H Dn I ?_⟩
  obtain ⟨B, fp, ρ, er, k⟩ := h
  refine lc_red (tg := tg) (iter := iter) (W := W) (O := O) (c := c) (fun F' x σ H Q q => ⟨F', q⟩) (fun F' σ H Q q => ⟨F', q⟩) (fun F' σ H Q q => ⟨F', q⟩) hO hn hp' (Q := fun v H1 => gName i v σ H1 Dn.nx) ⟨B, fp, ρ, er, (RG.toS hx k).mp fun d ρ1 H1 B1 fp1 s1 e1 k1 v g r F => ?_⟩
  have e2 := e1.set (hlen I) hiO hpi r F
  obtain ⟨B2, fp2, s2, e3, _, _⟩ := e2.weak hW
  exact k1 _ H1 B2 fp2 s2 e3
end
end L3

namespace L3
open PySem PySem.Spec PyProof.Rows L2

/-! ### operations on data -/
def dAdd : D → D → Option D
  | .int i, .int j => some (.int (i + j))
  | .str a, .str b => if a.length + b.length ≤ sizeLine then some (.str (a ++ b)) else none
  | .lst a, .lst b => if a.length + b.length ≤ sizeLine then some (.lst (a ++ b)) else none
  | .tup a, .tup b => if a.length + b.length ≤ sizeLine ∧ 0 < a.length ∧ 0 < b.length then some (.tup (a ++ b)) else none
  | _, _ => none
def dSub : D → D → Option D
  | .int i, .int j => some (.int (i - j))
  | _, _ => none
def smallI (i : Int) : Bool := decide (-(2 ^ 64) < i) && decide (i < 2 ^ 64)
def dMul : D → D → Option D
  | .int i, .int j => if (smallI i || smallI j) = true then some (.int (i * j)) else none
  | _, _ => none
def dMod : D → D → Option D
  | .int i, .int j => if 0 < j then some (.int (i % j)) else none
  | _, _ => none
def dFdiv : D → D → Option D
  | .int i, .int j => if 0 < j ∧ j < 1073741824 then some (.int (i / j)) else none
  | _, _ => none
def dPow : D → D → Option D
  | .int i, .int j => if 0 ≤ j ∧ j ≤ 1000000 ∧ i.natAbs < 2 ^ 64 then some (.int (i ^ j.toNat)) else none
  | _, _ => none
def dNeg : D → Option D
  | .int i => some (.int (-i))
  | _ => none
/-- flat data as values -/
def flatD : D → Option V
  | .non => some .non
  | .bl b => some (.bl b)
  | .int i => some (.int i)
  | .str x => some (.str x)
  | _ => none
mutual
def toPy : D → Option PyData
  | .non => some .none
  | .bl b => some (.bool b)
  | .int i => some (.int i)
  | .str x => some (.str x)
  | .lst xs => (toPyL xs).map .list
  | .lsk xs => (toPyL xs).map .list
  | .tup xs => (toPyL xs).map .tuple
  | .ty _ => none
  | .fn _ => none
  | .ins _ _ => none
def toPyL : List D → Option (List PyData)
  | [] => some []
  | x :: r => (toPy x).bind fun a => (toPyL r).map (a :: ·)
end
def eqB (x y : D) : Option Bool := match x, y with
  | .int i, .int j => some (decide (i = j))
  | .str i, .str j => some (decide (i = j))
  | .bl i, .bl j => some (decide (i = j))
  | .non, .non => some true
  | _, _ => (toPy x).bind fun a => (toPy y).bind fun b => if SeqAt.shaped a = true ∧ SeqAt.shaped b = true then some (PyData.eqv a b) else none
def dEq (x y : D) : Option D := (eqB x y).map .bl
def dNe (x y : D) : Option D := (eqB x y).map fun b => .bl (!b)
def cmpI (p : Int → Int → Bool) : D → D → Option D
  | .int i, .int j => some (.bl (p i j))
  | _, _ => none
def dLt := cmpI fun i j => decide (i < j)
def dLe := cmpI fun i j => decide (i ≤ j)
def dGt := cmpI fun i j => decide (j < i)
def dGe := cmpI fun i j => decide (j ≤ i)
def dIs : D → D → Option D
  | .non, .non => some (.bl true)
  | _, .non => some (.bl false)
  | _, _ => none
def dIsNot : D → D → Option D
  | .non, .non => some (.bl false)
  | _, .non => some (.bl true)
  | _, _ => none
def items : D → Option (List D)
  | .lst ds => some ds
  | .lsk ds => some ds
  | .tup ds => some ds
  | _ => none
def flatL : List D → Option (List V)
  | [] => some []
  | d :: r => (flatD d).bind fun v => (flatL r).map (v :: ·)
def inB (x c : D) : Option Bool := (items c).bind fun ds => (flatD x).bind fun v => (flatL ds).map fun vs => inV v vs
def dIn (x c : D) : Option D := (inB x c).map .bl
def dNotIn (x c : D) : Option D := (inB x c).map fun b => .bl (!b)

section
variable {K : PySem.W.Frag} {B H : Hp} {x y : V} {d e : D}
theorem flatD_rep (r : Rep K B x d) {v : V} (h : flatD d = some v) : x = v ∧ flatV v = true := by
  cases r <;> cases h <;> exact ⟨rfl, rfl⟩
theorem flatL_rep : ∀ {ds : List D} {xs vs : List V}, RepL K B xs ds → flatL ds = some vs → xs = vs ∧ vs.all flatV = true
  | [], _, vs, r, h => by cases r; cases h; exact ⟨rfl, rfl⟩
  | d :: ds, _, vs, r, h => by
    cases r with
    | cons r1 r2 =>
      simp only [flatL, Option.bind_eq_some_iff, Option.map_eq_some_iff] at h
      obtain ⟨v, h1, vs', h2, rfl⟩ := h
      obtain ⟨rfl, q1⟩ := flatD_rep r1 h1
      obtain ⟨rfl, q2⟩ := flatL_rep r2 h2
      exact ⟨rfl, by simp [q1, q2]⟩
mutual
theorem toPy_rep (s : Same B H) : ∀ (d : D) {x : V} {a : PyData}, Rep K B x d → toPy d = some a → Dp K H x a
  | .non, _, _, r, h => by cases r; cases h; exact .non
  | .bl _, _, _, r, h => by cases r; cases h; exact .bl _
  | .int _, _, _, r, h => by cases r; cases h; exact .int _
  | .str _, _, _, r, h => by cases r; cases h; exact .str _
  | .lst ds, _, _, r, h => by
    cases r with
    | lst h1 h2 =>
      simp only [toPy, Option.map_eq_some_iff] at h
      obtain ⟨bs, q, rfl⟩ := h
      exact .lst (SqL.of (s _ _ h1)) (toPyL_rep s ds h2 q)
  | .lsk ds, _, _, r, h => by
    cases r with
    | lsk h1 h2 =>
      simp only [toPy, Option.map_eq_some_iff] at h
      obtain ⟨bs, q, rfl⟩ := h
      exact .lst (s.seq h1) (toPyL_rep s ds h2 q)
  | .tup ds, _, _, r, h => by
    cases r with
    | tup h1 h2 =>
      simp only [toPy, Option.map_eq_some_iff] at h
      obtain ⟨bs, q, rfl⟩ := h
      exact .tup (Same.tup s h1) (toPyL_rep s ds h2 q)
  | .ty _, _, _, _, h => by cases h
  | .fn _, _, _, _, h => by cases h
  | .ins _ _, _, _, _, h => by cases h
theorem toPyL_rep (s : Same B H) : ∀ (ds : List D) {xs : List V} {as : List PyData}, RepL K B xs ds → toPyL ds = some as → DpAll K H xs as
  | [], _, _, r, h => by cases r; cases h; exact .nil
  | d :: ds, _, _, r, h => by
    cases r with
    | cons r1 r2 =>
      simp only [toPyL, Option.bind_eq_some_iff, Option.map_eq_some_iff] at h
      obtain ⟨a, h1, bs, h2, rfl⟩ := h
      exact .cons (toPy_rep s d r1 h1) (toPyL_rep s ds r2 h2)
end
theorem items_rep (s : Same B H) (r : Rep K B x d) {ds : List D} (h : items d = some ds) : ∃ p xs, x = .ref p ∧ (SqL K H p xs ∨ SqT K H p xs) ∧ RepL K B xs ds := by
  cases r with
  | lst h1 h2 => cases h; exact ⟨_, _, rfl, .inl (SqL.of (s _ _ h1)), h2⟩
  | lsk h1 h2 => cases h; exact ⟨_, _, rfl, .inl (s.seq h1), h2⟩
  | tup h1 h2 => cases h; exact ⟨_, _, rfl, .inr (Same.tup s h1), h2⟩
  | _ => cases h
end

section
variable {X : Cx}
/-- an answer that makes nothing -/
theorem rD_end {K : PySem.W.Frag} {B H : Hp} {d : D} {Q : VK} (s : Same B H) (k : ∀ v H' B', Grow B H B' H' → Rep K B' v d → Q v H') {v : V} (r : Rep K B v d) : Q v H := k v H B (Grow.refl s) r
theorem op_dAdd : OpR X (binaryOp .Add) (rD X.K dAdd) := by
  intro pins s σ H x y v u Q I rx ry ⟨B, dx, dy, d, sB, r1, r2, hg, q⟩
  cases r1 with
  | int i => cases r2 with
    | int j => cases hg; exact op_add pins s σ H _ _ v u Q I rx ry ⟨i, j, rfl, rfl, rD_end sB q (.int _)⟩
    | _ => cases hg
  | str a => cases r2 with
    | str b =>
      simp only [dAdd] at hg
      split at hg
      · rename_i hz; cases hg
        exact op_add_str pins s σ H _ _ v u Q I rx ry ⟨a, b, rfl, rfl, hz, rD_end sB q (.str _)⟩
      · cases hg
    | _ => cases hg
  | lst h1 h2 => cases r2 with
    | lst h3 h4 =>
      simp only [dAdd] at hg
      split at hg
      · rename_i hz; cases hg
        refine op_cat pins s σ H _ _ v u Q I rx ry ⟨_, _, _, _, rfl, rfl, sB _ _ h1, sB _ _ h3, by rw [h2.length, h4.length]; exact hz, fun p hp => ?_⟩
        exact q _ _ _ (Grow.ofNew sB hp) (.lst upd_same ((h2.append h4).up (Grow.ofNew sB hp).bb))
      · cases hg
    | _ => cases hg
  | tup h1 h2 => cases r2 with
    | tup h3 h4 =>
      simp only [dAdd] at hg
      split at hg
      · rename_i hz; cases hg
        obtain ⟨hz, hp1, hp2⟩ := hz
        refine op_catT pins s σ H _ _ v u Q I rx ry ⟨_, _, _, _, rfl, rfl, Same.tup sB h1, Same.tup sB h3, fun z => by rw [z] at h2; rw [← h2.length] at hp1; exact absurd hp1 (by simp), by rw [h2.length, h4.length]; exact hz,
          fun z => by rw [z] at h4; rw [← h4.length] at hp2; exact absurd hp2 (by simp), fun _ p hp => ?_⟩
        exact q _ _ _ (Grow.ofNew sB hp) (.tup (SqT.of upd_same) ((h2.append h4).up (Grow.ofNew sB hp).bb))
      · cases hg
    | _ => cases hg
  | _ => cases hg
theorem op_dSub : OpR X (binaryOp .Sub) (rD X.K dSub) := by
  intro pins s σ H x y v u Q I rx ry ⟨B, dx, dy, d, sB, r1, r2, hg, q⟩
  cases r1 with
  | int i => cases r2 with
    | int j => cases hg; exact op_sub pins s σ H _ _ v u Q I rx ry ⟨i, j, rfl, rfl, rD_end sB q (.int _)⟩
    | _ => cases hg
  | _ => cases hg
theorem op_dMul : OpR X (binaryOp .Mult) (rD X.K dMul) := by
  intro pins s σ H x y v u Q I rx ry ⟨B, dx, dy, d, sB, r1, r2, hg, q⟩
  cases r1 with
  | int i => cases r2 with
    | int j =>
      simp only [dMul] at hg
      split at hg
      · rename_i hz; cases hg
        refine op_mul pins s σ H _ _ v u Q I rx ry ⟨i, j, rfl, rfl, ?_, rD_end sB q (.int _)⟩
        simp only [Bool.or_eq_true, smallI, Bool.and_eq_true, decide_eq_true_eq] at hz
        exact hz
      · cases hg
    | _ => cases hg
  | _ => cases hg
theorem op_dMod : OpR X (binaryOp .Mod) (rD X.K dMod) := by
  intro pins s σ H x y v u Q I rx ry ⟨B, dx, dy, d, sB, r1, r2, hg, q⟩
  cases r1 with
  | int i => cases r2 with
    | int j =>
      simp only [dMod] at hg
      split at hg
      · rename_i hz; cases hg
        exact op_mod pins s σ H _ _ v u Q I rx ry ⟨i, j, rfl, rfl, hz, rD_end sB q (.int _)⟩
      · cases hg
    | _ => cases hg
  | _ => cases hg
theorem op_dFdiv : OpR X (binaryOp .FloorDiv) (rD X.K dFdiv) := by
  intro pins s σ H x y v u Q I rx ry ⟨B, dx, dy, d, sB, r1, r2, hg, q⟩
  cases r1 with
  | int i => cases r2 with
    | int j =>
      simp only [dFdiv] at hg
      split at hg
      · rename_i hz; cases hg
        exact op_fdiv pins s σ H _ _ v u Q I rx ry ⟨i, j, rfl, rfl, hz, rD_end sB q (.int _)⟩
      · cases hg
    | _ => cases hg
  | _ => cases hg
theorem op_dPow : OpR X (binaryOp .Pow) (rD X.K dPow) := by
  intro pins s σ H x y v u Q I rx ry ⟨B, dx, dy, d, sB, r1, r2, hg, q⟩
  cases r1 with
  | int i => cases r2 with
    | int j =>
      simp only [dPow] at hg
      split at hg
      · rename_i hz; cases hg
        exact op_pow pins s σ H _ _ v u Q I rx ry ⟨i, j, rfl, rfl, hz, rD_end sB q (.int _)⟩
      · cases hg
    | _ => cases hg
  | _ => cases hg
theorem un_dNeg : UnR X (unaryOp .USub) (rD1 X.K dNeg) := by
  intro pins s σ H x v Q I rx ⟨B, dx, d, sB, r1, hg, q⟩
  cases r1 with
  | int i => cases hg; exact un_neg pins s σ H _ v Q I rx ⟨i, rfl, rD_end sB q (.int _)⟩
  | _ => cases hg
theorem eq_core (hu : X.A.units + 64 < cLine) {f : Bool → Bool} {cmp : Value → Value → Sem Value} (h1 : OpR X cmp (fun x y H Q => scal x y = true ∧ Q (.bl (f (decide (x = y)))) H)) (h2 : OpR X cmp (fun x y H Q => ∃ d e, Dp X.K H x d ∧ Dp X.K H y e ∧ SeqAt.shaped d = true ∧ SeqAt.shaped e = true ∧ Q (.bl (f (PyData.eqv d e))) H)) :
    OpR X cmp (rD X.K fun x y => (eqB x y).map fun b => .bl (f b)) := by
  intro pins s σ H x y v u Q I rx ry ⟨B, dx, dy, d, sB, r1, r2, hg, q⟩
  simp only [Option.map_eq_some_iff] at hg
  obtain ⟨b, hb, rfl⟩ := hg
  have gen : ((toPy dx).bind fun a => (toPy dy).bind fun b => if SeqAt.shaped a = true ∧ SeqAt.shaped b = true then some (PyData.eqv a b) else none) = some b → wpAny (model X.prog X.w) X.A (cmp v u) (EP X pins σ Q) X.xe s := fun hb => by
    simp only [Option.bind_eq_some_iff] at hb
    obtain ⟨a, ha, c, hc, hb⟩ := hb
    split at hb
    · rename_i hs
      cases hb
      exact h2 pins s σ H _ _ v u Q I rx ry ⟨a, c, toPy_rep sB dx r1 ha, toPy_rep sB dy r2 hc, hs.1, hs.2, rD_end sB q (.bl _)⟩
    · cases hb
  unfold eqB at hb
  split at hb
  · cases r1; cases r2; cases hb
    refine h1 pins s σ H _ _ v u Q I rx ry ⟨rfl, ?_⟩
    rename_i i j
    have e : decide (V.int i = V.int j) = decide (i = j) := by simp
    rw [e]; exact rD_end sB q (.bl _)
  · cases r1; cases r2; cases hb
    refine h1 pins s σ H _ _ v u Q I rx ry ⟨rfl, ?_⟩
    rename_i i j
    have e : decide (V.str i = V.str j) = decide (i = j) := by simp
    rw [e]; exact rD_end sB q (.bl _)
  · cases r1; cases r2; cases hb
    refine h1 pins s σ H _ _ v u Q I rx ry ⟨rfl, ?_⟩
    rename_i i j
    have e : decide (V.bl i = V.bl j) = decide (i = j) := by simp
    rw [e]; exact rD_end sB q (.bl _)
  · cases r1; cases r2; cases hb
    refine h1 pins s σ H _ _ v u Q I rx ry ⟨rfl, ?_⟩
    have e : decide (V.non = V.non) = true := rfl
    rw [e]; exact rD_end sB q (.bl _)
  · exact gen hb
theorem op_dEq (hu : X.A.units + 64 < cLine) : OpR X (compareOp .Eq) (rD X.K dEq) := eq_core (f := id) hu op_eq (op_eqD hu)
theorem op_dNe (hu : X.A.units + 64 < cLine) : OpR X (compareOp .NotEq) (rD X.K dNe) := eq_core (f := not) hu op_ne (op_neD hu)
theorem cmpI_op {cmp : Value → Value → Sem Value} {p : Int → Int → Bool} (h : OpR X cmp (rI0 fun i j => .bl (p i j))) : OpR X cmp (rD X.K (cmpI p)) := by
  intro pins s σ H x y v u Q I rx ry ⟨B, dx, dy, d, sB, r1, r2, hg, q⟩
  cases r1 with
  | int i => cases r2 with
    | int j => cases hg; exact h pins s σ H _ _ v u Q I rx ry ⟨i, j, rfl, rfl, rD_end sB q (.bl _)⟩
    | _ => cases hg
  | _ => cases hg
theorem op_dLt : OpR X (compareOp .Lt) (rD X.K dLt) := cmpI_op op_lt
theorem op_dLe : OpR X (compareOp .LtE) (rD X.K dLe) := cmpI_op op_le
theorem op_dGt : OpR X (compareOp .Gt) (rD X.K dGt) := cmpI_op op_gt
theorem op_dGe : OpR X (compareOp .GtE) (rD X.K dGe) := cmpI_op op_ge
theorem op_dIs : OpR X (compareOp .Is) (rD X.K dIs) := by
  intro pins s σ H x y v u Q I rx ry ⟨B, dx, dy, d, sB, r1, r2, hg, q⟩
  cases r2 with
  | non =>
    refine op_isN pins s σ H _ _ v u Q I rx ry ⟨rfl, ?_⟩
    cases r1 <;> cases hg <;> exact rD_end sB q (.bl _)
  | _ => cases r1 <;> cases hg
theorem op_dIsNot : OpR X (compareOp .IsNot) (rD X.K dIsNot) := by
  intro pins s σ H x y v u Q I rx ry ⟨B, dx, dy, d, sB, r1, r2, hg, q⟩
  cases r2 with
  | non =>
    refine op_notN pins s σ H _ _ v u Q I rx ry ⟨rfl, ?_⟩
    cases r1 <;> cases hg <;> exact rD_end sB q (.bl _)
  | _ => cases r1 <;> cases hg
theorem op_dIn : OpR X (compareOp .In) (rD X.K dIn) := by
  intro pins s σ H x y v u Q I rx ry ⟨B, dx, dy, d, sB, r1, r2, hg, q⟩
  simp only [dIn, inB, Option.map_eq_some_iff, Option.bind_eq_some_iff] at hg
  obtain ⟨b, ⟨ds, h1, w, h2, vs, h3, rfl⟩, rfl⟩ := hg
  obtain ⟨p, xs, rfl, hs, rl⟩ := items_rep sB r2 h1
  obtain ⟨rfl, f1⟩ := flatD_rep r1 h2
  obtain ⟨rfl, f2⟩ := flatL_rep rl h3
  exact op_in_seq pins s σ H _ _ v u Q I rx ry ⟨p, _, rfl, hs, f1, f2, rD_end sB q (.bl _)⟩
theorem op_dNotIn : OpR X (compareOp .NotIn) (rD X.K dNotIn) := by
  intro pins s σ H x y v u Q I rx ry ⟨B, dx, dy, d, sB, r1, r2, hg, q⟩
  simp only [dNotIn, inB, Option.map_eq_some_iff, Option.bind_eq_some_iff] at hg
  obtain ⟨b, ⟨ds, h1, w, h2, vs, h3, rfl⟩, rfl⟩ := hg
  obtain ⟨p, xs, rfl, hs, rl⟩ := items_rep sB r2 h1
  obtain ⟨rfl, f1⟩ := flatD_rep r1 h2
  obtain ⟨rfl, f2⟩ := flatL_rep rl h3
  exact op_notIn_seq pins s σ H _ _ v u Q I rx ry ⟨p, _, rfl, hs, f1, f2, rD_end sB q (.bl _)⟩
theorem ix_d : IxR X (rD X.K dIx) := by
  intro value slice pins s σ H x y v u Q I rx ry ⟨B, dx, dy, d, sB, r1, r2, hg, q⟩ hs
  cases r1 with
  | lst h1 h2 => cases r2 with
    | int i =>
      obtain ⟨w, q1, q2⟩ := repL_atI h2 hg
      exact ix_list value slice pins s σ H _ _ v u Q I rx ry ⟨_, _, i, w, rfl, rfl, SqL.of (sB _ _ h1), q1, rD_end sB q q2⟩ hs
    | _ => cases hg
  | lsk h1 h2 => cases r2 with
    | int i =>
      obtain ⟨w, q1, q2⟩ := repL_atI h2 hg
      exact ix_list value slice pins s σ H _ _ v u Q I rx ry ⟨_, _, i, w, rfl, rfl, sB.seq h1, q1, rD_end sB q q2⟩ hs
    | _ => cases hg
  | tup h1 h2 => cases r2 with
    | int i =>
      obtain ⟨w, q1, q2⟩ := repL_atI h2 hg
      exact ix_tup value slice pins s σ H _ _ v u Q I rx ry ⟨_, _, i, w, rfl, rfl, Same.tup sB h1, q1, rD_end sB q q2⟩ hs
    | _ => cases hg
  | _ => cases r2 <;> cases hg

/-! ### built-in calls -/
theorem repL_one {K : PySem.W.Frag} {B : Hp} {xs : List V} {d : D} (r : RepL K B xs [d]) : ∃ x, xs = [x] ∧ Rep K B x d := by
  cases r with
  | cons h1 h2 => cases h2; exact ⟨_, rfl, h1⟩
theorem repL_two {K : PySem.W.Frag} {B : Hp} {xs : List V} {d e : D} (r : RepL K B xs [d, e]) : ∃ x y, xs = [x, y] ∧ Rep K B x d ∧ Rep K B y e := by
  cases r with
  | cons h1 h2 => cases h2 with | cons h3 h4 => cases h4; exact ⟨_, _, rfl, h1, h3⟩
theorem call_dLen : CallR X (.builtin "len") (rDL X.K dLen) := by
  intro pins s σ H xs us Q I r ⟨B, ds, d, sB, rl, hg, q⟩
  unfold dLen at hg
  split at hg
  · cases hg
    obtain ⟨x, rfl, r1⟩ := repL_one rl
    cases r1 with
    | lst h1 h2 => exact call_len_seq pins s σ H _ us Q I r ⟨_, _, rfl, .inl (SqL.of (sB _ _ h1)), by rw [h2.length]; exact rD_end sB q (.int _)⟩
  · cases hg
    obtain ⟨x, rfl, r1⟩ := repL_one rl
    cases r1 with
    | lsk h1 h2 => exact call_len_seq pins s σ H _ us Q I r ⟨_, _, rfl, .inl (sB.seq h1), by rw [h2.length]; exact rD_end sB q (.int _)⟩
  · cases hg
    obtain ⟨x, rfl, r1⟩ := repL_one rl
    cases r1 with
    | tup h1 h2 => exact call_len_seq pins s σ H _ us Q I r ⟨_, _, rfl, .inr (Same.tup sB h1), by rw [h2.length]; exact rD_end sB q (.int _)⟩
  · rename_i z
    split at hg
    · rename_i hz
      cases hg
      obtain ⟨x, rfl, r1⟩ := repL_one rl
      cases r1
      exact call_len_str pins s σ H _ us Q I r ⟨z, rfl, hz, rD_end sB q (.int _)⟩
    · cases hg
  · cases hg
def dInt : List D → Option D
  | [.int i] => some (.int i)
  | [.bl b] => some (.int (if b then 1 else 0))
  | _ => none
theorem call_dInt : CallR X (.type "int") (rDL X.K dInt) := by
  intro pins s σ H xs us Q I r ⟨B, ds, d, sB, rl, hg, q⟩
  unfold dInt at hg
  split at hg
  · cases hg
    obtain ⟨x, rfl, r1⟩ := repL_one rl
    cases r1
    exact call_int1 pins s σ H _ us Q I r (.inl ⟨_, rfl, rD_end sB q (.int _)⟩)
  · cases hg
    obtain ⟨x, rfl, r1⟩ := repL_one rl
    cases r1
    exact call_int1 pins s σ H _ us Q I r (.inr ⟨_, rfl, rD_end sB q (.int _)⟩)
  · cases hg
def dList : List D → Option D
  | [d] => (items d).map .lst
  | _ => none
theorem call_dList : CallR X (.type "list") (rDL X.K dList) := by
  intro pins s σ H xs us Q I r ⟨B, ds, d, sB, rl, hg, q⟩
  unfold dList at hg
  split at hg
  · obtain ⟨x, rfl, r1⟩ := repL_one rl
    rw [Option.map_eq_some_iff] at hg
    obtain ⟨es, h1, rfl⟩ := hg
    obtain ⟨p, ys, rfl, hs, r2⟩ := items_rep sB r1 h1
    refine call_list_of pins s σ H _ us Q I r ⟨p, ys, rfl, hs, fun l hl => ?_⟩
    exact q _ _ _ (Grow.ofNew sB hl) (.lst upd_same (r2.up (Grow.ofNew sB hl).bb))
  · cases hg
def dTuple : List D → Option D
  | [d] => (items d).map .tup
  | _ => none
theorem call_dTuple : CallR X (.type "tuple") (rDL X.K dTuple) := by
  intro pins s σ H xs us Q I r ⟨B, ds, d, sB, rl, hg, q⟩
  unfold dTuple at hg
  split at hg
  · obtain ⟨x, rfl, r1⟩ := repL_one rl
    rw [Option.map_eq_some_iff] at hg
    obtain ⟨es, h1, rfl⟩ := hg
    cases r1 with
    | lst q1 q2 =>
      cases h1
      refine call_tuple_of pins s σ H _ us Q I r ⟨_, _, rfl, .inl ⟨SqL.of (sB _ _ q1), fun l hl => ?_⟩⟩
      exact q _ _ _ (Grow.ofNew sB hl) (.tup (SqT.of upd_same) (q2.up (Grow.ofNew sB hl).bb))
    | lsk q1 q2 =>
      cases h1
      refine call_tuple_of pins s σ H _ us Q I r ⟨_, _, rfl, .inl ⟨sB.seq q1, fun l hl => ?_⟩⟩
      exact q _ _ _ (Grow.ofNew sB hl) (.tup (SqT.of upd_same) (q2.up (Grow.ofNew sB hl).bb))
    | tup q1 q2 =>
      cases h1
      exact call_tuple_of pins s σ H _ us Q I r ⟨_, _, rfl, .inr ⟨Same.tup sB q1, rD_end sB q (.tup q1 q2)⟩⟩
    | _ => cases h1
  · cases hg
def dMin : List D → Option D
  | [.int i, .int j] => some (.int (if j < i then j else i))
  | _ => none
theorem call_dMin (hc : X.calm = true) : CallR X (.builtin "min") (rDL X.K dMin) := by
  intro pins s σ H xs us Q I r ⟨B, ds, d, sB, rl, hg, q⟩
  unfold dMin at hg
  split at hg
  · cases hg
    obtain ⟨x, y, rfl, r1, r2⟩ := repL_two rl
    cases r1; cases r2
    exact call_min2 hc pins s σ H _ us Q I r ⟨_, _, rfl, rD_end sB q (.int _)⟩
  · cases hg
def dMax : List D → Option D
  | [.int i, .int j] => some (.int (if j > i then j else i))
  | _ => none
theorem call_dMax (hc : X.calm = true) : CallR X (.builtin "max") (rDL X.K dMax) := by
  intro pins s σ H xs us Q I r ⟨B, ds, d, sB, rl, hg, q⟩
  unfold dMax at hg
  split at hg
  · cases hg
    obtain ⟨x, y, rfl, r1, r2⟩ := repL_two rl
    cases r1; cases r2
    exact call_max2 hc pins s σ H _ us Q I r ⟨_, _, rfl, rD_end sB q (.int _)⟩
  · cases hg

/-! ### methods of an own list -/
def gAppend : List D → List D → Option (D × List D) := fun ds es => match es with
  | [e] => if ds.length < sizeLine then some (.non, ds ++ [e]) else none
  | _ => none
theorem mu_append : MtR X "list.append" (rMu X.K gAppend) := by
  intro pins s σ H x xs v us Q I rx rv ⟨B, l, ys, ds, es, d, ds', sB, bl, ex, hl, ry, re, hg, q⟩
  unfold gAppend at hg
  split at hg
  · split at hg
    · rename_i hz
      cases hg
      obtain ⟨y, rfl, r1⟩ := repL_one re
      exact mt_append pins s σ H x _ v us Q I rx rv ⟨l, ys, y, ex, rfl, hl, by rw [ry.length]; exact hz, q _ _ .non (ry.append (.cons r1 .nil))⟩
    · cases hg
  · cases hg
def gExtend : List D → List D → Option (D × List D) := fun ds es => match es with
  | [.lst fs] => if ds.length + fs.length ≤ sizeLine then some (.non, ds ++ fs) else none
  | _ => none
theorem mu_extend : MtR X "list.extend" (rMu X.K gExtend) := by
  intro pins s σ H x xs v us Q I rx rv ⟨B, l, ys, ds, es, d, ds', sB, bl, ex, hl, ry, re, hg, q⟩
  unfold gExtend at hg
  split at hg
  · split at hg
    · rename_i hz
      cases hg
      obtain ⟨y, rfl, r1⟩ := repL_one re
      cases r1 with
      | lst h1 h2 => exact mt_extend pins s σ H x _ v us Q I rx rv ⟨l, _, ys, _, ex, rfl, hl, sB _ _ h1, by rw [ry.length, h2.length]; exact hz, q _ _ .non (ry.append h2)⟩
    · cases hg
  · cases hg
def gPop : List D → List D → Option (D × List D) := fun ds es => match es with
  | [] => (ds.getLast?).map fun d => (d, ds.dropLast)
  | _ => none
theorem mu_pop : MtR X "list.pop" (rMu X.K gPop) := by
  intro pins s σ H x xs v us Q I rx rv ⟨B, l, ys, ds, es, d, ds', sB, bl, ex, hl, ry, re, hg, q⟩
  unfold gPop at hg
  split at hg
  · rw [Option.map_eq_some_iff] at hg
    obtain ⟨d', h1, h2⟩ := hg
    cases h2
    cases re
    rw [List.getLast?_eq_getElem?] at h1
    obtain ⟨y, e, r1⟩ := ry.get h1
    exact mt_pop pins s σ H x _ v us Q I rx rv ⟨l, ys, y, ex, rfl, hl, by rw [ry.length]; exact e, q _ _ r1 ry.dropLast⟩
  · cases hg
def gReverse : List D → List D → Option (D × List D) := fun ds es => match es with
  | [] => some (.non, ds.reverse)
  | _ => none
theorem mu_reverse : MtR X "list.reverse" (rMu X.K gReverse) := by
  intro pins s σ H x xs v us Q I rx rv ⟨B, l, ys, ds, es, d, ds', sB, bl, ex, hl, ry, re, hg, q⟩
  unfold gReverse at hg
  split at hg
  · cases hg; cases re
    exact mt_reverse pins s σ H x _ v us Q I rx rv ⟨l, ys, ex, rfl, hl, q _ _ .non ry.reverse⟩
  · cases hg
def gClear : List D → List D → Option (D × List D) := fun ds es => match es with
  | [] => some (.non, [])
  | _ => none
theorem mu_clear : MtR X "list.clear" (rMu X.K gClear) := by
  intro pins s σ H x xs v us Q I rx rv ⟨B, l, ys, ds, es, d, ds', sB, bl, ex, hl, ry, re, hg, q⟩
  unfold gClear at hg
  split at hg
  · cases hg; cases re
    exact mt_clear pins s σ H x _ v us Q I rx rv ⟨l, ys, ex, rfl, hl, q _ _ .non .nil⟩
  · cases hg
end
end L3

/-! enumerate over a tuple (the library's own rule is for lists) -/
namespace PySem
theorem meets_enumerate_newB1 {v : Value} {o : Obj} {H : Heap → Prop} (B : Begins v o H) :
    Meets (Builtin.«enumerate.__new__» ⟨[.type "enumerate", v], []⟩) (fun _ R s => H s.heap ∧
      R (.ok (.ret (.ref (s.heap.push o).objs.size))) { s with heap := (s.heap.push o).push { cls := .type "enumerate", data := .fields #[.none, .bool false, .ref s.heap.objs.size, rawInt 0, .none, .none] } }) :=
  .of_wp fun prog w A R s h => by
    obtain ⟨hp, g, d, tk, os⟩ := s; obtain ⟨h1, h⟩ := h
    have hsub := sub_enumerate
    have q1 : ∀ {A' : Around} {E : Value → Shared → Prop} {Q : Value → Shared → Prop}, Q (.ref hp.objs.size) ⟨hp.push o, g, d, tk, os⟩ → wpAny (model prog w) A' (pyIter v) Q E ⟨hp, g, d, tk, os⟩ :=
      fun q => B.iter prog w _ _ ⟨hp, g, d, tk, os⟩ _ h1 q
    wp_walk using q1
    refine wpAny_stack_any fun st => wpAny_pure ?_
    split
    · rename_i c _ _ _ _ _
      cases (c == Value.type "enumerate")
      · wp_walk using q1
        exact ⟨_, rfl, h⟩
      · wp_walk using q1
        exact ⟨_, rfl, h⟩
    · wp_walk using q1
      exact ⟨_, rfl, h⟩
section
variable {prog : Program} {w : World} {A : Around} {E : Value → Shared → Prop} {s : Shared}
theorem enum_begins1 {v : Value} {o : Obj} {H : Heap → Prop} {Q : Value → Shared → Prop} (B : Begins v o H) (h1 : H s.heap)
    (h : ∀ h', IsEnum h' (s.heap.objs.size + 1) s.heap.objs.size 0 .none → h'.get? s.heap.objs.size = some o → h'.objs.size = s.heap.objs.size + 2 →
      (∀ b o, s.heap.get? b = some o → h'.get? b = some o) → Q (.ref (s.heap.objs.size + 1)) { s with heap := h' }) :
    wpAny (model prog w) A (call (.type "enumerate") [v]) Q E s := by
  refine callType_new F.called_enumerate (by decide) (F.typeCall_enumerate_1 _) (F.newCall_enumerate_1 _) (fun obj => F.args_object_init_2 obj _) F.entry_enumerate_new
    (meets_enumerate_newB1 B) ⟨h1, ?_⟩
  have hz : (s.heap.push o).objs.size = s.heap.objs.size + 1 := Heap.size_push ..
  show _ ∧ _
  rw [hz]
  have he : IsEnum ((s.heap.push o).push { cls := .type "enumerate", data := .fields #[.none, .bool false, .ref s.heap.objs.size, rawInt 0, .none, .none] }) (s.heap.objs.size + 1) s.heap.objs.size 0 .none := by
    have := Heap.get?_push_size (s.heap.push o) (o := { cls := .type "enumerate", data := .fields #[.none, .bool false, .ref s.heap.objs.size, rawInt 0, .none, .none] }) rfl
    rw [hz] at this; exact this
  exact ⟨⟨_, he, rfl⟩, h _ he (Heap.get?_push_of_some _ (Heap.get?_push_size _ B.free)) (by rw [Heap.size_push, hz]) fun b o x => Heap.get?_push_of_some _ (Heap.get?_push_of_some _ x)⟩
end
end PySem
namespace L3
open PySem PySem.Spec PyProof.Rows L2
/-- the tuple at a, each item in a new pair -/
def IteT (K : PySem.W.Frag) (a : Addr) : It :=
  ⟨fun i H => ∃ (xs : List V) (x : V), SqT K H a xs ∧ xs[i]? = some x, fun i H v H' => ∃ T x, v = .ref T ∧ H T = none ∧ H' = upd H T (.tup [.int (i : Nat), x]) ∧ ∀ xs, SqT K H a xs → xs[i]? = some x, fun i H => ∃ xs : List V, SqT K H a xs ∧ xs.length ≤ i⟩
theorem turn_enumT {P : Program} {w : World} {K : PySem.W.Frag} {elts : List Expr} {kk : Nat} {tpos : Pos} (a e it : Addr) (hai : a ≠ it) (hea : e ≠ a) :
    Turn P w K (.Tuple elts kk tpos) (IteT K a) [e, it] e (fun i h => (∃ old, IsEnum h e it ((i : Nat) : Int) old) ∧ h.IsTupleIter it a i ∧ e ≠ it) where
  mem := by simp
  obj := fun i h st b hb => by
    obtain ⟨⟨old, he⟩, ⟨o, ho, hc, hd⟩, _⟩ := st
    have e' : b = e ∨ b = it := by simpa using hb
    rcases e' with z | z
    · rw [z]; exact ⟨_, he, fun v q => nomatch q⟩
    · rw [z]; exact ⟨o, ho, fun v q => by rw [hd] at q; cases q⟩
  keep := fun i h h' st k => let ⟨⟨old, he⟩, ⟨o, ho, r⟩, hne⟩ := st; ⟨⟨old, k e (by simp) _ he⟩, ⟨o, k it (by simp) o ho, r⟩, hne⟩
  item := by
    intro X hP hw hK hc i pins s σ H E I hf st hg
    subst hP hw hK
    obtain ⟨⟨old, he⟩, hit, hne⟩ := st
    obtain ⟨xs, x, hq, hx⟩ := hg
    obtain ⟨its, rv, p, hz⟩ := I.tuple hq
    obtain ⟨u, hu, ru⟩ := rv.get hx
    have hel : e < s.heap.objs.size := Heap.lt_size he
    have hil : it < s.heap.objs.size := by obtain ⟨_, q, _⟩ := hit; exact Heap.lt_size q
    have hi : i < its.toArray.size := by rw [List.size_toArray]; exact (List.getElem?_eq_some_iff.mp hu).1
    have hu' : its.toArray[i]? = some u := by simpa using hu
    refine wpAny_pyNext_enum_itemD (Draws.tuple (A := X.A.in1) (show X.A.in1.handled = none from I.ok.hd hc) it a hai its.toArray) he ⟨hit, p⟩ hi hne (by simp [hne, hea]) fun x' h' tk hPx ho hst' hT hsz hk => ?_
    have ex : x' = u := Option.some.inj (hPx.symm.trans hu')
    subst ex
    refine ⟨_, rfl, wpAny_letOwnedTupleGo_enum (s := { s with heap := h', toks := tk + 1 }) ho fun h'' he' sb => ?_⟩
    have hT2 : h''.get? s.heap.objs.size = some { cls := .type "tuple", data := .seq #[.int i tk, x'] } := (sb.2 _ (Nat.ne_of_gt hel)).trans hT
    have new : ObjOk X.prog X.w (upd H s.heap.objs.size (.tup [.int (i : Nat), x])) h'' s.heap.objs.size (.tup [.int (i : Nat), x]) :=
      ⟨by show 2 ≤ sizeLine; decide, [.int i tk, x'], .cons ⟨_, rfl⟩ (.cons ru .nil), ⟨_, hT2, rfl, _, rfl⟩⟩
    have I1 : Inv X pins σ (upd H s.heap.objs.size (.tup [.int (i : Nat), x])) { s with heap := h'', toks := tk + 1 } :=
      I.turnedNew (ch := [e, it]) (fun b ob hb q => (sb.2 b (fun z => hb (by simp [z]))).trans (hk b ob (fun z => hb (by simp [z])) (fun z => hb (by simp [z])) q)) hf (Nat.le_refl _) new
    refine ⟨.ref s.heap.objs.size, _, I1, rfl, ⟨_, x, rfl, I.hok.fresh (Nat.le_refl _), rfl, fun ys hy => by rw [I.tuple_inj hy hq]; exact hx⟩, ⟨⟨x', ?_⟩, ?_, hne⟩, fun b hb => ?_⟩
    · have e1 : ((i + 1 : Nat) : Int) = (i : Int) + 1 := by omega
      rw [e1]; exact he'
    · obtain ⟨⟨o, q1, q2⟩, _⟩ := hst'
      exact ⟨o, (sb.2 it (Ne.symm hne)).trans q1, q2⟩
    · have hb' : b < s.heap.objs.size := by
        have e' : b = e ∨ b = it := by simpa using hb
        rcases e' with z | z
        · rw [z]; exact hel
        · rw [z]; exact hil
      rw [upd_ne (Nat.ne_of_lt hb')]
      exact (hf b hb).1
  done := by
    intro X hP hw hK hc i pins s σ H E I hf st hg
    subst hP hw hK
    obtain ⟨⟨old, he⟩, hit, hne⟩ := st
    obtain ⟨xs, hq, hx⟩ := hg
    obtain ⟨its, rv, p, hz⟩ := I.tuple hq
    obtain ⟨f0, f1, f2, f3, f4, f5⟩ := hf it (by simp)
    have hl := rv.length
    -- the iterator stands at or behind the end
    have D : Draws X.prog X.w X.A.in1 it [it, a] i (fun _ _ => False) (fun j h => j = i ∧ h.IsTupleIter it a i ∧ h.IsTuple a its.toArray) := by
      refine ⟨fun _ _ st => let ⟨o, ho, _⟩ := st.2.1; ⟨o, ho⟩, fun _ h h' st hk => ⟨st.1, ?_, st.2.2.at fun o e => hk a (by simp) o e⟩, fun j s Q E hj st _ => absurd st.1 (Nat.ne_of_lt hj), fun s Q E st hE => ?_⟩
      · obtain ⟨o, ho, r⟩ := st.2.1
        exact ⟨o, hk it (by simp) o ho, r⟩
      · exact wpAny_nextOf_tuple_end (show X.A.in1.handled = none from I.ok.hd hc) st.2.1 st.2.2 (by simp; omega) hE
    exact wpAny_pyNext_enum_endD D he ⟨rfl, hit, p⟩ fun h' eb => ⟨rfl, I.turned (t' := s.toks) (fun b o hb q => eb b o hb q) f0 f1 f3 f4 f5⟩
  self := fun A i s Q E st h => let ⟨⟨_, he⟩, _⟩ := st; wpAny_pyIter_enum he h
def iEnumT (K : PySem.W.Frag) (ta : TA) : TI := fun σ H R => ta σ H fun vs H1 => ∃ a xs, vs = [.ref a] ∧ SqT K H1 a xs ∧ R (IteT K a) H1
theorem pi_enumT {X : Cx} {e : Expr} {ta : TA} {p pos tpos : Pos} {elts : List Expr} {kk : Nat} (hg : Gl X "enumerate") (hm : X.mg "enumerate" = none) (ha : PA X [e] ta) (hs : starEach [e] X.env = [(false, eval e X.env)] := by rfl) :
    PI X (.Tuple elts kk tpos) (.Call (.Name "enumerate" p) [e] [] pos) (iEnumT X.K ta) := by
  refine ⟨fun pins s σ H R I h => ?_⟩
  refine Call_ (ld_blt I hg hm boot_enumerate (PyProof.Rows.callWith_type1 (thn (ha.run pos pins s σ H _ I h) fun us s1 ⟨vs, H1, I1, r1, q1⟩ => ?_) hs rfl))
  obtain ⟨a, xs, ex, hq, q⟩ := q1
  subst ex
  cases r1 with
  | cons r rr =>
    cases rr
    cases r
    obtain ⟨its, rv, p', hz⟩ := I1.tuple hq
    have hal : a < s1.heap.objs.size := by obtain ⟨o, q, _⟩ := p'; exact Heap.lt_size q
    refine enum_begins1 (begins_tuple a its.toArray) p' fun h' he hit hsz hk => wpAny_pyIter_enum he ?_
    have I2 : Inv X pins σ H1 { s1 with heap := h' } := I1.kept (t' := s1.toks) hk
    refine ⟨s1.heap.objs.size + 1, [s1.heap.objs.size + 1, s1.heap.objs.size], _, _, H1, rfl, I2, turn_enumT a (s1.heap.objs.size + 1) s1.heap.objs.size (Nat.ne_of_lt hal) (Nat.ne_of_gt (Nat.lt_succ_of_lt hal)), ⟨⟨.none, he⟩, ⟨_, hit, rfl, rfl⟩, Nat.succ_ne_self _⟩, fun b hb => ?_, q⟩
    have e' : b = s1.heap.objs.size + 1 ∨ b = s1.heap.objs.size := by simpa using hb
    have hle : s1.heap.objs.size ≤ b := by
      rcases e' with z | z
      · rw [z]; exact Nat.le_add_right _ _
      · rw [z]; exact Nat.le_refl _
    exact I1.fpOk hle (I1.hok.fresh hle)
/-! ### in functional words -/
def enumD : Nat → List D → List D
  | _, [] => []
  | n, d :: r => .tup [.int (n : Nat), d] :: enumD (n + 1) r
theorem enumD_length : ∀ (n : Nat) (ds : List D), (enumD n ds).length = ds.length
  | _, [] => rfl
  | n, d :: r => by simp [enumD, enumD_length (n + 1) r]
theorem enumD_get : ∀ (n : Nat) (ds : List D) (i : Nat) {d : D}, (enumD n ds)[i]? = some d → ∃ e, ds[i]? = some e ∧ d = .tup [.int ((n + i : Nat) : Nat), e]
  | _, [], _, _, h => by simp [enumD] at h
  | n, x :: r, 0, d, h => by simp [enumD] at h; subst h; exact ⟨x, rfl, by simp⟩
  | n, x :: r, i + 1, d, h => by
    obtain ⟨e, h1, h2⟩ := enumD_get (n + 1) r i (by simpa [enumD] using h)
    exact ⟨e, by simpa using h1, by rw [h2]; congr 3; omega⟩
def fiEnum (f : FA) : FA := fun ρ => (f ρ).bind fun ds ρ' => match ds with
  | [d] => lift ((items d).map (enumD 0)) ρ'
  | _ => .no
theorem pair_rep {K : PySem.W.Frag} {B H : Hp} {T : Addr} {x : V} {e : D} {i : Nat} (s : Same B H) (hT : H T = none) (r : Rep K B x e) : Grow B H (upd B T (.tup [.int (i : Nat), x])) (upd H T (.tup [.int (i : Nat), x])) ∧ Rep K (upd B T (.tup [.int (i : Nat), x])) (.ref T) (.tup [.int (i : Nat), e]) := by
  have gr := Grow.ofNew (o := .tup [.int (i : Nat), x]) s hT
  exact ⟨gr, .tup (SqT.of upd_same) (.cons (.int _) (.cons (r.up gr.bb) .nil))⟩
theorem ite_ok {K : PySem.W.Frag} {B : Hp} {a : Addr} {xs : List V} {ds : List D} (h : SqL K B a xs) (r : RepL K B xs ds) : ItOk K B (Ite K a) (enumD 0 ds) where
  go := fun i H s hi => by
    rw [enumD_length] at hi
    obtain ⟨v, e⟩ := repL_at r hi
    exact ⟨xs, v, s.seq h, e⟩
  stop := fun H s => ⟨xs, s.seq h, by rw [enumD_length, r.length]; exact Nat.le_refl _⟩
  yld := fun i d H v H' B1 hd s s1 ⟨T, x, hv, hT, hH, hx⟩ => by
    subst hv hH
    obtain ⟨e, q1, q2⟩ := enumD_get 0 ds i hd
    obtain ⟨w, q3, q4⟩ := r.get q1
    have := hx xs ((s.trans s1).seq h)
    rw [q3] at this; cases this
    subst q2
    rw [Nat.zero_add]
    exact ⟨_, pair_rep s1 hT (q4.up s)⟩
theorem iteT_ok {K : PySem.W.Frag} {B : Hp} {a : Addr} {xs : List V} {ds : List D} (h : SqT K B a xs) (r : RepL K B xs ds) : ItOk K B (IteT K a) (enumD 0 ds) where
  go := fun i H s hi => by
    rw [enumD_length] at hi
    obtain ⟨v, e⟩ := repL_at r hi
    exact ⟨xs, v, Same.tup s h, e⟩
  stop := fun H s => ⟨xs, Same.tup s h, by rw [enumD_length, r.length]; exact Nat.le_refl _⟩
  yld := fun i d H v H' B1 hd s s1 ⟨T, x, hv, hT, hH, hx⟩ => by
    subst hv hH
    obtain ⟨e, q1, q2⟩ := enumD_get 0 ds i hd
    obtain ⟨w, q3, q4⟩ := r.get q1
    have := hx xs (Same.tup (s.trans s1) h)
    rw [q3] at this; cases this
    subst q2
    rw [Nat.zero_add]
    exact ⟨_, pair_rep s1 hT (q4.up s)⟩
section
variable {X : Cx} {c : Cst} {O : Oo} {W : WX}
def fiEnumL (f : FA) : FA := fun ρ => (f ρ).bind fun ds ρ' => match ds with
  | [.lst es] => .ok (enumD 0 es) ρ'
  | [.lsk es] => .ok (enumD 0 es) ρ'
  | _ => .no
def fiEnumT (f : FA) : FA := fun ρ => (f ρ).bind fun ds ρ' => match ds with
  | [.tup es] => .ok (enumD 0 es) ρ'
  | _ => .no
theorem i_enum {e : Expr} {fa : FA} {p pos tpos : Pos} {elts : List Expr} {kk : Nat} (hm : X.mg "enumerate" = none) (ha : PA X [e] (tA c O W fa)) (hg : Gl X "enumerate" := by rfl) (hs : starEach [e] X.env = [(false, eval e X.env)] := by rfl) (hK : c.K = X.K := by rfl) :
    PI X (.Tuple elts kk tpos) (.Call (.Name "enumerate" p) [e] [] pos) (tIt c O W (fiEnumL fa)) :=
  PI.imp (pi_enum hg hm ha hs) fun σ H R ⟨B, fp, ρ, er, k⟩ => ⟨B, fp, ρ, er, (RG.bind k).mp fun ds ρ1 H1 B1 fp1 s1 e1 k1 vs rs => by
    split at k1
    · obtain ⟨x, rfl, r⟩ := repL_one rs
      cases r with
      | lst h1 h2 => exact ⟨_, _, rfl, SqL.of (e1.bh _ _ h1), by have := k1 H1 B1 fp1 (.refl _) e1 _ (ite_ok (SqL.of h1) h2); rw [hK] at this; exact this⟩
    · obtain ⟨x, rfl, r⟩ := repL_one rs
      cases r with
      | lsk h1 h2 => exact ⟨_, _, rfl, hK ▸ e1.bh.seq h1, by have := k1 H1 B1 fp1 (.refl _) e1 _ (ite_ok h1 h2); rw [hK] at this; exact this⟩
    · exact k1.elim⟩
theorem i_enumT {e : Expr} {fa : FA} {p pos tpos : Pos} {elts : List Expr} {kk : Nat} (hm : X.mg "enumerate" = none) (ha : PA X [e] (tA c O W fa)) (hg : Gl X "enumerate" := by rfl) (hs : starEach [e] X.env = [(false, eval e X.env)] := by rfl) (hK : c.K = X.K := by rfl) :
    PI X (.Tuple elts kk tpos) (.Call (.Name "enumerate" p) [e] [] pos) (tIt c O W (fiEnumT fa)) :=
  PI.imp (pi_enumT hg hm ha hs) fun σ H R ⟨B, fp, ρ, er, k⟩ => ⟨B, fp, ρ, er, (RG.bind k).mp fun ds ρ1 H1 B1 fp1 s1 e1 k1 vs rs => by
    split at k1
    · obtain ⟨x, rfl, r⟩ := repL_one rs
      cases r with
      | tup h1 h2 => exact ⟨_, _, rfl, hK ▸ Same.tup e1.bh h1, by have := k1 H1 B1 fp1 (.refl _) e1 _ (iteT_ok h1 h2); rw [hK] at this; exact this⟩
    · exact k1.elim⟩
end
end L3

namespace L3
open PySem PySem.Spec PyProof.Rows L2

/-! ### isinstance -/
abbrev TK := Sum String Str
def tkOf : D → Option TK
  | .non => some (.inl "NoneType")
  | .bl _ => some (.inl "bool")
  | .int _ => some (.inl "int")
  | .str _ => some (.inl "str")
  | .lst _ => some (.inl "list")
  | .lsk _ => some (.inl "list")
  | .tup _ => some (.inl "tuple")
  | .ins C _ => some (.inr C)
  | _ => none
def ckOf : D → Option TK
  | .ty n => some (.inl n)
  | .fn n => some (.inr n)
  | _ => none
def tkV (K : PySem.W.Frag) : TK → Value
  | .inl n => .type n
  | .inr n => .ref (clsA K n)
abbrev ITb := List (TK × TK × Bool)
def tNames : List String := ["NoneType", "bool", "int", "str", "list", "tuple"]
def cNames : List String := ["int", "bool", "str", "list", "tuple", "dict", "set"]
def isTB (n T : String) : Bool := n == T || (n == "bool" && T == "int")
theorem isTB_ok : tNames.all (fun n => cNames.all fun T => kitB n T == some (isTB n T)) = true := by decide +kernel
/-- is one of type a one of class c: built-in ones by rule, others by the table -/
def is1 (tb : ITb) (a c : TK) : Option Bool := if a = c then some true else match a, c with
  | .inl n, .inl T => if n ∈ tNames ∧ T ∈ cNames then some (isTB n T) else none
  | _, _ => (tb.find? fun e => decide (e.1 = a) && decide (e.2.1 = c)).map (·.2.2)
def isAny (tb : ITb) (a : TK) : List TK → Option Bool
  | [] => some false
  | c :: r => match is1 tb a c with
    | some true => some true
    | some false => isAny tb a r
    | none => none
def cksOf : List D → Option (List TK)
  | [] => some []
  | d :: r => (ckOf d).bind fun c => (cksOf r).map (c :: ·)
def dIsi (tb : ITb) : List D → Option D
  | [x, .tup cs] => (tkOf x).bind fun a => (cksOf cs).bind fun ks => (isAny tb a ks).map .bl
  | [x, c] => (tkOf x).bind fun a => (ckOf c).bind fun k => (is1 tb a k).map .bl
  | _ => none
/-- what the written part must say for the table; the own classes whose instances are asked -/
structure InsTy (K : PySem.W.Frag) (C : Addr) : Prop where
  cl : Cls K C
  ha : PySem.W.findIn K (.ref C) "__class__" = some (some (.builtin "object.__class__"))
  hn : PySem.W.specialIn K (.builtin "object.__class__") "__get__" = some (some (.builtin "getset_descriptor.__get__"))
  htk : PySem.W.takesIn K (.builtin "object.__class__") = some true
  hm : PySem.W.mroIn K C (.type "object") = some true
structure ITab (K : PySem.W.Frag) (cs : List Str) (tb : ITb) : Prop where
  ins : ∀ C ∈ cs, InsTy K (clsA K C)
  ent : ∀ e ∈ tb, PySem.W.kitOne K (tkV K e.1) (tkV K e.2.1) = some e.2.2
theorem is1_ok {K : PySem.W.Frag} {cs : List Str} {tb : ITb} (T : ITab K cs tb) {a c : TK} {b : Bool} (h : is1 tb a c = some b) : PySem.W.kitOne K (tkV K a) (tkV K c) = some b := by
  unfold is1 at h
  split at h
  · rename_i q; subst q; cases h
    unfold PySem.W.kitOne; rw [if_pos (by simp)]
  · split at h
    · rename_i n T' _
      split at h
      · rename_i q
        cases h
        have h1 := List.all_eq_true.mp isTB_ok n q.1
        have h2 := List.all_eq_true.mp h1 T' q.2
        exact kit_ty (by simpa using h2)
      · cases h
    · rw [Option.map_eq_some_iff] at h
      obtain ⟨e, h1, rfl⟩ := h
      have h2 := List.find?_some h1
      rw [Bool.and_eq_true] at h2
      have h4 := of_decide_eq_true h2.1
      have h5 := of_decide_eq_true h2.2
      have h3 := T.ent e (List.mem_of_find?_eq_some h1)
      rw [h4, h5] at h3; exact h3
theorem isAny_ok {K : PySem.W.Frag} {cs : List Str} {tb : ITb} (T : ITab K cs tb) {a : TK} : ∀ {l : List TK} {b : Bool}, isAny tb a l = some b → PySem.W.kitAny K (tkV K a) (l.map (tkV K)) = some b
  | [], b, h => by cases h; rfl
  | c :: r, b, h => by
    unfold isAny at h
    split at h
    · rename_i q; cases h
      exact kitAny_cons (is1_ok T q) (fun z => nomatch z) fun _ => rfl
    · rename_i q
      exact kitAny_cons (is1_ok T q) (fun _ => isAny_ok T h) fun z => nomatch z
    · cases h
theorem tk_rep {K : PySem.W.Frag} {B H : Hp} {cs : List Str} {tb : ITb} (T : ITab K cs tb) (s : Same B H) {x : V} {d : D} (r : Rep K B x d) {a : TK} (h : tkOf d = some a) (hc : ∀ C, a = .inr C → C ∈ cs) : TyX K H x (tkV K a) := by
  cases r with
  | non => cases h; exact .base .non
  | bl b => cases h; exact .base (.bl b)
  | int i => cases h; exact .base (.int i)
  | str y => cases h; exact .base (.str y)
  | ty n => cases h
  | fn n => cases h
  | lst h1 h2 => cases h; exact .base (.lst (s _ _ h1))
  | lsk h1 h2 =>
    cases h
    rcases s.seq h1 with (q | ⟨o, q⟩) | ⟨o, its, n, q, q1, _⟩
    · exact .base (.lst q)
    · exact .base (.frz q)
    · exact .kList q q1
  | tup h1 h2 =>
    cases h
    rcases Same.tup s h1 with (q | ⟨o, q⟩) | ⟨o, its, n, q, q1, _⟩
    · exact .base (.tup q)
    · exact .fTuple q
    · exact .kTuple q q1
  | ins h1 h2 =>
    cases h
    have t := T.ins _ (hc _ rfl)
    exact .base (.ins (s _ _ h1) t.cl t.ha t.hn t.htk t.hm)
theorem ck_rep {K : PySem.W.Frag} {B : Hp} {x : V} {d : D} (r : Rep K B x d) {c : TK} (h : ckOf d = some c) : ClsV x (tkV K c) := by
  cases r <;> cases h
  · exact .ty _
  · exact .own _
theorem cks_rep {K : PySem.W.Frag} {B : Hp} : ∀ {ds : List D} {xs : List V} {ks : List TK}, RepL K B xs ds → cksOf ds = some ks → Paired ClsV xs (ks.map (tkV K))
  | [], _, _, r, h => by cases r; cases h; exact .nil
  | d :: ds, _, _, r, h => by
    cases r with
    | cons r1 r2 =>
      simp only [cksOf, Option.bind_eq_some_iff, Option.map_eq_some_iff] at h
      obtain ⟨c, h1, ks, h2, rfl⟩ := h
      exact .cons (ck_rep r1 h1) (cks_rep r2 h2)
/-- the own classes asked are among cs -/
def insOk (cs : List Str) : D → Bool
  | .ins C _ => cs.contains C
  | _ => true
def dIsiC (cs : List Str) (tb : ITb) (ds : List D) : Option D := if (ds.head?.map (insOk cs)).getD true = true then dIsi tb ds else none
section
variable {X : Cx}
theorem call_dIsi {cs : List Str} {tb : ITb} (T : ITab X.K cs tb) : CallR X (.builtin "isinstance") (rDL X.K (dIsiC cs tb)) := by
  intro pins s σ H xs us Q I r ⟨B, ds, d, sB, rl, hg, q⟩
  unfold dIsiC at hg
  split at hg
  · rename_i hin
    unfold dIsi at hg
    split at hg
    · rename_i x cl
      simp only [Option.bind_eq_some_iff, Option.map_eq_some_iff] at hg
      obtain ⟨a, h1, ks, h2, b, h3, rfl⟩ := hg
      obtain ⟨v, w, rfl, r1, r2⟩ := repL_two rl
      have tx := tk_rep T sB r1 h1 (fun C hC => by
        subst hC
        cases x <;> cases h1
        simpa [insOk] using hin)
      cases r2 with
      | tup h4 h5 =>
        have hk := isAny_ok T h3
        have cp := cks_rep h5 h2
        obtain ⟨u1, u2, rfl, q1, q2⟩ := vals2 r
        cases (show u2 = Value.ref _ from q2)
        obtain ⟨P, Z, p, hx⟩ := kit_of I q1 tx
        obtain ⟨its, rv, ⟨o, e1, e2, n, e3⟩, _⟩ := I.tuple (Same.tup sB h4)
        have e4 := ClsV.all cp rv
        subst e4
        obtain ⟨oc, od, dt, sl⟩ := o
        simp only at e2 e3
        subst e2 e3
        exact PySem.W.kia_tup Z I.kIn p e1 hk hx fun tk => ⟨.bl b, H, I.tok tk, rfl, rD_end sB q (.bl _)⟩
    · rename_i x cl _
      simp only [Option.bind_eq_some_iff, Option.map_eq_some_iff] at hg
      obtain ⟨a, h1, k, h2, b, h3, rfl⟩ := hg
      obtain ⟨v, w, rfl, r1, r2⟩ := repL_two rl
      have tx := tk_rep T sB r1 h1 (fun C hC => by
        subst hC
        cases x <;> cases h1
        simpa [insOk] using hin)
      exact call_isi pins s σ H _ us Q I r ⟨v, w, _, _, b, rfl, ck_rep r2 h2, tx, is1_ok T h3, rD_end sB q (.bl _)⟩
    · cases hg
  · cases hg
end

/-! ### dicts of the module's top with text keys -/
def entsV : List DictEntry → List (Str × Value)
  | [] => []
  | e :: r => match e.key with
    | .str x _ => (x, e.val) :: entsV r
    | _ => entsV r
def entsOk (l : List DictEntry) : Bool := l.all fun e => match e.key with
  | .str _ _ => true
  | _ => false
theorem find_ents (z : Str) : ∀ (l : List DictEntry), entsOk l = true → (l.find? (·.key.isStr z)).map (·.val) = (entsV l).lookup z
  | [], _ => rfl
  | e :: r, h => by
    simp only [entsOk, List.all_cons, Bool.and_eq_true] at h
    obtain ⟨hh, k, v⟩ := e
    cases k with
    | str x t =>
      have ih := find_ents z r h.2
      simp only [entsV, List.find?_cons, List.lookup_cons, Value.isStr]
      by_cases q : x = z
      · subst q; simp
      · have q1 : (x == z) = false := by simpa using q
        have q2 : (z == x) = false := by simpa using Ne.symm q
        simp only [q1, q2]
        exact ih
    | _ => simp at h
theorem noRefKey : ∀ (l : List DictEntry), entsOk l = true → l.any (·.refKey) = false
  | [], _ => rfl
  | e :: r, h => by
    simp only [entsOk, List.all_cons, Bool.and_eq_true] at h
    obtain ⟨hh, k, v⟩ := e
    cases k with
    | str x t =>
      simp only [List.any_cons, noRefKey r h.2, Bool.or_false]
      rfl
    | _ => simp at h
/-- the module's dict n with the keys and values of tb -/
structure KTab (K : PySem.W.Frag) (w : World) (a : Addr) (tb : List (Str × D)) : Prop where
  ex : ∃ (es : Array DictEntry) (cnt : Nat), KDict K w a es cnt ∧ entsOk es.toList = true ∧ ∀ z, (entsV es.toList).lookup z = none ∧ tb.lookup z = none ∨ ∃ u d v, (entsV es.toList).lookup z = some u ∧ tb.lookup z = some d ∧ RelV v u ∧ ∀ B, Rep K B v d
theorem KTab.ns {K : PySem.W.Frag} {w : World} {a : Addr} {tb : List (Str × D)} (T : KTab K w a tb) (z : Str) : (PySem.W.nsIn K a z = some none ∧ tb.lookup z = none) ∨ ∃ u d v, PySem.W.nsIn K a z = some (some u) ∧ tb.lookup z = some d ∧ RelV v u ∧ ∀ B, Rep K B v d := by
  obtain ⟨es, cnt, D, h1, h2⟩ := T.ex
  have h3 := find_ents z es.toList h1
  have h4 := noRefKey es.toList h1
  have e : PySem.W.nsIn K a z = (match es.toList.find? (·.key.isStr z) with
      | some e => some (some e.val)
      | none => if es.toList.any (·.refKey) then none else some none) := by
    unfold PySem.W.nsIn
    rw [D.at_]
    rfl
  rcases h2 z with ⟨q1, q2⟩ | ⟨u, d, v, q1, q2, q3, q4⟩
  · refine .inl ⟨?_, q2⟩
    rw [e]
    rw [q1] at h3
    cases q : es.toList.find? (·.key.isStr z) with
    | none => simp [h4]
    | some x => rw [q] at h3; cases h3
  · refine .inr ⟨u, d, v, ?_, q2, q3, q4⟩
    rw [e]
    rw [q1] at h3
    cases q : es.toList.find? (·.key.isStr z) with
    | none => rw [q] at h3; cases h3
    | some x => rw [q] at h3; simp at h3; simp [h3]
section
variable {X : Cx} {c : Cst} {O : Oo} {W : WX}
def dInT (tb : List (Str × D)) : D → Option D
  | .str z => some (.bl (tb.lookup z).isSome)
  | _ => none
def dNotInT (tb : List (Str × D)) : D → Option D
  | .str z => some (.bl (!(tb.lookup z).isSome))
  | _ => none
def dIxT (tb : List (Str × D)) : D → Option D
  | .str z => tb.lookup z
  | _ => none
variable {a b : Expr} {fa : FE} {pos : Pos} {A : Addr} {tb : List (Str × D)}
theorem inT_core {g : D → Option D} {r : R2} (hr : ∀ z Q H, (∀ d, g (.str z) = some d → ∀ v, (∀ B, Rep c.K B v d) → Q v H) → (∃ d, g (.str z) = some d) → r (.str z) (.ref A) H Q) (hg : ∀ x d, g x = some d → ∃ z, x = .str z) {σ : L2.St} {H : Hp} {Q : VK} (h : tF c O W (f1 g fa) σ H Q) :
    tOp r (tF c O W fa) (tC (.ref A)) σ H Q := by
  obtain ⟨B, fp, ρ, er, k⟩ := h
  refine ⟨B, fp, ρ, er, (RG.bind k).mp fun x ρ1 H1 B1 fp1 s1 e1 k1 v rv => ?_⟩
  obtain ⟨d, hd, k3⟩ := RG.lift k1
  obtain ⟨z, rfl⟩ := hg _ _ hd
  cases rv
  exact hr z Q H1 (fun d' hd' w rw' => by
    rw [hd] at hd'; cases hd'
    exact k3 H1 B1 fp1 (.refl _) e1 w (rw' B1)) ⟨d, hd⟩
theorem e_inT (T : KTab X.K X.w A tb) (ha : PE X a (tF c O W fa)) (hb : PE X b (tC (.ref A))) (hm : behindInMarks .In b = false := by rfl) (hK : c.K = X.K := by rfl) : PE X (.Compare a [.In] [b] pos) (tF c O W (f1 (dInT tb) fa)) := by
  obtain ⟨es, cnt, D, _⟩ := T.ex
  refine PE.imp (pe_cmpR (op_in_kd D) ha hb hm) fun _ _ _ h => inT_core (fun z Q H k _ => ?_) (fun x d q => by cases x <;> simp [dInT] at q; exact ⟨_, rfl⟩) h
  rcases T.ns z with ⟨q1, q2⟩ | ⟨u, d, v, q1, q2, _⟩
  · exact ⟨z, none, rfl, rfl, q1, k _ (by simp [dInT]; rfl) _ fun B => by simp only [q2]; exact .bl _⟩
  · exact ⟨z, some u, rfl, rfl, q1, k _ (by simp [dInT]; rfl) _ fun B => by simp only [q2]; exact .bl _⟩
theorem e_notInT (T : KTab X.K X.w A tb) (ha : PE X a (tF c O W fa)) (hb : PE X b (tC (.ref A))) (hm : behindInMarks .NotIn b = false := by rfl) (hK : c.K = X.K := by rfl) : PE X (.Compare a [.NotIn] [b] pos) (tF c O W (f1 (dNotInT tb) fa)) := by
  obtain ⟨es, cnt, D, _⟩ := T.ex
  refine PE.imp (pe_cmpR (op_notIn_kd D) ha hb hm) fun _ _ _ h => inT_core (fun z Q H k _ => ?_) (fun x d q => by cases x <;> simp [dNotInT] at q; exact ⟨_, rfl⟩) h
  rcases T.ns z with ⟨q1, q2⟩ | ⟨u, d, v, q1, q2, _⟩
  · exact ⟨z, none, rfl, rfl, q1, k _ (by simp [dNotInT]; rfl) _ fun B => by simp only [q2]; exact .bl _⟩
  · exact ⟨z, some u, rfl, rfl, q1, k _ (by simp [dNotInT]; rfl) _ fun B => by simp only [q2]; exact .bl _⟩
/-- t[key], t a dict of the module's top -/
theorem e_ixT (T : KTab X.K X.w A tb) (ha : PE X a (tF c O W fa)) (hb : PE X b (tC (.ref A))) (hs : PlainIx a := by exact fun _ _ => rfl) (hK : c.K = X.K := by rfl) : PE X (.Subscript b a pos) (tF c O W (f1 (dIxT tb) fa)) := by
  obtain ⟨es, cnt, D, _⟩ := T.ex
  refine PE.imp (pe_ix ix_kdict hb ha hs) fun σ H Q ⟨B, fp, ρ, er, k⟩ => ⟨B, fp, ρ, er, (RG.bind k).mp fun x ρ1 H1 B1 fp1 s1 e1 k1 v rv => ?_⟩
  obtain ⟨d, hd, k3⟩ := RG.lift k1
  cases rv with
  | str z =>
    simp only [dIxT] at hd
    rcases T.ns z with ⟨q1, q2⟩ | ⟨u, d', w, q1, q2, q3, q4⟩
    · rw [q2] at hd; cases hd
    · rw [q2] at hd; cases hd
      exact ⟨A, z, w, rfl, rfl, ⟨es, cnt, u, D.at_, D.lit, q1, q3⟩, k3 H1 B1 fp1 (.refl _) e1 w (hK ▸ q4 B1)⟩
  | _ => cases hd
end
end L3

namespace L3
open PySem PySem.Spec PyProof.Rows L2

section
variable {X : Cx} {c : Cst} {O : Oo} {W : WX} {a b o e cc : Expr} {fa fb fo fc : FE} {pos apos : Pos} {es : List Expr} {fl : FA}
/-! ### methods of frozen data -/
def fBm (ok : D → Bool) (g : D → List D → Option D) (fo : FE) (fl : FA) : FE := fun ρ => (fo ρ).bind fun d ρ1 => if ok d = true then (fl ρ1).bind fun es ρ2 => lift (g d es) ρ2 else .no
def rMD (K : PySem.W.Frag) (g : D → List D → Option D) : V → List V → Hp → VK → Prop := fun x vs H Q => ∃ B dx ds d, Same B H ∧ Rep K B x dx ∧ RepL K B vs ds ∧ g dx ds = some d ∧ ∀ v H' B', Grow B H B' H' → Rep K B' v d → Q v H'
def isL : D → Bool
  | .lst _ => true | .lsk _ => true | _ => false
def isS : D → Bool
  | .str _ => true | _ => false
theorem e_bm {ok : D → Bool} {g : D → List D → Option D} {T id : String} {name : Str} {r : V → List V → Hp → VK → Prop} (pa : PlainAttrs T) (slot : Slot T name id) (hty : typeOf (.builtin id) = pure (.type "method_descriptor")) (hm : MtR X id r) (hr : ∀ x vs H Q, rMD c.K g x vs H Q → r x vs H Q)
    (hT : ∀ B H v d, Same B H → Rep c.K B v d → ok d = true → tyV X.K T v H) (ho : PE X o (tF c O W fo)) (ha : PA X (e :: es) (tA c O W fl))
    (hbase : attributeBase o name X.env (eval o X.env) = eval o X.env := by rfl)
    (hfew : ((backTo pos (starEach (e :: es) X.env)).all (fun x => !x.1) && (backToKw pos (keywordEach [] X.env)).all (fun x => x.1.isSome)
      && decide ((e :: es).length + ([] : List Keyword).length + (if ([] : List Keyword).isEmpty then 0 else 1) < 30)) = true := by rfl)
    (hline : (apos.endLine == pos.line) = true := by rfl) (hs : starEach (e :: es) X.env = (false, eval e X.env) :: starEach es X.env := by rfl) (hplain : (backTo pos (starEach es X.env)).any (·.1) = false := by rfl) :
    PE X (.Call (.Attribute o name apos) (e :: es) [] pos) (tF c O W (fBm ok g fo fl)) :=
  PE.imp (pe_bm pa slot hty hm ho ha hbase hfew hline hs hplain) fun σ H Q ⟨B, fp, ρ, er, k⟩ => ⟨B, fp, ρ, er, (RG.bind k).mp fun d ρ1 H1 B1 fp1 s1 e1 k1 v rv => by
    by_cases hd : ok d = true
    · rw [if_pos hd] at k1
      refine ⟨hT _ _ _ _ e1.bh rv hd, B1, fp1, ρ1, e1, (RG.bind k1).mp fun ds ρ2 H2 B2 fp2 s2 e2 k2 vs rs => ?_⟩
      obtain ⟨z, hz, k3⟩ := RG.lift k2
      exact hr _ _ _ _ ⟨B2, d, ds, z, e2.bh, rv.up s2, rs, hz, fun w H' B' gr rw' => k3 H' B' fp2 gr.bb (e2.grow gr) w rw'⟩
    · rw [if_neg hd] at k1; exact k1.elim⟩
theorem ty_L {K : PySem.W.Frag} : ∀ B H v d, Same B H → Rep K B v d → isL d = true → tyV K "list" v H := fun B H v d s r h => by
  cases r with
  | lst h1 h2 => exact .inl ⟨rfl, _, SqL.of (s _ _ h1)⟩
  | lsk h1 h2 => exact .inl ⟨rfl, _, s.seq h1⟩
  | _ => cases h
theorem ty_S {K : PySem.W.Frag} : ∀ B H v d, Same B H → Rep K B v d → isS d = true → tyV K "str" v H := fun B H v d s r h => by
  cases r with
  | str x => rfl
  | _ => cases h
def itemsL : D → Option (List D)
  | .lst ds => some ds
  | .lsk ds => some ds
  | _ => none
theorem itemsL_rep {K : PySem.W.Frag} {B H : Hp} {x : V} {d : D} (s : Same B H) (r : Rep K B x d) {ds : List D} (h : itemsL d = some ds) : ∃ p xs, x = .ref p ∧ SqL K H p xs ∧ RepL K B xs ds := by
  cases r with
  | lst h1 h2 => cases h; exact ⟨_, _, rfl, SqL.of (s _ _ h1), h2⟩
  | lsk h1 h2 => cases h; exact ⟨_, _, rfl, s.seq h1, h2⟩
  | _ => cases h
def ixOf (x : V) (xs : List V) : Option Nat := xs.findIdx? fun y => eqV y x
def gIndex : D → List D → Option D := fun d es => match es with
  | [e] => (itemsL d).bind fun ds => (flatD e).bind fun v => (flatL ds).bind fun vs => (ixOf v vs).map fun j => .int (j : Nat)
  | _ => none
theorem mtd_index : MtR X "list.index" (rMD X.K gIndex) := by
  intro pins s σ H x xs v us Q I rx rv ⟨B, dx, ds, d, sB, r1, rl, hg, q⟩
  unfold gIndex at hg
  split at hg
  · simp only [Option.bind_eq_some_iff, Option.map_eq_some_iff] at hg
    obtain ⟨es, h1, w, h2, vs, h3, j, h4, rfl⟩ := hg
    obtain ⟨y, rfl, r2⟩ := repL_one rl
    obtain ⟨rfl, f1⟩ := flatD_rep r2 h2
    obtain ⟨p, ys, rfl, hs, r3⟩ := itemsL_rep sB r1 h1
    obtain ⟨rfl, f2⟩ := flatL_rep r3 h3
    unfold ixOf at h4
    rw [List.findIdx?_eq_some_iff_getElem] at h4
    obtain ⟨hj, e1, e2⟩ := h4
    exact mt_index pins s σ H _ _ v us Q I rx rv ⟨p, ys, y, j, ys[j], rfl, rfl, hs, f1, f2, List.getElem?_eq_getElem hj, e1, fun m z' hm hz' => by
      have hml : m < ys.length := by omega
      rw [List.getElem?_eq_getElem hml] at hz'
      cases hz'
      simpa using e2 m hm, rD_end sB q (.int _)⟩
  · cases hg
/-- xs.index(x), xs a frozen list -/
theorem e_index (ho : PE X o (tF c O W fo)) (ha : PA X (e :: es) (tA c O W fl)) (hK : c.K = X.K := by rfl)
    (hbase : attributeBase o "index" X.env (eval o X.env) = eval o X.env := by rfl)
    (hfew : ((backTo pos (starEach (e :: es) X.env)).all (fun x => !x.1) && (backToKw pos (keywordEach [] X.env)).all (fun x => x.1.isSome)
      && decide ((e :: es).length + ([] : List Keyword).length + (if ([] : List Keyword).isEmpty then 0 else 1) < 30)) = true := by rfl)
    (hline : (apos.endLine == pos.line) = true := by rfl) (hs : starEach (e :: es) X.env = (false, eval e X.env) :: starEach es X.env := by rfl) (hplain : (backTo pos (starEach es X.env)).any (·.1) = false := by rfl) :
    PE X (.Call (.Attribute o "index" apos) (e :: es) [] pos) (tF c O W (fBm isL gIndex fo fl)) :=
  e_bm PySem.F.plainAttrs_list PySem.F.slot_list_index PySem.F.type_list_index mtd_index (fun _ _ _ _ h => hK ▸ h) (fun B H v d s r h => hK ▸ ty_L B H v d s r h) ho ha hbase hfew hline hs hplain

/-! ### tuples of the module's top (or of a class) -/
def absD : Value → Option D
  | .none => some .non
  | .bool b => some (.bl b)
  | .int i _ => some (.int i)
  | .str x _ => some (.str x)
  | .type n => some (.ty n)
  | _ => none
def absDL : List Value → Option (List D)
  | [] => some []
  | v :: r => (absD v).bind fun d => (absDL r).map (d :: ·)
structure KTup (K : PySem.W.Frag) (A : Addr) (ds : List D) : Prop where
  ex : ∃ (o : Obj) (its : Array Value) (n : Nat) (vs : List V), K.lookup A = some o ∧ o.cls = .type "tuple" ∧ o.dict = none ∧ o.data = .seq its n ∧ its.size ≤ sizeLine ∧ Vals vs its.toList ∧ ∀ B, RepL K B vs ds
theorem absD_rep {K : PySem.W.Frag} {u : Value} {d : D} (h : absD u = some d) : ∃ v, RelV v u ∧ ∀ B, Rep K B v d := by
  cases u <;> cases h
  · exact ⟨.non, rfl, fun B => .non⟩
  · exact ⟨.bl _, rfl, fun B => .bl _⟩
  · exact ⟨.int _, ⟨_, rfl⟩, fun B => .int _⟩
  · exact ⟨.str _, ⟨_, rfl⟩, fun B => .str _⟩
  · exact ⟨.ty _, rfl, fun B => .ty _⟩
theorem absDL_rep {K : PySem.W.Frag} : ∀ {us : List Value} {ds : List D}, absDL us = some ds → ∃ vs, Vals vs us ∧ ∀ B, RepL K B vs ds
  | [], ds, h => by cases h; exact ⟨[], .nil, fun B => .nil⟩
  | u :: us, ds, h => by
    simp only [absDL, Option.bind_eq_some_iff, Option.map_eq_some_iff] at h
    obtain ⟨d, h1, ds', h2, rfl⟩ := h
    obtain ⟨v, r1, r2⟩ := absD_rep (K := K) h1
    obtain ⟨vs, r3, r4⟩ := absDL_rep (K := K) h2
    exact ⟨v :: vs, .cons r1 r3, fun B => .cons (r2 B) (r4 B)⟩
theorem KTup.mk' {K : PySem.W.Frag} {A : Addr} {ds : List D} {its : Array Value} {n : Nat} {sl : Array (Option Value)} (h : K.lookup A = some ⟨.type "tuple", none, .seq its n, sl⟩) (hs : its.size ≤ 1000) (hd : absDL its.toList = some ds) : KTup K A ds := by
  obtain ⟨vs, r1, r2⟩ := absDL_rep (K := K) hd
  exact ⟨_, its, n, vs, h, rfl, rfl, rfl, Nat.le_of_lt (small1000 hs), r1, r2⟩
theorem KTup.rep {K : PySem.W.Frag} {A : Addr} {ds : List D} (T : KTup K A ds) (B : Hp) : Rep K B (.ref A) (.tup ds) := by
  obtain ⟨o, its, n, vs, h1, h2, h3, h4, h5, h6, h7⟩ := T.ex
  exact .tup (.inr ⟨o, its, n, h1, h2, h4, h5, h6⟩) (h7 B)
/-- a name, a class's attribute that is the thing at A -/
theorem e_kt {A : Addr} {ds : List D} (T : KTup c.K A ds) (h : PE X e (tC (.ref A))) : PE X e (tF c O W (fC (.tup ds))) := e_c h T.rep
def sD : List D → Option (List Str)
  | [] => some []
  | .str x :: r => (sD r).map (x :: ·)
  | _ :: _ => none
theorem sD_rep {K : PySem.W.Frag} {B : Hp} : ∀ {ds : List D} {vs : List V} {ys : List Str}, RepL K B vs ds → sD ds = some ys → vs = ys.map V.str
  | [], _, _, r, h => by cases r; cases h; rfl
  | d :: ds, _, _, r, h => by
    cases r with
    | cons r1 r2 => cases r1 with
      | str x =>
        simp only [sD, Option.map_eq_some_iff] at h
        obtain ⟨ys, h1, rfl⟩ := h
        rw [sD_rep r2 h1]; rfl
      | _ => cases h
def gIndexK (ys : List Str) : D → Option D
  | .str z => (ys.findIdx? fun y => decide (y = z)).map fun j => .int (j : Nat)
  | _ => none
theorem e_indexK {A : Addr} {ds : List D} {ys : List Str} (T : KTup X.K A ds) (hy : sD ds = some ys) (ho : PE X o (tC (.ref A))) (ha : PE X e (tF c O W fa)) (hK : c.K = X.K := by rfl)
    (hbase : attributeBase o "index" X.env (eval o X.env) = eval o X.env := by rfl)
    (hfew : ((backTo pos (starEach (e :: []) X.env)).all (fun x => !x.1) && (backToKw pos (keywordEach [] X.env)).all (fun x => x.1.isSome)
      && decide ((e :: []).length + ([] : List Keyword).length + (if ([] : List Keyword).isEmpty then 0 else 1) < 30)) = true := by rfl)
    (hline : (apos.endLine == pos.line) = true := by rfl) (hs : starEach (e :: []) X.env = (false, eval e X.env) :: starEach [] X.env := by rfl) (hplain : (backTo pos (starEach [] X.env)).any (·.1) = false := by rfl) :
    PE X (.Call (.Attribute o "index" apos) [e] [] pos) (tF c O W (f1 (gIndexK ys) fa)) :=
  PE.imp (pe_bm PySem.F.plainAttrs_tuple PySem.F.slot_tuple_index PySem.F.type_tuple_index mt_tup_index ho (pa_cons ha pa_nil hs) hbase hfew hline hs hplain) fun σ H Q ⟨B, fp, ρ, er, k⟩ => by
    obtain ⟨ob, its, n, vs, h1, h2, h3, h4, h5, h6, h7⟩ := T.ex
    refine ⟨.inr (.inl ⟨rfl, ob, h1, h2, h3⟩), B, fp, ρ, er, (RG.bind k).mp fun d ρ1 H1 B1 fp1 s1 e1 k1 v rv => ?_⟩
    obtain ⟨z, hz, k3⟩ := RG.lift k1
    cases rv with
    | str x =>
      simp only [gIndexK, Option.map_eq_some_iff] at hz
      obtain ⟨j, hj, rfl⟩ := hz
      rw [List.findIdx?_eq_some_iff_getElem] at hj
      obtain ⟨hjl, q1, q2⟩ := hj
      have e7 := sD_rep (h7 B) hy
      subst e7
      refine ⟨A, ys, x, j, rfl, rfl, .inr ⟨ob, its, n, h1, h2, h4, h5, h6⟩, by rw [List.getElem?_eq_getElem hjl]; simpa using q1, fun m hm hmy => ?_, k3 H1 B1 fp1 (.refl _) e1 _ (.int _)⟩
      have hml : m < ys.length := by omega
      rw [List.getElem?_eq_getElem hml] at hmy
      cases hmy
      simpa using q2 m hm
    | _ => cases hz
theorem e_cval {C : Addr} {mc u : Value} {f : Str} {v : V} (he : PE X e (tC (.ref C))) (r : ClX.CRead X.K C mc) (k : ClX.CVal X.K C mc f v u) (hb : attributeBase e f X.env (eval e X.env) = eval e X.env := by rfl) : PE X (.Attribute e f pos) (tC v) :=
  PE.imp (ClX.pe_cval he hb) fun σ H Q q => ⟨C, mc, v, u, rfl, r, k, q⟩

/-! ### a < b < c -/
def fChain (g g' : D → D → Option D) (fa fb fc : FE) : FE := fun ρ => (fa ρ).bind fun x ρ1 => (fb ρ1).bind fun y ρ2 => (lift ((g x y).bind toB) ρ2).bind fun b ρ3 => if b = true then (fc ρ3).bind fun z ρ4 => lift (g' y z) ρ4 else .ok (.bl false) ρ3
theorem chain_core {g g' : D → D → Option D} (ha1 : ∀ x y d, g x y = some d → atom d = true) {σ : L2.St} {H : Hp} {Q : VK} (h : tF c O W (fChain g g' fa fb fc) σ H Q) : tChain (rD c.K g) (rD c.K g') (tF c O W fa) (tF c O W fb) (tF c O W fc) σ H Q := by
  obtain ⟨B, fp, ρ, er, k⟩ := h
  refine ⟨B, fp, ρ, er, (RG.bind k).mp fun x ρ1 H1 B1 fp1 s1 e1 k1 v rv => ⟨B1, fp1, ρ1, e1, (RG.bind k1).mp fun y ρ2 H2 B2 fp2 s2 e2 k2 u ru => ?_⟩⟩
  have k2' := RG.bind k2
  obtain ⟨b, hb, k3⟩ := RG.lift k2'
  rw [Option.bind_eq_some_iff] at hb
  obtain ⟨d, hd, hb⟩ := hb
  refine ⟨B2, x, y, d, e2.bh, rv.up s2, ru, hd, fun w H' B' gr rw' => ⟨b, toB_rep rw' hb, ?_⟩⟩
  have e3 := e2.grow gr
  have k4 := k3 H' B' fp2 gr.bb e3
  cases b with
  | false => exact iteF (by rw [if_neg Bool.false_ne_true] at k4; exact k4 H' B' fp2 (.refl _) e3 _ (.bl false))
  | true =>
    rw [if_pos rfl] at k4
    refine iteT ⟨B', fp2, ρ2, e3, (RG.bind k4).mp fun z ρ4 H4 B4 fp4 s4 e4 k5 w4 rw4 => ?_⟩
    obtain ⟨d', hd', k6⟩ := RG.lift k5
    exact ⟨B4, y, z, d', e4.bh, (ru.up gr.bb).up s4, rw4, hd', fun w5 H5 B5 gr5 rw5 => k6 H5 B5 fp4 gr5.bb (e4.grow gr5) w5 rw5⟩
theorem e_chain {op op' : CmpOp} {g g' : D → D → Option D} (ho : OpR X (compareOp op) (rD c.K g)) (ho' : OpR X (compareOp op') (rD c.K g')) (hat : ∀ x y d, g x y = some d → atom d = true) (ha : PE X a (tF c O W fa)) (hb : PE X b (tF c O W fb)) (hc : PE X cc (tF c O W fc)) (hm : lastMarks [op, op'] [b, cc] = false := by with_unfolding_all rfl) :
    PE X (.Compare a [op, op'] [b, cc] pos) (tF c O W (fChain g g' fa fb fc)) := PE.imp (pe_chain ho ho' ha hb hc hm) fun _ _ _ h => chain_core hat h
theorem t_chain {op op' : CmpOp} {g g' : D → D → Option D} (ho : OpR X (compareOp op) (rD c.K g)) (ho' : OpR X (compareOp op') (rD c.K g')) (hat : ∀ x y d, g x y = some d → atom d = true) (ha : PE X a (tF c O W fa)) (hb : PE X b (tF c O W fb)) (hc : PE X cc (tF c O W fc)) (hm : lastMarks [op, op'] [b, cc] = false := by with_unfolding_all rfl) :
    PT X (.Compare a [op, op'] [b, cc] pos) (tT c O W (ftB (fChain g g' fa fb fc))) := PT.imp (pt_chain ho ho' ha hb hc hm) fun σ H Q ⟨B, fp, ρ, er, k⟩ =>
  chain_core hat ⟨B, fp, ρ, er, (RG.bind k).mp fun d ρ1 H1 B1 fp1 s1 e1 k1 v rv => by
    obtain ⟨b, hb, k3⟩ := RG.lift k1
    exact ⟨b, toB_rep rv hb, k3 H1 B1 fp1 (.refl _) e1⟩⟩
theorem cmpI_atom {p : Int → Int → Bool} : ∀ x y d, cmpI p x y = some d → atom d = true := fun x y d h => by
  cases x <;> cases y <;> cases h <;> rfl

/-! ### own == -/
variable {k : Nat} {f : Addr} {fd : FuncData} {ps : List Str} {m : FM} {C : Str}
def gEqI (C : Str) (m : FM) : D → D → Option D := fun x y => match x, y with
  | .ins n fs, .ins n' gs => if n = C ∧ n' = C then (match m [.ins n fs, .ins n' gs] with | .ok d _ => some d | _ => none) else none
  | _, _ => none
theorem op_dEqI (hs : PySem.W.findIn X.K (.ref (clsA X.K C)) "__eq__" = some (some (.ref f))) (hf : PySem.W.isFn X.K (.ref f) = true) (Fn : FnOk X.prog X.w X.K X.mg X.base (L2.CX X.prog X.w) k f fd ps (spF X.K [.fz, .fz] .fz m)) (hr : Room k X.A) (hb : Binds X.K fd ps []) :
    OpR X (compareOp .Eq) (rD X.K (gEqI C m)) := by
  intro pins s σ H x y v u Q I rx ry ⟨B, dx, dy, d, sB, r1, r2, hg, q⟩
  cases r1 with
  | @ins a1 x1 C1 fs1 gs1 h1 h2 => cases r2 with
    | @ins a2 x2 C2 fs2 gs2 h3 h4 =>
      simp only [gEqI] at hg
      split at hg
      · rename_i hC
        obtain ⟨rfl, rfl⟩ := hC
        split at hg
        · rename_i d' ρo hm
          cases hg
          have hsp : spF X.K [.fz, .fz] .fz m [.ref a1, .ref a2] H Q E0 := by
            let F : Hp := fun b => if B b = none then H b else none
            refine ⟨F, B, fun _ => [], [.ins C2 gs1, .ins C2 gs2], rfl, ⟨sB, fun b o e => ?_, .refl _, fun b hb => ?_, rfl, fun i t h => ?_, fun _ _ => rfl, fun i a h => (by cases h), fun _ => List.nodup_nil, fun i j a h => (by cases h), fun i hi => (by cases hi)⟩, ?_⟩
            · have e' : (if B b = none then H b else none) = some o := e
              split at e'
              · exact e'
              · cases e'
            · show (if B b = none then H b else none) = none
              rw [if_neg hb]
            · match i, h with
              | 0, h => cases h; exact ⟨_, _, rfl, rfl, .ins h1 h2, rfl⟩
              | 1, h => cases h; exact ⟨_, _, rfl, rfl, .ins h3 h4, rfl⟩
              | i + 2, h => simp at h
            · rw [hm]
              intro w H' B' fp' g s' e' r Fr
              refine q w H' B' ⟨s', e'.bh, fun b o hbo => ?_, fun b hb1 hb2 => ?_⟩ r.1
              · cases hB : B b with
                | none => exact e'.fh b o (show (if B b = none then H b else none) = some o by rw [if_pos hB]; exact hbo)
                | some u =>
                  have h5 := sB b u hB
                  rw [hbo] at h5; cases h5
                  exact e'.bh b _ (s' b _ hB)
              · have h5 : (if B b = none then H b else none) = none := e'.bf b hb2
                rw [if_pos hb1] at h5; exact h5
          cases rx; cases ry
          obtain ⟨mA, J, _⟩ := ins_get I.hok (sB _ _ h1)
          obtain ⟨mB, J', _⟩ := ins_get I.hok (sB _ _ h3)
          obtain ⟨od, J, _⟩ := J.look
          obtain ⟨od', J', _⟩ := J'.look
          obtain ⟨mm, hF⟩ := I.fr
          show wpAny _ _ (richCompare .Eq _ _) _ _ _
          refine PySem.W.cmp_K (op := .Eq) hr.units0 hF I.ok.mod.kin J J'.type (by simp [PySem.W.notFirst]) hs hf ?_
          refine thn (run_fnS0 (us := [.ref _, .ref _]) (vs := [.ref _, .ref _]) Fn hr hb (fun pins H s e s' _ z => by
            obtain ⟨_, _, _, _, _, _, _, _, _, _, _, _, zz⟩ := z
            exact zz.elim) I (.cons rfl (.cons rfl .nil)) hsp) fun u s' hu => ?_
          obtain ⟨w, H', I', rw', qw⟩ := hu
          have hne : u ≠ .notImplemented := fun z => by
            subst z
            cases w <;> first | (cases rw'; done) | (obtain ⟨t, ht⟩ := rw'; cases ht)
          have fin : EP X pins σ Q u s' := ⟨w, H', I', rw', qw⟩
          cases u <;> first | exact fin | exact absurd rfl hne
        · cases hg
      · cases hg
    | _ => cases hg
  | _ => cases hg

/-! ### a, b = e1, e2 -/
def fPar (i j : Nat) (fl : FA) : E → RS := fun ρ => (fl ρ).toS fun ds ρ1 => match ds with
  | [x, y] => .nx ((ρ1.set i (some x)).set j (some y))
  | _ => .no
theorem s_par {i j : Nat} {x y : Str} {Z : Zs} {px py pt : Pos} {kt k2 pt2} (hc : X.calm = true) (hN : X.N.Nodup) (ha : PA X [a, b] (tA c O W fl)) (hij : i ≠ j := by decide) (hiO : i < O.length := by decide) (hjO : j < O.length := by decide) (hpi : c.pin.contains i = false := by rfl) (hpj : c.pin.contains j = false := by rfl) (hxO : leO Z.xO O = true := by rfl) (hi : X.N[i]? = some x := by rfl) (hj : X.N[j]? = some y := by rfl)
    (hx : X.env.scope.names.lookup x = some .local := by rfl) (hy : X.env.scope.names.lookup y = some .local := by rfl)
    (hw : swappedStores [.Tuple [.Name x px, .Name y py] kt pt] (.Tuple [a, b] k2 pt2) X.env = pure (some [x, y]) := by rfl)
    (hs : swapsWithSole [.Tuple [.Name x px, .Name y py] kt pt] (.Tuple [a, b] k2 pt2) pos.line X.env = pure false := by rfl) :
    PS X (.Assign [.Tuple [.Name x px, .Name y py] kt pt] (.Tuple [a, b] k2 pt2) pos) (tS c O ((O.set i (some .fz)).set j (some .fz)) Z W (fPar i j fl)) := by
  have hli : ∀ {pins : List (Addr × Obj)} {σ : L2.St} {H : Hp} {s : Shared}, Inv X pins σ H s → i < σ.length ∧ j < σ.length := fun I => by rw [I.len]; exact ⟨(List.getElem?_eq_some_iff.mp hi).1, (List.getElem?_eq_some_iff.mp hj).1⟩
  refine ⟨fun pins s σ H Dn I h => (ps_par hc hN hi hj hij hx hy ha hw hs).run pins s σ H Dn I ?_⟩
  obtain ⟨B, fp, ρ, er, kk⟩ := h
  refine ⟨B, fp, ρ, er, (RG.toS hxO kk).mp fun ds ρ1 H1 B1 fp1 s1 e1 k1 vs rs => ?_⟩
  split at k1
  · obtain ⟨v, w, rfl, r1, r2⟩ := repL_two rs
    have e2 := e1.set (hli I).1 hiO hpi (ot := .fz) ⟨r1, rfl⟩ Fresh.nil
    have e3 := e2.set (by simpa using (hli I).2) (by simpa using hjO) hpj (ot := .fz) ⟨r2, rfl⟩ Fresh.nil
    exact ⟨v, w, rfl, k1 _ H1 B1 _ (.refl _) e3⟩
  · exact k1.elim
end
end L3

namespace L3
open PySem PySem.Spec PyProof.Rows L2

/-! ### lists of own lists -/
def FS (F : Hp) (S : List Addr) (H : Hp) : Hp := fun b => if b ∈ S then H b else F b
theorem FS_in {F H : Hp} {S : List Addr} {b : Addr} (h : b ∈ S) : FS F S H b = H b := if_pos h
theorem FS_out {F H : Hp} {S : List Addr} {b : Addr} (h : b ∉ S) : FS F S H b = F b := if_neg h
section
variable {c : Cst} {O : Oo} {W : WX} {B H H0 : Hp} {fp : Fp} {σ : L2.St} {ρ : E} {S : List Addr}
theorem ER.framedS (er : ER c O B H fp σ ρ) (hB : ∀ a ∈ S, B a = none) (hf : ∀ a ∈ S, ∀ i, a ∉ fp i) : ER { c with F := FS c.F S H } O B H fp σ ρ := by
  refine ⟨er.bh, fun b u e => ?_, er.b0, fun b hb => ?_, er.len, er.slot, er.nofp, fun i a ha => ⟨(er.fpb i a ha).1, ?_⟩, er.nd, er.dis, er.pins⟩
  · have e' : FS c.F S H b = some u := e
    by_cases q : b ∈ S
    · rw [FS_in q] at e'; exact e'
    · rw [FS_out q] at e'; exact er.fh b u e'
  · show FS c.F S H b = none
    rw [FS_out fun q => hb (hB b q)]; exact er.bf b hb
  · show FS c.F S H a = none
    have q : a ∉ S := fun q => hf a q i ha
    rw [FS_out q]; exact (er.fpb i a ha).2
theorem ER.framedSAt (er : ER { c with F := FS c.F S H0 } O B H fp σ ρ) (h0 : ∀ a ∈ S, H0 a ≠ none) : ∀ a ∈ S, H a = H0 a ∧ B a = none ∧ ∀ i, a ∉ fp i := fun a ha => by
  obtain ⟨o, ho⟩ := ne_some_of (h0 a ha)
  have h1 : FS c.F S H0 a = some o := by rw [FS_in ha]; exact ho
  refine ⟨by rw [ho]; exact er.fh a o h1, ?_, fun i hi => ?_⟩
  · cases q : B a with
    | none => rfl
    | some u =>
      have : FS c.F S H0 a = none := er.bf a (by rw [q]; exact fun z => nomatch z)
      rw [h1] at this; cases this
  · have : FS c.F S H0 a = none := (er.fpb i a hi).2
    rw [h1] at this; cases this
theorem ER.unframedS (er : ER { c with F := FS c.F S H0 } O B H fp σ ρ) (hF : ∀ a ∈ S, c.F a = none) : ER c O B H fp σ ρ := by
  have hn : ∀ a, FS c.F S H0 a = none → c.F a = none := fun a h => by
    by_cases q : a ∈ S
    · exact hF a q
    · rw [FS_out q] at h; exact h
  refine ⟨er.bh, fun b u e => er.fh b u ?_, er.b0, fun b hb => hn b (er.bf b hb), er.len, er.slot, er.nofp, fun i a ha => ⟨(er.fpb i a ha).1, hn a (er.fpb i a ha).2⟩, er.nd, er.dis, er.pins⟩
  show FS c.F S H0 b = some u
  rw [FS_out fun q => by rw [hF b q] at e; cases e]; exact e
/-- the frame grows by g, the object at A (in S) changes -/
theorem ER.reframedS {A : Addr} {o : HO} {g : List Addr} (er : ER { c with F := FS c.F S H0 } O B H fp σ ρ) (h0 : ∀ a ∈ S, H0 a ≠ none) (hA : A ∈ S) (Fr : Fresh { c with F := FS c.F S H0 } B fp g) : ER { c with F := FS c.F (S ++ g) (upd H A o) } O B (upd H A o) fp σ ρ := by
  have at_ := er.framedSAt h0
  have hBn : ∀ a ∈ S ++ g, B a = none := fun a ha => (List.mem_append.mp ha).elim (fun h => (at_ a h).2.1) (Fr.inB a)
  have hfn : ∀ a ∈ S ++ g, ∀ i, a ∉ fp i := fun a ha => (List.mem_append.mp ha).elim (fun h => (at_ a h).2.2) (Fr.inO a)
  have hAm : A ∈ S ++ g := List.mem_append_left _ hA
  refine ⟨fun b u e => by rw [upd_ne fun q => by rw [q, hBn A hAm] at e; cases e]; exact er.bh b u e, fun b u e => ?_, er.b0, fun b hb => ?_, er.len, fun i t h => ?_, er.nofp, fun i a ha => ⟨(er.fpb i a ha).1, ?_⟩, er.nd, er.dis, er.pins⟩
  · have e' : FS c.F (S ++ g) (upd H A o) b = some u := e
    by_cases q : b ∈ S ++ g
    · rw [FS_in q] at e'; exact e'
    · rw [FS_out q] at e'
      rw [upd_ne fun z => q (by rw [z]; exact hAm)]
      exact er.fh b u (show FS c.F S H0 b = some u by rw [FS_out fun z => q (List.mem_append_left _ z)]; exact e')
  · show FS c.F (S ++ g) (upd H A o) b = none
    rw [FS_out fun z => hb (hBn b z)]
    have := er.bf b hb
    have this' : FS c.F S H0 b = none := this
    rw [FS_out fun z => hb (hBn b (List.mem_append_left _ z))] at this'; exact this'
  · obtain ⟨v, d, q1, q2, r⟩ := er.slot i t h
    exact ⟨v, d, q1, q2, OR.mono (.refl _) t (fun a ha => upd_ne fun q => hfn A hAm i (q ▸ ha)) r⟩
  · show FS c.F (S ++ g) (upd H A o) a = none
    have q : a ∉ S ++ g := fun q => hfn a q i ha
    rw [FS_out q]
    have := (er.fpb i a ha).2
    have this' : FS c.F S H0 a = none := this
    rw [FS_out fun z => q (List.mem_append_left _ z)] at this'; exact this'
theorem ORs.monoH {K : PySem.W.Frag} {B B' H H' : Hp} {e : OT} {vs : List V} {ds : List D} {f : List Addr} (s : Same B B') (hf : ∀ a ∈ f, H' a = H a) (h : ORs (OR K B H e) vs ds f) : ORs (OR K B' H' e) vs ds f :=
  h.mp fun v d g hg p => OR.mono s e (fun a ha => hf a (hg a ha)) p
theorem ORs.snoc {P : V → D → List Addr → Prop} {vs : List V} {ds : List D} {f g : List Addr} {v : V} {d : D} (h : ORs P vs ds f) (p : P v d g) : ORs P (vs ++ [v]) (ds ++ [d]) (f ++ g) := by
  induction h with
  | nil => have := ORs.cons p (ORs.nil (P := P)); simpa using this
  | cons h1 h2 ih => rw [List.append_assoc]; exact .cons h1 ih
theorem ORs.len {P : V → D → List Addr → Prop} {vs : List V} {ds : List D} {f : List Addr} (h : ORs P vs ds f) : vs.length = ds.length := by
  induction h with
  | nil => rfl
  | cons _ _ ih => simp [ih]
end
section
variable {X : Cx} {c : Cst} {O : Oo} {W : WX}
/-- [elt for tg in iter if ..], each item an own thing of kind oe -/
theorem lcO_red {oe : OT} {it : FA} {set : FG} {tt : FT} {fe : FE} {O2 : Oo} {vs : List Nat} {g : TG} {tT' : TT} {tE' : TE} (hgi : ∀ (F' : Hp) x σ H Q, tG { c with F := F' } (wipeO O vs) O2 vs set x σ H Q → g x σ H Q) (hti : ∀ (F' : Hp) σ H Q, tT { c with F := F' } O2 W0 tt σ H Q → tT' σ H Q)
    (hei : ∀ (F' : Hp) σ H Q, tW { c with F := F' } O2 W0 oe fe σ H Q → tE' σ H Q) (hO : leO (wipeO O vs) (wipeO O2 vs) = true) (hn : notOwn O vs = true) (hp : ∀ i ∈ c.pin, i ∉ vs) {σ : L2.St} {H : Hp} {Q : VK} (h : tW c O W (.ow oe) (fLc it set tt fe vs) σ H Q) : tLc (tIt c O W it) g tT' tE' vs σ H Q := by
  obtain ⟨B, fp, ρ, er, k⟩ := h
  refine ⟨B, fp, ρ, er, (RG.bind k).mp fun ds ρ1 H1 B1 fp1 s1 e1 k1 J hJ A hA => ?_⟩
  have bA : B1 A = none := e1.bh.free hA
  have fA : c.F A = none := e1.fh.free hA
  obtain ⟨e2, Fr⟩ := e1.newOwn (o := .lst []) hA
  obtain ⟨fp2, e3, sub3, _⟩ := e2.wipe hp
  have e4 := e3.framedS (S := [A]) (fun a ha => by rw [List.mem_singleton.mp ha]; exact bA) (fun a ha i hi => by rw [List.mem_singleton.mp ha] at hi; exact Fr.inO A List.mem_cons_self i (sub3 i A hi))
  -- what stands between two turns: the list at A, its items' own things at f
  let St : Hp → Hp → Fp → E → List V → List D → List Addr → Prop := fun B H fp ρ ws acc f => Same B1 B ∧ (A :: f).Nodup ∧ (∀ a ∈ f, c.F a = none) ∧ (∀ a ∈ f, H a ≠ none) ∧ H A = some (.lst ws) ∧ ORs (OR c.K B H oe) ws acc f ∧ ER { c with F := FS c.F (A :: f) H } (wipeO O vs) B H fp (L2.wipe σ vs) ρ
  let Fin : R (List D) → Prop := fun r => match r with
    | .ok ys ρ2 => ∀ H' B' fp' ws f, St B' H' fp' ρ2 ws ys f → Q (.ref A) H'
    | _ => False
  have fin0 : Fin (compF set tt fe vs ds (wipeE ρ1 vs) []) := by
    show match compF set tt fe vs ds (wipeE ρ1 vs) [] with
      | .ok ys ρ2 => _
      | _ => False
    cases hcf : compF set tt fe vs ds (wipeE ρ1 vs) [] with
    | no => rw [hcf] at k1; exact k1.elim
    | ex e ρ2 => rw [hcf] at k1; exact k1.elim
    | ok ys ρ2 =>
      rw [hcf] at k1
      rintro H' B' fp' ws f ⟨s', nd, hF, hH, hAt, hrs, e'⟩
      have at_ := e'.framedSAt (fun a ha => by
        rcases List.mem_cons.mp ha with rfl | ha
        · rw [hAt]; exact fun z => nomatch z
        · exact hH a ha)
      have hFS : ∀ a ∈ A :: f, c.F a = none := fun a ha => by
        rcases List.mem_cons.mp ha with rfl | ha
        · exact fA
        · exact hF a ha
      have e5 := e1.unwipe (e'.unframedS hFS) s' hn
      exact k1 H' B' fp' s' e5 (.ref A) (A :: f) ⟨A, ws, ys, f, rfl, rfl, hAt, hrs, rfl⟩ ⟨nd, fun a ha => (at_ a ha).2.1, hFS, fun a ha => (at_ a ha).2.2⟩
  refine ⟨fun i m H => m = ds.length - i ∧ i ≤ ds.length ∧ ∃ B fp ρ acc ws f, St B H fp ρ ws acc f ∧ Fin (compF set tt fe vs (ds.drop i) ρ acc),
    ⟨_, rfl, Nat.zero_le _, B1, fp2, wipeE ρ1 vs, [], [], [], ⟨.refl _, by simp, fun _ h => (nomatch h), fun _ h => (nomatch h), upd_same, .nil, e4⟩, fin0⟩, ?_⟩
  rintro i m H ⟨rfl, hi, B, fp, ρ, acc, ws, f, ⟨sB, nd, hF, hH, hAt, hrs, er⟩, k⟩
  rcases Nat.lt_or_ge i ds.length with hlt | hge
  · refine .inr ⟨hJ.go i H (sB.trans er.bh) hlt, fun H' => ∃ B fp ρ acc ws f, St B H' fp ρ ws acc f ∧ Fin (compF set tt fe vs (ds.drop (i + 1)) ρ acc), fun H' q => ⟨_, by omega, rfl, by omega, q⟩, ?_⟩
    intro x H' hy
    have hd : ds[i]? = some ds[i] := List.getElem?_eq_getElem hlt
    obtain ⟨B2, gr, rx⟩ := hJ.yld i _ H x H' B hd sB er.bh hy
    have e2 := er.grow gr
    have hS0 : ∀ a ∈ A :: f, H a ≠ none := fun a ha => by
      rcases List.mem_cons.mp ha with rfl | ha
      · rw [hAt]; exact fun z => nomatch z
      · exact hH a ha
    rw [List.drop_eq_getElem_cons hlt] at k
    simp only [compF] at k
    cases hset : set ds[i] ρ with
    | none => rw [hset] at k; exact k.elim
    | some ρ2 =>
      rw [hset] at k
      dsimp only at k
      have hww0 : ∀ {σ2 : L2.St}, L2.wipe σ2 vs = L2.wipe (L2.wipe σ vs) vs → L2.wipe σ2 vs = L2.wipe σ vs := fun {σ2} hw => hw.trans (by
        apply List.ext_getElem?
        intro j
        by_cases hj : j ∈ vs
        · by_cases hl : j < σ.length
          · rw [wipe_in _ vs j hj (by rw [wipe_length]; exact hl), wipe_in _ vs j hj hl]
          · rw [List.getElem?_eq_none (by rw [wipe_length, wipe_length]; simpa using hl), List.getElem?_eq_none (by rw [wipe_length]; simpa using hl)]
        · rw [wipe_at _ vs j hj])
      have hidem : L2.wipe (L2.wipe σ vs) vs = L2.wipe σ vs := hww0 rfl
      refine hgi _ _ _ _ _ ⟨B2, fp, ρ, _, ρ2, e2, rx, hset, fun σ2 fp2 hw er2 => ⟨by rw [hw, hidem], hti _ _ _ _ ⟨B2, fp2, ρ2, er2, ?_⟩⟩⟩
      have again : ∀ {F' : Hp} {B3 H3 : Hp} {fp3 : Fp} {ρ3 : E}, ER { c with F := F' } O2 B3 H3 fp3 σ2 ρ3 → ∃ B4 fp4, Same B3 B4 ∧ ER { c with F := F' } (wipeO O vs) B4 H3 fp4 (L2.wipe σ vs) (wipeE ρ3 vs) := fun {F' B3 H3 fp3 ρ3} e => by
        obtain ⟨fp5, e5, _, _⟩ := e.wipe hp
        obtain ⟨B4, fp4, s4, e4, _, _⟩ := e5.weak hO
        rw [hww0 hw] at e4
        exact ⟨B4, fp4, s4, e4⟩
      cases htt : tt ρ2 with
      | no => rw [htt] at k; exact k.elim
      | ex e ρ3 => rw [htt] at k; exact k.elim
      | ok b ρ3 =>
        rw [htt] at k
        intro H3 B3 fp3 s3 e3
        have k' : Fin (if b = true then (fe ρ3).bind fun y ρ3 => if acc.length < sizeLine then compF set tt fe vs (ds.drop (i + 1)) (wipeE ρ3 vs) (acc ++ [y]) else .no else compF set tt fe vs (ds.drop (i + 1)) (wipeE ρ3 vs) acc) := k
        -- a state with the frame's word renewed
        have renew : ∀ {B4 H4 : Hp} {fp4 : Fp} {ρ4 : E} {O4 : Oo} {σ4 : L2.St}, ER { c with F := FS c.F (A :: f) H } O4 B4 H4 fp4 σ4 ρ4 → (∀ a ∈ A :: f, H4 a = H a) ∧ ER { c with F := FS c.F (A :: f) H4 } O4 B4 H4 fp4 σ4 ρ4 := fun {B4 H4 fp4 ρ4 O4 σ4} e => by
          have at_ := e.framedSAt hS0
          refine ⟨fun a ha => (at_ a ha).1, ?_⟩
          have : FS c.F (A :: f) H = FS c.F (A :: f) H4 := by
            funext b
            by_cases q : b ∈ A :: f
            · rw [FS_in q, FS_in q, (at_ b q).1]
            · rw [FS_out q, FS_out q]
          rw [this] at e; exact e
        cases b with
        | false =>
          refine iteF ?_
          rw [if_neg Bool.false_ne_true] at k'
          obtain ⟨B4, fp4, s4, e4⟩ := again e3
          obtain ⟨hk, e5⟩ := renew e4
          have s5 : Same B B4 := (gr.bb.trans s3).trans s4
          exact ⟨B4, fp4, _, acc, ws, f, ⟨sB.trans s5, nd, hF, fun a ha => by rw [hk a (List.mem_cons_of_mem _ ha)]; exact hH a ha, by rw [hk A List.mem_cons_self]; exact hAt, hrs.monoH s5 fun a ha => hk a (List.mem_cons_of_mem _ ha), e5⟩, k'⟩
        | true =>
          refine iteT (hei _ _ _ _ ⟨B3, fp3, ρ3, e3, ?_⟩)
          rw [if_pos rfl] at k'
          cases hfe : fe ρ3 with
          | no => rw [hfe] at k'; exact k'.elim
          | ex e ρ4 => rw [hfe] at k'; exact k'.elim
          | ok y ρ4 =>
            rw [hfe] at k'
            intro H4 B4 fp4 s4 e4 v gg rv Fr4
            have k2 : Fin (if acc.length < sizeLine then compF set tt fe vs (ds.drop (i + 1)) (wipeE ρ4 vs) (acc ++ [y]) else .no) := k'
            split at k2
            · rename_i hlen
              have at_ := e4.framedSAt hS0
              have hk : ∀ a ∈ A :: f, H4 a = H a := fun a ha => (at_ a ha).1
              refine ⟨ws, by rw [hk A List.mem_cons_self]; exact hAt, by rw [hrs.len]; exact hlen, ?_⟩
              have e6 := e4.reframedS (o := .lst (ws ++ [v])) hS0 List.mem_cons_self Fr4
              obtain ⟨B5, fp5, s5, e5⟩ := again e6
              have s6 : Same B B4 := (gr.bb.trans s3).trans s4
              have gS : ∀ a ∈ gg, a ∉ A :: f := fun a ha hm => by
                have h1 : FS c.F (A :: f) H a = none := Fr4.inF a ha
                rw [FS_in hm] at h1
                exact hS0 a hm h1
              have gF : ∀ a ∈ gg, c.F a = none := fun a ha => by
                have h1 : FS c.F (A :: f) H a = none := Fr4.inF a ha
                rw [FS_out (gS a ha)] at h1; exact h1
              have neA : ∀ a ∈ f ++ gg, a ≠ A := fun a ha z => by
                subst z
                rcases List.mem_append.mp ha with q | q
                · exact (List.nodup_cons.mp nd).1 q
                · exact gS a q List.mem_cons_self
              refine ⟨B5, fp5, _, acc ++ [y], ws ++ [v], f ++ gg, ⟨sB.trans (s6.trans s5), ?_, fun a ha => (List.mem_append.mp ha).elim (hF a) (gF a), fun a ha => ?_, upd_same, ?_, by simpa using e5⟩, k2⟩
              · rw [show A :: (f ++ gg) = (A :: f) ++ gg from rfl]
                exact List.nodup_append.mpr ⟨nd, Fr4.nd, fun a ha b hb z => gS b hb (z ▸ ha)⟩
              · rw [upd_ne (neA a ha)]
                rcases List.mem_append.mp ha with q | q
                · rw [hk a (List.mem_cons_of_mem _ q)]; exact hH a q
                · exact OR.has oe rv a q
              · refine (hrs.monoH (s6.trans s5) (H' := upd H4 A (.lst (ws ++ [v]))) fun a ha => by rw [upd_ne (neA a (List.mem_append_left _ ha)), hk a (List.mem_cons_of_mem _ ha)]).snoc (OR.mono s5 oe (fun a ha => upd_ne (neA a (List.mem_append_right _ ha))) rv)
            · exact k2.elim
  · have e : i = ds.length := by omega
    subst e
    rw [List.drop_length] at k
    exact .inl ⟨hJ.stop H (sB.trans er.bh), k H B fp ws f ⟨sB, nd, hF, hH, hAt, hrs, er⟩⟩
theorem s_setLcO {oe : OT} {i : Nat} {y : Str} {py spos : Pos} {Z : Zs} {N : Oo} {elt tg iter : Expr} {ifs : List Expr} {scope : Scope} {own : List (Str × Nat)} {pos : Pos} {it : FA} {set : FG} {tt : FT} {fe : FE} {O2 : Oo} (hc : X.calm = true) (hN : X.N.Nodup) (hi : PI X tg iter (tIt c O W it)) (ok : BlkOk X.N X.env.scope scope own)
    (hg : ∀ (F' : Hp) (s : Shared) (H : Hp) (C : Addr) (cl : List (Str × Addr)) (fp : List Addr), PG (X.blk s H scope (compEnvC scope cl C X.env) fp) tg (tG { c with F := F' } (wipeO O (own.map (·.2))) O2 (own.map (·.2)) set))
    (ht : ∀ (F' : Hp) (s : Shared) (H : Hp) (C : Addr) (cl : List (Str × Addr)) (fp : List Addr), PTs (X.blk s H scope (compEnvC scope cl C X.env) fp) ifs (tT { c with F := F' } O2 W0 tt))
    (he : ∀ (F' : Hp) (s : Shared) (H : Hp) (C : Addr) (cl : List (Str × Addr)) (fp : List Addr), PE (X.blk s H scope (compEnvC scope cl C X.env) fp) elt (tW { c with F := F' } O2 W0 oe fe))
    (hW : leO N (O.set i (some (.ow oe))) = true := by rfl) (hx : leO Z.xO O = true := by rfl) (hiO : i < O.length := by decide) (hpi : c.pin.contains i = false := by rfl) (hy : X.N[i]? = some y := by rfl) (hyl : X.env.scope.names.lookup y = some .local := by rfl)
    (hsw : swapsWith (.ListComp elt [⟨tg, iter, ifs, 0⟩] scope pos) (some (.Name y py)) spos.line X.env = pure true := by exact sw_true rfl rfl rfl (by decide +kernel))
    (hO : leO (wipeO O (own.map (·.2))) (wipeO O2 (own.map (·.2))) = true := by rfl) (hn : notOwn O (own.map (·.2)) = true := by rfl) (hp : c.pin.all (fun i => !(own.map (·.2)).contains i) = true := by rfl) (hs : ∀ x, foldedSetIterable iter X.env x = pure x := by intro _; rfl) :
    PS X (.Assign [.Name y py] (.ListComp elt [⟨tg, iter, ifs, 0⟩] scope pos) spos) (tS c O N Z W (fSet i (fLc it set tt fe (own.map (·.2))))) := by
  have hp' : ∀ i ∈ c.pin, i ∉ own.map (·.2) := fun i hi hm => by
    have := List.all_eq_true.mp hp i hi
    simp only [Bool.not_eq_true'] at this
    rw [List.contains_iff_mem.mpr hm] at this
    cases this
  have hlen : ∀ {pins : List (Addr × Obj)} {σ : L2.St} {H : Hp} {s : Shared}, Inv X pins σ H s → i < σ.length := fun I => by rw [I.len]; exact (List.getElem?_eq_some_iff.mp hy).1
  refine ⟨fun pins s σ H Dn I h => (ps_setLc (g := fun x σ H Q => ∃ F', tG { c with F := F' } (wipeO O (own.map (·.2))) O2 (own.map (·.2)) set x σ H Q) (tt := fun σ H Q => ∃ F', tT { c with F := F' } O2 W0 tt σ H Q) (te := fun σ H Q => ∃ F', tW { c with F := F' } O2 W0 oe fe σ H Q) hc hN hy hyl hsw hi ok
    (fun s H C cl fp => ⟨fun pins s' σ H' v u Q I r ⟨F', q⟩ => (hg F' s H C cl fp).run pins s' σ H' v u Q I r q⟩) (fun s H C cl fp => ⟨fun pins s' σ H' Q I ⟨F', q⟩ => (ht F' s H C cl fp).run pins s' σ H' Q I q⟩) (fun s H C cl fp => ⟨fun pins s' σ H' Q I ⟨F', q⟩ => (he F' s H C cl fp).run pins s' σ H' Q I q⟩) hs).run pins s σ H Dn I ?_⟩
  obtain ⟨B, fp, ρ, er, k⟩ := h
  refine lcO_red (W := W) (O := O) (c := c) (oe := oe) (fun F' x σ H Q q => ⟨F', q⟩) (fun F' σ H Q q => ⟨F', q⟩) (fun F' σ H Q q => ⟨F', q⟩) hO hn hp' (Q := fun v H1 => gName i v σ H1 Dn.nx) ⟨B, fp, ρ, er, (RG.toS hx k).mp fun d ρ1 H1 B1 fp1 s1 e1 k1 v g r F => ?_⟩
  have e2 := e1.set (hlen I) hiO hpi r F
  obtain ⟨B2, fp2, s2, e3, _, _⟩ := e2.weak hW
  exact k1 _ H1 B2 fp2 s2 e3
/-- list(x), a new own list -/
theorem w_list {a : Expr} {fa : FA} {p pos : Pos} (ha : PA X [a] (tA c O W fa)) (hm : X.mg "list" = none) (hg : Gl X "list" := by rfl) (hK : c.K = X.K := by rfl) (he : starEach [a] X.env = (false, eval a X.env) :: starEach [] X.env := by rfl) (hpl : (backTo pos (starEach [] X.env)).any (·.1) = false := by rfl) :
    PE X (.Call (.Name "list" p) [a] [] pos) (tW c O W (.ow .fz) (fL dList fa)) :=
  PE.imp (pe_callTy call_list_of hg hm PyProof.Rows.boot_list ha (by decide) (by decide) he hpl) fun σ H Q ⟨B, fp, ρ, er, k⟩ => ⟨B, fp, ρ, er, (RG.bind k).mp fun ds ρ1 H1 B1 fp1 s1 e1 k1 vs rs => by
    obtain ⟨d, hd, k3⟩ := RG.lift k1
    unfold dList at hd
    split at hd
    · obtain ⟨x, rfl, r1⟩ := repL_one rs
      rw [Option.map_eq_some_iff] at hd
      obtain ⟨es, h1, rfl⟩ := hd
      obtain ⟨pp, ys, rfl, hs, r2⟩ := items_rep e1.bh r1 h1
      refine ⟨pp, ys, rfl, hK ▸ hs, fun l hl => ?_⟩
      obtain ⟨e2, F⟩ := e1.newOwn (o := .lst ys) hl
      exact k3 _ _ fp1 (.refl _) e2 _ [l] (OR.ofList upd_same r2) F
    · cases hd⟩
/-! ### x[i][j] = e -/
theorem OR.inner {K : PySem.W.Frag} {B H : Hp} : ∀ {vs : List V} {ds : List D} {f : List Addr}, ORs (OR K B H (.ow .fz)) vs ds f → f.Nodup → ∀ {j : Nat} {es : List D}, ds[j]? = some (.lst es) → ∃ a us, vs[j]? = some (.ref a) ∧ H a = some (.lst us) ∧ RepL K B us es ∧ a ∈ f ∧
    ∀ us' es', RepL K B us' es' → ORs (OR K (B) (upd H a (.lst us')) (.ow .fz)) vs (ds.set j (.lst es')) f := by
  intro vs ds f h
  induction h with
  | nil => intro _ j es h; simp at h
  | @cons v d f1 f2 vs ds h1 h2 ih =>
    intro nd j es hj
    obtain ⟨n1, n2, n3⟩ := List.nodup_append.mp nd
    cases j with
    | zero =>
      simp at hj; subst hj
      obtain ⟨a, us, es', rfl, e, ha, r, rfl⟩ := h1.list
      cases e
      refine ⟨a, us, rfl, ha, r, by simp, fun us' es' r' => ?_⟩
      refine .cons (OR.ofList upd_same r') (h2.monoH (.refl _) fun b hb => upd_ne fun z => ?_)
      subst z
      exact n3 b (by simp) b hb rfl
    | succ j =>
      obtain ⟨a, us, e1, e2, r, hm, k⟩ := ih n2 (j := j) (es := es) (by simpa using hj)
      refine ⟨a, us, by simpa using e1, e2, r, List.mem_append_right _ hm, fun us' es' r' => ?_⟩
      refine .cons (OR.mono (.refl _) _ (fun b hb => upd_ne fun z => ?_) h1) (k us' es' r')
      subst z
      exact n3 b hb b hm rfl
def set2R (i : Nat) (y w z : D) (ρ : E) : RS := match ρ[i]?, y, w with
  | some (some (.lst ds)), .int a, .int b => match ixN ds.length a with
    | some k => match ds[k]? with
      | some (.lst es) => match ixN es.length b with
        | some l => .nx (ρ.set i (some (.lst (ds.set k (.lst (es.set l z))))))
        | none => .no
      | _ => .no
    | none => .no
  | _, _, _ => .no
/-- x[y][w] = z; the value first, then y; w is slot j -/
def fSet2 (i : Nat) (fi : FE) (j : Nat) (fv : FE) : E → RS := fun ρ => (fv ρ).toS fun z ρ1 => (fi ρ1).toS fun y ρ2 => match ρ2[j]? with
  | some (some w) => set2R i y w z ρ2
  | _ => .no
theorem ixN_atI {α : Type} {xs : List α} {i : Int} {k : Nat} {v : α} (h : ixN xs.length i = some k) (hv : xs[k]? = some v) : atI xs i = some v := by
  unfold atI; rw [h]; exact hv
theorem s_set2 {X : Cx} {c : Cst} {O : Oo} {W : WX} {i j : Nat} {x y : Str} {Z : Zs} {ix v : Expr} {fi fv : FE} {posx posy pos1 pos' pos : Pos} (hO : O[i]? = some (some (.ow (.ow .fz)))) (hOj : O[j]? = some (some .fz)) (hv : PE X v (tF c O W fv)) (hi : PE X ix (tF c O W fi)) (hs1 : PlainIx ix := by exact fun _ _ => rfl) (hx : leO Z.xO O = true := by rfl)
    (hN : X.N[i]? = some x := by rfl) (hvi : Vis X.env.scope x := by first | exact Or.inl rfl | exact Or.inr (Or.inl rfl) | exact Or.inr (Or.inr rfl)) (hd : (x == ("__debug__" : Str)) = false := by decide) (hcd : (x == ("__classdict__" : Str)) = false := by decide)
    (hN2 : X.N[j]? = some y := by rfl) (hvi2 : Vis X.env.scope y := by first | exact Or.inl rfl | exact Or.inr (Or.inl rfl) | exact Or.inr (Or.inr rfl)) (hd2 : (y == ("__debug__" : Str)) = false := by decide) (hcd2 : (y == ("__classdict__" : Str)) = false := by decide)
    (hA : ∀ v, assign (.Subscript (.Subscript (.Name x posx) ix pos1) (.Name y posy) pos') X.env v = (do
      let ov ← holding [v] (eval (.Subscript (.Name x posx) ix pos1) X.env)
      let iv ← holding [v, ov] (eval (.Name y posy) X.env)
      standAt pos'
      holding [v, ov, iv] (setItem ov iv v)
      release [v, ov, iv] []) := by intro _; rfl) (hs : swapsWithSole [.Subscript (.Subscript (.Name x posx) ix pos1) (.Name y posy) pos'] v pos.line X.env = pure false := by rfl) (hw : swappedStores [.Subscript (.Subscript (.Name x posx) ix pos1) (.Name y posy) pos'] v X.env = pure none := by rfl)
    (h1 : (assignEach [.Subscript (.Subscript (.Name x posx) ix pos1) (.Name y posy) pos'] X.env).map (·.2) = [assign (.Subscript (.Subscript (.Name x posx) ix pos1) (.Name y posy) pos') X.env] := by rfl) :
    PS X (.Assign [.Subscript (.Subscript (.Name x posx) ix pos1) (.Name y posy) pos'] v pos) (tS c O O Z W (fSet2 i fi j fv)) :=
  PS.imp (ps_asg hv (pg_sub (pe_ix ix_list (pe_var hN hvi hd hcd) hi hs1) (pe_var hN2 hvi2 hd2 hcd2) set_list hA) hs hw h1) fun Dn σ H ⟨B, fp, ρ, er, k⟩ => ⟨B, fp, ρ, er, (RG.toS hx k).mp fun z ρ1 H1 B1 fp1 s1 e1 k1 w rw' => by
    obtain ⟨v0, d0, h1, h2, r0⟩ := e1.slot i _ hO
    refine ⟨v0, h1, B1, fp1, ρ1, e1, (RG.toS hx k1).mp fun y ρ2 H2 B2 fp2 s2 e2 k2 u ru => ?_⟩
    obtain ⟨v', d', h3, h4, r⟩ := e2.slot i _ hO
    rw [h1] at h3; cases h3
    obtain ⟨A, vs, ds, f, rfl, rfl, hA, hs, hf⟩ := r
    obtain ⟨vj, dj, j1, j2, rj, _⟩ := e2.slot j _ hOj
    rw [j2] at k2
    dsimp only at k2
    unfold set2R at k2
    rw [h4] at k2
    cases ru with
    | int a =>
      cases rj with
      | int b =>
        dsimp only at k2
        cases qa : ixN ds.length a with
        | none => rw [qa] at k2; exact k2.elim
        | some kk =>
          rw [qa] at k2
          dsimp only at k2
          cases qd : ds[kk]? with
          | none => rw [qd] at k2; exact k2.elim
          | some de =>
            rw [qd] at k2
            cases de with
            | lst es =>
              dsimp only at k2
              cases qb : ixN es.length b with
              | none => rw [qb] at k2; exact k2.elim
              | some l =>
                rw [qb] at k2
                have nd := e2.nd i
                rw [hf] at nd
                obtain ⟨ai, us, g1, g2, g3, g4, g5⟩ := OR.inner hs (List.nodup_cons.mp nd).2 qd
                have hai : ai ∈ fp2 i := by rw [hf]; exact List.mem_cons_of_mem _ g4
                have ne : A ≠ ai := fun z => (List.nodup_cons.mp nd).1 (by rw [z]; exact g4)
                refine ⟨A, vs, a, .ref ai, rfl, rfl, SqL.of hA, ixN_atI (by rw [hs.len]; exact qa) g1, _, j1, ai, us, b, l, rfl, rfl, g2, by rw [g3.length]; exact qb, ?_⟩
                refine k2 σ _ B2 fp2 (.refl _) (e2.mut (o := .lst (us.set l w)) hO hai h1 ?_)
                exact ⟨A, vs, _, f, rfl, rfl, by rw [upd_ne ne]; exact hA, g5 _ _ (g3.set l (rw'.up s2)), hf⟩
            | _ => exact k2.elim
      | _ => exact k2.elim
    | _ => exact k2.elim⟩
end
end L3

namespace L3
open PySem PySem.Spec PyProof.Rows L2

/-! ### the top's facts, told by the head's Hook -/
theorem ga_eq (K : PySem.W.Frag) (x : Str) : He.ga K x = clsA K x := rfl
/-- a class's constant that is an object -/
def cA (K : PySem.W.Frag) (C f : Str) : Addr := match PySem.W.findCls K (.ref (clsA K C)) (.type "type") f with
  | some (.val (.ref a)) => a
  | _ => 0
def repKL (f : Value → D → Bool) : List Value → List D → Bool
  | [], [] => true
  | u :: us, d :: ds => f u d && repKL f us ds
  | _, _ => false
/-- the written value u is the data d -/
def repK (K : PySem.W.Frag) : Nat → Value → D → Bool
  | 0, _, _ => false
  | n + 1, u, d => match u, d with
    | .none, .non => true
    | .bool b, .bl c => b == c
    | .int i _, .int j => decide (i = j)
    | .str x _, .str y => decide (x = y)
    | .type a, .ty b => decide (a = b)
    | .ref a, .fn m => decide (a = clsA K m)
    | .ref a, .tup ds => (match K.lookup a with
      | some ⟨.type c, none, .seq its _, _⟩ => decide (c = "tuple") && (decide (its.size ≤ 1000) && repKL (repK K n) its.toList ds)
      | _ => false)
    | .ref a, .lsk ds => (match K.lookup a with
      | some ⟨.type c, none, .seq its _, _⟩ => decide (c = "list") && (decide (its.size ≤ 1000) && repKL (repK K n) its.toList ds)
      | _ => false)
    | _, _ => false
section
variable {K : PySem.W.Frag}
theorem repKL_ok {f : Value → D → Bool} (hf : ∀ u d, f u d = true → ∃ v, RelV v u ∧ ∀ B, Rep K B v d) : ∀ {us : List Value} {ds : List D}, repKL f us ds = true → ∃ vs, Vals vs us ∧ ∀ B, RepL K B vs ds
  | [], [], _ => ⟨[], .nil, fun _ => .nil⟩
  | [], _ :: _, h => by cases h
  | _ :: _, [], h => by cases h
  | u :: us, d :: ds, h => by
    obtain ⟨h1, h2⟩ := He.ba (show (f u d && repKL f us ds) = true from h)
    obtain ⟨v, r1, r2⟩ := hf u d h1
    obtain ⟨vs, r3, r4⟩ := repKL_ok hf h2
    exact ⟨v :: vs, .cons r1 r3, fun B => .cons (r2 B) (r4 B)⟩
theorem repK_ok : ∀ {n : Nat} {u : Value} {d : D}, repK K n u d = true → ∃ v, RelV v u ∧ ∀ B, Rep K B v d
  | 0, _, _, h => by cases h
  | n + 1, u, d, h => by
    have key : ∀ {a : Addr} {ds : List D} {T : String}, (match K.lookup a with
      | some ⟨.type c, none, .seq its _, _⟩ => decide (c = T) && (decide (its.size ≤ 1000) && repKL (repK K n) its.toList ds)
      | _ => false) = true → ∃ its m sl, K.lookup a = some ⟨.type T, none, .seq its m, sl⟩ ∧ its.size ≤ 1000 ∧ ∃ vs, Vals vs its.toList ∧ ∀ B, RepL K B vs ds := fun {a ds T} h => by
      split at h
      · rename_i c its m sl q
        obtain ⟨h1, h2⟩ := He.ba h
        obtain ⟨h3, h4⟩ := He.ba h2
        have e : c = T := of_decide_eq_true h1
        subst e
        exact ⟨its, m, sl, q, of_decide_eq_true h3, repKL_ok (fun u d h => repK_ok h) h4⟩
      · cases h
    unfold repK at h
    split at h
    · exact ⟨.non, rfl, fun B => .non⟩
    · rename_i b c
      have e : b = c := eq_of_beq h
      subst e
      exact ⟨.bl b, rfl, fun B => .bl b⟩
    · rename_i i t j
      have e : i = j := of_decide_eq_true h
      subst e
      exact ⟨.int i, ⟨t, rfl⟩, fun B => .int i⟩
    · rename_i x t y
      have e : x = y := of_decide_eq_true h
      subst e
      exact ⟨.str x, ⟨t, rfl⟩, fun B => .str x⟩
    · rename_i a b
      have e : a = b := of_decide_eq_true h
      subst e
      exact ⟨.ty a, rfl, fun B => .ty a⟩
    · rename_i a m
      have e : a = clsA K m := of_decide_eq_true h
      subst e
      exact ⟨.ref _, rfl, fun B => .fn m⟩
    · rename_i a ds
      obtain ⟨its, m, sl, q, hs, vs, r1, r2⟩ := key h
      exact ⟨.ref a, rfl, fun B => .tup (.inr ⟨_, its, m, q, rfl, rfl, Nat.le_of_lt (small1000 hs), r1⟩) (r2 B)⟩
    · rename_i a ds
      obtain ⟨its, m, sl, q, hs, vs, r1, r2⟩ := key h
      exact ⟨.ref a, rfl, fun B => .lsk (.inr ⟨_, its, m, q, rfl, rfl, rfl, Nat.le_of_lt (small1000 hs), r1⟩) (r2 B)⟩
    · cases h
def ktupB (K : PySem.W.Frag) (a : Addr) (ds : List D) : Bool := match K.lookup a with
  | some ⟨.type c, none, .seq its _, _⟩ => decide (c = "tuple") && (decide (its.size ≤ 1000) && repKL (repK K 4) its.toList ds)
  | _ => false
theorem ktupB_ok {a : Addr} {ds : List D} (h : ktupB K a ds = true) : KTup K a ds := by
  unfold ktupB at h
  split at h
  · rename_i c its m sl q
    obtain ⟨h1, h2⟩ := He.ba h
    obtain ⟨h3, h4⟩ := He.ba h2
    have e : c = "tuple" := of_decide_eq_true h1
    subst e
    obtain ⟨vs, r1, r2⟩ := repKL_ok (fun u d h => repK_ok h) h4
    exact ⟨_, its, m, vs, q, rfl, rfl, rfl, Nat.le_of_lt (small1000 (of_decide_eq_true h3)), r1, r2⟩
  · cases h
/-- a dict's entries, keys in order -/
def entB (K : PySem.W.Frag) : List DictEntry → List (Str × D) → Bool
  | [], [] => true
  | e :: r, t :: ts => (match e.key with
    | .str x _ => decide (x = t.1)
    | _ => false) && (repK K 4 e.val t.2 && entB K r ts)
  | _, _ => false
theorem entB_ok : ∀ {l : List DictEntry} {tb : List (Str × D)}, entB K l tb = true → entsOk l = true ∧ ∀ z, (entsV l).lookup z = none ∧ tb.lookup z = none ∨ ∃ u d v, (entsV l).lookup z = some u ∧ tb.lookup z = some d ∧ RelV v u ∧ ∀ B, Rep K B v d
  | [], [], _ => ⟨rfl, fun z => .inl ⟨rfl, rfl⟩⟩
  | [], _ :: _, h => by cases h
  | _ :: _, [], h => by cases h
  | e :: r, t :: ts, h => by
    obtain ⟨h1, h2⟩ := He.ba (show ((match e.key with
      | .str x _ => decide (x = t.1)
      | _ => false) && (repK K 4 e.val t.2 && entB K r ts)) = true from h)
    obtain ⟨h3, h4⟩ := He.ba h2
    obtain ⟨i1, i2⟩ := entB_ok h4
    obtain ⟨v, r1, r2⟩ := repK_ok h3
    obtain ⟨hh, k, vv⟩ := e
    obtain ⟨tk, td⟩ := t
    cases k with
    | str x tt =>
      have ex : x = tk := of_decide_eq_true h1
      subst ex
      refine ⟨by simp only [entsOk, List.all_cons, Bool.true_and]; exact i1, fun z => ?_⟩
      simp only [entsV, List.lookup_cons]
      by_cases q : z = x
      · subst q
        exact .inr ⟨vv, td, v, by simp, by simp, r1, r2⟩
      · have q1 : (z == x) = false := by simpa using q
        simp only [q1]
        exact i2 z
    | _ => cases h1
def ktabB (K : PySem.W.Frag) (a : Addr) (tb : List (Str × D)) : Bool := match K.lookup a with
  | some ⟨_, _, .dict es _, _⟩ => entB K es.toList tb
  | _ => false
theorem ktab_ok {w : World} {a : Addr} {tb : List (Str × D)} {es : Array DictEntry} {n : Nat} (kd : KDict K w a es n) (h : ktabB K a tb = true) : KTab K w a tb := by
  obtain ⟨lk, _⟩ := id kd
  unfold ktabB at h
  rw [lk] at h
  obtain ⟨h1, h2⟩ := entB_ok h
  exact ⟨es, n, kd, h1, h2⟩
end
/-- more facts -/
inductive Fx where
  | val (x : Str) (d : D)
  | ktup (x : Str) (ds : List D)
  | ctup (C f : Str) (ds : List D)
  | cval (C f : Str) (d : D)
  | cread (C : Str)
  | callo (C : Str)
  | tab (x : Str) (kvs : List (Str × D))
  | insty (C : Str)
  | kit (a c : TK) (b : Bool)
  | meq (C : Str)
  | itab (cs : List Str) (tb : ITb)
def instyB (K : PySem.W.Frag) (C : Str) : Bool := (He.Fa.cls C).ok K && (He.eqO (PySem.W.findIn K (.ref (clsA K C)) "__class__") (some (some (.builtin "object.__class__"))) && (He.eqO (PySem.W.specialIn K (.builtin "object.__class__") "__get__") (some (some (.builtin "getset_descriptor.__get__"))) &&
      (decide (PySem.W.takesIn K (.builtin "object.__class__") = some true) && decide (PySem.W.mroIn K (clsA K C) (.type "object") = some true))))
def Fx.ok (K : PySem.W.Frag) : Fx → Bool
  | .val x d => (match PySem.W.nsIn K mainGlobals x with
    | some (some u) => repK K 4 u d
    | _ => false)
  | .ktup x ds => ktupB K (clsA K x) ds
  | .ctup C f ds => (match PySem.W.findCls K (.ref (clsA K C)) (.type "type") f with
    | some (.val u) => decide (u = .ref (cA K C f))
    | _ => false) && ktupB K (cA K C f) ds
  | .cval C f d => (match PySem.W.findCls K (.ref (clsA K C)) (.type "type") f with
    | some (.val u) => repK K 4 u d
    | _ => false)
  | .cread C => PySem.W.readsIn K (clsA K C) (.type "type") && He.eqO (PySem.W.specialIn K (.ref (clsA K C)) "__getattribute__") (some (some (.builtin "type.__getattribute__")))
  | .callo C => He.eqO (PySem.W.findIn K (.ref (clsA K C)) "__call__") (some (some (.ref (He.ma K (clsA K C) "__call__")))) && (PySem.W.isFn K (.ref (He.ma K (clsA K C) "__call__")) && PySem.W.fnIn K (He.ma K (clsA K C) "__call__"))
  | .tab x kvs => ktabB K (clsA K x) kvs
  | .insty C => instyB K C
  | .kit a c b => decide (PySem.W.kitOne K (tkV K a) (tkV K c) = some b)
  | .meq C => He.eqO (PySem.W.findIn K (.ref (clsA K C)) "__eq__") (some (some (.ref (He.ma K (clsA K C) "__eq__")))) && PySem.W.isFn K (.ref (He.ma K (clsA K C) "__eq__"))
  | .itab cs tb => (cs.all fun C => instyB K C) && tb.all fun e => decide (PySem.W.kitOne K (tkV K e.1) (tkV K e.2.1) = some e.2.2)
/-- the def's object -/
def fdOf (K : PySem.W.Frag) (p : Str × Option Str) : FuncData := match K.lookup (He.fAd K p) with
  | some ⟨_, _, .func fd, _⟩ => fd
  | _ => PySem.W.fnOf "" "" ⟨[], [], none, [], [], none, []⟩ [] ⟨.function, [], false, false, []⟩ .none .none .none .none none .none .none
theorem fdOf_eq {K : PySem.W.Frag} {p : Str × Option Str} {fd : FuncData} {oc : Value} {od : Option Addr} {osl : Array (Option Value)} (h : K.lookup (He.fAd K p) = some ⟨oc, od, .func fd, osl⟩) : fdOf K p = fd := by unfold fdOf; rw [h]
/-- all that the walk asks of the top -/
structure Tx (fa : List He.Fa) (fn : List He.DefD) (ts : List He.Tab) (fx : List Fx) (w : World) (K : PySem.W.Frag) (mg : Str → Option Value) : Prop where
  ex : ∃ h : Heap, K.In h ∧ h.Ns mainGlobals mg ∧ He.SaysX fa fn ts [] (fun K => fx.all fun f => f.ok K) w h K
section
variable {fa : List He.Fa} {fn : List He.DefD} {ts : List He.Tab} {fx : List Fx} {w : World} {K : PySem.W.Frag} {mg : Str → Option Value} (T : Tx fa fn ts fx w K mg)
include T
theorem Tx.fact (i : Nat) {f : He.Fa} (h : fa[i]? = some f) : f.ok K = true := by
  obtain ⟨_, _, _, s⟩ := T.ex
  exact s.t.d.fact i h
theorem Tx.fxo (i : Nat) {f : Fx} (h : fx[i]? = some f) : f.ok K = true := by
  obtain ⟨_, _, _, s⟩ := T.ex
  exact List.all_eq_true.mp s.more f (List.mem_of_getElem? h)
theorem Tx.glo (i : Nat) {x : Str} (h : fa[i]? = some (.glo x) := by rfl) : mg x = some (.ref (clsA K x)) := by
  obtain ⟨h0, X, G, s⟩ := T.ex
  exact He.glo_ok X G (T.fact i h)
theorem Tx.free (i : Nat) {x : Str} (h : fa[i]? = some (.free x) := by rfl) : mg x = none := by
  obtain ⟨h0, X, G, s⟩ := T.ex
  exact He.free_ok X G (T.fact i h)
theorem Tx.cls (i : Nat) {x : Str} (h : fa[i]? = some (.cls x) := by rfl) : Cls K (clsA K x) := He.cls_ok (T.fact i h)
theorem Tx.noat (i : Nat) {x f : Str} (h : fa[i]? = some (.noat x f) := by rfl) : NoAttr K (clsA K x) f := He.noat_ok (T.fact i h)
theorem Tx.meth (i : Nat) {x m : Str} (h : fa[i]? = some (.meth x m) := by rfl) : Meth K (clsA K x) m (He.fAd K (x, some m)) := He.meth_ok (T.fact i h)
theorem Tx.mkr (i : Nat) {x : Str} (h : fa[i]? = some (.mkr x) := by rfl) : Mk K (clsA K x) (He.fAd K (x, some "__init__")) := He.mkr_ok (T.fact i h)
theorem Tx.keep (i : Nat) {x : Str} (h : fa[i]? = some (.keep x) := by rfl) : PySem.W.keepIn K (.ref (clsA K x)) = true := T.fact i h
theorem Tx.fun_ (i : Nat) {d : He.DefD} (h : fn[i]? = some d := by rfl) : FunD K d.name d.qual d.params d.body d.scope (d.dvs K) (d.kws K) (He.fAd K d.at_) (fdOf K d.at_) := by
  obtain ⟨_, _, _, s⟩ := T.ex
  obtain ⟨fd, F⟩ := s.t.d.def_ i h
  obtain ⟨oc, od, dV, kV, doc, pm, an, cdv, ct, osl, e, lk, r⟩ := F.ex
  rw [fdOf_eq lk]; exact F
theorem Tx.val (i : Nat) {x : Str} {d : D} (h : fx[i]? = some (.val x d) := by rfl) : ∃ u v, mg x = some u ∧ RelV v u ∧ ∀ B, Rep K B v d := by
  obtain ⟨h0, X, G, s⟩ := T.ex
  have c := T.fxo i h
  simp only [Fx.ok] at c
  split at c
  · rename_i u e
    obtain ⟨v, r1, r2⟩ := repK_ok c
    exact ⟨u, v, PySem.W.mg_of X G e, r1, r2⟩
  · cases c
theorem Tx.ktup (i : Nat) {x : Str} {ds : List D} (h : fx[i]? = some (.ktup x ds) := by rfl) : KTup K (clsA K x) ds := ktupB_ok (T.fxo i h)
theorem Tx.cread (i : Nat) {C : Str} (h : fx[i]? = some (.cread C) := by rfl) : ClX.CRead K (clsA K C) (.type "type") := by
  obtain ⟨h1, h2⟩ := He.ba (T.fxo i h)
  exact ⟨h1, He.eqO_ok h2⟩
theorem Tx.cval (i : Nat) {C f : Str} {d : D} (h : fx[i]? = some (.cval C f d) := by rfl) : ∃ u v, ClX.CVal K (clsA K C) (.type "type") f v u ∧ ∀ B, Rep K B v d := by
  have c := T.fxo i h
  simp only [Fx.ok] at c
  split at c
  · rename_i u e
    obtain ⟨v, r1, r2⟩ := repK_ok c
    exact ⟨u, v, ⟨e, r1⟩, r2⟩
  · cases c
theorem Tx.ctup (i : Nat) {C f : Str} {ds : List D} (h : fx[i]? = some (.ctup C f ds) := by rfl) : ClX.CVal K (clsA K C) (.type "type") f (.ref (cA K C f)) (.ref (cA K C f)) ∧ KTup K (cA K C f) ds := by
  obtain ⟨h1, h2⟩ := He.ba (T.fxo i h)
  refine ⟨?_, ktupB_ok h2⟩
  split at h1
  · rename_i u e
    have q : u = .ref (cA K C f) := of_decide_eq_true h1
    subst q
    exact ⟨e, rfl⟩
  · cases h1
theorem Tx.callo (i : Nat) {C : Str} (h : fx[i]? = some (.callo C) := by rfl) : StX.CallO K (clsA K C) (He.fAd K (C, some "__call__")) := by
  obtain ⟨h1, h2⟩ := He.ba (T.fxo i h)
  obtain ⟨h3, h4⟩ := He.ba h2
  exact ⟨He.eqO_ok h1, h3, h4⟩
theorem Tx.tab (i j : Nat) {x : Str} {kvs : List (Str × D)} {ks : List Str} (h : fx[i]? = some (.tab x kvs) := by rfl) (h2 : ts[j]? = some ((fun K => clsA K x), ks) := by rfl) : KTab K w (clsA K x) kvs := by
  obtain ⟨h0, X, G, s⟩ := T.ex
  obtain ⟨es, n, kd⟩ := s.t.tab j h2
  exact ktab_ok kd (T.fxo i h)
omit T in
theorem instyB_ok {C : Str} (h : instyB K C = true) : InsTy K (clsA K C) := by
  obtain ⟨h1, h2⟩ := He.ba h
  obtain ⟨h3, h4⟩ := He.ba h2
  obtain ⟨h5, h6⟩ := He.ba h4
  obtain ⟨h7, h8⟩ := He.ba h6
  exact ⟨He.cls_ok h1, He.eqO_ok h3, He.eqO_ok h5, of_decide_eq_true h7, of_decide_eq_true h8⟩
theorem Tx.insty (i : Nat) {C : Str} (h : fx[i]? = some (.insty C) := by rfl) : InsTy K (clsA K C) := instyB_ok (T.fxo i h)
theorem Tx.itab (i : Nat) {cs : List Str} {tb : ITb} (h : fx[i]? = some (.itab cs tb) := by rfl) : ITab K cs tb := by
  obtain ⟨h1, h2⟩ := He.ba (T.fxo i h)
  exact ⟨fun C hC => instyB_ok (List.all_eq_true.mp h1 C hC), fun e he => of_decide_eq_true (List.all_eq_true.mp h2 e he)⟩
theorem Tx.kit (i : Nat) {a c : TK} {b : Bool} (h : fx[i]? = some (.kit a c b) := by rfl) : PySem.W.kitOne K (tkV K a) (tkV K c) = some b := of_decide_eq_true (T.fxo i h)
theorem Tx.meq (i : Nat) {C : Str} (h : fx[i]? = some (.meq C) := by rfl) : PySem.W.findIn K (.ref (clsA K C)) "__eq__" = some (some (.ref (He.fAd K (C, some "__eq__")))) ∧ PySem.W.isFn K (.ref (He.fAd K (C, some "__eq__"))) = true := by
  obtain ⟨h1, h2⟩ := He.ba (T.fxo i h)
  exact ⟨He.eqO_ok h1, h2⟩
end
/-! ### names of the module -/
section
variable {X : Cx} {c : Cst} {O : Oo} {W : WX} {x : Str} {pos : Pos}
theorem e_gv {d : D} (h : ∃ u v, X.mg x = some u ∧ RelV v u ∧ ∀ B, Rep X.K B v d) (hg : Gl X x := by rfl) (hK : c.K = X.K := by rfl) (hd : (x == ("__debug__" : Str)) = false := by decide) : PE X (.Name x pos) (tF c O W (fC d)) := by
  obtain ⟨u, v, h1, h2, h3⟩ := h
  exact e_c (pe_glob hg h1 h2 hd) (by rw [hK]; exact h3)
theorem e_gk {ds : List D} (T : KTup X.K (clsA X.K x) ds) (hm : X.mg x = some (.ref (clsA X.K x))) (hg : Gl X x := by rfl) (hK : c.K = X.K := by rfl) (hd : (x == ("__debug__" : Str)) = false := by decide) : PE X (.Name x pos) (tF c O W (fC (.tup ds))) :=
  e_kt (hK ▸ T) (pe_glob hg hm rfl hd)
theorem e_gfn (hm : X.mg x = some (.ref (clsA X.K x))) (hg : Gl X x := by rfl) (hK : c.K = X.K := by rfl) (hd : (x == ("__debug__" : Str)) = false := by decide) : PE X (.Name x pos) (tF c O W (fC (.fn x))) :=
  e_c (pe_glob hg hm (v := .ref (clsA X.K x)) rfl hd) (by rw [hK]; exact fun B => .fn x)
theorem e_bty {T : String} (hm : X.mg x = none) (hv : bootBuiltins x = some (.type T)) (hg : Gl X x := by rfl) (hn : x ≠ "__name__" := by decide) (hd : (x == ("__debug__" : Str)) = false := by decide) : PE X (.Name x pos) (tF c O W (fC (.ty T))) :=
  e_c (pe_bltn hg hm hv (v := .ty T) rfl hn hd) fun B => .ty T
theorem e_cv {C f : Str} {d : D} {e : Expr} (hm : X.mg x = some (.ref (clsA X.K x))) (r : ClX.CRead X.K (clsA X.K x) (.type "type")) (h : ∃ u v, ClX.CVal X.K (clsA X.K x) (.type "type") f v u ∧ ∀ B, Rep X.K B v d) {p : Pos}
    (hb : attributeBase (.Name x p) f X.env (eval (.Name x p) X.env) = eval (.Name x p) X.env := by rfl) (hg : Gl X x := by rfl) (hK : c.K = X.K := by rfl) (hd : (x == ("__debug__" : Str)) = false := by decide) : PE X (.Attribute (.Name x p) f pos) (tF c O W (fC d)) := by
  obtain ⟨u, v, h1, h2⟩ := h
  exact e_c (e_cval (pe_glob hg hm (v := .ref (clsA X.K x)) rfl hd) r h1 hb) (by rw [hK]; exact h2)
end
/-! ### a def's promise, by its object told by the head -/
section
variable {P : Program} {w : World} {K : PySem.W.Frag} {mg : Str → Option Value} {base : Heap}
theorem fn_okD {x qual : Str} {params : Arguments} {body : List Stmt} {scope : Scope} {dvs : List V} {kws : List (Str × V)} {f : Addr} {fd : FuncData} {Nm ps : List Str} {k : Nat} {pt : List OT} {rt : OT} {fb : E → RS} (Fn : FunD K x qual params body scope dvs kws f fd) (S : FnScope Nm ps scope)
    (hps : pt.length = ps.length)
    (hbody : ∀ (cdv : Value) (A : Around) (outer : List Env) (s : Shared) (H : Hp) (Ex : XK) (F B0 : Hp) (pv : Nat → V), Room k (A.deeper (envOfC qual scope s.heap.objs.size f cdv)) →
      PSs (cxOf (L2.CX P w) P w K mg base Nm qual scope f cdv A outer s H Ex) body (tS ⟨K, F, B0, pinL 0 pt, pv⟩ (pt.map some ++ List.replicate (Nm.length - pt.length) none) (rOof pt) (zOf pt rt) (fun cls d _ H => Ex cls d H) fb))
    (hn : rt = .fz ∨ ∀ ρ ρ', fb ρ ≠ .nx ρ') : FnOk P w K mg base (L2.CX P w) (k + 1) f fd ps (spF K pt rt (defM pt (Nm.length - pt.length) fb)) := by
  refine Fn.ok S (fun vs H Q Ex h => ?_) (fun cdv A outer s H vs Q Ex hr h => ?_)
  · obtain ⟨F, B, fp, ds, hl, _⟩ := h
    rw [hl, hps]
  · obtain ⟨F, B, fp, ds, hl, er, k⟩ := h
    refine ⟨_, hbody cdv A outer s H Ex F B (pvOf vs) hr, B, fp, ds.map some ++ List.replicate (Nm.length - pt.length) none, ?_, ?_⟩
    · have := er.start hl (Nm.length - pt.length)
      rw [show L2.start Nm vs = vs.map some ++ List.replicate (Nm.length - pt.length) none from by unfold L2.start; rw [hl]]
      exact this
    · simp only [defM] at k
      cases hb : fb (ds.map some ++ List.replicate (Nm.length - pt.length) none) with
      | nx ρ =>
        rw [hb] at k
        rcases hn with rfl | hn
        · exact fun σ' H' B' fp' s' e => k .non H' B' fp' [] s' (ER.mask e hl) ⟨.non, rfl⟩ Fresh.nil
        · exact absurd hb (hn _ _)
      | rt d ρ => rw [hb] at k; exact fun σ' H' B' fp' v g s' e r Fr => k v H' B' fp' g s' (ER.mask e hl) r Fr
      | ex e ρ => rw [hb] at k; exact fun σ' cls dd H' B' fp' s' e x => k cls dd H' B' fp' s' (ER.mask e hl) x
      | bk ρ => rw [hb] at k; exact k.elim
      | ct ρ => rw [hb] at k; exact k.elim
      | no => rw [hb] at k; exact k.elim
end
end L3

namespace L3
open PySem PySem.Spec PyProof.Rows L2

theorem takes0 {X : Cx} : Takes X W0 := fun u s' ⟨_, _, _, _, _, _, _, _, _, _, _, _, _, _, _, _, w⟩ => w.elim
section
variable {X : Cx} {c : Cst} {O : Oo} {W : WX}
/-! ### a list or a tuple to go through -/
theorem PI.or {tg iter : Expr} {t t' : TI} (h : PI X tg iter t) (h' : PI X tg iter t') : PI X tg iter (fun σ H R => t σ H R ∨ t' σ H R) := ⟨fun pins s σ H R I q => q.elim (h.run pins s σ H R I) (h'.run pins s σ H R I)⟩
def fiS (f : FE) : FA := fun ρ => (f ρ).bind fun d ρ' => match d with
  | .lst ds => .ok ds ρ'
  | .lsk ds => .ok ds ρ'
  | .tup ds => .ok ds ρ'
  | _ => .no
theorem tIt_congr {f g : FA} {σ : L2.St} {H : Hp} {R : It → Hp → Prop} (h : tIt c O W f σ H R) (e : ∀ ρ, f ρ = g ρ ∨ f ρ = .no) : tIt c O W g σ H R := by
  obtain ⟨B, fp, ρ, er, k⟩ := h
  refine ⟨B, fp, ρ, er, ?_⟩
  rcases e ρ with e | e
  · rw [← e]; exact k
  · rw [e] at k; exact k.elim
theorem tIt_cases {f f1 f2 : FA} {σ : L2.St} {H : Hp} {R : It → Hp → Prop} (h : tIt c O W f σ H R) (e : ∀ ρ, f ρ = f1 ρ ∨ f ρ = f2 ρ ∨ f ρ = .no) : tIt c O W f1 σ H R ∨ tIt c O W f2 σ H R := by
  obtain ⟨B, fp, ρ, er, k⟩ := h
  rcases e ρ with e | e | e
  · exact .inl ⟨B, fp, ρ, er, by rw [← e]; exact k⟩
  · exact .inr ⟨B, fp, ρ, er, by rw [← e]; exact k⟩
  · rw [e] at k; exact k.elim
theorem i_seq {tg e : Expr} {f : FE} (he : PE X e (tF c O W f)) (hK : c.K = X.K := by rfl) : PI X tg e (tIt c O W (fiS f)) :=
  PI.imp (PI.or (i_list he hK) (i_tup he hK)) fun σ H R h => tIt_cases h fun ρ => by
    unfold fiS fiL fiT
    cases f ρ with
    | ok d ρ' => cases d <;> simp [L3.R.bind]
    | ex e ρ' => simp [L3.R.bind]
    | no => simp [L3.R.bind]
def fiEnumS (f : FA) : FA := fun ρ => (f ρ).bind fun ds ρ' => match ds with
  | [.lst es] => .ok (enumD 0 es) ρ'
  | [.lsk es] => .ok (enumD 0 es) ρ'
  | [.tup es] => .ok (enumD 0 es) ρ'
  | _ => .no
theorem i_enumS {e : Expr} {fa : FA} {p pos tpos : Pos} {elts : List Expr} {kk : Nat} (hm : X.mg "enumerate" = none) (ha : PA X [e] (tA c O W fa)) (hg : Gl X "enumerate" := by rfl) (hs : starEach [e] X.env = [(false, eval e X.env)] := by rfl) (hK : c.K = X.K := by rfl) :
    PI X (.Tuple elts kk tpos) (.Call (.Name "enumerate" p) [e] [] pos) (tIt c O W (fiEnumS fa)) :=
  PI.imp (PI.or (i_enum hm ha hg hs hK) (i_enumT hm ha hg hs hK)) fun σ H R h => tIt_cases h fun ρ => by
    unfold fiEnumS fiEnumL fiEnumT
    cases fa ρ with
    | ok d ρ' =>
      simp only [L3.R.bind]
      split <;> simp
    | ex e ρ' => simp [L3.R.bind]
    | no => simp [L3.R.bind]
/-! ### isinstance of an own list -/
def fIsiO (g : List D → Option D) (i : Nat) (fa : FA) : FE := fun ρ => (fa ρ).bind fun ds ρ1 => lift ((peek i ρ1).bind fun d => g (d :: ds)) ρ1
theorem e_bltO {x : Str} {id : String} {r : List V → Hp → VK → Prop} {g : List D → Option D} {y : Str} {py : Pos} {es : List Expr} {fa : FA} {p pos : Pos} {i : Nat} (hO : O[i]? = some (some (.ow .fz))) (hc : CallR X (.builtin id) r) (hr : ∀ xs H Q, rDL c.K g xs H Q → r xs H Q) (hat : ∀ ds d, g ds = some d → atom d = true) (hg : Gl X x) (hm : X.mg x = none) (hv : bootBuiltins x = some (.builtin id)) (ha : PA X es (tA c O W fa)) (hn : x ≠ "__name__" := by decide)
    (hdb : (x == ("__debug__" : Str)) = false := by decide) (hN : X.N[i]? = some y := by rfl) (hvy : Vis X.env.scope y := by first | exact Or.inl rfl | exact Or.inr (Or.inl rfl) | exact Or.inr (Or.inr rfl)) (hdy : (y == ("__debug__" : Str)) = false := by decide) (hcdy : (y == ("__classdict__" : Str)) = false := by decide)
    (he : starEach (.Name y py :: es) X.env = (false, eval (.Name y py) X.env) :: starEach es X.env := by rfl) (hpl : (backTo pos (starEach es X.env)).any (·.1) = false := by rfl) :
    PE X (.Call (.Name x p) (.Name y py :: es) [] pos) (tF c O W (fIsiO g i fa)) :=
  PE.imp (pe_callB hc hg hm hv (pa_cons (pe_var hN hvy hdy hcdy) ha he) hn hdb he hpl) fun σ H Q ⟨B, fp, ρ, er, k⟩ => by
    obtain ⟨v, d0, h1, h2, _⟩ := er.slot i _ hO
    refine ⟨v, h1, B, fp, ρ, er, (RG.bind k).mp fun ds ρ1 H1 B1 fp1 s1 e1 k1 vs rs => ?_⟩
    obtain ⟨d, hd, k3⟩ := RG.lift k1
    obtain ⟨v', dl, h3, h4, r', sb, sh⟩ := peek_rep hO e1
    rw [h1] at h3; cases h3
    rw [h4] at hd
    simp only [Option.bind_some] at hd
    refine hr _ _ _ ⟨_, dl :: ds, d, sh, .cons r' (rs.up sb), hd, fun w H' B' gr rw' => ?_⟩
    exact k3 H' B1 fp1 (.refl _) (e1.forget gr.hh) w (atom_rep (hat _ _ hd) rw')
theorem isiC_atom {cs : List Str} {tb : ITb} : ∀ ds d, dIsiC cs tb ds = some d → atom d = true := fun ds d h => by
  unfold dIsiC at h
  split at h
  · unfold dIsi at h
    split at h
    · simp only [Option.bind_eq_some_iff, Option.map_eq_some_iff] at h
      obtain ⟨_, _, _, _, _, _, rfl⟩ := h; rfl
    · simp only [Option.bind_eq_some_iff, Option.map_eq_some_iff] at h
      obtain ⟨_, _, _, _, _, _, rfl⟩ := h; rfl
    · cases h
  · cases h
/-! ### the own instance's field -/
def fFldO (i : Nat) (C f : Str) : FE := fun ρ => match ρ[i]? with
  | some (some (.ins n gs)) => if n = C then (match gs.lookup f with
    | some d => .ok d ρ
    | none => .no) else .no
  | _ => .no
theorem RepF.look' {K : PySem.W.Frag} {B : Hp} {f : Str} {d : D} : ∀ {fs : List (Str × V)} {gs : List (Str × D)}, RepF K B fs gs → gs.lookup f = some d → ∃ v, fs.lookup f = some v ∧ Rep K B v d
  | _, [], h, q => by cases q
  | _, (g, u) :: r', h, q => by
    cases h with
    | cons h1 h2 =>
      simp only [List.lookup_cons] at q ⊢
      cases z : f == g with
      | true => rw [z] at q; cases q; exact ⟨_, rfl, h1⟩
      | false => rw [z] at q; exact RepF.look' h2 q
theorem e_fldO {i : Nat} {x C f : Str} {pos posn : Pos} (hO : O[i]? = some (some .oi)) (hc : Cls X.K (clsA X.K C)) (hn : NoAttr X.K (clsA X.K C) f) (hb : attributeBase (.Name x posn) f X.env (eval (.Name x posn) X.env) = eval (.Name x posn) X.env := by rfl) (hK : c.K = X.K := by rfl)
    (hN : X.N[i]? = some x := by rfl) (hv : Vis X.env.scope x := by first | exact Or.inl rfl | exact Or.inr (Or.inl rfl) | exact Or.inr (Or.inr rfl)) (hd : (x == ("__debug__" : Str)) = false := by decide) (hcd : (x == ("__classdict__" : Str)) = false := by decide) :
    PE X (.Attribute (.Name x posn) f pos) (tF c O W (fFldO i C f)) :=
  PE.imp (pe_fld (pe_var hN hv hd hcd) hb) fun σ H Q ⟨B, fp, ρ, er, k⟩ => by
    obtain ⟨v, d, h1, h2, a, n, dx, fs, gs, rfl, rfl, ha, rf, hf⟩ := er.slot i _ hO
    unfold fFldO at k
    rw [h2] at k
    dsimp only at k
    split at k
    · rename_i e
      subst e
      cases q : gs.lookup f with
      | none => rw [q] at k; exact k.elim
      | some d =>
        rw [q] at k
        obtain ⟨v, q1, q2⟩ := rf.look' q
        exact ⟨_, h1, a, _, dx, fs, v, rfl, by rw [← hK]; exact ha, hc, hn, q1, k H B fp (.refl _) er v q2⟩
    · exact k.elim
/-! ### a body that never comes through -/
abbrev NoNx (f : E → RS) : Prop := ∀ ρ ρ', f ρ ≠ .nx ρ'
theorem nn_seq {f g : E → RS} (h : NoNx g) : NoNx (fSeq f g) := fun ρ ρ' e => by
  unfold fSeq RS.seq at e
  cases q : f ρ with
  | nx ρ1 => rw [q] at e; exact h _ _ e
  | _ => rw [q] at e; cases e
theorem nn_toS {α : Type} {r : R α} {k : α → E → RS} (h : ∀ d ρ ρ', k d ρ ≠ .nx ρ') : ∀ ρ', r.toS k ≠ .nx ρ' := fun ρ' e => by
  cases r with
  | ok d ρ => exact h d ρ ρ' e
  | ex e1 ρ => cases e
  | no => cases e
theorem nn_ret {f : FE} : NoNx (fRet f) := fun ρ ρ' => nn_toS (fun d ρ ρ' e => by cases e) ρ'
theorem nn_retO {i : Nat} : NoNx (fRetO i) := fun ρ ρ' e => by
  unfold fRetO at e
  split at e <;> cases e
theorem nn_no : NoNx (fun _ => .no) := fun ρ ρ' e => by cases e
theorem nn_if {t : FT} {a b : E → RS} (ha : NoNx a) (hb : NoNx b) : NoNx (fIfS t a b) := fun ρ ρ' => nn_toS (fun d ρ ρ' e => by
  split at e
  · exact ha _ _ e
  · exact hb _ _ e) ρ'
end
end L3

namespace L3
open PySem PySem.Spec PyProof.Rows L2
section
variable {X : Cx} {c : Cst} {O : Oo} {W : WX} {a b : Expr} {fa : FE} {pos : Pos} {A : Addr} {tb : List (Str × D)}
theorem tT_F {f : FE} {σ : L2.St} {H : Hp} {Q : Bool → Hp → Prop} (h : tT c O W (ftB f) σ H Q) : tF c O W f σ H fun v H1 => ∃ k, v = .bl k ∧ Q k H1 := by
  obtain ⟨B, fp, ρ, er, k⟩ := h
  refine ⟨B, fp, ρ, er, ?_⟩
  have k' : RG c O W σ B ((f ρ).bind fun x ρ1 => lift (toB x) ρ1) (fun d _ H' _ _ => Q d H') := k
  refine (RG.bind k').mp fun x ρ1 H1 B1 fp1 s1 e1 k1 v rv => ?_
  obtain ⟨d, hd, k3⟩ := RG.lift k1
  exact ⟨d, toB_rep rv hd, k3 H1 B1 fp1 (.refl _) e1⟩
theorem t_inT (T : KTab X.K X.w A tb) (ha : PE X a (tF c O W fa)) (hb : PE X b (tC (.ref A))) (hm : behindInMarks .In b = false := by rfl) (hK : c.K = X.K := by rfl) : PT X (.Compare a [.In] [b] pos) (tT c O W (ftB (f1 (dInT tb) fa))) := by
  obtain ⟨es, cnt, D, _⟩ := T.ex
  refine PT.imp (pt_cmpR (op_in_kd D) ha hb hm) fun _ _ _ h => inT_core (fun z Q H k _ => ?_) (fun x d q => by cases x <;> simp [dInT] at q; exact ⟨_, rfl⟩) (tT_F h)
  rcases T.ns z with ⟨q1, q2⟩ | ⟨u, d, v, q1, q2, _⟩
  · exact ⟨z, none, rfl, rfl, q1, k _ (by simp [dInT]; rfl) _ fun B => by simp only [q2]; exact .bl _⟩
  · exact ⟨z, some u, rfl, rfl, q1, k _ (by simp [dInT]; rfl) _ fun B => by simp only [q2]; exact .bl _⟩
theorem t_notInT (T : KTab X.K X.w A tb) (ha : PE X a (tF c O W fa)) (hb : PE X b (tC (.ref A))) (hm : behindInMarks .NotIn b = false := by rfl) (hK : c.K = X.K := by rfl) : PT X (.Compare a [.NotIn] [b] pos) (tT c O W (ftB (f1 (dNotInT tb) fa))) := by
  obtain ⟨es, cnt, D, _⟩ := T.ex
  refine PT.imp (pt_cmpR (op_notIn_kd D) ha hb hm) fun _ _ _ h => inT_core (fun z Q H k _ => ?_) (fun x d q => by cases x <;> simp [dNotInT] at q; exact ⟨_, rfl⟩) (tT_F h)
  rcases T.ns z with ⟨q1, q2⟩ | ⟨u, d, v, q1, q2, _⟩
  · exact ⟨z, none, rfl, rfl, q1, k _ (by simp [dNotInT]; rfl) _ fun B => by simp only [q2]; exact .bl _⟩
  · exact ⟨z, some u, rfl, rfl, q1, k _ (by simp [dNotInT]; rfl) _ fun B => by simp only [q2]; exact .bl _⟩
end
/-! ### keyword arguments behind positional ones -/
def gKw (j m : Nat) (ds es : List D) : Option (List D) := if ds.length = j ∧ es.length = m then some (ds ++ es) else none
theorem gKw_ok {K : PySem.W.Frag} {j m n : Nat} (hn : n = j + m) : ∀ B vs zs ds es fs, RepL K B vs ds → RepL K B zs es → gKw j m ds es = some fs → vs.length = j ∧ zs.length = m ∧ fs.length = n ∧ RepL K B (vs ++ zs) fs := fun B vs zs ds es fs r1 r2 h => by
  unfold gKw at h
  split at h
  · rename_i q
    cases h
    exact ⟨by rw [r1.length]; exact q.1, by rw [r2.length]; exact q.2, by rw [List.length_append, q.1, q.2, hn], r1.append r2⟩
  · cases h
def kwPut {α : Type} : List α → List α → List α
  | a :: us, ws => a :: (us ++ ws)
  | [], _ => []
theorem kwPut_vals {xs ys : List V} {us ws : List Value} (r1 : Vals xs us) (r2 : Vals ys ws) : Vals (kwPut xs ys) (kwPut us ws) := by
  cases r1 with
  | nil => exact .nil
  | cons h t => exact .cons h (L2.Vals.append t r2)
theorem kbn_put {K : PySem.W.Frag} {fd : FuncData} {ps ks : List Str} {n : Nat} (h : KBn K fd ps n ks (fun us ws => kwPut us ws) (fun vs zs => kwPut vs zs)) :
    KBn K fd ps n ks (fun us ws => match us with | a :: us => a :: (us ++ ws) | [] => []) (fun us ws => match us with | a :: us => a :: (us ++ ws) | [] => []) := by
  refine ⟨fun s us ws X l1 l2 => ?_, fun {vs us zs ws} r1 r2 => ?_⟩
  · have q := h.to s us ws X l1 l2
    cases us <;> exact q
  · have q := h.rel r1 r2
    cases r1 <;> exact q
/-! short words for slots -/
abbrev uu : Option OT := none
abbrev zz : Option OT := some .fz
abbrev ll : Option OT := some (.ow .fz)
abbrev mm : Option OT := some (.ow (.ow .fz))
abbrev ii : Option OT := some .oi
theorem r4 {K : PySem.W.Frag} {g : D → D → Option D} : ∀ x y H Q, rD K g x y H Q → rD K g x y H Q := fun _ _ _ _ h => h
theorem r3 {K : PySem.W.Frag} {g : D → Option D} : ∀ x H Q, rD1 K g x H Q → rD1 K g x H Q := fun _ _ _ h => h
theorem rl {K : PySem.W.Frag} {g : List D → Option D} : ∀ x H Q, rDL K g x H Q → rDL K g x H Q := fun _ _ _ h => h
theorem rm {K : PySem.W.Frag} {g : List D → List D → Option (D × List D)} : ∀ x vs H Q, rMu K g x vs H Q → rMu K g x vs H Q := fun _ _ _ _ h => h
theorem isB (z : D) (o : Option D) (d : D) (h : o.map (fun b => b) = some d) : o = some d := by simpa using h
theorem dIn_atom : ∀ x y d, dIn x y = some d → atom d = true := fun x y d h => by
  unfold dIn at h
  simp only [Option.map_eq_some_iff] at h
  obtain ⟨b, _, rfl⟩ := h; rfl
theorem dNotIn_atom : ∀ x y d, dNotIn x y = some d → atom d = true := fun x y d h => by
  unfold dNotIn at h
  simp only [Option.map_eq_some_iff] at h
  obtain ⟨b, _, rfl⟩ := h; rfl
theorem dEq_atom : ∀ x y d, dEq x y = some d → atom d = true := fun x y d h => by
  unfold dEq at h
  simp only [Option.map_eq_some_iff] at h
  obtain ⟨b, _, rfl⟩ := h; rfl
theorem dNe_atom : ∀ x y d, dNe x y = some d → atom d = true := fun x y d h => by
  unfold dNe at h
  simp only [Option.map_eq_some_iff] at h
  obtain ⟨b, _, rfl⟩ := h; rfl
end L3

namespace L3
open PySem PySem.Spec PyProof.Rows L2
/-! ### the end -/
theorem sp_law {K : PySem.W.Frag} {m : FM} {ns : List Int} {H : Hp} {a : Addr} {ρ : E} (h : m [.lsk (ns.map D.int)] = .ok (.bl true) ρ) (hS : SqL K H a (ns.map V.int)) : spF K [.fz] .fz m [.ref a] H (fun v _ => v = .bl true) (fun _ _ _ => False) := by
  have rl : ∀ ns : List Int, RepL K H (ns.map V.int) (ns.map D.int) := fun ns => by
    induction ns with
    | nil => exact .nil
    | cons n r ih => exact .cons (.int n) ih
  refine ⟨fun _ => none, H, fun _ => [], [.lsk (ns.map D.int)], rfl, ?_, ?_⟩
  · refine ⟨.refl _, fun b u e => (nomatch e), .refl _, fun b _ => rfl, rfl, fun i ot h => ?_, fun i _ => rfl, fun i a h => (nomatch h), fun i => List.nodup_nil, fun i j a h => (nomatch h), fun i h => (nomatch h)⟩
    match i, h with
    | 0, h =>
      cases h
      exact ⟨_, _, rfl, rfl, .lsk hS (rl ns), rfl⟩
    | i + 1, h => cases h
  · rw [h]
    intro v H' B' fp' g s e r F
    obtain ⟨r, _⟩ := r
    cases r
    rfl
/-- walk_ofE, what a def lets out told by the world -/
theorem walk_W {l : PySem.W.OpenLaw} {n k : Nat} {q : Program} {loose : List Str} {XP : (Str → Option Value) → Heap → Prop} {YP : World → Heap → Prop} {d : DefRec} {CX : World → CXT} {x : Str}
    (hn : l.most = some n) (hn2 : n ≤ sizeLine) (hdf : d.params.defaults = []) (hr : Room k callerA)
    (F : ∀ (w : World) (mg : Str → Option Value) (fa : Addr) (h : Heap), YP w h → h.Ns mainGlobals mg → mg d.name = some (.ref fa) →
      ∃ (K : PySem.W.Frag) (fd : FuncData) (sp : Sp), K.In h ∧ (∀ (s : Shared) (u : Value), BindsTo s fd ⟨[u], []⟩ [(x, u)]) ∧
        (∀ (H : Hp) (a : Addr) (ns : List Int), ns.length ≤ n → Only H → SqL K H a (ns.map V.int) → sp [.ref a] H (fun v _ => v = .bl true) fun _ _ _ => False) ∧
        ∀ base : Heap, K.In base → base.Ns mainGlobals mg → FnOk l.prog w K mg base (CX w) k fa fd [x] sp)
    (hCX : ∀ (w : World) (H : Hp) (s : Shared) (e : Value) (s' : Shared), CX w [] H s (fun _ _ _ => False) e s' → False) :
    PySem.W.WalkO q loose XP YP l.row.toRowW d [] (fun f vs => PySem.call f vs) := by
  refine Att.attach_call hn hdf fun w s₀ s₁ mg mb fa o pm cd doc a vs ns G Y ho hd hcd hmg hobj hints hlen hg => ?_
  obtain ⟨K, fd, sp, KX, hb, hsp, hF⟩ := F w mg fa _ Y G.T.g hmg
  exact law_call KX G.T.g G.T.b G.T.builtins G.T.nolimit hg hobj hints (Nat.le_trans hlen hn2) hr hF hb (fun H hO hS => hsp H a ns hlen hO hS) fun H e s' => hCX w H s₁ e s'
theorem cx_no {P : Program} {w : World} {H : Hp} {s : Shared} {e : Value} {s' : Shared} (h : L2.CX P w [] H s (fun _ _ _ => False) e s') : False := by
  obtain ⟨_, _, _, _, _, _, _, _, _, _, _, _, h⟩ := h
  exact h
/-! ### the Hook: K with the statics -/
def frY (n : Nat) (g : Addr → Option Obj) : PySem.W.Frag := He.frT g (cStatics :: He.asD g n)
def obsY (n : Nat) (fa : List He.Fa) (fn : List He.DefD) (ts : List He.Tab) (ex : PySem.W.Frag → Bool) (g : Addr → Option Obj) : He.AlX := (He.obsT fa fn ts (frY n g), ex (frY n g))
theorem saysY_of {n : Nat} {fa : List He.Fa} {fn : List He.DefD} {ts : List He.Tab} {ex : PySem.W.Frag → Bool} {w : World} {h : Heap} (e : obsY n fa fn ts ex h.get? = He.valX fn ts w) : He.SaysX fa fn ts [] ex w h (frY n h.get?) :=
  ⟨congrArg (fun z : He.AlX => z.1) e, congrArg (fun z : He.AlX => z.2) e, fun p hp => (nomatch hp), fun p hp => (nomatch hp), fun p hp => (nomatch hp)⟩
def hookY (n : Nat) (fa : List He.Fa) (fn : List He.DefD) (ts : List He.Tab) (ex : PySem.W.Frag → Bool) : PySem.W.Hook where
  α := He.AlX
  obs := fun s => obsY n fa fn ts ex s.heap.get?
  val := fun w => He.valX fn ts w
  says := fun w h => ∃ K : PySem.W.Frag, K.In h ∧ He.SaysX fa fn ts [] ex w h K
  of := fun _ _ e => ⟨_, He.frT_in, saysY_of e⟩
  keeps := fun _ _ _ ⟨K, hK, c⟩ k => ⟨K, PySem.W.Frag.In.keeps hK k, ⟨c.t, c.more, c.hd, c.out, fun p hp => k _ _ (c.empty p hp)⟩⟩
theorem obsY_eq {n : Nat} {fa : List He.Fa} {fn : List He.DefD} {ts : List He.Tab} {ex : PySem.W.Frag → Bool} {g : Addr → Option Obj} {s : Shared} (h : ∀ a, g a = s.heap.get? a) : obsY n fa fn ts ex g = (hookY n fa fn ts ex).obs s := by
  have e : g = s.heap.get? := funext h
  rw [e] <;> rfl
end L3

namespace L3
open PySem PySem.Spec PyProof.Rows L2
/-! ### mathematics of the mirrors -/
theorem forF_ix {set : FG} {body : E → RS} {I : Nat → E → Prop} : ∀ (ds : List D) (n : Nat) (ρ : E), (∀ i d, ds[i]? = some d → ∀ ρ, I (n + i) ρ → ∃ ρ1, set d ρ = some ρ1 ∧ ∃ ρ2, (body ρ1 = .nx ρ2 ∨ body ρ1 = .ct ρ2) ∧ I (n + i + 1) ρ2) → I n ρ → ∃ ρ', forF set body ds ρ = .nx ρ' ∧ I (n + ds.length) ρ'
  | [], n, ρ, _, h0 => ⟨ρ, rfl, h0⟩
  | d :: r, n, ρ, h, h0 => by
    obtain ⟨ρ1, h1, ρ2, h2, h3⟩ := h 0 d rfl ρ h0
    obtain ⟨ρ', h4, h5⟩ := forF_ix (set := set) (body := body) (I := I) r (n + 1) ρ2 (fun i d hd ρ hi => by
      have := h (i + 1) d (by simpa using hd) ρ (by rw [show n + (i + 1) = n + 1 + i by omega]; exact hi)
      rw [show n + (i + 1) + 1 = n + 1 + i + 1 by omega] at this; exact this) h3
    refine ⟨ρ', ?_, by simp only [List.length_cons]; rw [show n + (r.length + 1) = n + 1 + r.length by omega]; exact h5⟩
    unfold forF
    rw [h1]
    rcases h2 with h2 | h2 <;> simp only [h2] <;> exact h4
/-- one invariant -/
theorem forF_inv {set : FG} {body : E → RS} {I : E → Prop} (ds : List D) (ρ : E) (h : ∀ d ∈ ds, ∀ ρ, I ρ → ∃ ρ1, set d ρ = some ρ1 ∧ ∃ ρ2, (body ρ1 = .nx ρ2 ∨ body ρ1 = .ct ρ2) ∧ I ρ2) (h0 : I ρ) : ∃ ρ', forF set body ds ρ = .nx ρ' ∧ I ρ' :=
  forF_ix (I := fun _ => I) ds 0 ρ (fun i d hd ρ hi => h d (List.mem_of_getElem? hd) ρ hi) h0
theorem rngD_at {lo : Int} {n i : Nat} {d : D} (h : (rngD lo n)[i]? = some d) : i < n ∧ d = .int (lo + (i : Nat)) := by
  unfold rngD at h
  rw [List.getElem?_map] at h
  cases q : (List.range n)[i]? with
  | none => rw [q] at h; cases h
  | some j =>
    rw [q] at h
    have hi : i < n := by have := (List.getElem?_eq_some_iff.mp q).1; simpa using this
    rw [List.getElem?_range hi] at q
    cases q; cases h
    exact ⟨hi, rfl⟩
def intsD (ns : List Int) : List D := ns.map D.int
theorem ixN_natI {n j : Nat} (hj : j < n) : ixN n (j : Int) = some j := by
  unfold ixN
  rw [if_pos (by omega), if_pos (by omega)]
  simp
theorem dIx_nat (ds : List D) (i : Nat) : dIx (.lst ds) (.int (i : Nat)) = ds[i]? := by
  simp only [dIx, atI]
  by_cases h : i < ds.length
  · rw [ixN_natI h]; rfl
  · unfold ixN
    rw [if_pos (by omega), if_neg (by omega), List.getElem?_eq_none (by omega)]; rfl
theorem dIx_lsk (ds : List D) (i : Nat) : dIx (.lsk ds) (.int (i : Nat)) = ds[i]? := dIx_nat ds i
theorem dIx_tup (ds : List D) (i : Nat) : dIx (.tup ds) (.int (i : Nat)) = ds[i]? := dIx_nat ds i
end L3

namespace L3
open PySem PySem.Spec PyProof.Rows L2
/-! ### evaluation of the mirrors, step by step -/
section
variable {α β : Type} {ρ ρ1 ρ2 ρ3 : E} {d x y z w : D} {a b : FE} {fa fr : FA} {t u : FT} {f g : E → RS} {r r1 : RS} {i j : Nat} {ds xs : List D} {bb cc : Bool}
def At (ρ : E) (i : Nat) (d : D) : Prop := ρ[i]? = some (some d)
theorem at_mk (h : ρ[i]? = some (some d)) : At ρ i d := h
def Fl (ai : List (Option Nat)) (ds : List D) (ρ : E) (es : List D) : Prop := L3.fill ai ds ρ = some es
theorem fl_mk {ai : List (Option Nat)} {es : List D} (h : L3.fill ai ds ρ = some es) : Fl ai ds ρ es := h
/-- a slot set -/
def St (ρ : E) (i : Nat) (x : Option D) (ρ' : E) : Prop := ρ.set i x = ρ'
theorem st_z {o x : Option D} : St (o :: ρ) 0 x (x :: ρ) := rfl
theorem st_s {o x : Option D} {ρ' : E} (h : St ρ i x ρ') : St (o :: ρ) (i + 1) x (o :: ρ') := by
  unfold St at h ⊢
  rw [List.set_cons_succ, h]
theorem fl_n : Fl [] ds ρ [] := rfl
theorem fl_d {ai : List (Option Nat)} {es : List D} (h : Fl ai ds ρ es) : Fl (none :: ai) (d :: ds) ρ (d :: es) := by
  unfold Fl at h ⊢
  show (L3.fill ai ds ρ).map (d :: ·) = _
  rw [h]; rfl
theorem fl_o {ai : List (Option Nat)} {es : List D} (h1 : At ρ i d) (h : Fl ai ds ρ es) : Fl (some i :: ai) (x :: ds) ρ (d :: es) := by
  unfold At at h1
  unfold Fl at h ⊢
  show (match ρ[i]? with | some (some d) => (L3.fill ai ds ρ).map (d :: ·) | _ => none) = _
  rw [h1, h]; rfl
/-- what a call hands back -/
def Uf (ai : List (Option Nat)) (ρo ρ ρ' : E) : Prop := L3.unfill ai ρo ρ = ρ'
theorem uf_n {ρo : E} : Uf [] ρo ρ ρ := rfl
theorem uf_d {ai : List (Option Nat)} {ρo ρ' : E} {o : Option D} (h : Uf ai ρo ρ ρ') : Uf (none :: ai) (o :: ρo) ρ ρ' := h
theorem uf_o {ai : List (Option Nat)} {ρo ρ' ρ'' : E} {o : Option D} (h : Uf ai ρo ρ ρ') (h2 : St ρ' i o ρ'') : Uf (some i :: ai) (o :: ρo) ρ ρ'' := by
  unfold Uf at h ⊢
  unfold St at h2
  show (L3.unfill ai ρo ρ).set i o = _
  rw [h, h2]
/-- a def's mirror answers -/
def Ca (m : FM) (es : List D) (d : D) (ρo : E) : Prop := m es = .ok d ρo
theorem ca_mk {m : FM} {es : List D} {ρo : E} (h : m es = .ok d ρo) : Ca m es d ρo := h
theorem v_var (h : At ρ i d) : fVar i ρ = .ok d ρ := by unfold fVar; unfold At at h; rw [h]
theorem v_c : fC d ρ = .ok d ρ := rfl
theorem v_f1 {op : D → Option D} (h1 : a ρ = .ok x ρ1) (h2 : op x = some z) : f1 op a ρ = .ok z ρ1 := by unfold f1; rw [h1]; show lift (op x) ρ1 = _; rw [h2]; rfl
theorem v_f2 {op : D → D → Option D} (h1 : a ρ = .ok x ρ1) (h2 : b ρ1 = .ok y ρ2) (h3 : op x y = some z) : f2 op a b ρ = .ok z ρ2 := by
  unfold f2; rw [h1]; show (b ρ1).bind _ = _; rw [h2]; show lift (op x y) ρ2 = _; rw [h3]; rfl
theorem v_fL {op : List D → Option D} (h1 : fa ρ = .ok xs ρ1) (h2 : op xs = some z) : fL op fa ρ = .ok z ρ1 := by unfold fL; rw [h1]; show lift (op xs) ρ1 = _; rw [h2]; rfl
theorem v_aN : faN ρ = .ok [] ρ := rfl
theorem v_aC (h1 : a ρ = .ok x ρ1) (h2 : fr ρ1 = .ok xs ρ2) : faC a fr ρ = .ok (x :: xs) ρ2 := by unfold faC; rw [h1]; show (fr ρ1).bind _ = _; rw [h2]; rfl
theorem v_ite_t {γ : Type} {p q s : γ} (h : p = s) : (if true = true then p else q) = s := by rw [if_pos rfl]; exact h
theorem v_ite_f {γ : Type} {p q s : γ} (h : q = s) : (if false = true then p else q) = s := by rw [if_neg (fun z => nomatch z)]; exact h
theorem v_if {R0 : R D} (h1 : t ρ = .ok bb ρ1) (h2 : (if bb = true then a ρ1 else b ρ1) = R0) : fIf t a b ρ = R0 := by unfold fIf; rw [h1]; exact h2
theorem v_and {R0 : R D} (h1 : a ρ = .ok (.bl bb) ρ1) (h2 : (if bb = true then b ρ1 else .ok (.bl false) ρ1) = R0) : fAnd a b ρ = R0 := by
  unfold fAnd; rw [h1]
  cases bb
  · rw [if_neg (fun z => nomatch z)] at h2; exact h2
  · rw [if_pos rfl] at h2; exact h2
theorem v_or {R0 : R D} (h1 : a ρ = .ok (.bl bb) ρ1) (h2 : (if bb = true then .ok (.bl true) ρ1 else b ρ1) = R0) : fOr a b ρ = R0 := by
  unfold fOr; rw [h1]
  cases bb
  · rw [if_neg (fun z => nomatch z)] at h2; exact h2
  · rw [if_pos rfl] at h2; exact h2
theorem t_B (h : a ρ = .ok (.bl bb) ρ1) : ftB a ρ = .ok bb ρ1 := by unfold ftB; rw [h]; rfl
theorem t_V (h : a ρ = .ok d ρ1) (h2 : truth d = some bb) : ftV a ρ = .ok bb ρ1 := by unfold ftV; rw [h]; show lift (truth d) ρ1 = _; rw [h2]; rfl
theorem t_N (h : t ρ = .ok bb ρ1) (h2 : (!bb) = cc) : ftNot t ρ = .ok cc ρ1 := by unfold ftNot; rw [h, ← h2]; rfl
theorem t_A {R0 : R Bool} (h1 : t ρ = .ok bb ρ1) (h2 : (if bb = true then u ρ1 else .ok false ρ1) = R0) : ftAnd t u ρ = R0 := by unfold ftAnd; rw [h1]; exact h2
theorem t_O {R0 : R Bool} (h1 : t ρ = .ok bb ρ1) (h2 : (if bb = true then .ok true ρ1 else u ρ1) = R0) : ftOr t u ρ = R0 := by unfold ftOr; rw [h1]; exact h2
theorem z_ok {γ : Type} {q : γ} : (R.ok q ρ) = R.ok q ρ := rfl
theorem tr_bl : truth (.bl bb) = some bb := rfl
theorem bn_t : (!true) = false := rfl
theorem bn_f : (!false) = true := rfl
theorem v_call {m : FM} {ai : List (Option Nat)} {es : List D} {ρo : E} (h1 : fa ρ = .ok ds ρ1) (h2 : Fl ai ds ρ1 es) (h3 : Ca m es d ρo) (h4 : Uf ai ρo ρ1 ρ2) : fCall m ai fa ρ = .ok d ρ2 := by
  unfold Ca at h3; unfold Uf at h4; subst h4
  unfold fCall; rw [h1]; show callM m ai ds ρ1 = _; unfold callM; unfold Fl at h2; rw [h2]; show (match m es with | .ok d ρo => _ | .ex e ρo => _ | .no => _) = _; rw [h3]
theorem v_mut {gm : List D → List D → Option (D × List D)} {es ds' : List D} (h1 : fa ρ = .ok es ρ1) (h2 : At ρ1 i (.lst ds)) (h3 : gm ds es = some (d, ds')) (h4 : St ρ1 i (some (.lst ds')) ρ2) : fMut i gm fa ρ = .ok d ρ2 := by
  unfold St at h4; subst h4
  unfold fMut; rw [h1]; show mutR i gm es ρ1 = _; unfold mutR; unfold At at h2; rw [h2]; show (match gm ds es with | some (d, ds') => R.ok d (ρ1.set i (some (.lst ds'))) | none => R.no) = _; rw [h3]
theorem v_ixO (h1 : b ρ = .ok y ρ1) (h2 : At ρ1 i (.lst ds)) (h3 : dIx (.lst ds) y = some z) : fIxO i b ρ = .ok z ρ1 := by
  unfold fIxO; rw [h1]; show lift ((peek i ρ1).bind fun d => dIx d y) ρ1 = _; unfold peek; unfold At at h2; rw [h2]; show lift (dIx (.lst ds) y) ρ1 = _; rw [h3]; rfl
theorem v_f1O {op : D → Option D} (h2 : At ρ i (.lst ds)) (h3 : op (.lst ds) = some z) : f1O op i ρ = .ok z ρ := by
  unfold f1O peek; unfold At at h2; rw [h2]; show lift (op (.lst ds)) ρ = _; rw [h3]; rfl
theorem v_f2O {op : D → D → Option D} (h1 : a ρ = .ok x ρ1) (h2 : At ρ1 i (.lst ds)) (h3 : op x (.lst ds) = some z) : f2O op a i ρ = .ok z ρ1 := by
  unfold f2O; rw [h1]; show lift ((peek i ρ1).bind fun d => op x d) ρ1 = _; unfold peek; unfold At at h2; rw [h2]; show lift (op x (.lst ds)) ρ1 = _; rw [h3]; rfl
theorem v_isiO {op : List D → Option D} (h1 : fa ρ = .ok xs ρ1) (h2 : At ρ1 i (.lst ds)) (h3 : op (.lst ds :: xs) = some z) : fIsiO op i fa ρ = .ok z ρ1 := by
  unfold fIsiO; rw [h1]; show lift ((peek i ρ1).bind fun d => op (d :: xs)) ρ1 = _; unfold peek; unfold At at h2; rw [h2]; show lift (op (.lst ds :: xs)) ρ1 = _; rw [h3]; rfl
/-- a small test that computes -/
def Bt (b : Bool) : Prop := b = true
theorem bt_mk {b : Bool} (h : b = true) : Bt b := h
theorem v_meth {C mn : Str} {m : FM} {ai : List (Option Nat)} {n : Str} {gs : List (Str × D)} {es : List D} {ρo : E} (h1 : a ρ = .ok (.ins n gs) ρ1) (h2 : Bt (decide (n = C) && (gs.lookup mn).isNone)) (h3 : fa ρ1 = .ok ds ρ2) (h4 : Fl (none :: ai) (.ins n gs :: ds) ρ2 es) (h5 : Ca m es d ρo) (h6 : Uf (none :: ai) ρo ρ2 ρ3) :
    fMeth C mn m ai a fa ρ = .ok d ρ3 := by
  unfold Ca at h5; unfold Uf at h6; subst h6
  unfold Bt at h2
  rw [Bool.and_eq_true, decide_eq_true_eq] at h2
  unfold fMeth; rw [h1]; show (if n = C ∧ (gs.lookup mn).isNone = true then _ else _) = _; rw [if_pos h2, h3]; show callM m (none :: ai) (.ins n gs :: ds) ρ2 = _; unfold callM; unfold Fl at h4; rw [h4]; show (match m es with | .ok d ρo => _ | .ex e ρo => _ | .no => _) = _; rw [h5]
theorem v_callI {C : Str} {m : FM} {ai : List (Option Nat)} {n : Str} {gs : List (Str × D)} {es : List D} {ρo : E} (h1 : a ρ = .ok (.ins n gs) ρ1) (h2 : Bt (decide (n = C))) (h3 : fa ρ1 = .ok ds ρ2) (h4 : Fl (none :: ai) (.ins n gs :: ds) ρ2 es) (h5 : Ca m es d ρo) (h6 : Uf (none :: ai) ρo ρ2 ρ3) :
    fCallI C m ai a fa ρ = .ok d ρ3 := by
  unfold Ca at h5; unfold Uf at h6; subst h6
  unfold Bt at h2
  rw [decide_eq_true_eq] at h2
  unfold fCallI; rw [h1]; show (if n = C then _ else _) = _; rw [if_pos h2, h3]; show callM m (none :: ai) (.ins n gs :: ds) ρ2 = _; unfold callM; unfold Fl at h4; rw [h4]; show (match m es with | .ok d ρo => _ | .ex e ρo => _ | .no => _) = _; rw [h5]
theorem v_make {C : Str} {m : FM} {gd : List D → Option (List D)} {es : List D} {ρo : E} {ρr : E} (h1 : fa ρ = .ok ds ρ1) (h2 : gd ds = some es) (h3 : Ca m (.ins C [] :: es) .non (some d :: ρr)) : fMake C m gd fa ρ = .ok d ρ1 := by
  unfold Ca at h3
  unfold fMake; rw [h1]; show (match gd ds with | some es => fMakeM C m es ρ1 | none => .no) = _; rw [h2]; show fMakeM C m es ρ1 = _; unfold fMakeM; rw [h3]
theorem v_bm {ok : D → Bool} {gg : D → List D → Option D} (h1 : a ρ = .ok d ρ1) (h2 : Bt (ok d)) (h3 : fa ρ1 = .ok xs ρ2) (h4 : gg d xs = some z) : fBm ok gg a fa ρ = .ok z ρ2 := by
  unfold Bt at h2
  unfold fBm; rw [h1]; show (if ok d = true then _ else _) = _; rw [if_pos h2, h3]; show lift (gg d xs) ρ2 = _; rw [h4]; rfl
/-! statements -/
theorem z_seq (h1 : f ρ = r1) (h2 : r1.seq g = r) : fSeq f g ρ = r := by unfold fSeq; rw [h1]; exact h2
theorem z_assoc {h : E → RS} : fSeq (fSeq f g) h ρ = fSeq f (fSeq g h) ρ := by
  unfold fSeq
  cases f ρ <;> rfl
theorem z_nx (h : g ρ = r) : (RS.nx ρ).seq g = r := h
theorem z_rt : (RS.rt d ρ).seq g = .rt d ρ := rfl
theorem z_set (h : a ρ = .ok d ρ1) (h2 : St ρ1 i (some d) ρ2) : fSet i a ρ = .nx ρ2 := by unfold St at h2; subst h2; unfold fSet; rw [h]; rfl
theorem z_drop (h : a ρ = .ok d ρ1) : fDrop a ρ = .nx ρ1 := by unfold fDrop; rw [h]; rfl
theorem z_ret (h : a ρ = .ok d ρ1) : fRet a ρ = .rt d ρ1 := by unfold fRet; rw [h]; rfl
theorem z_retO (h : At ρ i d) : fRetO i ρ = .rt d ρ := by unfold fRetO; unfold At at h; rw [h]
theorem z_if (h1 : t ρ = .ok bb ρ1) (h2 : (if bb = true then f ρ1 else g ρ1) = r) : fIfS t f g ρ = r := by unfold fIfS; rw [h1]; exact h2
theorem z_n : RS.nx ρ = .nx ρ := rfl
def Lp (set : FG) (body : E → RS) (ds : List D) (ρ : E) (r : RS) : Prop := forF set body ds ρ = r
theorem lp_mk {set : FG} {body : E → RS} (h : forF set body ds ρ = r) : Lp set body ds ρ r := h
theorem z_for {it : FA} {set : FG} {body : E → RS} (h1 : it ρ = .ok ds ρ1) (h2 : Lp set body ds ρ1 r) : fFor it set body ρ = r := by unfold fFor; rw [h1]; exact h2
theorem z_asg {h : FG} (h1 : a ρ = .ok d ρ1) (h2 : h d ρ1 = some ρ2) : fAsg h a ρ = .nx ρ2 := by unfold fAsg; rw [h1]; show (match h d ρ1 with | some ρ2 => RS.nx ρ2 | none => RS.no) = _; rw [h2]
theorem z_par (h1 : fa ρ = .ok [x, y] ρ1) (h2 : St ρ1 i (some x) ρ2) (h3 : St ρ2 j (some y) ρ3) : fPar i j fa ρ = .nx ρ3 := by unfold St at h2 h3; subst h2; subst h3; unfold fPar; rw [h1]; rfl
theorem z_seti {fi fv : FE} {k : Int} {n : Nat} (h1 : fv ρ = .ok z ρ1) (h2 : fi ρ1 = .ok (.int k) ρ2) (h3 : At ρ2 i (.lst ds)) (h4 : ixN ds.length k = some n) (h5 : St ρ2 i (some (.lst (ds.set n z))) ρ3) : fSetI i fi fv ρ = .nx ρ3 := by
  unfold St at h5; subst h5
  unfold fSetI; rw [h1]; show (fi ρ1).toS _ = _; rw [h2]; show setR i (.int k) z ρ2 = _; unfold setR; unfold At at h3; rw [h3]; show (match ixN ds.length k with | some k => _ | none => _) = _; rw [h4]
theorem i_r1 {n : Int} (h : fa ρ = .ok [.int n] ρ1) (hw : inW n = true) : fiR1 fa ρ = .ok (rngD 0 n.toNat) ρ1 := by unfold fiR1; rw [h]; show (if inW n = true then _ else _) = _; rw [if_pos hw]
theorem i_r2 {m n : Int} (h : fa ρ = .ok [.int m, .int n] ρ1) (hw : (inW m && inW n) = true) : fiR2 fa ρ = .ok (rngD m (n - m).toNat) ρ1 := by unfold fiR2; rw [h]; show (if (inW m && inW n) = true then _ else _) = _; rw [if_pos hw]
theorem i_sl (h : a ρ = .ok (.lst ds) ρ1) : fiS a ρ = .ok ds ρ1 := by unfold fiS; rw [h]; rfl
theorem i_st (h : a ρ = .ok (.tup ds) ρ1) : fiS a ρ = .ok ds ρ1 := by unfold fiS; rw [h]; rfl
theorem i_sk (h : a ρ = .ok (.lsk ds) ρ1) : fiS a ρ = .ok ds ρ1 := by unfold fiS; rw [h]; rfl
theorem i_el (h : fa ρ = .ok [.lst ds] ρ1) : fiEnumS fa ρ = .ok (enumD 0 ds) ρ1 := by unfold fiEnumS; rw [h]; rfl
theorem i_et (h : fa ρ = .ok [.tup ds] ρ1) : fiEnumS fa ρ = .ok (enumD 0 ds) ρ1 := by unfold fiEnumS; rw [h]; rfl
theorem fg_name (h : St ρ i (some d) ρ1) : hName i d ρ = some ρ1 := by unfold St at h; subst h; rfl
theorem fg_nil : hNil [] ρ = some ρ := rfl
theorem fg_cons {h : FG} {hr : List D → E → Option E} (h1 : h d ρ = some ρ1) (h2 : hr ds ρ1 = some ρ2) : hCons h hr (d :: ds) ρ = some ρ2 := by
  show (h d ρ).bind (fun ρ1 => hr ds ρ1) = _
  rw [h1]; exact h2
theorem fg_tup {n : Nat} {hr : List D → E → Option E} (hn : ds.length = n) (h : hr ds ρ = some ρ1) : hTup n hr (.tup ds) ρ = some ρ1 := by
  show (if ds.length = n then hr ds ρ else none) = _
  rw [if_pos hn]; exact h
/-- comprehensions: each item adds one -/
theorem compF_inv {set : FG} {tt : FT} {elt : FE} {vs : List Nat} {I : E → Prop} {Pd : D → Prop} : ∀ (ds : List D) (ρ : E) (acc : List D), (∀ d ∈ ds, ∀ ρ, I ρ → ∃ ρ1 ρ2 y ρ3, set d ρ = some ρ1 ∧ tt ρ1 = .ok true ρ2 ∧ elt ρ2 = .ok y ρ3 ∧ Pd y ∧ I (wipeE ρ3 vs)) → I ρ → acc.length + ds.length ≤ sizeLine →
    ∃ ys ρ', compF set tt elt vs ds ρ acc = .ok (acc ++ ys) ρ' ∧ ys.length = ds.length ∧ (∀ y ∈ ys, Pd y) ∧ I ρ'
  | [], ρ, acc, _, h0, _ => ⟨[], ρ, by simp [compF], rfl, fun y hy => (nomatch hy), h0⟩
  | d :: r, ρ, acc, h, h0, hl => by
    obtain ⟨ρ1, ρ2, y, ρ3, h1, h2, h3, h4, h5⟩ := h d List.mem_cons_self ρ h0
    obtain ⟨ys, ρ', g1, g2, g3, g4⟩ := compF_inv (set := set) (tt := tt) (elt := elt) (vs := vs) (I := I) (Pd := Pd) r (wipeE ρ3 vs) (acc ++ [y]) (fun d hd => h d (List.mem_cons_of_mem _ hd)) h5 (by simp only [List.length_append, List.length_cons, List.length_nil] at hl ⊢; omega)
    refine ⟨y :: ys, ρ', ?_, by simp [g2], fun z hz => ?_, g4⟩
    · simp only [compF, h1, h2, h3, L3.R.bind, if_true]
      rw [if_pos (by simp only [List.length_cons] at hl; omega), g1]
      simp
    · rcases List.mem_cons.mp hz with rfl | hz
      · exact h4
      · exact g3 z hz
theorem v_lc {it : FA} {set : FG} {tt : FT} {vs : List Nat} {ys : List D} (h1 : it ρ = .ok ds ρ1) (h2 : compF set tt a vs ds (wipeE ρ1 vs) [] = .ok ys ρ2) (h3 : restE ρ1 ρ2 vs = ρ3) : fLc it set tt a vs ρ = .ok (.lst ys) ρ3 := by
  unfold fLc; rw [h1]; show (compF set tt a vs ds (wipeE ρ1 vs) []).nox.bind _ = _; rw [h2]; subst h3; rfl
/-- a def's mirror by its body's -/
theorem m_rt {pt : List OT} {n : Nat} {fb : E → RS} (h : fb (ds.map some ++ List.replicate n none) = .rt d ρ) : defM pt n fb ds = .ok d (maskE pt ρ) := by unfold defM; rw [h]
theorem m_nx {pt : List OT} {n : Nat} {fb : E → RS} (h : fb (ds.map some ++ List.replicate n none) = .nx ρ) : defM pt n fb ds = .ok .non (maskE pt ρ) := by unfold defM; rw [h]
end
/-! operators -/
section
variable {i j : Int} {x y : Str} {ds : List D}
theorem smallI_of (h : -18446744073709551616 < i ∧ i < 18446744073709551616) : smallI i = true := by
  unfold smallI
  rw [Bool.and_eq_true, decide_eq_true_eq, decide_eq_true_eq]
  constructor <;> omega
theorem inW_of' (h : -4611686018427387904 ≤ i ∧ i < 4611686018427387904) : inW i = true := by
  unfold inW
  rw [Bool.and_eq_true, decide_eq_true_eq, decide_eq_true_eq]
  constructor <;> omega
theorem o_add : dAdd (.int i) (.int j) = some (.int (i + j)) := rfl
theorem o_sub : dSub (.int i) (.int j) = some (.int (i - j)) := rfl
theorem o_mul1 (h : -18446744073709551616 < i ∧ i < 18446744073709551616) : dMul (.int i) (.int j) = some (.int (i * j)) := by show (if (smallI i || smallI j) = true then some (D.int (i * j)) else none) = _; rw [smallI_of h]; rfl
theorem o_mul2 (h : -18446744073709551616 < j ∧ j < 18446744073709551616) : dMul (.int i) (.int j) = some (.int (i * j)) := by show (if (smallI i || smallI j) = true then some (D.int (i * j)) else none) = _; rw [smallI_of h, Bool.or_true]; rfl
theorem o_mod (h : 0 < j) : dMod (.int i) (.int j) = some (.int (i % j)) := by simp only [dMod, if_pos h]
theorem o_fdiv (h : 0 < j ∧ j < 1073741824) : dFdiv (.int i) (.int j) = some (.int (i / j)) := by simp only [dFdiv, if_pos h]
theorem o_lt_t (h : i < j) : dLt (.int i) (.int j) = some (.bl true) := by simp [dLt, cmpI, h]
theorem o_lt_f (h : ¬ i < j) : dLt (.int i) (.int j) = some (.bl false) := by simp [dLt, cmpI, h]
theorem o_le_t (h : i ≤ j) : dLe (.int i) (.int j) = some (.bl true) := by simp [dLe, cmpI, h]
theorem o_le_f (h : ¬ i ≤ j) : dLe (.int i) (.int j) = some (.bl false) := by simp [dLe, cmpI, h]
theorem o_gt_t (h : j < i) : dGt (.int i) (.int j) = some (.bl true) := by simp [dGt, cmpI, h]
theorem o_gt_f (h : ¬ j < i) : dGt (.int i) (.int j) = some (.bl false) := by simp [dGt, cmpI, h]
theorem o_ge_t (h : j ≤ i) : dGe (.int i) (.int j) = some (.bl true) := by simp [dGe, cmpI, h]
theorem o_ge_f (h : ¬ j ≤ i) : dGe (.int i) (.int j) = some (.bl false) := by simp [dGe, cmpI, h]
theorem o_eq_t (h : i = j) : dEq (.int i) (.int j) = some (.bl true) := by simp [dEq, eqB, h]
theorem o_eq_f (h : i ≠ j) : dEq (.int i) (.int j) = some (.bl false) := by simp [dEq, eqB, h]
theorem o_ne_f (h : i = j) : dNe (.int i) (.int j) = some (.bl false) := by simp [dNe, eqB, h]
theorem o_ne_t (h : i ≠ j) : dNe (.int i) (.int j) = some (.bl true) := by simp [dNe, eqB, h]
theorem o_eqs_t (h : x = y) : dEq (.str x) (.str y) = some (.bl true) := by simp [dEq, eqB, h]
theorem o_eqs_f (h : x ≠ y) : dEq (.str x) (.str y) = some (.bl false) := by simp [dEq, eqB, h]
theorem o_nes_f (h : x = y) : dNe (.str x) (.str y) = some (.bl false) := by simp [dNe, eqB, h]
theorem o_nes_t (h : x ≠ y) : dNe (.str x) (.str y) = some (.bl true) := by simp [dNe, eqB, h]
theorem o_lenl : dLen [.lst ds] = some (.int ds.length) := rfl
theorem o_lenk : dLen [.lsk ds] = some (.int ds.length) := rfl
theorem o_lent : dLen [.tup ds] = some (.int ds.length) := rfl
theorem o_int : dInt [.int i] = some (.int i) := rfl
theorem o_tup (h : ds.length ≤ sizeLine) : dLim D.tup ds = some (.tup ds) := by unfold dLim; rw [if_pos h]
theorem o_lst (h : ds.length ≤ sizeLine) : dLim D.lst ds = some (.lst ds) := by unfold dLim; rw [if_pos h]
theorem o_tuple_l : dTuple [.lst ds] = some (.tup ds) := rfl
theorem o_tuple_t : dTuple [.tup ds] = some (.tup ds) := rfl
theorem o_list_t : dList [.tup ds] = some (.lst ds) := rfl
theorem o_list_l : dList [.lst ds] = some (.lst ds) := rfl
theorem o_append {d : D} (h : ds.length < sizeLine) : gAppend ds [d] = some (.non, ds ++ [d]) := by simp only [gAppend, if_pos h]
theorem o_reverse : gReverse ds [] = some (.non, ds.reverse) := rfl
theorem o_clear : gClear ds [] = some (.non, []) := rfl
theorem o_ixl {n : Nat} : dIx (.lst ds) (.int (n : Nat)) = ds[n]? := dIx_nat ds n
theorem o_ix0 {d : D} : dIx (.tup (d :: ds)) (.int 0) = some d := by
  show (ixN (ds.length + 1) 0).bind (fun j => (d :: ds)[j]?) = _
  unfold ixN
  rw [if_pos (by decide), if_pos (by omega)]; rfl
theorem o_ix1 {d e : D} : dIx (.tup (d :: e :: ds)) (.int 1) = some e := by
  show (ixN (ds.length + 1 + 1) 1).bind (fun j => (d :: e :: ds)[j]?) = _
  unfold ixN
  rw [if_pos (by decide), if_pos (by omega)]; rfl
theorem o_lx0 {d : D} : dIx (.lst (d :: ds)) (.int 0) = some d := by
  show (ixN (ds.length + 1) 0).bind (fun j => (d :: ds)[j]?) = _
  unfold ixN
  rw [if_pos (by decide), if_pos (by omega)]; rfl
theorem o_fld {C f : Str} {gs : List (Str × D)} {d : D} (h : gs.lookup f = some d) : dFld C f (.ins C gs) = some d := by
  show (if C = C then gs.lookup f else none) = _
  rw [if_pos rfl, h]
theorem o_isn : dIsNot (.non) (.non) = some (.bl false) := rfl
theorem o_isnI : dIsNot (.int i) (.non) = some (.bl true) := rfl
theorem o_neg : dNeg (.int i) = some (.int (-i)) := rfl
end
theorem le_size {n : Nat} (h : n ≤ 1000000) : n ≤ sizeLine := Nat.le_trans h (by decide)
theorem lt_size {n : Nat} (h : n ≤ 1000000) : n < sizeLine := Nat.lt_of_le_of_lt h (by decide)
end L3

namespace L3
open PySem PySem.Spec PyProof.Rows L2
/-- a comprehension's answer, as one step -/
def Lc (it : FA) (set : FG) (tt : FT) (elt : FE) (vs : List Nat) (ρ : E) (d : D) (ρ1 : E) : Prop := fLc it set tt elt vs ρ = .ok d ρ1
theorem lc_tag {it : FA} {set : FG} {tt : FT} {elt : FE} {vs : List Nat} {ρ ρ1 : E} {d : D} (h : Lc it set tt elt vs ρ d ρ1) : fLc it set tt elt vs ρ = .ok d ρ1 := h
theorem lc_mk {it : FA} {set : FG} {tt : FT} {elt : FE} {vs : List Nat} {ρ ρ1 : E} {d : D} (h : fLc it set tt elt vs ρ = .ok d ρ1) : Lc it set tt elt vs ρ d ρ1 := h
/-! ### equal data -/
/-- plain data of at most so many levels (texts that lay) -/
inductive Lay : Nat → D → Prop
  | non {n : Nat} : Lay n .non
  | bl {n : Nat} {b : Bool} : Lay n (.bl b)
  | int {n : Nat} {i : Int} : Lay n (.int i)
  | str {n : Nat} {x : Str} : (PyData.str x).canLay0 = true → Lay n (.str x)
  | lst {n : Nat} {ds : List D} : (∀ d ∈ ds, Lay n d) → Lay (n + 1) (.lst ds)
  | tup {n : Nat} {ds : List D} : (∀ d ∈ ds, Lay n d) → Lay (n + 1) (.tup ds)
theorem lay_py : ∀ {n : Nat} {d : D}, Lay n d → ∃ a, toPy d = some a ∧ a.canLay0 = true ∧ a.depth ≤ n := by
  intro n d h
  have many : ∀ {n : Nat} {ds : List D}, (∀ d ∈ ds, ∃ a, toPy d = some a ∧ a.canLay0 = true ∧ a.depth ≤ n) → ∃ as, toPyL ds = some as ∧ PyData.canLayAll0 as = true ∧ PyData.depthAll as ≤ n := by
    intro n ds
    induction ds with
    | nil => intro _; exact ⟨[], rfl, rfl, by simp [PyData.depthAll]⟩
    | cons d r ih =>
      intro h
      obtain ⟨a, h1, h2, h3⟩ := h d List.mem_cons_self
      obtain ⟨as, g1, g2, g3⟩ := ih fun x hx => h x (List.mem_cons_of_mem _ hx)
      exact ⟨a :: as, by simp [toPyL, h1, g1], by simp [PyData.canLayAll0, h2, g2], by simp only [PyData.depthAll]; omega⟩
  induction h with
  | non => exact ⟨.none, rfl, rfl, Nat.zero_le _⟩
  | bl => exact ⟨.bool _, rfl, rfl, Nat.zero_le _⟩
  | int => exact ⟨.int _, rfl, rfl, Nat.zero_le _⟩
  | str h => exact ⟨.str _, rfl, h, Nat.zero_le _⟩
  | lst h ih =>
    obtain ⟨as, h1, h2, h3⟩ := many ih
    exact ⟨.list as, by simp [toPy, h1], h2, by simp only [PyData.depth]; omega⟩
  | tup h ih =>
    obtain ⟨as, h1, h2, h3⟩ := many ih
    exact ⟨.tuple as, by simp [toPy, h1], h2, by simp only [PyData.depth]; omega⟩
theorem eqB_self {n : Nat} {d : D} (h : Lay n d) (hn : n ≤ 64) : eqB d d = some true := by
  obtain ⟨a, h1, h2, h3⟩ := lay_py h
  have hs : SeqAt.shaped a = true := by
    unfold SeqAt.shaped
    rw [h2, Bool.true_and, decide_eq_true_eq]; omega
  have key : (toPy d).bind (fun a => (toPy d).bind fun b => if SeqAt.shaped a = true ∧ SeqAt.shaped b = true then some (PyData.eqv a b) else none) = some true := by
    rw [h1]
    show (if SeqAt.shaped a = true ∧ SeqAt.shaped a = true then some (PyData.eqv a a) else none) = _
    rw [if_pos ⟨hs, hs⟩, SeqAt.eqv_refl a h2]
  cases h with
  | non => rfl
  | bl => simp [eqB]
  | int => simp [eqB]
  | str _ => simp [eqB]
  | lst _ => exact key
  | tup _ => exact key
theorem dEq_self {n : Nat} {d : D} (h : Lay n d) (hn : n ≤ 64) : dEq d d = some (.bl true) := by unfold dEq; rw [eqB_self h hn]; rfl
theorem dNe_self {n : Nat} {d : D} (h : Lay n d) (hn : n ≤ 64) : dNe d d = some (.bl false) := by unfold dNe; rw [eqB_self h hn]; rfl
theorem Lay.up {n m : Nat} {d : D} (h : Lay n d) (hm : n ≤ m) : Lay m d := by
  induction h generalizing m with
  | non => exact .non
  | bl => exact .bl
  | int => exact .int
  | str h => exact .str h
  | lst h ih =>
    obtain ⟨k, rfl⟩ : ∃ k, m = k + 1 := ⟨m - 1, by omega⟩
    exact .lst fun d hd => ih d hd (by omega)
  | tup h ih =>
    obtain ⟨k, rfl⟩ : ∃ k, m = k + 1 := ⟨m - 1, by omega⟩
    exact .tup fun d hd => ih d hd (by omega)
end L3

/-! printed by gen.py: the walk of law_k09_told_readers_part -/
namespace Law
open PySem PySem.Spec PyProof.Rows L2 L3
def top (i : Nat) : Stmt := PySem.Challenge.pw_writtenbehind_k09_told_readers_part.main.body.getD i (.Pass ⟨0, 0, 0, 0⟩)
def tab_LINES_OF : List (Str × D) := [("P", .int 1), ("B", .int 1), ("X", .int 1), ("H", .int 0), ("TB", .int 2), ("T1", .int 2), ("T2", .int 2), ("TX", .int 2), ("-", .int 0)]
def itc : List Str := ["Reader"]
def itb : ITb := [((.inr "Reader"), (.inl "bool"), false), ((.inr "Reader"), (.inl "int"), false), ((.inr "Reader"), (.inl "list"), false), ((.inr "Reader"), (.inl "str"), false), ((.inr "Reader"), (.inl "tuple"), false), (.inl "NoneType", (.inr "Reader"), false), (.inl "bool", (.inr "Reader"), false), (.inl "int", (.inr "Reader"), false), (.inl "str", (.inr "Reader"), false), (.inl "list", (.inr "Reader"), false), (.inl "tuple", (.inr "Reader"), false)]
/-! _law_draws: 0 script, 1 draws, 2 at, 3 cell, 4 k, 5 number -/
abbrev st__law_draws : Stmt := (top 38)
theorem sc__law_draws : FnScope ["script", "draws", "at", "cell", "k", "number"] ["script"] (defScope st__law_draws) := ⟨rfl, rfl, rfl, by decide +kernel, rfl, by decide +kernel, by decide +kernel⟩
def lp__law_draws_2 : E → RS := fIfS (ftB (f2 dGt (fVar 3) (fC (.int 0)))) (fSeq (fDrop (fMut 1 gAppend (faC (f2 dMod (fL dInt (faC (fVar 3) (faN))) (fC (.int 30))) (faN)))) (fSet 3 (f2 dFdiv (fVar 3) (fC (.int 30))))) (RS.nx)
def lp__law_draws_3 : E → RS := fSeq (fSet 5 (f2 dMod (fL dInt (faC (f2 dAdd (f2 dAdd (f2 dAdd (f2 dMul (fVar 5) (fVar 5)) (f2 dMul (fVar 4) (fC (.int 60013)))) (fVar 2)) (fC (.int 3))) (faN))) (fC (.int 2147483579)))) (fDrop (fMut 1 gAppend (faC (f2 dFdiv (fVar 5) (fC (.int 7))) (faN))))
def lp__law_draws_1 : E → RS := fSeq (fSet 3 (fL dInt (faC (f2 dIx (fVar 0) (fVar 2)) (faN)))) (fSeq (fIfS (ftB (f2 dLt (fVar 3) (fC (.int 0)))) (fSet 3 (f2 dSub (fC (.int 1)) (fVar 3))) (RS.nx)) (fIfS (ftB (f2 dGe (fVar 3) (f2 dPow (fC (.int 10)) (fC (.int 18))))) (fFor (fiR1 (faC (fC (.int 50)) (faN))) (hName 4) lp__law_draws_2) (fSeq (fSet 5 (f2 dMod (fL dInt (faC (f2 dAdd (f2 dAdd (f2 dMul (fL dInt (faC (fVar 3) (faN))) (fC (.int 52361))) (f2 dMul (fVar 2) (fC (.int 71993)))) (fC (.int 5))) (faN))) (fC (.int 2147483647)))) (fFor (fiR1 (faC (fC (.int 7)) (faN))) (hName 4) lp__law_draws_3))))
def bd__law_draws : E → RS := fSeq (fSet 1 (fL (dLim D.lst) (faN))) (fSeq (fFor (fiR1 (faC (fL dMin (faC (fL dLen (faC (fVar 0) (faN))) (faC (fC (.int 63)) (faN)))) (faN))) (hName 2) lp__law_draws_1) (fSeq (fDrop (fMut 1 gReverse faN)) (fRetO 1)))
def m__law_draws : FM := defM [.fz] 5 bd__law_draws
/-! _law_tables: 0 table, 1 every, 2 both, 3 begun, 4 ways, 5 act, 6 k -/
abbrev st__law_tables : Stmt := (top 43)
theorem sc__law_tables : FnScope ["table", "every", "both", "begun", "ways", "act", "k"] [] (defScope st__law_tables) := ⟨rfl, rfl, rfl, by decide +kernel, rfl, by decide +kernel, by decide +kernel⟩
def bd__law_tables : E → RS := fSeq (fSet 0 (fL (dLim D.lst) (faC (fC (.str "first")) (faC (fC (.str "keep")) (faC (fC (.str "drop")) (faC (fC (.str "drop")) (faC (fC (.str "keep")) (faC (fC (.str "first")) (faC (fC (.str "last")) (faC (fC (.str "drop")) (faN))))))))))) (fSeq (fSet 1 (fL (dLim D.lst) (faC (fC (.str "first")) (faC (fC (.str "first")) (faC (fC (.str "first")) (faC (fC (.str "keep")) (faC (fC (.str "last")) (faC (fC (.str "last")) (faC (fC (.str "last")) (faC (fC (.str "last")) (faN))))))))))) (fSeq (fSet 2 (fL (dLim D.lst) (faC (fC (.str "first")) (faC (fC (.str "first")) (faC (fC (.str "keep")) (faC (fC (.str "keep")) (faC (fC (.str "last")) (faC (fC (.str "first")) (faC (fC (.str "last")) (faC (fC (.str "keep")) (faN))))))))))) (fSeq (fSet 3 (fL (dLim D.lst) (faC (fC (.str "first")) (faC (fC (.str "first")) (faC (fC (.str "drop")) (faC (fC (.str "drop")) (faC (fC (.str "last")) (faC (fC (.str "first")) (faC (fC (.str "last")) (faC (fC (.str "drop")) (faN))))))))))) (fSeq (fSet 4 (fL (dLim D.lst) (faC (fC (.int 1)) (faC (fC (.int 1)) (faC (fC (.int 0)) (faC (fC (.int 0)) (faC (fC (.int 1)) (faC (fC (.int 1)) (faC (fC (.int 1)) (faC (fC (.int 0)) (faN))))))))))) (fRet (fL (dLim D.lst) (faC (fL (dLim D.lst) (faC (fLc (fiS (fVar 0)) (hName 5) (ftYes) (fL (dLim D.tup) (faC (fVar 5) (faC (fC (.int 0)) (faN)))) [5]) (faN))) (faC (fL (dLim D.lst) (faC (fLc (fiS (fVar 1)) (hName 5) (ftYes) (fL (dLim D.tup) (faC (fVar 5) (faC (fC (.int 0)) (faN)))) [5]) (faN))) (faC (fL (dLim D.lst) (faC (fLc (fiS (fVar 2)) (hName 5) (ftYes) (fL (dLim D.tup) (faC (fVar 5) (faC (fC (.int 0)) (faN)))) [5]) (faN))) (faC (fL (dLim D.lst) (faC (f2 dAdd (fL (dLim D.lst) (faC (fL (dLim D.tup) (faC (fC (.str "first")) (faC (fC (.int 0)) (faN)))) (faN))) (fLc (fiR1 (faC (fC (.int 7)) (faN))) (hName 6) (ftYes) (fL (dLim D.tup) (faC (fC (.str "drop")) (faC (fC (.int 1)) (faN)))) [6])) (faC (fLc (fiR1 (faC (fC (.int 8)) (faN))) (hName 6) (ftYes) (fL (dLim D.tup) (faC (fC (.str "drop")) (faC (fC (.int 1)) (faN)))) [6]) (faN)))) (faC (fL (dLim D.lst) (faC (fLc (fiR1 (faC (fC (.int 8)) (faN))) (hName 6) (ftYes) (fL (dLim D.tup) (faC (f2 dIx (fVar 3) (fVar 6)) (faC (f2 dIx (fVar 4) (fVar 6)) (faN)))) [6]) (faC (fLc (fiS (fVar 0)) (hName 5) (ftYes) (fL (dLim D.tup) (faC (fVar 5) (faC (fC (.int 1)) (faN)))) [5]) (faN)))) (faN))))))))))))
def m__law_tables : FM := defM [] 7 bd__law_tables
/-! rows_in: 0 rows, 1 what, 2 width, 3 told, 4 row -/
abbrev st_rows_in : Stmt := (top 8)
theorem sc_rows_in : FnScope ["rows", "what", "width", "told", "row"] ["rows", "what", "width"] (defScope st_rows_in) := ⟨rfl, rfl, rfl, by decide +kernel, rfl, by decide +kernel, by decide +kernel⟩
def lp_rows_in_1 : E → RS := fSeq (fIfS (ftOr (ftNot (ftV (fL (dIsiC itc itb) (faC (fVar 4) (faC (fL (dLim D.tup) (faC (fC (.ty "list")) (faC (fC (.ty "tuple")) (faN)))) (faN)))))) (ftB (f2 dNe (fL dLen (faC (fVar 4) (faN))) (fVar 2)))) ((fun _ => .no)) (RS.nx)) (fDrop (fMut 3 gAppend (faC (fL dTuple (faC (fVar 4) (faN))) (faN))))
def bd_rows_in : E → RS := fSeq (fIfS (ftNot (ftV (fL (dIsiC itc itb) (faC (fVar 0) (faC (fL (dLim D.tup) (faC (fC (.ty "list")) (faC (fC (.ty "tuple")) (faN)))) (faN)))))) ((fun _ => .no)) (RS.nx)) (fSeq (fSet 3 (fL (dLim D.lst) (faN))) (fSeq (fFor (fiS (fVar 0)) (hName 4) lp_rows_in_1) (fRet (fVar 3))))
def m_rows_in : FM := defM [.fz, .fz, .fz] 2 bd_rows_in
/-! is_int: 0 value -/
abbrev st_is_int : Stmt := (top 6)
theorem sc_is_int : FnScope ["value"] ["value"] (defScope st_is_int) := ⟨rfl, rfl, rfl, by decide +kernel, rfl, by decide +kernel, by decide +kernel⟩
def bd_is_int : E → RS := fRet (fAnd (fL (dIsiC itc itb) (faC (fVar 0) (faC (fC (.ty "int")) (faN)))) (f1 dNot (fL (dIsiC itc itb) (faC (fVar 0) (faC (fC (.ty "bool")) (faN))))))
def m_is_int : FM := defM [.fz] 0 bd_is_int
/-! check_int: 0 value, 1 what, 2 least, 3 most -/
abbrev st_check_int : Stmt := (top 7)
theorem sc_check_int : FnScope ["value", "what", "least", "most"] ["value", "what", "least", "most"] (defScope st_check_int) := ⟨rfl, rfl, rfl, by decide +kernel, rfl, by decide +kernel, by decide +kernel⟩
def bd_check_int : E → RS := fSeq (fIfS (ftNot (ftV (fCall m_is_int [none] (faC (fVar 0) (faN))))) ((fun _ => .no)) (RS.nx)) (fSeq (fIfS (ftAnd (ftB (f2 dIsNot (fVar 2) (fC .non))) (ftB (f2 dLt (fVar 0) (fVar 2)))) ((fun _ => .no)) (RS.nx)) (fSeq (fIfS (ftAnd (ftB (f2 dIsNot (fVar 3) (fC .non))) (ftB (f2 dGt (fVar 0) (fVar 3)))) ((fun _ => .no)) (RS.nx)) (fRet (fVar 0))))
def m_check_int : FM := defM [.fz, .fz, .fz, .fz] 0 bd_check_int
/-! _readers_states: 0 states, 1 told, 2 entries, 3 pairs, 4 i, 5 act, 6 to -/
abbrev st__readers_states : Stmt := (top 19)
theorem sc__readers_states : FnScope ["states", "told", "entries", "pairs", "i", "act", "to"] ["states"] (defScope st__readers_states) := ⟨rfl, rfl, rfl, by decide +kernel, rfl, by decide +kernel, by decide +kernel⟩
def lp__readers_states_2 : E → RS := fSeq (fIfS (ftOr (ftNot (ftV (fL (dIsiC itc itb) (faC (fVar 5) (faC (fC (.ty "str")) (faN)))))) (ftB (f2 dNotIn (fVar 5) (fL (dLim D.tup) (faC (fC (.str "keep")) (faC (fC (.str "first")) (faC (fC (.str "last")) (faC (fC (.str "drop")) (faN))))))))) ((fun _ => .no)) (RS.nx)) (fSeq (fIfS (ftAnd (ftB (f2 dIn (fVar 5) (fC (.tup [.str "first", .str "last"])))) (ftB (f2 dEq (f2 dIx (fC (.tup [.str "P", .str "B", .str "X", .str "H", .str "TB", .str "T1", .str "T2", .str "TX"])) (fVar 4)) (fC (.str "H"))))) ((fun _ => .no)) (RS.nx)) (fDrop (fCall m_check_int [none, none, none, none] (faC (fVar 6) (faC (fC (.str "states")) (faC (fC (.int 0)) (faC (f2 dSub (fL dLen (faC (fVar 0) (faN))) (fC (.int 1))) (faN))))))))
def lp__readers_states_1 : E → RS := fSeq (fSet 3 (fCall m_rows_in [none, none, none] (faC (fVar 2) (faC (fC (.str "states")) (faC (fC (.int 2)) (faN)))))) (fSeq (fIfS (ftB (f2 dNe (fL dLen (faC (fVar 3) (faN))) (fL dLen (faC (fC (.tup [.str "P", .str "B", .str "X", .str "H", .str "TB", .str "T1", .str "T2", .str "TX"])) (faN))))) ((fun _ => .no)) (RS.nx)) (fSeq (fFor (fiEnumS (faC (fVar 3) (faN))) (hTup 2 (hCons (hName 4) (hCons (hTup 2 (hCons (hName 5) (hCons (hName 6) (hNil)))) (hNil)))) lp__readers_states_2) (fDrop (fMut 1 gAppend (faC (fL dTuple (faC (fVar 3) (faN))) (faN))))))
def bd__readers_states : E → RS := fSeq (fIfS (ftOr (ftNot (ftV (fL (dIsiC itc itb) (faC (fVar 0) (faC (fL (dLim D.tup) (faC (fC (.ty "list")) (faC (fC (.ty "tuple")) (faN)))) (faN)))))) (ftNot (ftB (fChain dLe dLe (fC (.int 1)) (fL dLen (faC (fVar 0) (faN))) (fC (.int 12)))))) ((fun _ => .no)) (RS.nx)) (fSeq (fSet 1 (fL (dLim D.lst) (faN))) (fSeq (fFor (fiS (fVar 0)) (hName 2) lp__readers_states_1) (fRet (fL dTuple (faC (fVar 1) (faN))))))
def m__readers_states : FM := defM [.fz] 6 bd__readers_states
/-! _readers_fair: 0 states, 1 told -/
abbrev st__readers_fair : Stmt := (top 20)
theorem sc__readers_fair : FnScope ["states", "told"] ["states"] (defScope st__readers_fair) := ⟨rfl, rfl, rfl, by decide +kernel, rfl, by decide +kernel, by decide +kernel⟩
def lp__readers_fair_1 : E → RS := fDrop (fMut 1 gAppend (faC (f2 dIx (f2 dIx (f2 dIx (fVar 0) (fIxO 1 (f1 dNeg (fC (.int 1))))) (fC (.int 0))) (fC (.int 1))) (faN)))
def bd__readers_fair : E → RS := fSeq (fSet 1 (fL (dLim D.lst) (faC (fC (.int 0)) (faN)))) (fSeq (whileF (ftB (f2O dNotIn (f2 dIx (f2 dIx (f2 dIx (fVar 0) (fIxO 1 (f1 dNeg (fC (.int 1))))) (fC (.int 0))) (fC (.int 1))) 1)) lp__readers_fair_1 100000) (fRet (fVar 1)))
def m__readers_fair : FM := defM [.fz] 1 bd__readers_fair
/-! _readers_takes: 0 states, 1 state -/
abbrev st__readers_takes : Stmt := (top 21)
theorem sc__readers_takes : FnScope ["states", "state"] ["states"] (defScope st__readers_takes) := ⟨rfl, rfl, rfl, by decide +kernel, rfl, by decide +kernel, by decide +kernel⟩
def lp__readers_takes_1 : E → RS := fIfS (ftB (f2 dNotIn (f2 dIx (f2 dIx (f2 dIx (fVar 0) (fVar 1)) (fC (.int 0))) (fC (.int 0))) (fC (.tup [.str "first", .str "last"])))) (fRet (fC (.bl false))) (RS.nx)
def bd__readers_takes : E → RS := fSeq (fFor (fiS (fCall m__readers_fair [none] (faC (fVar 0) (faN)))) (hName 1) lp__readers_takes_1) (fRet (fC (.bl true)))
def m__readers_takes : FM := defM [.fz] 1 bd__readers_takes
/-! Reader.__init__: 0 self, 1 states, 2 name -/
abbrev st_Reader_init : Stmt := (inClass (top 23) 2)
theorem sc_Reader_init : FnScope ["self", "states", "name"] ["self", "states", "name"] (defScope st_Reader_init) := ⟨rfl, rfl, rfl, by decide +kernel, rfl, by decide +kernel, by decide +kernel⟩
def bd_Reader_init : E → RS := fSeq (fFldS 0 "Reader" "states" (fCall m__readers_states [none] (faC (fVar 1) (faN)))) (fSeq (fIfS (ftNot (ftV (fCall m__readers_takes [none] (faC (fFldO 0 "Reader" "states") (faN))))) ((fun _ => .no)) (RS.nx)) (fSeq (fIfS (ftNot (ftV (fL (dIsiC itc itb) (faC (fVar 2) (faC (fC (.ty "str")) (faN)))))) ((fun _ => .no)) (RS.nx)) (fFldS 0 "Reader" "name" (fVar 2))))
def m_Reader_init : FM := defM [.oi, .fz, .fz] 0 bd_Reader_init
/-! _toldreaders_entries: 0 acts, 1 state, 2 act -/
abbrev st__toldreaders_entries : Stmt := (top 29)
theorem sc__toldreaders_entries : FnScope ["acts", "state", "act"] ["acts", "state"] (defScope st__toldreaders_entries) := ⟨rfl, rfl, rfl, by decide +kernel, rfl, by decide +kernel, by decide +kernel⟩
def bd__toldreaders_entries : E → RS := fRet (fLc (fiS (fVar 0)) (hName 2) (ftYes) (fL (dLim D.tup) (faC (fVar 2) (faC (fVar 1) (faN)))) [2])
def m__toldreaders_entries : FM := defM [.fz, .fz] 1 bd__toldreaders_entries
/-! by_table:  -/
abbrev st_by_table : Stmt := (top 30)
theorem sc_by_table : FnScope [] [] (defScope st_by_table) := ⟨rfl, rfl, rfl, by decide +kernel, rfl, by decide +kernel, by decide +kernel⟩
def bd_by_table : E → RS := fRet (fMakeK "Reader" m_Reader_init (gKw 1 1) (faC (fL (dLim D.lst) (faC (fCall m__toldreaders_entries [none, none] (faC (fC (.tup [.str "first", .str "keep", .str "drop", .str "drop", .str "keep", .str "first", .str "last", .str "drop"])) (faC (fC (.int 0)) (faN)))) (faN))) (faN)) (faC (fC (.str "by table")) (faN)))
def m_by_table : FM := defM [] 0 bd_by_table
/-! through:  -/
abbrev st_through : Stmt := (top 31)
theorem sc_through : FnScope [] [] (defScope st_through) := ⟨rfl, rfl, rfl, by decide +kernel, rfl, by decide +kernel, by decide +kernel⟩
def bd_through : E → RS := fRet (fMakeK "Reader" m_Reader_init (gKw 1 1) (faC (fL (dLim D.lst) (faC (fCall m__toldreaders_entries [none, none] (faC (fC (.tup [.str "first", .str "first", .str "first", .str "keep", .str "last", .str "last", .str "last", .str "last"])) (faC (fC (.int 0)) (faN)))) (faN))) (faN)) (faC (fC (.str "through")) (faN)))
def m_through : FM := defM [] 0 bd_through
/-! both_ways:  -/
abbrev st_both_ways : Stmt := (top 32)
theorem sc_both_ways : FnScope [] [] (defScope st_both_ways) := ⟨rfl, rfl, rfl, by decide +kernel, rfl, by decide +kernel, by decide +kernel⟩
def bd_both_ways : E → RS := fRet (fMakeK "Reader" m_Reader_init (gKw 1 1) (faC (fL (dLim D.lst) (faC (fCall m__toldreaders_entries [none, none] (faC (fC (.tup [.str "first", .str "first", .str "keep", .str "keep", .str "last", .str "first", .str "last", .str "keep"])) (faC (fC (.int 0)) (faN)))) (faN))) (faN)) (faC (fC (.str "both ways")) (faN)))
def m_both_ways : FM := defM [] 0 bd_both_ways
/-! careful: 0 row, 1 place -/
abbrev st_careful : Stmt := (top 33)
theorem sc_careful : FnScope ["row", "place"] [] (defScope st_careful) := ⟨rfl, rfl, rfl, by decide +kernel, rfl, by decide +kernel, by decide +kernel⟩
def bd_careful : E → RS := fSeq (fSet 0 (f2 dAdd (fL (dLim D.lst) (faC (fL (dLim D.tup) (faC (fC (.str "first")) (faC (fC (.int 0)) (faN)))) (faN))) (fLc (fiR1 (faC (fC (.int 7)) (faN))) (hName 1) (ftYes) (fL (dLim D.tup) (faC (fC (.str "drop")) (faC (fC (.int 1)) (faN)))) [1]))) (fRet (fMakeK "Reader" m_Reader_init (gKw 1 1) (faC (fL (dLim D.lst) (faC (fVar 0) (faC (fLc (fiR1 (faC (fC (.int 8)) (faN))) (hName 1) (ftYes) (fL (dLim D.tup) (faC (fC (.str "drop")) (faC (fC (.int 1)) (faN)))) [1]) (faN)))) (faN)) (faC (fC (.str "careful")) (faN))))
def m_careful : FM := defM [] 2 bd_careful
/-! adopting: 0 row -/
abbrev st_adopting : Stmt := (top 34)
theorem sc_adopting : FnScope ["row"] [] (defScope st_adopting) := ⟨rfl, rfl, rfl, by decide +kernel, rfl, by decide +kernel, by decide +kernel⟩
def bd_adopting : E → RS := fSeq (fSet 0 (fL (dLim D.lst) (faC (fL (dLim D.tup) (faC (fC (.str "first")) (faC (fC (.int 1)) (faN)))) (faC (fL (dLim D.tup) (faC (fC (.str "first")) (faC (fC (.int 1)) (faN)))) (faC (fL (dLim D.tup) (faC (fC (.str "drop")) (faC (fC (.int 0)) (faN)))) (faC (fL (dLim D.tup) (faC (fC (.str "drop")) (faC (fC (.int 0)) (faN)))) (faN))))))) (fSeq (fDrop (fMut 0 gExtend (faC (fL (dLim D.lst) (faC (fL (dLim D.tup) (faC (fC (.str "last")) (faC (fC (.int 1)) (faN)))) (faC (fL (dLim D.tup) (faC (fC (.str "first")) (faC (fC (.int 1)) (faN)))) (faC (fL (dLim D.tup) (faC (fC (.str "last")) (faC (fC (.int 1)) (faN)))) (faC (fL (dLim D.tup) (faC (fC (.str "drop")) (faC (fC (.int 0)) (faN)))) (faN)))))) (faN)))) (fRet (fMakeK "Reader" m_Reader_init (gKw 1 1) (faC (fL (dLim D.lst) (faC (fVar 0) (faC (fCall m__toldreaders_entries [none, none] (faC (fC (.tup [.str "first", .str "keep", .str "drop", .str "drop", .str "keep", .str "first", .str "last", .str "drop"])) (faC (fC (.int 1)) (faN)))) (faN)))) (faN)) (faC (fC (.str "adopting")) (faN)))))
def m_adopting : FM := defM [] 1 bd_adopting
/-! told_readers:  -/
abbrev st_told_readers : Stmt := (top 35)
theorem sc_told_readers : FnScope [] [] (defScope st_told_readers) := ⟨rfl, rfl, rfl, by decide +kernel, rfl, by decide +kernel, by decide +kernel⟩
def bd_told_readers : E → RS := fRet (fL (dLim D.lst) (faC (fCall m_by_table [] (faN)) (faC (fCall m_through [] (faN)) (faC (fCall m_both_ways [] (faN)) (faC (fCall m_careful [] (faN)) (faC (fCall m_adopting [] (faN)) (faN)))))))
def m_told_readers : FM := defM [] 0 bd_told_readers
/-! check_letter: 0 letter, 1 what -/
abbrev st_check_letter : Stmt := (top 12)
theorem sc_check_letter : FnScope ["letter", "what"] ["letter", "what"] (defScope st_check_letter) := ⟨rfl, rfl, rfl, by decide +kernel, rfl, by decide +kernel, by decide +kernel⟩
def bd_check_letter : E → RS := fSeq (fIfS (ftOr (ftNot (ftV (fL (dIsiC itc itb) (faC (fVar 0) (faC (fC (.ty "str")) (faN)))))) (ftB (f1 (dNotInT tab_LINES_OF) (fVar 0)))) ((fun _ => .no)) (RS.nx)) (fRet (fVar 0))
def m_check_letter : FM := defM [.fz, .fz] 0 bd_check_letter
/-! Reader.entry: 0 self, 1 state, 2 letter -/
abbrev st_Reader_entry : Stmt := (inClass (top 23) 7)
theorem sc_Reader_entry : FnScope ["self", "state", "letter"] ["self", "state", "letter"] (defScope st_Reader_entry) := ⟨rfl, rfl, rfl, by decide +kernel, rfl, by decide +kernel, by decide +kernel⟩
def bd_Reader_entry : E → RS := fSeq (fDrop (fCall m_check_int [none, none, none, none] (faC (fVar 1) (faC (fC (.str "state")) (faC (fC (.int 0)) (faC (f2 dSub (fL dLen (faC (f1 (dFld "Reader" "states") (fVar 0)) (faN))) (fC (.int 1))) (faN))))))) (fSeq (fDrop (fCall m_check_letter [none, none] (faC (fVar 2) (faC (fC (.str "letter")) (faN))))) (fSeq (fIfS (ftB (f2 dEq (fVar 2) (fC (.str "-")))) (fRet (fL (dLim D.tup) (faC (fC (.str "keep")) (faC (fVar 1) (faN))))) (RS.nx)) (fRet (f2 dIx (f2 dIx (f1 (dFld "Reader" "states") (fVar 0)) (fVar 1)) (f1 (gIndexK ["P", "B", "X", "H", "TB", "T1", "T2", "TX"]) (fVar 2))))))
def m_Reader_entry : FM := defM [.fz, .fz, .fz] 0 bd_Reader_entry
/-! _law_letters:  -/
abbrev st__law_letters : Stmt := (top 41)
theorem sc__law_letters : FnScope [] [] (defScope st__law_letters) := ⟨rfl, rfl, rfl, by decide +kernel, rfl, by decide +kernel, by decide +kernel⟩
def bd__law_letters : E → RS := fRet (fL (dLim D.lst) (faC (fC (.str "P")) (faC (fC (.str "B")) (faC (fC (.str "X")) (faC (fC (.str "H")) (faC (fC (.str "TB")) (faC (fC (.str "T1")) (faC (fC (.str "T2")) (faC (fC (.str "TX")) (faN))))))))))
def m__law_letters : FM := defM [] 0 bd__law_letters
/-! Reader.__eq__: 0 self, 1 other -/
abbrev st_Reader_eq : Stmt := (inClass (top 23) 3)
theorem sc_Reader_eq : FnScope ["self", "other"] ["self", "other"] (defScope st_Reader_eq) := ⟨rfl, rfl, rfl, by decide +kernel, rfl, by decide +kernel, by decide +kernel⟩
def bd_Reader_eq : E → RS := fSeq (fIfS (ftNot (ftV (fL (dIsiC itc itb) (faC (fVar 1) (faC (fC (.fn "Reader")) (faN)))))) (fRet (fC (.bl false))) (RS.nx)) (fRet (f2 dEq (f1 (dFld "Reader" "states") (fVar 0)) (f1 (dFld "Reader" "states") (fVar 1))))
def m_Reader_eq : FM := defM [.fz, .fz] 0 bd_Reader_eq
/-! _law_reader_is: 0 reader, 1 states, 2 name, 3 at, 4 k -/
abbrev st__law_reader_is : Stmt := (top 47)
theorem sc__law_reader_is : FnScope ["reader", "states", "name", "at", "k"] ["reader", "states", "name"] (defScope st__law_reader_is) := ⟨rfl, rfl, rfl, by decide +kernel, rfl, by decide +kernel, by decide +kernel⟩
def lp__law_reader_is_2 : E → RS := fIfS (ftB (f2 dNe (fMeth "Reader" "entry" m_Reader_entry [none, none] (fVar 0) (faC (fVar 3) (faC (f2 dIx (fCall m__law_letters [] (faN)) (fVar 4)) (faN)))) (f2 dIx (f2 dIx (fVar 1) (fVar 3)) (fVar 4)))) (fRet (fC (.bl false))) (RS.nx)
def lp__law_reader_is_1 : E → RS := fFor (fiR1 (faC (fC (.int 8)) (faN))) (hName 4) lp__law_reader_is_2
def bd__law_reader_is : E → RS := fSeq (fIfS (ftOr (ftNot (ftV (fL (dIsiC itc itb) (faC (fVar 0) (faC (fC (.fn "Reader")) (faN)))))) (ftOr (ftB (f2 dNe (f1 (dFld "Reader" "name") (fVar 0)) (fVar 2))) (ftB (f2 dNe (fL dLen (faC (f1 (dFld "Reader" "states") (fVar 0)) (faN))) (fL dLen (faC (fVar 1) (faN))))))) (fRet (fC (.bl false))) (RS.nx)) (fSeq (fFor (fiR1 (faC (fL dLen (faC (fVar 1) (faN))) (faN))) (hName 3) lp__law_reader_is_1) (fRet (f2 (gEqI "Reader" m_Reader_eq) (fVar 0) (fMake "Reader" m_Reader_init (withD [.str ""] 2) (faC (fVar 1) (faN))))))
def m__law_reader_is : FM := defM [.fz, .fz, .fz] 2 bd__law_reader_is
/-! _law_names:  -/
abbrev st__law_names : Stmt := (top 44)
theorem sc__law_names : FnScope [] [] (defScope st__law_names) := ⟨rfl, rfl, rfl, by decide +kernel, rfl, by decide +kernel, by decide +kernel⟩
def bd__law_names : E → RS := fRet (fL (dLim D.lst) (faC (fC (.str "by table")) (faC (fC (.str "through")) (faC (fC (.str "both ways")) (faC (fC (.str "careful")) (faC (fC (.str "adopting")) (faN)))))))
def m__law_names : FM := defM [] 0 bd__law_names
/-! _law_parting:  -/
abbrev st__law_parting : Stmt := (top 45)
theorem sc__law_parting : FnScope [] [] (defScope st__law_parting) := ⟨rfl, rfl, rfl, by decide +kernel, rfl, by decide +kernel, by decide +kernel⟩
def bd__law_parting : E → RS := fRet (fL (dLim D.lst) (faC (fL (dLim D.tup) (faC (fC (.int 0)) (faC (fC (.int 3)) (faC (fL (dLim D.lst) (faC (fC (.str "T1")) (faN))) (faN))))) (faC (fL (dLim D.tup) (faC (fC (.int 0)) (faC (fC (.int 1)) (faC (fL (dLim D.lst) (faC (fC (.str "B")) (faN))) (faN))))) (faC (fL (dLim D.tup) (faC (fC (.int 0)) (faC (fC (.int 2)) (faC (fL (dLim D.lst) (faC (fC (.str "B")) (faN))) (faN))))) (faC (fL (dLim D.tup) (faC (fC (.int 0)) (faC (fC (.int 4)) (faC (fL (dLim D.lst) (faC (fC (.str "B")) (faN))) (faN))))) (faC (fL (dLim D.tup) (faC (fC (.int 1)) (faC (fC (.int 2)) (faC (fL (dLim D.lst) (faC (fC (.str "X")) (faN))) (faN))))) (faC (fL (dLim D.tup) (faC (fC (.int 1)) (faC (fC (.int 4)) (faC (fL (dLim D.lst) (faC (fC (.str "X")) (faN))) (faN))))) (faC (fL (dLim D.tup) (faC (fC (.int 3)) (faC (fC (.int 1)) (faC (fL (dLim D.lst) (faC (fC (.str "B")) (faN))) (faN))))) (faC (fL (dLim D.tup) (faC (fC (.int 3)) (faC (fC (.int 2)) (faC (fL (dLim D.lst) (faC (fC (.str "B")) (faN))) (faN))))) (faC (fL (dLim D.tup) (faC (fC (.int 3)) (faC (fC (.int 4)) (faC (fL (dLim D.lst) (faC (fC (.str "B")) (faN))) (faN))))) (faC (fL (dLim D.tup) (faC (fC (.int 2)) (faC (fC (.int 4)) (faC (fL (dLim D.lst) (faC (fC (.str "P")) (faC (fC (.str "B")) (faN)))) (faN))))) (faN))))))))))))
def m__law_parting : FM := defM [] 0 bd__law_parting
/-! _law_walk: 0 states, 1 row, 2 letters, 3 state, 4 held, 5 told, 6 i, 7 entry -/
abbrev st__law_walk : Stmt := (top 42)
theorem sc__law_walk : FnScope ["states", "row", "letters", "state", "held", "told", "i", "entry"] ["states", "row"] (defScope st__law_walk) := ⟨rfl, rfl, rfl, by decide +kernel, rfl, by decide +kernel, by decide +kernel⟩
def lp__law_walk_1 : E → RS := fSeq (fIfS (ftB (f2 dIn (f2 dIx (fVar 1) (fVar 6)) (fVar 2))) (fSeq (fSet 7 (f2 dIx (f2 dIx (fVar 0) (fVar 3)) (fBm isL gIndex (fVar 2) (faC (f2 dIx (fVar 1) (fVar 6)) (faN))))) (fSeq (fIfS (ftB (f2 dEq (f2 dIx (fVar 7) (fC (.int 0))) (fC (.str "drop")))) (fSet 4 (fC .non)) (RS.nx)) (fSeq (fIfS (ftOr (ftB (f2 dEq (f2 dIx (fVar 7) (fC (.int 0))) (fC (.str "first")))) (ftAnd (ftB (f2 dEq (f2 dIx (fVar 7) (fC (.int 0))) (fC (.str "last")))) (ftB (f2 dEq (fL dLen (faC (f2 dIx (fVar 1) (fVar 6)) (faN))) (fC (.int 1)))))) (fSet 4 (fL (dLim D.tup) (faC (fVar 6) (faC (fC (.int 1)) (faN))))) (RS.nx)) (fSeq (fIfS (ftAnd (ftB (f2 dEq (f2 dIx (fVar 7) (fC (.int 0))) (fC (.str "last")))) (ftB (f2 dEq (fL dLen (faC (f2 dIx (fVar 1) (fVar 6)) (faN))) (fC (.int 2))))) (fSet 4 (fL (dLim D.tup) (faC (fVar 6) (faC (fC (.int 2)) (faN))))) (RS.nx)) (fSet 3 (f2 dIx (fVar 7) (fC (.int 1)))))))) (RS.nx)) (fDrop (fMut 5 gAppend (faC (fL (dLim D.tup) (faC (fVar 3) (faC (fVar 4) (faN)))) (faN))))
def bd__law_walk : E → RS := fSeq (fSet 2 (fCall m__law_letters [] (faN))) (fSeq (fSet 3 (fC (.int 0))) (fSeq (fSet 4 (fC .non)) (fSeq (fSet 5 (fL (dLim D.lst) (faC (fL (dLim D.tup) (faC (fC (.int 0)) (faC (fC .non) (faN)))) (faN)))) (fSeq (fFor (fiR1 (faC (fL dLen (faC (fVar 1) (faN))) (faN))) (hName 6) lp__law_walk_1) (fRet (fVar 5))))))
def m__law_walk : FM := defM [.fz, .fz] 6 bd__law_walk
/-! check_row: 0 row, 1 what, 2 letter -/
abbrev st_check_row : Stmt := (top 13)
theorem sc_check_row : FnScope ["row", "what", "letter"] ["row", "what"] (defScope st_check_row) := ⟨rfl, rfl, rfl, by decide +kernel, rfl, by decide +kernel, by decide +kernel⟩
def lp_check_row_1 : E → RS := fDrop (fCall m_check_letter [none, none] (faC (fVar 2) (faC (fVar 1) (faN))))
def bd_check_row : E → RS := fSeq (fIfS (ftNot (ftV (fL (dIsiC itc itb) (faC (fVar 0) (faC (fL (dLim D.tup) (faC (fC (.ty "list")) (faC (fC (.ty "tuple")) (faN)))) (faN)))))) ((fun _ => .no)) (RS.nx)) (fSeq (fFor (fiS (fVar 0)) (hName 2) lp_check_row_1) (fSeq (fIfS (ftB (f2 dGt (fL dLen (faC (fVar 0) (faN))) (fC (.int 60)))) ((fun _ => .no)) (RS.nx)) (fRet (fL dTuple (faC (fVar 0) (faN))))))
def m_check_row : FM := defM [.fz, .fz] 1 bd_check_row
/-! lines_in: 0 letter -/
abbrev st_lines_in : Stmt := (top 14)
theorem sc_lines_in : FnScope ["letter"] ["letter"] (defScope st_lines_in) := ⟨rfl, rfl, rfl, by decide +kernel, rfl, by decide +kernel, by decide +kernel⟩
def bd_lines_in : E → RS := fRet (f1 (dIxT tab_LINES_OF) (fVar 0))
def m_lines_in : FM := defM [.fz] 0 bd_lines_in
/-! held_after: 0 held, 1 act, 2 letter, 3 i -/
abbrev st_held_after : Stmt := (top 22)
theorem sc_held_after : FnScope ["held", "act", "letter", "i"] ["held", "act", "letter", "i"] (defScope st_held_after) := ⟨rfl, rfl, rfl, by decide +kernel, rfl, by decide +kernel, by decide +kernel⟩
def bd_held_after : E → RS := fSeq (fIfS (ftB (f2 dEq (fVar 1) (fC (.str "keep")))) (fRet (fVar 0)) (RS.nx)) (fSeq (fIfS (ftB (f2 dEq (fVar 1) (fC (.str "drop")))) (fRet (fC .non)) (RS.nx)) (fRet (fL (dLim D.tup) (faC (fVar 3) (faC (fIf (ftB (f2 dEq (fVar 1) (fC (.str "last")))) (fCall m_lines_in [none] (faC (fVar 2) (faN))) (fC (.int 1))) (faN))))))
def m_held_after : FM := defM [.fz, .fz, .fz, .fz] 0 bd_held_after
/-! along: 0 reader, 1 row, 2 state, 3 held, 4 told, 5 i, 6 letter, 7 act -/
abbrev st_along : Stmt := (top 24)
theorem sc_along : FnScope ["reader", "row", "state", "held", "told", "i", "letter", "act"] ["reader", "row"] (defScope st_along) := ⟨rfl, rfl, rfl, by decide +kernel, rfl, by decide +kernel, by decide +kernel⟩
def lp_along_1 : E → RS := fSeq (fAsg (hTup 2 (hCons (hName 7) (hCons (hName 2) (hNil)))) (fMeth "Reader" "entry" m_Reader_entry [none, none] (fVar 0) (faC (fVar 2) (faC (fVar 6) (faN))))) (fSeq (fSet 3 (fCall m_held_after [none, none, none, none] (faC (fVar 3) (faC (fVar 7) (faC (fVar 6) (faC (fVar 5) (faN))))))) (fDrop (fMut 4 gAppend (faC (fL (dLim D.tup) (faC (fVar 2) (faC (fVar 3) (faN)))) (faN)))))
def bd_along : E → RS := fSeq (fAsg (hTup 2 (hCons (hName 2) (hCons (hName 3) (hNil)))) (fL (dLim D.tup) (faC (fC (.int 0)) (faC (fC .non) (faN))))) (fSeq (fSet 4 (fL (dLim D.lst) (faC (fL (dLim D.tup) (faC (fVar 2) (faC (fVar 3) (faN)))) (faN)))) (fSeq (fFor (fiEnumS (faC (fCall m_check_row [none, none] (faC (fVar 1) (faC (fC (.str "row")) (faN)))) (faN))) (hTup 2 (hCons (hName 5) (hCons (hName 6) (hNil)))) lp_along_1) (fRet (fVar 4))))
def m_along : FM := defM [.fz, .fz] 6 bd_along
/-! Reader.__call__: 0 self, 1 row -/
abbrev st_Reader_call : Stmt := (inClass (top 23) 4)
theorem sc_Reader_call : FnScope ["self", "row"] ["self", "row"] (defScope st_Reader_call) := ⟨rfl, rfl, rfl, by decide +kernel, rfl, by decide +kernel, by decide +kernel⟩
def bd_Reader_call : E → RS := fRet (f2 dIx (f2 dIx (fCall m_along [none, none] (faC (fVar 0) (faC (fVar 1) (faN)))) (f1 dNeg (fC (.int 1)))) (fC (.int 1)))
def m_Reader_call : FM := defM [.fz, .fz] 0 bd_Reader_call
/-! _law_lesser: 0 row, 1 rows, 2 letter -/
abbrev st__law_lesser : Stmt := (top 46)
theorem sc__law_lesser : FnScope ["row", "rows", "letter"] ["row"] (defScope st__law_lesser) := ⟨rfl, rfl, rfl, by decide +kernel, rfl, by decide +kernel, by decide +kernel⟩
def lp__law_lesser_1 : E → RS := fIfS (ftOr (ftB (f2 dGt (fL dLen (faC (fVar 0) (faN))) (fC (.int 1)))) (ftB (f2 dLt (fBm isL gIndex (fCall m__law_letters [] (faN)) (faC (fVar 2) (faN))) (fBm isL gIndex (fCall m__law_letters [] (faN)) (faC (f2 dIx (fVar 0) (fC (.int 0))) (faN)))))) (fDrop (fMut 1 gAppend (faC (fL (dLim D.lst) (faC (fVar 2) (faN))) (faN)))) (RS.nx)
def lp__law_lesser_2 : E → RS := fIfS (ftB (f2 dLt (fBm isL gIndex (fCall m__law_letters [] (faN)) (faC (fVar 2) (faN))) (fBm isL gIndex (fCall m__law_letters [] (faN)) (faC (f2 dIx (fVar 0) (fC (.int 1))) (faN))))) (fDrop (fMut 1 gAppend (faC (fL (dLim D.lst) (faC (fC (.str "P")) (faC (fVar 2) (faN)))) (faN)))) (RS.nx)
def bd__law_lesser : E → RS := fSeq (fSet 1 (fL (dLim D.lst) (faC (fL (dLim D.lst) (faN)) (faN)))) (fSeq (fFor (fiS (fCall m__law_letters [] (faN))) (hName 2) lp__law_lesser_1) (fSeq (fIfS (ftB (f2 dEq (fL dLen (faC (fVar 0) (faN))) (fC (.int 2)))) (fFor (fiS (fCall m__law_letters [] (faN))) (hName 2) lp__law_lesser_2) (RS.nx)) (fRet (fVar 1))))
def m__law_lesser : FM := defM [.fz] 2 bd__law_lesser
/-! _law_pairs_part: 0 readers, 1 tables, 2 one, 3 other, 4 row, 5 less -/
abbrev st__law_pairs_part : Stmt := (top 49)
theorem sc__law_pairs_part : FnScope ["readers", "tables", "one", "other", "row", "less"] ["readers", "tables"] (defScope st__law_pairs_part) := ⟨rfl, rfl, rfl, by decide +kernel, rfl, by decide +kernel, by decide +kernel⟩
def lp__law_pairs_part_2 : E → RS := fIfS (ftB (f2 dNe (fCallI "Reader" m_Reader_call [none] (fIxO 0 (fVar 2)) (faC (fVar 5) (faN))) (fCallI "Reader" m_Reader_call [none] (fIxO 0 (fVar 3)) (faC (fVar 5) (faN))))) (fRet (fC (.bl false))) (RS.nx)
def lp__law_pairs_part_1 : E → RS := fSeq (fIfS (ftB (f2 dEq (f2 dIx (f2 dIx (fCall m__law_walk [none, none] (faC (f2 dIx (fVar 1) (fVar 2)) (faC (fVar 4) (faN)))) (f1 dNeg (fC (.int 1)))) (fC (.int 1))) (f2 dIx (f2 dIx (fCall m__law_walk [none, none] (faC (f2 dIx (fVar 1) (fVar 3)) (faC (fVar 4) (faN)))) (f1 dNeg (fC (.int 1)))) (fC (.int 1))))) (fRet (fC (.bl false))) (RS.nx)) (fSeq (fIfS (ftB (f2 dEq (fCallI "Reader" m_Reader_call [none] (fIxO 0 (fVar 2)) (faC (fVar 4) (faN))) (fCallI "Reader" m_Reader_call [none] (fIxO 0 (fVar 3)) (faC (fVar 4) (faN))))) (fRet (fC (.bl false))) (RS.nx)) (fFor (fiS (fCall m__law_lesser [none] (faC (fVar 4) (faN)))) (hName 5) lp__law_pairs_part_2))
def bd__law_pairs_part : E → RS := fSeq (fFor (fiS (fCall m__law_parting [] (faN))) (hTup 3 (hCons (hName 2) (hCons (hName 3) (hCons (hName 4) (hNil))))) lp__law_pairs_part_1) (fRet (fC (.bl true)))
def m__law_pairs_part : FM := defM [.ow .fz, .fz] 4 bd__law_pairs_part
/-! _law_take: 0 draws, 1 many -/
abbrev st__law_take : Stmt := (top 39)
theorem sc__law_take : FnScope ["draws", "many"] ["draws", "many"] (defScope st__law_take) := ⟨rfl, rfl, rfl, by decide +kernel, rfl, by decide +kernel, by decide +kernel⟩
def bd__law_take : E → RS := fSeq (fIfS (ftOr (ftB (f2 dEq (f1O (fun d => dLen [d]) 0) (fC (.int 0)))) (ftB (f2 dLt (fVar 1) (fC (.int 2))))) (fRet (fC (.int 0))) (RS.nx)) (fRet (f2 dMod (fL dInt (faC (fMut 0 gPop faN) (faN))) (fVar 1)))
def m__law_take : FM := defM [.ow .fz, .fz] 0 bd__law_take
/-! _law_drawn_row: 0 draws, 1 most, 2 menu, 3 k -/
abbrev st__law_drawn_row : Stmt := (top 51)
theorem sc__law_drawn_row : FnScope ["draws", "most", "menu", "k"] ["draws", "most"] (defScope st__law_drawn_row) := ⟨rfl, rfl, rfl, by decide +kernel, rfl, by decide +kernel, by decide +kernel⟩
def bd__law_drawn_row : E → RS := fSeq (fSet 2 (f2 dAdd (f2 dAdd (fL (dLim D.lst) (faC (fC (.str "P")) (faN))) (fCall m__law_letters [] (faN))) (fL (dLim D.lst) (faC (fC (.str "-")) (faN))))) (fRet (fLc (fiR1 (faC (fCall m__law_take [some 0, none] (faC (fC .non) (faC (f2 dAdd (fVar 1) (fC (.int 1))) (faN)))) (faN))) (hName 3) (ftYes) (f2 dIx (fVar 2) (fCall m__law_take [some 0, none] (faC (fC .non) (faC (fC (.int 10)) (faN))))) [3]))
def m__law_drawn_row : FM := defM [.ow .fz, .fz] 2 bd__law_drawn_row
/-! _law_held_is: 0 reader, 1 states, 2 row, 3 due, 4 told -/
abbrev st__law_held_is : Stmt := (top 48)
theorem sc__law_held_is : FnScope ["reader", "states", "row", "due", "told"] ["reader", "states", "row"] (defScope st__law_held_is) := ⟨rfl, rfl, rfl, by decide +kernel, rfl, by decide +kernel, by decide +kernel⟩
def bd__law_held_is : E → RS := fSeq (fSet 3 (fCall m__law_walk [none, none] (faC (fVar 1) (faC (fVar 2) (faN))))) (fSeq (fSet 4 (fCall m_along [none, none] (faC (fVar 0) (faC (fVar 2) (faN))))) (fSeq (fIfS (ftOr (ftNot (ftV (fL (dIsiC itc itb) (faC (fVar 4) (faC (fC (.ty "list")) (faN)))))) (ftB (f2 dNe (fVar 4) (fVar 3)))) (fRet (fC (.bl false))) (RS.nx)) (fRet (f2 dEq (fCallI "Reader" m_Reader_call [none] (fVar 0) (faC (fL dTuple (faC (fVar 2) (faN))) (faN))) (f2 dIx (f2 dIx (fVar 3) (f1 dNeg (fC (.int 1)))) (fC (.int 1)))))))
def m__law_held_is : FM := defM [.fz, .fz, .fz] 2 bd__law_held_is
/-! with_entry: 0 reader, 1 state, 2 letter, 3 act, 4 to, 5 rows, 6 place, 7 row -/
abbrev st_with_entry : Stmt := (top 36)
theorem sc_with_entry : FnScope ["reader", "state", "letter", "act", "to", "rows", "place", "row"] ["reader", "state", "letter", "act", "to"] (defScope st_with_entry) := ⟨rfl, rfl, rfl, by decide +kernel, rfl, by decide +kernel, by decide +kernel⟩
def bd_with_entry : E → RS := fSeq (fDrop (fCall m_check_int [none, none, none, none] (faC (fVar 1) (faC (fC (.str "state")) (faC (fC (.int 0)) (faC (f2 dSub (fL dLen (faC (f1 (dFld "Reader" "states") (fVar 0)) (faN))) (fC (.int 1))) (faN))))))) (fSeq (fIfS (ftB (f2 dEq (fCall m_check_letter [none, none] (faC (fVar 2) (faC (fC (.str "letter")) (faN)))) (fC (.str "-")))) ((fun _ => .no)) (RS.nx)) (fSeq (fIfS (ftOr (ftNot (ftV (fL (dIsiC itc itb) (faC (fVar 3) (faC (fC (.ty "str")) (faN)))))) (ftOr (ftB (f2 dNotIn (fVar 3) (fC (.tup [.str "keep", .str "first", .str "last", .str "drop"])))) (ftAnd (ftB (f2 dEq (fVar 2) (fC (.str "H")))) (ftB (f2 dIn (fVar 3) (fL (dLim D.tup) (faC (fC (.str "first")) (faC (fC (.str "last")) (faN))))))))) ((fun _ => .no)) (RS.nx)) (fSeq (fDrop (fCall m_check_int [none, none, none, none] (faC (fVar 4) (faC (fC (.str "to")) (faC (fC (.int 0)) (faC (f2 dSub (fL dLen (faC (f1 (dFld "Reader" "states") (fVar 0)) (faN))) (fC (.int 1))) (faN))))))) (fSeq (fSet 5 (fLc (fiS (f1 (dFld "Reader" "states") (fVar 0))) (hName 7) (ftYes) (fL dList (faC (fVar 7) (faN))) [7])) (fSeq (fSet 6 (f1 (gIndexK ["P", "B", "X", "H", "TB", "T1", "T2", "TX"]) (fVar 2))) (fSeq (fSet2 5 (fVar 1) 6 (fL (dLim D.tup) (faC (fVar 3) (faC (fVar 4) (faN))))) (fRet (fMake "Reader" m_Reader_init (withD [.str ""] 2) (faC (fVar 5) (faN))))))))))
def m_with_entry : FM := defM [.fz, .fz, .fz, .fz, .fz] 3 bd_with_entry
/-! _law_exchanged: 0 draws, 1 readers, 2 tables, 3 which, 4 state, 5 letter, 6 act, 7 changed, 8 k, 9 row, 10 walked, 11 met, 12 i -/
abbrev st__law_exchanged : Stmt := (top 50)
theorem sc__law_exchanged : FnScope ["draws", "readers", "tables", "which", "state", "letter", "act", "changed", "k", "row", "walked", "met", "i"] ["draws", "readers", "tables"] (defScope st__law_exchanged) := ⟨rfl, rfl, rfl, by decide +kernel, rfl, by decide +kernel, by decide +kernel⟩
def lp__law_exchanged_2 : E → RS := fIfS (ftAnd (ftB (f2 dEq (f2 dIx (f2 dIx (fVar 10) (fVar 12)) (fC (.int 0))) (fVar 4))) (ftB (f2 dEq (f2 dIx (fVar 9) (fVar 12)) (fVar 5)))) (fSet 11 (fC (.bl true))) (RS.nx)
def lp__law_exchanged_1 : E → RS := fSeq (fSet 9 (fCall m__law_drawn_row [some 0, none] (faC (fC .non) (faC (fC (.int 8)) (faN))))) (fSeq (fSet 10 (fCall m__law_walk [none, none] (faC (f2 dIx (fVar 2) (fVar 3)) (faC (fVar 9) (faN))))) (fSeq (fSet 11 (fC (.bl false))) (fSeq (fFor (fiR1 (faC (fL dLen (faC (fVar 9) (faN))) (faN))) (hName 12) lp__law_exchanged_2) (fIfS (ftAnd (ftNot (ftV (fVar 11))) (ftB (f2 dNe (fCallI "Reader" m_Reader_call [none] (fVar 7) (faC (fVar 9) (faN))) (f2 dIx (f2 dIx (fVar 10) (f1 dNeg (fC (.int 1)))) (fC (.int 1)))))) (fRet (fC (.bl false))) (RS.nx)))))
def bd__law_exchanged : E → RS := fSeq (fSet 3 (fCall m__law_take [some 0, none] (faC (fC .non) (faC (fC (.int 5)) (faN))))) (fSeq (fSet 4 (fCall m__law_take [some 0, none] (faC (fC .non) (faC (fL dLen (faC (f2 dIx (fVar 2) (fVar 3)) (faN))) (faN))))) (fSeq (fSet 5 (f2 dIx (fCall m__law_letters [] (faN)) (f2 dAdd (fC (.int 1)) (fCall m__law_take [some 0, none] (faC (fC .non) (faC (fC (.int 7)) (faN))))))) (fSeq (fSet 6 (f2 dIx (fL (dLim D.lst) (faC (fC (.str "keep")) (faC (fC (.str "drop")) (faC (fC (.str "first")) (faC (fC (.str "last")) (faN)))))) (fCall m__law_take [some 0, none] (faC (fC .non) (faC (fC (.int 4)) (faN)))))) (fSeq (fIfS (ftB (f2 dEq (fVar 5) (fC (.str "H")))) (fSet 6 (f2 dIx (fL (dLim D.lst) (faC (fC (.str "keep")) (faC (fC (.str "drop")) (faN)))) (fCall m__law_take [some 0, none] (faC (fC .non) (faC (fC (.int 2)) (faN)))))) (RS.nx)) (fSeq (fIfS (ftAnd (ftB (f2 dEq (fVar 3) (fC (.int 4)))) (ftAnd (ftB (f2 dEq (fVar 5) (fC (.str "H")))) (ftB (f2 dEq (fVar 4) (fC (.int 0)))))) (fSet 6 (fC (.str "keep"))) (RS.nx)) (fSeq (fSet 7 (fCall m_with_entry [none, none, none, none, none] (faC (f2 dIx (fVar 1) (fVar 3)) (faC (fVar 4) (faC (fVar 5) (faC (fVar 6) (faC (fCall m__law_take [some 0, none] (faC (fC .non) (faC (fL dLen (faC (f2 dIx (fVar 2) (fVar 3)) (faN))) (faN)))) (faN)))))))) (fSeq (fFor (fiR1 (faC (fC (.int 4)) (faN))) (hName 8) lp__law_exchanged_1) (fRet (fC (.bl true))))))))))
def m__law_exchanged : FM := defM [.ow .fz, .fz, .fz] 10 bd__law_exchanged
/-! law: 0 script, 1 draws, 2 tables, 3 readers, 4 alone, 5 k, 6 row, 7 less -/
abbrev st_law : Stmt := (top 52)
theorem sc_law : FnScope ["script", "draws", "tables", "readers", "alone", "k", "row", "less"] ["script"] (defScope st_law) := ⟨rfl, rfl, rfl, by decide +kernel, rfl, by decide +kernel, by decide +kernel⟩
def lp_law_1 : E → RS := fSeq (fIfS (ftNot (ftV (fCall m__law_reader_is [none, none, none] (faC (fIxO 3 (fVar 5)) (faC (f2 dIx (fVar 2) (fVar 5)) (faC (f2 dIx (fCall m__law_names [] (faN)) (fVar 5)) (faN))))))) (fRet (fC (.bl false))) (RS.nx)) (fIfS (ftNot (ftV (fCall m__law_reader_is [none, none, none] (faC (f2 dIx (fVar 4) (fVar 5)) (faC (f2 dIx (fVar 2) (fVar 5)) (faC (f2 dIx (fCall m__law_names [] (faN)) (fVar 5)) (faN))))))) (fRet (fC (.bl false))) (RS.nx))
def lp_law_3 : E → RS := fIfS (ftNot (ftV (fCall m__law_held_is [none, none, none] (faC (f2 dIx (fVar 4) (fVar 5)) (faC (f2 dIx (fVar 2) (fVar 5)) (faC (fVar 7) (faN))))))) (fRet (fC (.bl false))) (RS.nx)
def lp_law_2 : E → RS := fSeq (fIfS (ftNot (ftV (fCall m__law_held_is [none, none, none] (faC (fIxO 3 (fVar 5)) (faC (f2 dIx (fVar 2) (fVar 5)) (faC (fVar 6) (faN))))))) (fRet (fC (.bl false))) (RS.nx)) (fFor (fiS (fCall m__law_lesser [none] (faC (fL (dLim D.lst) (faC (fC (.str "P")) (faC (fC (.str "TX")) (faN)))) (faN)))) (hName 7) lp_law_3)
def bd_law : E → RS := fSeq (fSet 1 (fCall m__law_draws [none] (faC (fVar 0) (faN)))) (fSeq (fSet 2 (fCall m__law_tables [] (faN))) (fSeq (fSet 3 (fCall m_told_readers [] (faN))) (fSeq (fSet 4 (fL (dLim D.lst) (faC (fCall m_by_table [] (faN)) (faC (fCall m_through [] (faN)) (faC (fCall m_both_ways [] (faN)) (faC (fCall m_careful [] (faN)) (faC (fCall m_adopting [] (faN)) (faN)))))))) (fSeq (fIfS (ftOr (ftNot (ftV (fIsiO (dIsiC itc itb) 3 (faC (fC (.ty "list")) (faN))))) (ftB (f2 dNe (f1O (fun d => dLen [d]) 3) (fC (.int 5))))) (fRet (fC (.bl false))) (RS.nx)) (fSeq (fFor (fiR1 (faC (fC (.int 5)) (faN))) (hName 5) lp_law_1) (fSeq (fIfS (ftNot (ftV (fCall m__law_pairs_part [some 3, none] (faC (fC .non) (faC (fVar 2) (faN)))))) (fRet (fC (.bl false))) (RS.nx)) (fSeq (fSet 6 (fCall m__law_drawn_row [some 1, none] (faC (fC .non) (faC (fC (.int 20)) (faN))))) (fSeq (fFor (fiR1 (faC (fC (.int 5)) (faN))) (hName 5) lp_law_2) (fSeq (fDrop (fMut 3 gClear faN)) (fSeq (fIfS (ftB (f2 dNe (fL dLen (faC (fCall m_told_readers [] (faN)) (faN))) (fC (.int 5)))) (fRet (fC (.bl false))) (RS.nx)) (fRet (fCall m__law_exchanged [some 1, none, none] (faC (fC .non) (faC (fVar 4) (faC (fVar 2) (faN))))))))))))))))
def m_law : FM := defM [.fz] 7 bd_law

/-! ### what the head tells -/
def dd__law_draws : He.DefD := ⟨("_law_draws", none), "_law_draws", "_law_draws", defArgs st__law_draws, defBody st__law_draws, defScope st__law_draws, [], []⟩
def dd__law_tables : He.DefD := ⟨("_law_tables", none), "_law_tables", "_law_tables", defArgs st__law_tables, defBody st__law_tables, defScope st__law_tables, [], []⟩
def dd_rows_in : He.DefD := ⟨("rows_in", none), "rows_in", "rows_in", defArgs st_rows_in, defBody st_rows_in, defScope st_rows_in, [], []⟩
def dd_is_int : He.DefD := ⟨("is_int", none), "is_int", "is_int", defArgs st_is_int, defBody st_is_int, defScope st_is_int, [], []⟩
def dd_check_int : He.DefD := ⟨("check_int", none), "check_int", "check_int", defArgs st_check_int, defBody st_check_int, defScope st_check_int, [], []⟩
def dd__readers_states : He.DefD := ⟨("_readers_states", none), "_readers_states", "_readers_states", defArgs st__readers_states, defBody st__readers_states, defScope st__readers_states, [], []⟩
def dd__readers_fair : He.DefD := ⟨("_readers_fair", none), "_readers_fair", "_readers_fair", defArgs st__readers_fair, defBody st__readers_fair, defScope st__readers_fair, [], []⟩
def dd__readers_takes : He.DefD := ⟨("_readers_takes", none), "_readers_takes", "_readers_takes", defArgs st__readers_takes, defBody st__readers_takes, defScope st__readers_takes, [], []⟩
def dd_Reader_init : He.DefD := ⟨("Reader", some "__init__"), "__init__", "Reader.__init__", defArgs st_Reader_init, defBody st_Reader_init, defScope st_Reader_init, [], [("name", .str "")]⟩
def dd__toldreaders_entries : He.DefD := ⟨("_toldreaders_entries", none), "_toldreaders_entries", "_toldreaders_entries", defArgs st__toldreaders_entries, defBody st__toldreaders_entries, defScope st__toldreaders_entries, [], []⟩
def dd_by_table : He.DefD := ⟨("by_table", none), "by_table", "by_table", defArgs st_by_table, defBody st_by_table, defScope st_by_table, [], []⟩
def dd_through : He.DefD := ⟨("through", none), "through", "through", defArgs st_through, defBody st_through, defScope st_through, [], []⟩
def dd_both_ways : He.DefD := ⟨("both_ways", none), "both_ways", "both_ways", defArgs st_both_ways, defBody st_both_ways, defScope st_both_ways, [], []⟩
def dd_careful : He.DefD := ⟨("careful", none), "careful", "careful", defArgs st_careful, defBody st_careful, defScope st_careful, [], []⟩
def dd_adopting : He.DefD := ⟨("adopting", none), "adopting", "adopting", defArgs st_adopting, defBody st_adopting, defScope st_adopting, [], []⟩
def dd_told_readers : He.DefD := ⟨("told_readers", none), "told_readers", "told_readers", defArgs st_told_readers, defBody st_told_readers, defScope st_told_readers, [], []⟩
def dd_check_letter : He.DefD := ⟨("check_letter", none), "check_letter", "check_letter", defArgs st_check_letter, defBody st_check_letter, defScope st_check_letter, [], []⟩
def dd_Reader_entry : He.DefD := ⟨("Reader", some "entry"), "entry", "Reader.entry", defArgs st_Reader_entry, defBody st_Reader_entry, defScope st_Reader_entry, [], []⟩
def dd__law_letters : He.DefD := ⟨("_law_letters", none), "_law_letters", "_law_letters", defArgs st__law_letters, defBody st__law_letters, defScope st__law_letters, [], []⟩
def dd_Reader_eq : He.DefD := ⟨("Reader", some "__eq__"), "__eq__", "Reader.__eq__", defArgs st_Reader_eq, defBody st_Reader_eq, defScope st_Reader_eq, [], []⟩
def dd__law_reader_is : He.DefD := ⟨("_law_reader_is", none), "_law_reader_is", "_law_reader_is", defArgs st__law_reader_is, defBody st__law_reader_is, defScope st__law_reader_is, [], []⟩
def dd__law_names : He.DefD := ⟨("_law_names", none), "_law_names", "_law_names", defArgs st__law_names, defBody st__law_names, defScope st__law_names, [], []⟩
def dd__law_parting : He.DefD := ⟨("_law_parting", none), "_law_parting", "_law_parting", defArgs st__law_parting, defBody st__law_parting, defScope st__law_parting, [], []⟩
def dd__law_walk : He.DefD := ⟨("_law_walk", none), "_law_walk", "_law_walk", defArgs st__law_walk, defBody st__law_walk, defScope st__law_walk, [], []⟩
def dd_check_row : He.DefD := ⟨("check_row", none), "check_row", "check_row", defArgs st_check_row, defBody st_check_row, defScope st_check_row, [], []⟩
def dd_lines_in : He.DefD := ⟨("lines_in", none), "lines_in", "lines_in", defArgs st_lines_in, defBody st_lines_in, defScope st_lines_in, [], []⟩
def dd_held_after : He.DefD := ⟨("held_after", none), "held_after", "held_after", defArgs st_held_after, defBody st_held_after, defScope st_held_after, [], []⟩
def dd_along : He.DefD := ⟨("along", none), "along", "along", defArgs st_along, defBody st_along, defScope st_along, [], []⟩
def dd_Reader_call : He.DefD := ⟨("Reader", some "__call__"), "__call__", "Reader.__call__", defArgs st_Reader_call, defBody st_Reader_call, defScope st_Reader_call, [], []⟩
def dd__law_lesser : He.DefD := ⟨("_law_lesser", none), "_law_lesser", "_law_lesser", defArgs st__law_lesser, defBody st__law_lesser, defScope st__law_lesser, [], []⟩
def dd__law_pairs_part : He.DefD := ⟨("_law_pairs_part", none), "_law_pairs_part", "_law_pairs_part", defArgs st__law_pairs_part, defBody st__law_pairs_part, defScope st__law_pairs_part, [], []⟩
def dd__law_take : He.DefD := ⟨("_law_take", none), "_law_take", "_law_take", defArgs st__law_take, defBody st__law_take, defScope st__law_take, [], []⟩
def dd__law_drawn_row : He.DefD := ⟨("_law_drawn_row", none), "_law_drawn_row", "_law_drawn_row", defArgs st__law_drawn_row, defBody st__law_drawn_row, defScope st__law_drawn_row, [], []⟩
def dd__law_held_is : He.DefD := ⟨("_law_held_is", none), "_law_held_is", "_law_held_is", defArgs st__law_held_is, defBody st__law_held_is, defScope st__law_held_is, [], []⟩
def dd_with_entry : He.DefD := ⟨("with_entry", none), "with_entry", "with_entry", defArgs st_with_entry, defBody st_with_entry, defScope st_with_entry, [], []⟩
def dd__law_exchanged : He.DefD := ⟨("_law_exchanged", none), "_law_exchanged", "_law_exchanged", defArgs st__law_exchanged, defBody st__law_exchanged, defScope st__law_exchanged, [], []⟩
def dd_law : He.DefD := ⟨("law", none), "law", "law", defArgs st_law, defBody st_law, defScope st_law, [], []⟩
abbrev fn : List He.DefD := [dd__law_draws, dd__law_tables, dd_rows_in, dd_is_int, dd_check_int, dd__readers_states, dd__readers_fair, dd__readers_takes, dd_Reader_init, dd__toldreaders_entries, dd_by_table, dd_through, dd_both_ways, dd_careful, dd_adopting, dd_told_readers, dd_check_letter, dd_Reader_entry, dd__law_letters, dd_Reader_eq, dd__law_reader_is, dd__law_names, dd__law_parting, dd__law_walk, dd_check_row, dd_lines_in, dd_held_after, dd_along, dd_Reader_call, dd__law_lesser, dd__law_pairs_part, dd__law_take, dd__law_drawn_row, dd__law_held_is, dd_with_entry, dd__law_exchanged, dd_law]
abbrev fa : List He.Fa := [.free "len", .free "min", .free "range", .free "int", .free "list", .free "tuple", .free "isinstance", .free "bool", .glo "is_int", .glo "rows_in", .glo "ORDER", .free "enumerate", .free "str", .glo "TAKING", .glo "check_int", .glo "_readers_fair", .glo "_readers_states", .cls "Reader", .noat "Reader" "states", .glo "_readers_takes", .noat "Reader" "name", .glo "BY_TABLE", .glo "_toldreaders_entries", .mkr "Reader", .glo "Reader", .glo "THROUGH", .glo "BOTH_WAYS", .glo "by_table", .glo "through", .glo "both_ways", .glo "careful", .glo "adopting", .glo "LINES_OF", .glo "check_letter", .glo "_law_letters", .meth "Reader" "entry", .glo "lines_in", .glo "check_row", .glo "held_after", .glo "along", .glo "_law_parting", .glo "_law_walk", .glo "_law_lesser", .glo "_law_take", .glo "with_entry", .glo "_law_drawn_row", .glo "_law_draws", .glo "_law_tables", .glo "told_readers", .glo "_law_names", .glo "_law_reader_is", .glo "_law_pairs_part", .glo "_law_held_is", .glo "_law_exchanged", .glo "law"]
abbrev fx : List Fx := [.itab itc itb, .val "MOST_STATES" (.int 12), .ktup "ORDER" [.str "P", .str "B", .str "X", .str "H", .str "TB", .str "T1", .str "T2", .str "TX"], .ktup "TAKING" [.str "first", .str "last"], .ktup "BY_TABLE" [.str "first", .str "keep", .str "drop", .str "drop", .str "keep", .str "first", .str "last", .str "drop"], .ktup "THROUGH" [.str "first", .str "first", .str "first", .str "keep", .str "last", .str "last", .str "last", .str "last"], .ktup "BOTH_WAYS" [.str "first", .str "first", .str "keep", .str "keep", .str "last", .str "first", .str "last", .str "keep"], .tab "LINES_OF" tab_LINES_OF, .meq "Reader", .val "MOST_LETTERS" (.int 60), .callo "Reader", .cread "Reader", .ctup "Reader" "ACTS" [.str "keep", .str "first", .str "last", .str "drop"], .ctup "Reader" "LETTERS" [.str "P", .str "B", .str "X", .str "H", .str "TB", .str "T1", .str "T2", .str "TX"]]
abbrev ts : List He.Tab := [((fun K => clsA K "LINES_OF"), ["P", "B", "X", "H", "TB", "T1", "T2", "TX", "-"])]
section
variable {P : Program} {w : World} {K : PySem.W.Frag} {mg : Str → Option Value} {base : Heap}
theorem b__law_draws (T : Tx fa fn ts fx w K mg) : Binds K (fdOf K ("_law_draws", none)) ["script"] [] := (T.fun_ 0 (d := dd__law_draws)).bindsN fun _ _ _ _ _ _ us hl => match us, hl with | [_], _ => rfl
theorem ok__law_draws (T : Tx fa fn ts fx w K mg) : FnOk P w K mg base (L2.CX P w) 1 (He.fAd K ("_law_draws", none)) (fdOf K ("_law_draws", none)) ["script"] (spF K [.fz] (.ow .fz) m__law_draws) := by
  refine fn_okD (T.fun_ 0 (d := dd__law_draws)) sc__law_draws rfl (fun cdv A outer s H Ex F B0 pv hr => ?_) (.inr (nn_seq (nn_seq (nn_seq nn_retO))))
  exact (ss_cons (N1 := [zz, ll, uu, uu, uu, uu]) (s_set (i := 1) sc__law_draws.nd (w_lst a_nil))
      (ss_cons (N1 := [zz, ll, uu, uu, uu, uu]) (s_for (ws := [2]) (O2 := [zz, ll, zz, uu, uu, uu]) (passes_of rfl) rfl (i_rng1 (T.free 2) (a_cons (e_blt (call_dMin rfl) rl (by rfl) (T.free 1) boot_min (a_cons (e_blt call_dLen rl (by rfl) (T.free 0) boot_len (a_cons (e_var (i := 0) rfl) a_nil)) (a_cons e_int a_nil))) a_nil)) (g_name (i := 2) sc__law_draws.nd) (ss_cons (N1 := [zz, ll, zz, zz, uu, uu]) (s_set (i := 3) sc__law_draws.nd (w_of_e (e_ty call_dInt rl (by rfl) (T.free 3) boot_int (a_cons (e_ix ix_d r4 (e_var (i := 0) rfl) (e_var (i := 2) rfl)) a_nil))))
      (ss_cons (N1 := [zz, ll, zz, zz, uu, uu]) (s_if (t_cmp (op_dLt) r4 (e_var (i := 3) rfl) e_int (nomark _)) (ss_one (N1 := [zz, ll, zz, zz, uu, uu]) (s_set (i := 3) sc__law_draws.nd (w_of_e (e_bin op_dSub r4 e_int (e_var (i := 3) rfl)))) rfl) (ss_nil rfl))
      (ss_one (N1 := [zz, ll, zz, zz, uu, uu]) (s_if (t_cmp (op_dGe) r4 (e_var (i := 3) rfl) (e_bin op_dPow r4 e_int e_int) (nomark _)) (ss_one (N1 := [zz, ll, zz, zz, uu, uu]) (s_for (ws := [4]) (O2 := [zz, ll, zz, zz, zz, uu]) (passes_of rfl) rfl (i_rng1 (T.free 2) (a_cons e_int a_nil)) (g_name (i := 4) sc__law_draws.nd) (ss_one (N1 := [zz, ll, zz, zz, zz, uu]) (s_if (t_cmp (op_dGt) r4 (e_var (i := 3) rfl) e_int (nomark _)) (ss_cons (N1 := [zz, ll, zz, zz, zz, uu]) (s_expr (e_mut (i := 1) rfl PySem.F.plainAttrs_list PySem.F.slot_list_append PySem.F.type_list_append mu_append rm (a_cons (e_bin op_dMod r4 (e_ty call_dInt rl (by rfl) (T.free 3) boot_int (a_cons (e_var (i := 3) rfl) a_nil)) e_int) a_nil)))
      (ss_one (N1 := [zz, ll, zz, zz, zz, uu]) (s_set (i := 3) sc__law_draws.nd (w_of_e (e_bin op_dFdiv r4 (e_var (i := 3) rfl) e_int))) rfl)) (ss_nil rfl)) rfl)) rfl) (ss_cons (N1 := [zz, ll, zz, zz, uu, zz]) (s_set (i := 5) sc__law_draws.nd (w_of_e (e_bin op_dMod r4 (e_ty call_dInt rl (by rfl) (T.free 3) boot_int (a_cons (e_bin op_dAdd r4 (e_bin op_dAdd r4 (e_bin op_dMul r4 (e_ty call_dInt rl (by rfl) (T.free 3) boot_int (a_cons (e_var (i := 3) rfl) a_nil)) e_int) (e_bin op_dMul r4 (e_var (i := 2) rfl) e_int)) e_int) a_nil)) e_int)))
      (ss_one (N1 := [zz, ll, zz, zz, uu, zz]) (s_for (ws := [4]) (O2 := [zz, ll, zz, zz, zz, zz]) (passes_of rfl) rfl (i_rng1 (T.free 2) (a_cons e_int a_nil)) (g_name (i := 4) sc__law_draws.nd) (ss_cons (N1 := [zz, ll, zz, zz, zz, zz]) (s_set (i := 5) sc__law_draws.nd (w_of_e (e_bin op_dMod r4 (e_ty call_dInt rl (by rfl) (T.free 3) boot_int (a_cons (e_bin op_dAdd r4 (e_bin op_dAdd r4 (e_bin op_dAdd r4 (e_bin op_dMul r4 (e_var (i := 5) rfl) (e_var (i := 5) rfl)) (e_bin op_dMul r4 (e_var (i := 4) rfl) e_int)) (e_var (i := 2) rfl)) e_int) a_nil)) e_int)))
      (ss_one (N1 := [zz, ll, zz, zz, zz, zz]) (s_expr (e_mut (i := 1) rfl PySem.F.plainAttrs_list PySem.F.slot_list_append PySem.F.type_list_append mu_append rm (a_cons (e_bin op_dFdiv r4 (e_var (i := 5) rfl) e_int) a_nil))) rfl))) rfl))) rfl))))
      (ss_cons (N1 := [zz, ll, uu, uu, uu, uu]) (s_expr (e_mut0 (i := 1) rfl PySem.F.plainAttrs_list PySem.F.slot_list_reverse PySem.F.type_list_reverse mu_reverse rm))
      (ss_one (N1 := [uu]) (s_retO (i := 1) rfl) rfl))))
theorem b__law_tables (T : Tx fa fn ts fx w K mg) : Binds K (fdOf K ("_law_tables", none)) [] [] := (T.fun_ 1 (d := dd__law_tables)).bindsN fun _ _ _ _ _ _ us hl => match us, hl with | [], _ => rfl
theorem ok__law_tables (T : Tx fa fn ts fx w K mg) : FnOk P w K mg base (L2.CX P w) 1 (He.fAd K ("_law_tables", none)) (fdOf K ("_law_tables", none)) [] (spF K [] (.fz) m__law_tables) := by
  refine fn_okD (T.fun_ 1 (d := dd__law_tables)) sc__law_tables rfl (fun cdv A outer s H Ex F B0 pv hr => ?_) (.inl rfl)
  exact (ss_cons (N1 := [zz, uu, uu, uu, uu, uu, uu]) (s_set (i := 0) sc__law_tables.nd (w_of_e (e_lst (a_cons e_str (a_cons e_str (a_cons e_str (a_cons e_str (a_cons e_str (a_cons e_str (a_cons e_str (a_cons e_str a_nil)))))))))))
      (ss_cons (N1 := [zz, zz, uu, uu, uu, uu, uu]) (s_set (i := 1) sc__law_tables.nd (w_of_e (e_lst (a_cons e_str (a_cons e_str (a_cons e_str (a_cons e_str (a_cons e_str (a_cons e_str (a_cons e_str (a_cons e_str a_nil)))))))))))
      (ss_cons (N1 := [zz, zz, zz, uu, uu, uu, uu]) (s_set (i := 2) sc__law_tables.nd (w_of_e (e_lst (a_cons e_str (a_cons e_str (a_cons e_str (a_cons e_str (a_cons e_str (a_cons e_str (a_cons e_str (a_cons e_str a_nil)))))))))))
      (ss_cons (N1 := [zz, zz, zz, zz, uu, uu, uu]) (s_set (i := 3) sc__law_tables.nd (w_of_e (e_lst (a_cons e_str (a_cons e_str (a_cons e_str (a_cons e_str (a_cons e_str (a_cons e_str (a_cons e_str (a_cons e_str a_nil)))))))))))
      (ss_cons (N1 := [zz, zz, zz, zz, zz, uu, uu]) (s_set (i := 4) sc__law_tables.nd (w_of_e (e_lst (a_cons e_int (a_cons e_int (a_cons e_int (a_cons e_int (a_cons e_int (a_cons e_int (a_cons e_int (a_cons e_int a_nil)))))))))))
      (ss_one (N1 := []) (s_ret (w_of_e (e_lst (a_cons (e_lst (a_cons (e_fz (w_lc (own := [("act", 5)]) (O2 := [zz, zz, zz, zz, zz, zz, uu]) rfl sc__law_tables.nd (i_seq (e_var (i := 0) rfl)) (blkOk_by (by kernel_rfl)) (fun F s H C cl fp => (g_name (i := 5) sc__law_tables.nd)) (fun F s H C cl fp => t_nil) (fun F s H C cl fp => (e_tup (a_cons (e_var (i := 5) rfl) (a_cons e_int a_nil)))))) a_nil)) (a_cons (e_lst (a_cons (e_fz (w_lc (own := [("act", 5)]) (O2 := [zz, zz, zz, zz, zz, zz, uu]) rfl sc__law_tables.nd (i_seq (e_var (i := 1) rfl)) (blkOk_by (by kernel_rfl)) (fun F s H C cl fp => (g_name (i := 5) sc__law_tables.nd)) (fun F s H C cl fp => t_nil) (fun F s H C cl fp => (e_tup (a_cons (e_var (i := 5) rfl) (a_cons e_int a_nil)))))) a_nil)) (a_cons (e_lst (a_cons (e_fz (w_lc (own := [("act", 5)]) (O2 := [zz, zz, zz, zz, zz, zz, uu]) rfl sc__law_tables.nd (i_seq (e_var (i := 2) rfl)) (blkOk_by (by kernel_rfl)) (fun F s H C cl fp => (g_name (i := 5) sc__law_tables.nd)) (fun F s H C cl fp => t_nil) (fun F s H C cl fp => (e_tup (a_cons (e_var (i := 5) rfl) (a_cons e_int a_nil)))))) a_nil)) (a_cons (e_lst (a_cons (e_bin op_dAdd r4 (e_lst (a_cons (e_tup (a_cons e_str (a_cons e_int a_nil))) a_nil)) (e_fz (w_lc (own := [("k", 6)]) (O2 := [zz, zz, zz, zz, zz, uu, zz]) rfl sc__law_tables.nd (i_rng1 (T.free 2) (a_cons e_int a_nil)) (blkOk_by (by kernel_rfl)) (fun F s H C cl fp => (g_name (i := 6) sc__law_tables.nd)) (fun F s H C cl fp => t_nil) (fun F s H C cl fp => (e_tup (a_cons e_str (a_cons e_int a_nil))))))) (a_cons (e_fz (w_lc (own := [("k", 6)]) (O2 := [zz, zz, zz, zz, zz, uu, zz]) rfl sc__law_tables.nd (i_rng1 (T.free 2) (a_cons e_int a_nil)) (blkOk_by (by kernel_rfl)) (fun F s H C cl fp => (g_name (i := 6) sc__law_tables.nd)) (fun F s H C cl fp => t_nil) (fun F s H C cl fp => (e_tup (a_cons e_str (a_cons e_int a_nil)))))) a_nil))) (a_cons (e_lst (a_cons (e_fz (w_lc (own := [("k", 6)]) (O2 := [zz, zz, zz, zz, zz, uu, zz]) rfl sc__law_tables.nd (i_rng1 (T.free 2) (a_cons e_int a_nil)) (blkOk_by (by kernel_rfl)) (fun F s H C cl fp => (g_name (i := 6) sc__law_tables.nd)) (fun F s H C cl fp => t_nil) (fun F s H C cl fp => (e_tup (a_cons (e_ix ix_d r4 (e_var (i := 3) rfl) (e_var (i := 6) rfl)) (a_cons (e_ix ix_d r4 (e_var (i := 4) rfl) (e_var (i := 6) rfl)) a_nil)))))) (a_cons (e_fz (w_lc (own := [("act", 5)]) (O2 := [zz, zz, zz, zz, zz, zz, uu]) rfl sc__law_tables.nd (i_seq (e_var (i := 0) rfl)) (blkOk_by (by kernel_rfl)) (fun F s H C cl fp => (g_name (i := 5) sc__law_tables.nd)) (fun F s H C cl fp => t_nil) (fun F s H C cl fp => (e_tup (a_cons (e_var (i := 5) rfl) (a_cons e_int a_nil)))))) a_nil))) a_nil)))))))) rfl))))))
theorem b_rows_in (T : Tx fa fn ts fx w K mg) : Binds K (fdOf K ("rows_in", none)) ["rows", "what", "width"] [] := (T.fun_ 2 (d := dd_rows_in)).bindsN fun _ _ _ _ _ _ us hl => match us, hl with | [_, _, _], _ => rfl
theorem ok_rows_in (T : Tx fa fn ts fx w K mg) : FnOk P w K mg base (L2.CX P w) 1 (He.fAd K ("rows_in", none)) (fdOf K ("rows_in", none)) ["rows", "what", "width"] (spF K [.fz, .fz, .fz] (.fz) m_rows_in) := by
  refine fn_okD (T.fun_ 2 (d := dd_rows_in)) sc_rows_in rfl (fun cdv A outer s H Ex F B0 pv hr => ?_) (.inl rfl)
  exact (ss_cons (N1 := [zz, zz, zz, uu, uu]) (s_if (t_not (t_val (e_blt (call_dIsi (T.itab 0)) rl (by rfl) (T.free 6) boot_isinstance (a_cons (e_var (i := 0) rfl) (a_cons (e_tup (a_cons (e_bty (T.free 4) boot_list) (a_cons (e_bty (T.free 5) boot_tuple) a_nil))) a_nil))))) (ss_one (N1 := [zz, zz, zz, uu, uu]) s_never rfl) (ss_nil rfl))
      (ss_cons (N1 := [zz, zz, zz, ll, uu]) (s_set (i := 3) sc_rows_in.nd (w_lst a_nil))
      (ss_cons (N1 := [zz, zz, zz, ll, uu]) (s_for (ws := [4]) (O2 := [zz, zz, zz, ll, zz]) (passes_of rfl) rfl (i_seq (e_var (i := 0) rfl)) (g_name (i := 4) sc_rows_in.nd) (ss_cons (N1 := [zz, zz, zz, ll, zz]) (s_if (PW.pt (tw_or (t_not (t_val (e_blt (call_dIsi (T.itab 0)) rl (by rfl) (T.free 6) boot_isinstance (a_cons (e_var (i := 4) rfl) (a_cons (e_tup (a_cons (e_bty (T.free 4) boot_list) (a_cons (e_bty (T.free 5) boot_tuple) a_nil))) a_nil))))) (tw_or1 (t_cmp (op_dNe hr.units) r4 (e_blt call_dLen rl (by rfl) (T.free 0) boot_len (a_cons (e_var (i := 4) rfl) a_nil)) (e_var (i := 2) rfl) (nomark _))))) (ss_one (N1 := [zz, zz, zz, ll, zz]) s_never rfl) (ss_nil rfl))
      (ss_one (N1 := [zz, zz, zz, ll, zz]) (s_expr (e_mut (i := 3) rfl PySem.F.plainAttrs_list PySem.F.slot_list_append PySem.F.type_list_append mu_append rm (a_cons (e_ty call_dTuple rl (by rfl) (T.free 5) boot_tuple (a_cons (e_var (i := 4) rfl) a_nil)) a_nil))) rfl)))
      (ss_one (N1 := [uu, uu, uu]) (s_pre (O1 := [zz, zz, zz, zz, uu]) rfl (s_ret (w_of_e (e_var (i := 3) rfl)))) rfl))))
theorem b_is_int (T : Tx fa fn ts fx w K mg) : Binds K (fdOf K ("is_int", none)) ["value"] [] := (T.fun_ 3 (d := dd_is_int)).bindsN fun _ _ _ _ _ _ us hl => match us, hl with | [_], _ => rfl
theorem ok_is_int (T : Tx fa fn ts fx w K mg) : FnOk P w K mg base (L2.CX P w) 1 (He.fAd K ("is_int", none)) (fdOf K ("is_int", none)) ["value"] (spF K [.fz] (.fz) m_is_int) := by
  refine fn_okD (T.fun_ 3 (d := dd_is_int)) sc_is_int rfl (fun cdv A outer s H Ex F B0 pv hr => ?_) (.inl rfl)
  exact (ss_one (N1 := [uu]) (s_ret (w_of_e (e_and (e_blt (call_dIsi (T.itab 0)) rl (by rfl) (T.free 6) boot_isinstance (a_cons (e_var (i := 0) rfl) (a_cons (e_bty (T.free 3) boot_int) a_nil))) (e_one (e_not (e_blt (call_dIsi (T.itab 0)) rl (by rfl) (T.free 6) boot_isinstance (a_cons (e_var (i := 0) rfl) (a_cons (e_bty (T.free 7) boot_bool) a_nil)))))))) rfl)
theorem b_check_int (T : Tx fa fn ts fx w K mg) : Binds K (fdOf K ("check_int", none)) ["value", "what", "least", "most"] [] := (T.fun_ 4 (d := dd_check_int)).bindsN fun _ _ _ _ _ _ us hl => match us, hl with | [_, _, _, _], _ => rfl
theorem ok_check_int (T : Tx fa fn ts fx w K mg) : FnOk P w K mg base (L2.CX P w) 2 (He.fAd K ("check_int", none)) (fdOf K ("check_int", none)) ["value", "what", "least", "most"] (spF K [.fz, .fz, .fz, .fz] (.fz) m_check_int) := by
  refine fn_okD (T.fun_ 4 (d := dd_check_int)) sc_check_int rfl (fun cdv A outer s H Ex F B0 pv hr => ?_) (.inl rfl)
  exact (ss_cons (N1 := [zz, zz, zz, zz]) (s_if (t_not (t_val (e_fz (w_call (ok_is_int T) (hr.mono (by decide)) (takes_of rfl rfl rfl rfl) (T.glo 8) (T.fun_ 3 (d := dd_is_int)).kp (b_is_int T) (ao_dat (e_var (i := 0) rfl) ao_nil))))) (ss_one (N1 := [zz, zz, zz, zz]) s_never rfl) (ss_nil rfl))
      (ss_cons (N1 := [zz, zz, zz, zz]) (s_if (PW.pt (tw_and (t_cmp (op_dIsNot) r4 (e_var (i := 2) rfl) e_non (nomark _)) (tw_and1 (t_cmp (op_dLt) r4 (e_var (i := 0) rfl) (e_var (i := 2) rfl) (nomark _))))) (ss_one (N1 := [zz, zz, zz, zz]) s_never rfl) (ss_nil rfl))
      (ss_cons (N1 := [zz, zz, zz, zz]) (s_if (PW.pt (tw_and (t_cmp (op_dIsNot) r4 (e_var (i := 3) rfl) e_non (nomark _)) (tw_and1 (t_cmp (op_dGt) r4 (e_var (i := 0) rfl) (e_var (i := 3) rfl) (nomark _))))) (ss_one (N1 := [zz, zz, zz, zz]) s_never rfl) (ss_nil rfl))
      (ss_one (N1 := [uu, uu, uu, uu]) (s_ret (w_of_e (e_var (i := 0) rfl))) rfl))))
theorem b__readers_states (T : Tx fa fn ts fx w K mg) : Binds K (fdOf K ("_readers_states", none)) ["states"] [] := (T.fun_ 5 (d := dd__readers_states)).bindsN fun _ _ _ _ _ _ us hl => match us, hl with | [_], _ => rfl
theorem ok__readers_states (T : Tx fa fn ts fx w K mg) : FnOk P w K mg base (L2.CX P w) 3 (He.fAd K ("_readers_states", none)) (fdOf K ("_readers_states", none)) ["states"] (spF K [.fz] (.fz) m__readers_states) := by
  refine fn_okD (T.fun_ 5 (d := dd__readers_states)) sc__readers_states rfl (fun cdv A outer s H Ex F B0 pv hr => ?_) (.inl rfl)
  exact (ss_cons (N1 := [zz, uu, uu, uu, uu, uu, uu]) (s_if (PW.pt (tw_or (t_not (t_val (e_blt (call_dIsi (T.itab 0)) rl (by rfl) (T.free 6) boot_isinstance (a_cons (e_var (i := 0) rfl) (a_cons (e_tup (a_cons (e_bty (T.free 4) boot_list) (a_cons (e_bty (T.free 5) boot_tuple) a_nil))) a_nil))))) (tw_or1 (t_not (t_chain (op_dLe) (op_dLe) cmpI_atom e_int (e_blt call_dLen rl (by rfl) (T.free 0) boot_len (a_cons (e_var (i := 0) rfl) a_nil)) (e_gv (T.val 1))))))) (ss_one (N1 := [zz, uu, uu, uu, uu, uu, uu]) s_never rfl) (ss_nil rfl))
      (ss_cons (N1 := [zz, ll, uu, uu, uu, uu, uu]) (s_set (i := 1) sc__readers_states.nd (w_lst a_nil))
      (ss_cons (N1 := [zz, ll, uu, uu, uu, uu, uu]) (s_for (ws := [2]) (O2 := [zz, ll, zz, uu, uu, uu, uu]) (passes_of rfl) rfl (i_seq (e_var (i := 0) rfl)) (g_name (i := 2) sc__readers_states.nd) (ss_cons (N1 := [zz, ll, zz, zz, uu, uu, uu]) (s_set (i := 3) sc__readers_states.nd (w_of_e (e_fz (w_call (ok_rows_in T) (hr.mono (by decide)) (takes_of rfl rfl rfl rfl) (T.glo 9) (T.fun_ 2 (d := dd_rows_in)).kp (b_rows_in T) (ao_dat (e_var (i := 2) rfl) (ao_dat e_str (ao_dat e_int ao_nil)))))))
      (ss_cons (N1 := [zz, ll, zz, zz, uu, uu, uu]) (s_if (t_cmp (op_dNe hr.units) r4 (e_blt call_dLen rl (by rfl) (T.free 0) boot_len (a_cons (e_var (i := 3) rfl) a_nil)) (e_blt call_dLen rl (by rfl) (T.free 0) boot_len (a_cons (e_gk (T.ktup 2) (T.glo 10)) a_nil)) (nomark _)) (ss_one (N1 := [zz, ll, zz, zz, uu, uu, uu]) s_never rfl) (ss_nil rfl))
      (ss_cons (N1 := [zz, ll, zz, zz, uu, uu, uu]) (s_for (ws := [4, 5, 6]) (O2 := [zz, ll, zz, zz, zz, zz, zz]) (passes_of rfl) rfl (i_enumS (T.free 11) (a_cons (e_var (i := 3) rfl) a_nil)) (g_tup rfl (gs_cons (N1 := [zz, ll, zz, zz, zz, uu, uu]) (g_name (i := 4) sc__readers_states.nd) (gs_cons (N1 := [zz, ll, zz, zz, zz, zz, zz]) (g_tup rfl (gs_cons (N1 := [zz, ll, zz, zz, zz, zz, uu]) (g_name (i := 5) sc__readers_states.nd) (gs_cons (N1 := [zz, ll, zz, zz, zz, zz, zz]) (g_name (i := 6) sc__readers_states.nd) gs_nil))) gs_nil))) (ss_cons (N1 := [zz, ll, zz, zz, zz, zz, zz]) (s_if (PW.pt (tw_or (t_not (t_val (e_blt (call_dIsi (T.itab 0)) rl (by rfl) (T.free 6) boot_isinstance (a_cons (e_var (i := 5) rfl) (a_cons (e_bty (T.free 12) boot_str) a_nil))))) (tw_or1 (t_cmp (op_dNotIn) r4 (e_var (i := 5) rfl) (e_tup (a_cons e_str (a_cons e_str (a_cons e_str (a_cons e_str a_nil))))) rfl)))) (ss_one (N1 := [zz, ll, zz, zz, zz, zz, zz]) s_never rfl) (ss_nil rfl))
      (ss_cons (N1 := [zz, ll, zz, zz, zz, zz, zz]) (s_if (PW.pt (tw_and (t_cmp (op_dIn) r4 (e_var (i := 5) rfl) (e_gk (T.ktup 3) (T.glo 13)) rfl) (tw_and1 (t_cmp (op_dEq hr.units) r4 (e_ix ix_d r4 (e_gk (T.ktup 2) (T.glo 10)) (e_var (i := 4) rfl)) e_str (nomark _))))) (ss_one (N1 := [zz, ll, zz, zz, zz, zz, zz]) s_never rfl) (ss_nil rfl))
      (ss_one (N1 := [zz, ll, zz, zz, zz, zz, zz]) (s_expr (e_fz (w_call (ok_check_int T) (hr.mono (by decide)) (takes_of rfl rfl rfl rfl) (T.glo 14) (T.fun_ 4 (d := dd_check_int)).kp (b_check_int T) (ao_dat (e_var (i := 6) rfl) (ao_dat e_str (ao_dat e_int (ao_dat (e_bin op_dSub r4 (e_blt call_dLen rl (by rfl) (T.free 0) boot_len (a_cons (e_var (i := 0) rfl) a_nil)) e_int) ao_nil))))))) rfl))))
      (ss_one (N1 := [zz, ll, zz, zz, uu, uu, uu]) (s_expr (e_mut (i := 1) rfl PySem.F.plainAttrs_list PySem.F.slot_list_append PySem.F.type_list_append mu_append rm (a_cons (e_ty call_dTuple rl (by rfl) (T.free 5) boot_tuple (a_cons (e_var (i := 3) rfl) a_nil)) a_nil))) rfl)))))
      (ss_one (N1 := [uu]) (s_pre (O1 := [zz, zz, uu, uu, uu, uu, uu]) rfl (s_ret (w_of_e (e_ty call_dTuple rl (by rfl) (T.free 5) boot_tuple (a_cons (e_var (i := 1) rfl) a_nil))))) rfl))))
theorem b__readers_fair (T : Tx fa fn ts fx w K mg) : Binds K (fdOf K ("_readers_fair", none)) ["states"] [] := (T.fun_ 6 (d := dd__readers_fair)).bindsN fun _ _ _ _ _ _ us hl => match us, hl with | [_], _ => rfl
theorem ok__readers_fair (T : Tx fa fn ts fx w K mg) : FnOk P w K mg base (L2.CX P w) 1 (He.fAd K ("_readers_fair", none)) (fdOf K ("_readers_fair", none)) ["states"] (spF K [.fz] (.fz) m__readers_fair) := by
  refine fn_okD (T.fun_ 6 (d := dd__readers_fair)) sc__readers_fair rfl (fun cdv A outer s H Ex F B0 pv hr => ?_) (.inl rfl)
  exact (ss_cons (N1 := [zz, ll]) (s_set (i := 1) sc__readers_fair.nd (w_lst (a_cons e_int a_nil)))
      (ss_cons (N1 := [zz, ll]) (s_while 100000 (passes_of rfl) (t_cmpO (i := 1) rfl (op_dNotIn) r4 dNotIn_atom (e_ix ix_d r4 (e_ix ix_d r4 (e_ix ix_d r4 (e_var (i := 0) rfl) (e_ixO (i := 1) rfl (e_un un_dNeg r3 e_int))) e_int) e_int)) (ss_one (N1 := [zz, ll]) (s_expr (e_mut (i := 1) rfl PySem.F.plainAttrs_list PySem.F.slot_list_append PySem.F.type_list_append mu_append rm (a_cons (e_ix ix_d r4 (e_ix ix_d r4 (e_ix ix_d r4 (e_var (i := 0) rfl) (e_ixO (i := 1) rfl (e_un un_dNeg r3 e_int))) e_int) e_int) a_nil))) rfl))
      (ss_one (N1 := [uu]) (s_pre (O1 := [zz, zz]) rfl (s_ret (w_of_e (e_var (i := 1) rfl)))) rfl)))
theorem b__readers_takes (T : Tx fa fn ts fx w K mg) : Binds K (fdOf K ("_readers_takes", none)) ["states"] [] := (T.fun_ 7 (d := dd__readers_takes)).bindsN fun _ _ _ _ _ _ us hl => match us, hl with | [_], _ => rfl
theorem ok__readers_takes (T : Tx fa fn ts fx w K mg) : FnOk P w K mg base (L2.CX P w) 2 (He.fAd K ("_readers_takes", none)) (fdOf K ("_readers_takes", none)) ["states"] (spF K [.fz] (.fz) m__readers_takes) := by
  refine fn_okD (T.fun_ 7 (d := dd__readers_takes)) sc__readers_takes rfl (fun cdv A outer s H Ex F B0 pv hr => ?_) (.inl rfl)
  exact (ss_cons (N1 := [zz, uu]) (s_for (ws := [1]) (O2 := [zz, zz]) (passes_of rfl) rfl (i_seq (e_fz (w_call (ok__readers_fair T) (hr.mono (by decide)) (takes_of rfl rfl rfl rfl) (T.glo 15) (T.fun_ 6 (d := dd__readers_fair)).kp (b__readers_fair T) (ao_dat (e_var (i := 0) rfl) ao_nil)))) (g_name (i := 1) sc__readers_takes.nd) (ss_one (N1 := [zz, zz]) (s_if (t_cmp (op_dNotIn) r4 (e_ix ix_d r4 (e_ix ix_d r4 (e_ix ix_d r4 (e_var (i := 0) rfl) (e_var (i := 1) rfl)) e_int) e_int) (e_gk (T.ktup 3) (T.glo 13)) rfl) (ss_one (N1 := [zz, zz]) (s_ret (w_of_e e_bl)) rfl) (ss_nil rfl)) rfl))
      (ss_one (N1 := [uu]) (s_ret (w_of_e e_bl)) rfl))
theorem ok_Reader_init (T : Tx fa fn ts fx w K mg) : FnOk P w K mg base (L2.CX P w) 4 (He.fAd K ("Reader", some "__init__")) (fdOf K ("Reader", some "__init__")) ["self", "states", "name"] (spF K [.oi, .fz, .fz] (.fz) m_Reader_init) := by
  refine fn_okD (T.fun_ 8 (d := dd_Reader_init)) sc_Reader_init rfl (fun cdv A outer s H Ex F B0 pv hr => ?_) (.inl rfl)
  exact (ss_cons (N1 := [ii, zz, zz]) (s_fld (i := 0) (C := "Reader") rfl (e_fz (w_call (ok__readers_states T) (hr.mono (by decide)) (takes_of rfl rfl rfl rfl) (T.glo 16) (T.fun_ 5 (d := dd__readers_states)).kp (b__readers_states T) (ao_dat (e_var (i := 1) rfl) ao_nil))) (T.cls 17) (T.noat 18))
      (ss_cons (N1 := [ii, zz, zz]) (s_if (t_not (t_val (e_fz (w_call (ok__readers_takes T) (hr.mono (by decide)) (takes_of rfl rfl rfl rfl) (T.glo 19) (T.fun_ 7 (d := dd__readers_takes)).kp (b__readers_takes T) (ao_dat (e_fldO (i := 0) (C := "Reader") rfl (T.cls 17) (T.noat 18)) ao_nil))))) (ss_one (N1 := [ii, zz, zz]) s_never rfl) (ss_nil rfl))
      (ss_cons (N1 := [ii, zz, zz]) (s_if (t_not (t_val (e_blt (call_dIsi (T.itab 0)) rl (by rfl) (T.free 6) boot_isinstance (a_cons (e_var (i := 2) rfl) (a_cons (e_bty (T.free 12) boot_str) a_nil))))) (ss_one (N1 := [ii, zz, zz]) s_never rfl) (ss_nil rfl))
      (ss_one (N1 := [ii, zz, zz]) (s_fld (i := 0) (C := "Reader") rfl (e_var (i := 2) rfl) (T.cls 17) (T.noat 20)) rfl))))
theorem k1_name_Reader_init (T : Tx fa fn ts fx w K mg) : ∃ (mv : List Value), KBn K (fdOf K ("Reader", some "__init__")) ["self", "states", "name"] (1 + 1) ["name"] (fun us ws => kwPut us ws) (fun vs zs => kwPut vs zs) :=
  (T.fun_ 8 (d := dd_Reader_init)).kbinds0 (ps := ["self", "states", "name"]) 2 ["name"] [] (fun us _ ws => kwPut us ws) (fun z => nomatch z) (fun _ h => nomatch h) (fun r1 _ r3 => kwPut_vals r1 r3) fun _ _ _ _ _ _ us mv ws h1 h2 h3 => match us, mv, ws, h1, h2, h3 with | [_, _], [], [_], _, _, _ => rfl
theorem b1_Reader_init (T : Tx fa fn ts fx w K mg) : ∃ (dus : List Value) (dvs : List V), Vals dvs dus ∧ (∀ B, RepL K B dvs [.str ""]) ∧ Binds K (fdOf K ("Reader", some "__init__")) ["self", "states", "name"] dus := by
  obtain ⟨ds, hv, hb⟩ := (T.fun_ 8 (d := dd_Reader_init)).binds0 (ps := ["self", "states", "name"]) 2 (fun z => nomatch z) rfl fun _ _ _ _ _ _ us ks hl hk => match us, ks, hl, hk with | [_, _], [_], _, _ => ⟨_, _, _, _, _, _, rfl, rfl, rfl⟩
  exact ⟨ds, _, hv, fun _ => (.cons (.str _) .nil), hb⟩
theorem b__toldreaders_entries (T : Tx fa fn ts fx w K mg) : Binds K (fdOf K ("_toldreaders_entries", none)) ["acts", "state"] [] := (T.fun_ 9 (d := dd__toldreaders_entries)).bindsN fun _ _ _ _ _ _ us hl => match us, hl with | [_, _], _ => rfl
theorem ok__toldreaders_entries (T : Tx fa fn ts fx w K mg) : FnOk P w K mg base (L2.CX P w) 1 (He.fAd K ("_toldreaders_entries", none)) (fdOf K ("_toldreaders_entries", none)) ["acts", "state"] (spF K [.fz, .fz] (.fz) m__toldreaders_entries) := by
  refine fn_okD (T.fun_ 9 (d := dd__toldreaders_entries)) sc__toldreaders_entries rfl (fun cdv A outer s H Ex F B0 pv hr => ?_) (.inl rfl)
  exact (ss_one (N1 := [uu, uu]) (s_ret (w_of_e (e_fz (w_lc (own := [("act", 2)]) (O2 := [zz, zz, zz]) rfl sc__toldreaders_entries.nd (i_seq (e_var (i := 0) rfl)) (blkOk_by (by kernel_rfl)) (fun F s H C cl fp => (g_name (i := 2) sc__toldreaders_entries.nd)) (fun F s H C cl fp => t_nil) (fun F s H C cl fp => (e_tup (a_cons (e_var (i := 2) rfl) (a_cons (e_var (i := 1) rfl) a_nil)))))))) rfl)
theorem b_by_table (T : Tx fa fn ts fx w K mg) : Binds K (fdOf K ("by_table", none)) [] [] := (T.fun_ 10 (d := dd_by_table)).bindsN fun _ _ _ _ _ _ us hl => match us, hl with | [], _ => rfl
theorem ok_by_table (T : Tx fa fn ts fx w K mg) : FnOk P w K mg base (L2.CX P w) 6 (He.fAd K ("by_table", none)) (fdOf K ("by_table", none)) [] (spF K [] (.fz) m_by_table) := by
  obtain ⟨kz0, kb0⟩ := k1_name_Reader_init T
  refine fn_okD (T.fun_ 10 (d := dd_by_table)) sc_by_table rfl (fun cdv A outer s H Ex F B0 pv hr => ?_) (.inl rfl)
  exact (ss_one (N1 := []) (s_ret (w_of_e (e_fz (w_makeK (C := "Reader") (n := 2) (T.mkr 23) (ok_Reader_init T) (hr.mono (by decide)) (takes_of rfl rfl rfl rfl) (T.glo 24) (kbn_put kb0) (gKw_ok (by decide)) (a_cons (e_lst (a_cons (e_fz (w_call (ok__toldreaders_entries T) (hr.mono (by decide)) (takes_of rfl rfl rfl rfl) (T.glo 22) (T.fun_ 9 (d := dd__toldreaders_entries)).kp (b__toldreaders_entries T) (ao_dat (e_gk (T.ktup 4) (T.glo 21)) (ao_dat e_int ao_nil)))) a_nil)) a_nil) (k_cons e_str k_nil) rfl)))) rfl)
theorem b_through (T : Tx fa fn ts fx w K mg) : Binds K (fdOf K ("through", none)) [] [] := (T.fun_ 11 (d := dd_through)).bindsN fun _ _ _ _ _ _ us hl => match us, hl with | [], _ => rfl
theorem ok_through (T : Tx fa fn ts fx w K mg) : FnOk P w K mg base (L2.CX P w) 6 (He.fAd K ("through", none)) (fdOf K ("through", none)) [] (spF K [] (.fz) m_through) := by
  obtain ⟨kz0, kb0⟩ := k1_name_Reader_init T
  refine fn_okD (T.fun_ 11 (d := dd_through)) sc_through rfl (fun cdv A outer s H Ex F B0 pv hr => ?_) (.inl rfl)
  exact (ss_one (N1 := []) (s_ret (w_of_e (e_fz (w_makeK (C := "Reader") (n := 2) (T.mkr 23) (ok_Reader_init T) (hr.mono (by decide)) (takes_of rfl rfl rfl rfl) (T.glo 24) (kbn_put kb0) (gKw_ok (by decide)) (a_cons (e_lst (a_cons (e_fz (w_call (ok__toldreaders_entries T) (hr.mono (by decide)) (takes_of rfl rfl rfl rfl) (T.glo 22) (T.fun_ 9 (d := dd__toldreaders_entries)).kp (b__toldreaders_entries T) (ao_dat (e_gk (T.ktup 5) (T.glo 25)) (ao_dat e_int ao_nil)))) a_nil)) a_nil) (k_cons e_str k_nil) rfl)))) rfl)
theorem b_both_ways (T : Tx fa fn ts fx w K mg) : Binds K (fdOf K ("both_ways", none)) [] [] := (T.fun_ 12 (d := dd_both_ways)).bindsN fun _ _ _ _ _ _ us hl => match us, hl with | [], _ => rfl
theorem ok_both_ways (T : Tx fa fn ts fx w K mg) : FnOk P w K mg base (L2.CX P w) 6 (He.fAd K ("both_ways", none)) (fdOf K ("both_ways", none)) [] (spF K [] (.fz) m_both_ways) := by
  obtain ⟨kz0, kb0⟩ := k1_name_Reader_init T
  refine fn_okD (T.fun_ 12 (d := dd_both_ways)) sc_both_ways rfl (fun cdv A outer s H Ex F B0 pv hr => ?_) (.inl rfl)
  exact (ss_one (N1 := []) (s_ret (w_of_e (e_fz (w_makeK (C := "Reader") (n := 2) (T.mkr 23) (ok_Reader_init T) (hr.mono (by decide)) (takes_of rfl rfl rfl rfl) (T.glo 24) (kbn_put kb0) (gKw_ok (by decide)) (a_cons (e_lst (a_cons (e_fz (w_call (ok__toldreaders_entries T) (hr.mono (by decide)) (takes_of rfl rfl rfl rfl) (T.glo 22) (T.fun_ 9 (d := dd__toldreaders_entries)).kp (b__toldreaders_entries T) (ao_dat (e_gk (T.ktup 6) (T.glo 26)) (ao_dat e_int ao_nil)))) a_nil)) a_nil) (k_cons e_str k_nil) rfl)))) rfl)
theorem b_careful (T : Tx fa fn ts fx w K mg) : Binds K (fdOf K ("careful", none)) [] [] := (T.fun_ 13 (d := dd_careful)).bindsN fun _ _ _ _ _ _ us hl => match us, hl with | [], _ => rfl
theorem ok_careful (T : Tx fa fn ts fx w K mg) : FnOk P w K mg base (L2.CX P w) 6 (He.fAd K ("careful", none)) (fdOf K ("careful", none)) [] (spF K [] (.fz) m_careful) := by
  obtain ⟨kz0, kb0⟩ := k1_name_Reader_init T
  refine fn_okD (T.fun_ 13 (d := dd_careful)) sc_careful rfl (fun cdv A outer s H Ex F B0 pv hr => ?_) (.inl rfl)
  exact (ss_cons (N1 := [zz, uu]) (s_set (i := 0) sc_careful.nd (w_of_e (e_bin op_dAdd r4 (e_lst (a_cons (e_tup (a_cons e_str (a_cons e_int a_nil))) a_nil)) (e_fz (w_lc (own := [("place", 1)]) (O2 := [uu, zz]) rfl sc_careful.nd (i_rng1 (T.free 2) (a_cons e_int a_nil)) (blkOk_by (by kernel_rfl)) (fun F s H C cl fp => (g_name (i := 1) sc_careful.nd)) (fun F s H C cl fp => t_nil) (fun F s H C cl fp => (e_tup (a_cons e_str (a_cons e_int a_nil)))))))))
      (ss_one (N1 := []) (s_ret (w_of_e (e_fz (w_makeK (C := "Reader") (n := 2) (T.mkr 23) (ok_Reader_init T) (hr.mono (by decide)) (takes_of rfl rfl rfl rfl) (T.glo 24) (kbn_put kb0) (gKw_ok (by decide)) (a_cons (e_lst (a_cons (e_var (i := 0) rfl) (a_cons (e_fz (w_lc (own := [("place", 1)]) (O2 := [zz, zz]) rfl sc_careful.nd (i_rng1 (T.free 2) (a_cons e_int a_nil)) (blkOk_by (by kernel_rfl)) (fun F s H C cl fp => (g_name (i := 1) sc_careful.nd)) (fun F s H C cl fp => t_nil) (fun F s H C cl fp => (e_tup (a_cons e_str (a_cons e_int a_nil)))))) a_nil))) a_nil) (k_cons e_str k_nil) rfl)))) rfl))
theorem b_adopting (T : Tx fa fn ts fx w K mg) : Binds K (fdOf K ("adopting", none)) [] [] := (T.fun_ 14 (d := dd_adopting)).bindsN fun _ _ _ _ _ _ us hl => match us, hl with | [], _ => rfl
theorem ok_adopting (T : Tx fa fn ts fx w K mg) : FnOk P w K mg base (L2.CX P w) 6 (He.fAd K ("adopting", none)) (fdOf K ("adopting", none)) [] (spF K [] (.fz) m_adopting) := by
  obtain ⟨kz0, kb0⟩ := k1_name_Reader_init T
  refine fn_okD (T.fun_ 14 (d := dd_adopting)) sc_adopting rfl (fun cdv A outer s H Ex F B0 pv hr => ?_) (.inl rfl)
  exact (ss_cons (N1 := [ll]) (s_set (i := 0) sc_adopting.nd (w_lst (a_cons (e_tup (a_cons e_str (a_cons e_int a_nil))) (a_cons (e_tup (a_cons e_str (a_cons e_int a_nil))) (a_cons (e_tup (a_cons e_str (a_cons e_int a_nil))) (a_cons (e_tup (a_cons e_str (a_cons e_int a_nil))) a_nil))))))
      (ss_cons (N1 := [ll]) (s_expr (e_mut (i := 0) rfl PySem.F.plainAttrs_list PySem.F.slot_list_extend PySem.F.type_list_extend mu_extend rm (a_cons (e_lst (a_cons (e_tup (a_cons e_str (a_cons e_int a_nil))) (a_cons (e_tup (a_cons e_str (a_cons e_int a_nil))) (a_cons (e_tup (a_cons e_str (a_cons e_int a_nil))) (a_cons (e_tup (a_cons e_str (a_cons e_int a_nil))) a_nil))))) a_nil)))
      (ss_one (N1 := []) (s_pre (O1 := [zz]) rfl (s_ret (w_of_e (e_fz (w_makeK (C := "Reader") (n := 2) (T.mkr 23) (ok_Reader_init T) (hr.mono (by decide)) (takes_of rfl rfl rfl rfl) (T.glo 24) (kbn_put kb0) (gKw_ok (by decide)) (a_cons (e_lst (a_cons (e_var (i := 0) rfl) (a_cons (e_fz (w_call (ok__toldreaders_entries T) (hr.mono (by decide)) (takes_of rfl rfl rfl rfl) (T.glo 22) (T.fun_ 9 (d := dd__toldreaders_entries)).kp (b__toldreaders_entries T) (ao_dat (e_gk (T.ktup 4) (T.glo 21)) (ao_dat e_int ao_nil)))) a_nil))) a_nil) (k_cons e_str k_nil) rfl))))) rfl)))
theorem b_told_readers (T : Tx fa fn ts fx w K mg) : Binds K (fdOf K ("told_readers", none)) [] [] := (T.fun_ 15 (d := dd_told_readers)).bindsN fun _ _ _ _ _ _ us hl => match us, hl with | [], _ => rfl
theorem ok_told_readers (T : Tx fa fn ts fx w K mg) : FnOk P w K mg base (L2.CX P w) 7 (He.fAd K ("told_readers", none)) (fdOf K ("told_readers", none)) [] (spF K [] (.ow .fz) m_told_readers) := by
  refine fn_okD (T.fun_ 15 (d := dd_told_readers)) sc_told_readers rfl (fun cdv A outer s H Ex F B0 pv hr => ?_) (.inr nn_ret)
  exact (ss_one (N1 := []) (s_ret (w_lst (a_cons (e_fz (w_call0 (ok_by_table T) (hr.mono (by decide)) (takes_of rfl rfl rfl rfl) (T.glo 27) (T.fun_ 10 (d := dd_by_table)).kp (b_by_table T))) (a_cons (e_fz (w_call0 (ok_through T) (hr.mono (by decide)) (takes_of rfl rfl rfl rfl) (T.glo 28) (T.fun_ 11 (d := dd_through)).kp (b_through T))) (a_cons (e_fz (w_call0 (ok_both_ways T) (hr.mono (by decide)) (takes_of rfl rfl rfl rfl) (T.glo 29) (T.fun_ 12 (d := dd_both_ways)).kp (b_both_ways T))) (a_cons (e_fz (w_call0 (ok_careful T) (hr.mono (by decide)) (takes_of rfl rfl rfl rfl) (T.glo 30) (T.fun_ 13 (d := dd_careful)).kp (b_careful T))) (a_cons (e_fz (w_call0 (ok_adopting T) (hr.mono (by decide)) (takes_of rfl rfl rfl rfl) (T.glo 31) (T.fun_ 14 (d := dd_adopting)).kp (b_adopting T))) a_nil))))))) rfl)
theorem b_check_letter (T : Tx fa fn ts fx w K mg) : Binds K (fdOf K ("check_letter", none)) ["letter", "what"] [] := (T.fun_ 16 (d := dd_check_letter)).bindsN fun _ _ _ _ _ _ us hl => match us, hl with | [_, _], _ => rfl
theorem ok_check_letter (T : Tx fa fn ts fx w K mg) : FnOk P w K mg base (L2.CX P w) 1 (He.fAd K ("check_letter", none)) (fdOf K ("check_letter", none)) ["letter", "what"] (spF K [.fz, .fz] (.fz) m_check_letter) := by
  refine fn_okD (T.fun_ 16 (d := dd_check_letter)) sc_check_letter rfl (fun cdv A outer s H Ex F B0 pv hr => ?_) (.inl rfl)
  exact (ss_cons (N1 := [zz, zz]) (s_if (PW.pt (tw_or (t_not (t_val (e_blt (call_dIsi (T.itab 0)) rl (by rfl) (T.free 6) boot_isinstance (a_cons (e_var (i := 0) rfl) (a_cons (e_bty (T.free 12) boot_str) a_nil))))) (tw_or1 (t_notInT (T.tab 7 0) (e_var (i := 0) rfl) (pe_glob (by rfl) (T.glo 32) rfl))))) (ss_one (N1 := [zz, zz]) s_never rfl) (ss_nil rfl))
      (ss_one (N1 := [uu, uu]) (s_ret (w_of_e (e_var (i := 0) rfl))) rfl))
theorem b_Reader_entry (T : Tx fa fn ts fx w K mg) : Binds K (fdOf K ("Reader", some "entry")) ["self", "state", "letter"] [] := (T.fun_ 17 (d := dd_Reader_entry)).bindsN fun _ _ _ _ _ _ us hl => match us, hl with | [_, _, _], _ => rfl
theorem ok_Reader_entry (T : Tx fa fn ts fx w K mg) : FnOk P w K mg base (L2.CX P w) 3 (He.fAd K ("Reader", some "entry")) (fdOf K ("Reader", some "entry")) ["self", "state", "letter"] (spF K [.fz, .fz, .fz] (.fz) m_Reader_entry) := by
  refine fn_okD (T.fun_ 17 (d := dd_Reader_entry)) sc_Reader_entry rfl (fun cdv A outer s H Ex F B0 pv hr => ?_) (.inl rfl)
  exact (ss_cons (N1 := [zz, zz, zz]) (s_expr (e_fz (w_call (ok_check_int T) (hr.mono (by decide)) (takes_of rfl rfl rfl rfl) (T.glo 14) (T.fun_ 4 (d := dd_check_int)).kp (b_check_int T) (ao_dat (e_var (i := 1) rfl) (ao_dat e_str (ao_dat e_int (ao_dat (e_bin op_dSub r4 (e_blt call_dLen rl (by rfl) (T.free 0) boot_len (a_cons (e_fld (C := "Reader") (e_var (i := 0) rfl) (T.cls 17) (T.noat 18)) a_nil)) e_int) ao_nil)))))))
      (ss_cons (N1 := [zz, zz, zz]) (s_expr (e_fz (w_call (ok_check_letter T) (hr.mono (by decide)) (takes_of rfl rfl rfl rfl) (T.glo 33) (T.fun_ 16 (d := dd_check_letter)).kp (b_check_letter T) (ao_dat (e_var (i := 2) rfl) (ao_dat e_str ao_nil)))))
      (ss_cons (N1 := [zz, zz, zz]) (s_if (t_cmp (op_dEq hr.units) r4 (e_var (i := 2) rfl) e_str (nomark _)) (ss_one (N1 := [zz, zz, zz]) (s_ret (w_of_e (e_tup (a_cons e_str (a_cons (e_var (i := 1) rfl) a_nil))))) rfl) (ss_nil rfl))
      (ss_one (N1 := [uu, uu, uu]) (s_ret (w_of_e (e_ix ix_d r4 (e_ix ix_d r4 (e_fld (C := "Reader") (e_var (i := 0) rfl) (T.cls 17) (T.noat 18)) (e_var (i := 1) rfl)) (e_indexK (ys := ["P", "B", "X", "H", "TB", "T1", "T2", "TX"]) (T.ktup 2) rfl (pe_glob (by rfl) (T.glo 10) rfl) (e_var (i := 2) rfl))))) rfl))))
theorem b__law_letters (T : Tx fa fn ts fx w K mg) : Binds K (fdOf K ("_law_letters", none)) [] [] := (T.fun_ 18 (d := dd__law_letters)).bindsN fun _ _ _ _ _ _ us hl => match us, hl with | [], _ => rfl
theorem ok__law_letters (T : Tx fa fn ts fx w K mg) : FnOk P w K mg base (L2.CX P w) 1 (He.fAd K ("_law_letters", none)) (fdOf K ("_law_letters", none)) [] (spF K [] (.fz) m__law_letters) := by
  refine fn_okD (T.fun_ 18 (d := dd__law_letters)) sc__law_letters rfl (fun cdv A outer s H Ex F B0 pv hr => ?_) (.inl rfl)
  exact (ss_one (N1 := []) (s_ret (w_of_e (e_lst (a_cons e_str (a_cons e_str (a_cons e_str (a_cons e_str (a_cons e_str (a_cons e_str (a_cons e_str (a_cons e_str a_nil))))))))))) rfl)
theorem b_Reader_eq (T : Tx fa fn ts fx w K mg) : Binds K (fdOf K ("Reader", some "__eq__")) ["self", "other"] [] := (T.fun_ 19 (d := dd_Reader_eq)).bindsN fun _ _ _ _ _ _ us hl => match us, hl with | [_, _], _ => rfl
theorem ok_Reader_eq (T : Tx fa fn ts fx w K mg) : FnOk P w K mg base (L2.CX P w) 1 (He.fAd K ("Reader", some "__eq__")) (fdOf K ("Reader", some "__eq__")) ["self", "other"] (spF K [.fz, .fz] (.fz) m_Reader_eq) := by
  refine fn_okD (T.fun_ 19 (d := dd_Reader_eq)) sc_Reader_eq rfl (fun cdv A outer s H Ex F B0 pv hr => ?_) (.inl rfl)
  exact (ss_cons (N1 := [zz, zz]) (s_if (t_not (t_val (e_blt (call_dIsi (T.itab 0)) rl (by rfl) (T.free 6) boot_isinstance (a_cons (e_var (i := 1) rfl) (a_cons (e_gfn (T.glo 24)) a_nil))))) (ss_one (N1 := [zz, zz]) (s_ret (w_of_e e_bl)) rfl) (ss_nil rfl))
      (ss_one (N1 := [uu, uu]) (s_ret (w_of_e (e_cmp (op_dEq hr.units) r4 (e_fld (C := "Reader") (e_var (i := 0) rfl) (T.cls 17) (T.noat 18)) (e_fld (C := "Reader") (e_var (i := 1) rfl) (T.cls 17) (T.noat 18)) (nomark _)))) rfl))
theorem b__law_reader_is (T : Tx fa fn ts fx w K mg) : Binds K (fdOf K ("_law_reader_is", none)) ["reader", "states", "name"] [] := (T.fun_ 20 (d := dd__law_reader_is)).bindsN fun _ _ _ _ _ _ us hl => match us, hl with | [_, _, _], _ => rfl
theorem ok__law_reader_is (T : Tx fa fn ts fx w K mg) : FnOk P w K mg base (L2.CX P w) 6 (He.fAd K ("_law_reader_is", none)) (fdOf K ("_law_reader_is", none)) ["reader", "states", "name"] (spF K [.fz, .fz, .fz] (.fz) m__law_reader_is) := by
  obtain ⟨du0, dv0, hv0, hq0, hb0⟩ := b1_Reader_init T
  refine fn_okD (T.fun_ 20 (d := dd__law_reader_is)) sc__law_reader_is rfl (fun cdv A outer s H Ex F B0 pv hr => ?_) (.inl rfl)
  exact (ss_cons (N1 := [zz, zz, zz, uu, uu]) (s_if (PW.pt (tw_or (t_not (t_val (e_blt (call_dIsi (T.itab 0)) rl (by rfl) (T.free 6) boot_isinstance (a_cons (e_var (i := 0) rfl) (a_cons (e_gfn (T.glo 24)) a_nil))))) (tw_or (t_cmp (op_dNe hr.units) r4 (e_fld (C := "Reader") (e_var (i := 0) rfl) (T.cls 17) (T.noat 20)) (e_var (i := 2) rfl) (nomark _)) (tw_or1 (t_cmp (op_dNe hr.units) r4 (e_blt call_dLen rl (by rfl) (T.free 0) boot_len (a_cons (e_fld (C := "Reader") (e_var (i := 0) rfl) (T.cls 17) (T.noat 18)) a_nil)) (e_blt call_dLen rl (by rfl) (T.free 0) boot_len (a_cons (e_var (i := 1) rfl) a_nil)) (nomark _)))))) (ss_one (N1 := [zz, zz, zz, uu, uu]) (s_ret (w_of_e e_bl)) rfl) (ss_nil rfl))
      (ss_cons (N1 := [zz, zz, zz, uu, uu]) (s_for (ws := [3]) (O2 := [zz, zz, zz, zz, uu]) (passes_of rfl) rfl (i_rng1 (T.free 2) (a_cons (e_blt call_dLen rl (by rfl) (T.free 0) boot_len (a_cons (e_var (i := 1) rfl) a_nil)) a_nil)) (g_name (i := 3) sc__law_reader_is.nd) (ss_one (N1 := [zz, zz, zz, zz, uu]) (s_for (ws := [4]) (O2 := [zz, zz, zz, zz, zz]) (passes_of rfl) rfl (i_rng1 (T.free 2) (a_cons e_int a_nil)) (g_name (i := 4) sc__law_reader_is.nd) (ss_one (N1 := [zz, zz, zz, zz, zz]) (s_if (t_cmp (op_dNe hr.units) r4 (e_fz (w_meth (C := "Reader") (e_var (i := 0) rfl) (T.cls 17) (T.meth 35) (ok_Reader_entry T) (hr.mono (by decide)) (takes_of rfl rfl rfl rfl) (b_Reader_entry T) (ao_dat (e_var (i := 3) rfl) (ao_dat (e_ix ix_d r4 (e_fz (w_call0 (ok__law_letters T) (hr.mono (by decide)) (takes_of rfl rfl rfl rfl) (T.glo 34) (T.fun_ 18 (d := dd__law_letters)).kp (b__law_letters T))) (e_var (i := 4) rfl)) ao_nil)))) (e_ix ix_d r4 (e_ix ix_d r4 (e_var (i := 1) rfl) (e_var (i := 3) rfl)) (e_var (i := 4) rfl)) (nomark _)) (ss_one (N1 := [zz, zz, zz, zz, zz]) (s_ret (w_of_e e_bl)) rfl) (ss_nil rfl)) rfl)) rfl))
      (ss_one (N1 := [uu, uu, uu]) (s_ret (w_of_e (e_cmp (op_dEqI (C := "Reader") (T.meq 8).1 (T.meq 8).2 (ok_Reader_eq T) (hr.mono (by decide)) (b_Reader_eq T)) r4 (e_var (i := 0) rfl) (e_fz (w_make (C := "Reader") (n := 2) (dds := [.str ""]) (T.mkr 23) (ok_Reader_init T) (hr.mono (by decide)) (takes_of rfl rfl rfl rfl) (T.glo 24) hb0 hv0 hq0 (a_cons (e_var (i := 1) rfl) a_nil) rfl)) rfl))) rfl)))
theorem b__law_names (T : Tx fa fn ts fx w K mg) : Binds K (fdOf K ("_law_names", none)) [] [] := (T.fun_ 21 (d := dd__law_names)).bindsN fun _ _ _ _ _ _ us hl => match us, hl with | [], _ => rfl
theorem ok__law_names (T : Tx fa fn ts fx w K mg) : FnOk P w K mg base (L2.CX P w) 1 (He.fAd K ("_law_names", none)) (fdOf K ("_law_names", none)) [] (spF K [] (.fz) m__law_names) := by
  refine fn_okD (T.fun_ 21 (d := dd__law_names)) sc__law_names rfl (fun cdv A outer s H Ex F B0 pv hr => ?_) (.inl rfl)
  exact (ss_one (N1 := []) (s_ret (w_of_e (e_lst (a_cons e_str (a_cons e_str (a_cons e_str (a_cons e_str (a_cons e_str a_nil)))))))) rfl)
theorem b__law_parting (T : Tx fa fn ts fx w K mg) : Binds K (fdOf K ("_law_parting", none)) [] [] := (T.fun_ 22 (d := dd__law_parting)).bindsN fun _ _ _ _ _ _ us hl => match us, hl with | [], _ => rfl
theorem ok__law_parting (T : Tx fa fn ts fx w K mg) : FnOk P w K mg base (L2.CX P w) 1 (He.fAd K ("_law_parting", none)) (fdOf K ("_law_parting", none)) [] (spF K [] (.fz) m__law_parting) := by
  refine fn_okD (T.fun_ 22 (d := dd__law_parting)) sc__law_parting rfl (fun cdv A outer s H Ex F B0 pv hr => ?_) (.inl rfl)
  exact (ss_one (N1 := []) (s_ret (w_of_e (e_lst (a_cons (e_tup (a_cons e_int (a_cons e_int (a_cons (e_lst (a_cons e_str a_nil)) a_nil)))) (a_cons (e_tup (a_cons e_int (a_cons e_int (a_cons (e_lst (a_cons e_str a_nil)) a_nil)))) (a_cons (e_tup (a_cons e_int (a_cons e_int (a_cons (e_lst (a_cons e_str a_nil)) a_nil)))) (a_cons (e_tup (a_cons e_int (a_cons e_int (a_cons (e_lst (a_cons e_str a_nil)) a_nil)))) (a_cons (e_tup (a_cons e_int (a_cons e_int (a_cons (e_lst (a_cons e_str a_nil)) a_nil)))) (a_cons (e_tup (a_cons e_int (a_cons e_int (a_cons (e_lst (a_cons e_str a_nil)) a_nil)))) (a_cons (e_tup (a_cons e_int (a_cons e_int (a_cons (e_lst (a_cons e_str a_nil)) a_nil)))) (a_cons (e_tup (a_cons e_int (a_cons e_int (a_cons (e_lst (a_cons e_str a_nil)) a_nil)))) (a_cons (e_tup (a_cons e_int (a_cons e_int (a_cons (e_lst (a_cons e_str a_nil)) a_nil)))) (a_cons (e_tup (a_cons e_int (a_cons e_int (a_cons (e_lst (a_cons e_str (a_cons e_str a_nil))) a_nil)))) a_nil))))))))))))) rfl)
theorem b__law_walk (T : Tx fa fn ts fx w K mg) : Binds K (fdOf K ("_law_walk", none)) ["states", "row"] [] := (T.fun_ 23 (d := dd__law_walk)).bindsN fun _ _ _ _ _ _ us hl => match us, hl with | [_, _], _ => rfl
theorem ok__law_walk (T : Tx fa fn ts fx w K mg) : FnOk P w K mg base (L2.CX P w) 2 (He.fAd K ("_law_walk", none)) (fdOf K ("_law_walk", none)) ["states", "row"] (spF K [.fz, .fz] (.fz) m__law_walk) := by
  refine fn_okD (T.fun_ 23 (d := dd__law_walk)) sc__law_walk rfl (fun cdv A outer s H Ex F B0 pv hr => ?_) (.inl rfl)
  exact (ss_cons (N1 := [zz, zz, zz, uu, uu, uu, uu, uu]) (s_set (i := 2) sc__law_walk.nd (w_of_e (e_fz (w_call0 (ok__law_letters T) (hr.mono (by decide)) (takes_of rfl rfl rfl rfl) (T.glo 34) (T.fun_ 18 (d := dd__law_letters)).kp (b__law_letters T)))))
      (ss_cons (N1 := [zz, zz, zz, zz, uu, uu, uu, uu]) (s_set (i := 3) sc__law_walk.nd (w_of_e e_int))
      (ss_cons (N1 := [zz, zz, zz, zz, zz, uu, uu, uu]) (s_set (i := 4) sc__law_walk.nd (w_of_e e_non))
      (ss_cons (N1 := [zz, zz, zz, zz, zz, ll, uu, uu]) (s_set (i := 5) sc__law_walk.nd (w_lst (a_cons (e_tup (a_cons e_int (a_cons e_non a_nil))) a_nil)))
      (ss_cons (N1 := [zz, zz, zz, zz, zz, ll, uu, uu]) (s_for (ws := [6]) (O2 := [zz, zz, zz, zz, zz, ll, zz, uu]) (passes_of rfl) rfl (i_rng1 (T.free 2) (a_cons (e_blt call_dLen rl (by rfl) (T.free 0) boot_len (a_cons (e_var (i := 1) rfl) a_nil)) a_nil)) (g_name (i := 6) sc__law_walk.nd) (ss_cons (N1 := [zz, zz, zz, zz, zz, ll, zz, uu]) (s_if (t_cmp (op_dIn) r4 (e_ix ix_d r4 (e_var (i := 1) rfl) (e_var (i := 6) rfl)) (e_var (i := 2) rfl) rfl) (ss_cons (N1 := [zz, zz, zz, zz, zz, ll, zz, zz]) (s_set (i := 7) sc__law_walk.nd (w_of_e (e_ix ix_d r4 (e_ix ix_d r4 (e_var (i := 0) rfl) (e_var (i := 3) rfl)) (e_index (e_var (i := 2) rfl) (a_cons (e_ix ix_d r4 (e_var (i := 1) rfl) (e_var (i := 6) rfl)) a_nil)))))
      (ss_cons (N1 := [zz, zz, zz, zz, zz, ll, zz, zz]) (s_if (t_cmp (op_dEq hr.units) r4 (e_ix ix_d r4 (e_var (i := 7) rfl) e_int) e_str (nomark _)) (ss_one (N1 := [zz, zz, zz, zz, zz, ll, zz, zz]) (s_set (i := 4) sc__law_walk.nd (w_of_e e_non)) rfl) (ss_nil rfl))
      (ss_cons (N1 := [zz, zz, zz, zz, zz, ll, zz, zz]) (s_if (PW.pt (tw_or (t_cmp (op_dEq hr.units) r4 (e_ix ix_d r4 (e_var (i := 7) rfl) e_int) e_str (nomark _)) (tw_or1 (PW.pt (tw_and (t_cmp (op_dEq hr.units) r4 (e_ix ix_d r4 (e_var (i := 7) rfl) e_int) e_str (nomark _)) (tw_and1 (t_cmp (op_dEq hr.units) r4 (e_blt call_dLen rl (by rfl) (T.free 0) boot_len (a_cons (e_ix ix_d r4 (e_var (i := 1) rfl) (e_var (i := 6) rfl)) a_nil)) e_int (nomark _)))))))) (ss_one (N1 := [zz, zz, zz, zz, zz, ll, zz, zz]) (s_set (i := 4) sc__law_walk.nd (w_of_e (e_tup (a_cons (e_var (i := 6) rfl) (a_cons e_int a_nil))))) rfl) (ss_nil rfl))
      (ss_cons (N1 := [zz, zz, zz, zz, zz, ll, zz, zz]) (s_if (PW.pt (tw_and (t_cmp (op_dEq hr.units) r4 (e_ix ix_d r4 (e_var (i := 7) rfl) e_int) e_str (nomark _)) (tw_and1 (t_cmp (op_dEq hr.units) r4 (e_blt call_dLen rl (by rfl) (T.free 0) boot_len (a_cons (e_ix ix_d r4 (e_var (i := 1) rfl) (e_var (i := 6) rfl)) a_nil)) e_int (nomark _))))) (ss_one (N1 := [zz, zz, zz, zz, zz, ll, zz, zz]) (s_set (i := 4) sc__law_walk.nd (w_of_e (e_tup (a_cons (e_var (i := 6) rfl) (a_cons e_int a_nil))))) rfl) (ss_nil rfl))
      (ss_one (N1 := [zz, zz, zz, zz, zz, ll, zz, zz]) (s_set (i := 3) sc__law_walk.nd (w_of_e (e_ix ix_d r4 (e_var (i := 7) rfl) e_int))) rfl))))) (ss_nil rfl))
      (ss_one (N1 := [zz, zz, zz, zz, zz, ll, zz, uu]) (s_expr (e_mut (i := 5) rfl PySem.F.plainAttrs_list PySem.F.slot_list_append PySem.F.type_list_append mu_append rm (a_cons (e_tup (a_cons (e_var (i := 3) rfl) (a_cons (e_var (i := 4) rfl) a_nil))) a_nil))) rfl)))
      (ss_one (N1 := [uu, uu]) (s_pre (O1 := [zz, zz, zz, zz, zz, zz, uu, uu]) rfl (s_ret (w_of_e (e_var (i := 5) rfl)))) rfl))))))
theorem b_check_row (T : Tx fa fn ts fx w K mg) : Binds K (fdOf K ("check_row", none)) ["row", "what"] [] := (T.fun_ 24 (d := dd_check_row)).bindsN fun _ _ _ _ _ _ us hl => match us, hl with | [_, _], _ => rfl
theorem ok_check_row (T : Tx fa fn ts fx w K mg) : FnOk P w K mg base (L2.CX P w) 2 (He.fAd K ("check_row", none)) (fdOf K ("check_row", none)) ["row", "what"] (spF K [.fz, .fz] (.fz) m_check_row) := by
  refine fn_okD (T.fun_ 24 (d := dd_check_row)) sc_check_row rfl (fun cdv A outer s H Ex F B0 pv hr => ?_) (.inl rfl)
  exact (ss_cons (N1 := [zz, zz, uu]) (s_if (t_not (t_val (e_blt (call_dIsi (T.itab 0)) rl (by rfl) (T.free 6) boot_isinstance (a_cons (e_var (i := 0) rfl) (a_cons (e_tup (a_cons (e_bty (T.free 4) boot_list) (a_cons (e_bty (T.free 5) boot_tuple) a_nil))) a_nil))))) (ss_one (N1 := [zz, zz, uu]) s_never rfl) (ss_nil rfl))
      (ss_cons (N1 := [zz, zz, uu]) (s_for (ws := [2]) (O2 := [zz, zz, zz]) (passes_of rfl) rfl (i_seq (e_var (i := 0) rfl)) (g_name (i := 2) sc_check_row.nd) (ss_one (N1 := [zz, zz, zz]) (s_expr (e_fz (w_call (ok_check_letter T) (hr.mono (by decide)) (takes_of rfl rfl rfl rfl) (T.glo 33) (T.fun_ 16 (d := dd_check_letter)).kp (b_check_letter T) (ao_dat (e_var (i := 2) rfl) (ao_dat (e_var (i := 1) rfl) ao_nil))))) rfl))
      (ss_cons (N1 := [zz, zz, uu]) (s_if (t_cmp (op_dGt) r4 (e_blt call_dLen rl (by rfl) (T.free 0) boot_len (a_cons (e_var (i := 0) rfl) a_nil)) (e_gv (T.val 9)) (nomark _)) (ss_one (N1 := [zz, zz, uu]) s_never rfl) (ss_nil rfl))
      (ss_one (N1 := [uu, uu]) (s_ret (w_of_e (e_ty call_dTuple rl (by rfl) (T.free 5) boot_tuple (a_cons (e_var (i := 0) rfl) a_nil)))) rfl))))
theorem b_lines_in (T : Tx fa fn ts fx w K mg) : Binds K (fdOf K ("lines_in", none)) ["letter"] [] := (T.fun_ 25 (d := dd_lines_in)).bindsN fun _ _ _ _ _ _ us hl => match us, hl with | [_], _ => rfl
theorem ok_lines_in (T : Tx fa fn ts fx w K mg) : FnOk P w K mg base (L2.CX P w) 1 (He.fAd K ("lines_in", none)) (fdOf K ("lines_in", none)) ["letter"] (spF K [.fz] (.fz) m_lines_in) := by
  refine fn_okD (T.fun_ 25 (d := dd_lines_in)) sc_lines_in rfl (fun cdv A outer s H Ex F B0 pv hr => ?_) (.inl rfl)
  exact (ss_one (N1 := [uu]) (s_ret (w_of_e (e_ixT (T.tab 7 0) (e_var (i := 0) rfl) (pe_glob (by rfl) (T.glo 32) rfl)))) rfl)
theorem b_held_after (T : Tx fa fn ts fx w K mg) : Binds K (fdOf K ("held_after", none)) ["held", "act", "letter", "i"] [] := (T.fun_ 26 (d := dd_held_after)).bindsN fun _ _ _ _ _ _ us hl => match us, hl with | [_, _, _, _], _ => rfl
theorem ok_held_after (T : Tx fa fn ts fx w K mg) : FnOk P w K mg base (L2.CX P w) 2 (He.fAd K ("held_after", none)) (fdOf K ("held_after", none)) ["held", "act", "letter", "i"] (spF K [.fz, .fz, .fz, .fz] (.fz) m_held_after) := by
  refine fn_okD (T.fun_ 26 (d := dd_held_after)) sc_held_after rfl (fun cdv A outer s H Ex F B0 pv hr => ?_) (.inl rfl)
  exact (ss_cons (N1 := [zz, zz, zz, zz]) (s_if (t_cmp (op_dEq hr.units) r4 (e_var (i := 1) rfl) e_str (nomark _)) (ss_one (N1 := [zz, zz, zz, zz]) (s_ret (w_of_e (e_var (i := 0) rfl))) rfl) (ss_nil rfl))
      (ss_cons (N1 := [zz, zz, zz, zz]) (s_if (t_cmp (op_dEq hr.units) r4 (e_var (i := 1) rfl) e_str (nomark _)) (ss_one (N1 := [zz, zz, zz, zz]) (s_ret (w_of_e e_non)) rfl) (ss_nil rfl))
      (ss_one (N1 := [uu, uu, uu, uu]) (s_ret (w_of_e (e_tup (a_cons (e_var (i := 3) rfl) (a_cons (e_if (t_cmp (op_dEq hr.units) r4 (e_var (i := 1) rfl) e_str (nomark _)) (e_fz (w_call (ok_lines_in T) (hr.mono (by decide)) (takes_of rfl rfl rfl rfl) (T.glo 36) (T.fun_ 25 (d := dd_lines_in)).kp (b_lines_in T) (ao_dat (e_var (i := 2) rfl) ao_nil))) e_int) a_nil))))) rfl)))
theorem b_along (T : Tx fa fn ts fx w K mg) : Binds K (fdOf K ("along", none)) ["reader", "row"] [] := (T.fun_ 27 (d := dd_along)).bindsN fun _ _ _ _ _ _ us hl => match us, hl with | [_, _], _ => rfl
theorem ok_along (T : Tx fa fn ts fx w K mg) : FnOk P w K mg base (L2.CX P w) 4 (He.fAd K ("along", none)) (fdOf K ("along", none)) ["reader", "row"] (spF K [.fz, .fz] (.fz) m_along) := by
  refine fn_okD (T.fun_ 27 (d := dd_along)) sc_along rfl (fun cdv A outer s H Ex F B0 pv hr => ?_) (.inl rfl)
  exact (ss_cons (N1 := [zz, zz, zz, zz, uu, uu, uu, uu]) (s_asg (ws := [2, 3]) (e_tup (a_cons e_int (a_cons e_non a_nil))) (g_tup rfl (gs_cons (N1 := [zz, zz, zz, uu, uu, uu, uu, uu]) (g_name (i := 2) sc_along.nd) (gs_cons (N1 := [zz, zz, zz, zz, uu, uu, uu, uu]) (g_name (i := 3) sc_along.nd) gs_nil))))
      (ss_cons (N1 := [zz, zz, zz, zz, ll, uu, uu, uu]) (s_set (i := 4) sc_along.nd (w_lst (a_cons (e_tup (a_cons (e_var (i := 2) rfl) (a_cons (e_var (i := 3) rfl) a_nil))) a_nil)))
      (ss_cons (N1 := [zz, zz, zz, zz, ll, uu, uu, uu]) (s_for (ws := [5, 6]) (O2 := [zz, zz, zz, zz, ll, zz, zz, uu]) (passes_of rfl) rfl (i_enumS (T.free 11) (a_cons (e_fz (w_call (ok_check_row T) (hr.mono (by decide)) (takes_of rfl rfl rfl rfl) (T.glo 37) (T.fun_ 24 (d := dd_check_row)).kp (b_check_row T) (ao_dat (e_var (i := 1) rfl) (ao_dat e_str ao_nil)))) a_nil)) (g_tup rfl (gs_cons (N1 := [zz, zz, zz, zz, ll, zz, uu, uu]) (g_name (i := 5) sc_along.nd) (gs_cons (N1 := [zz, zz, zz, zz, ll, zz, zz, uu]) (g_name (i := 6) sc_along.nd) gs_nil))) (ss_cons (N1 := [zz, zz, zz, zz, ll, zz, zz, zz]) (s_asg (ws := [7, 2]) (e_fz (w_meth (C := "Reader") (e_var (i := 0) rfl) (T.cls 17) (T.meth 35) (ok_Reader_entry T) (hr.mono (by decide)) (takes_of rfl rfl rfl rfl) (b_Reader_entry T) (ao_dat (e_var (i := 2) rfl) (ao_dat (e_var (i := 6) rfl) ao_nil)))) (g_tup rfl (gs_cons (N1 := [zz, zz, zz, zz, ll, zz, zz, zz]) (g_name (i := 7) sc_along.nd) (gs_cons (N1 := [zz, zz, zz, zz, ll, zz, zz, zz]) (g_name (i := 2) sc_along.nd) gs_nil))))
      (ss_cons (N1 := [zz, zz, zz, zz, ll, zz, zz, zz]) (s_set (i := 3) sc_along.nd (w_of_e (e_fz (w_call (ok_held_after T) (hr.mono (by decide)) (takes_of rfl rfl rfl rfl) (T.glo 38) (T.fun_ 26 (d := dd_held_after)).kp (b_held_after T) (ao_dat (e_var (i := 3) rfl) (ao_dat (e_var (i := 7) rfl) (ao_dat (e_var (i := 6) rfl) (ao_dat (e_var (i := 5) rfl) ao_nil))))))))
      (ss_one (N1 := [zz, zz, zz, zz, ll, zz, zz, zz]) (s_expr (e_mut (i := 4) rfl PySem.F.plainAttrs_list PySem.F.slot_list_append PySem.F.type_list_append mu_append rm (a_cons (e_tup (a_cons (e_var (i := 2) rfl) (a_cons (e_var (i := 3) rfl) a_nil))) a_nil))) rfl))))
      (ss_one (N1 := [uu, uu]) (s_pre (O1 := [zz, zz, zz, zz, zz, uu, uu, uu]) rfl (s_ret (w_of_e (e_var (i := 4) rfl)))) rfl))))
theorem b_Reader_call (T : Tx fa fn ts fx w K mg) : Binds K (fdOf K ("Reader", some "__call__")) ["self", "row"] [] := (T.fun_ 28 (d := dd_Reader_call)).bindsN fun _ _ _ _ _ _ us hl => match us, hl with | [_, _], _ => rfl
theorem ok_Reader_call (T : Tx fa fn ts fx w K mg) : FnOk P w K mg base (L2.CX P w) 5 (He.fAd K ("Reader", some "__call__")) (fdOf K ("Reader", some "__call__")) ["self", "row"] (spF K [.fz, .fz] (.fz) m_Reader_call) := by
  refine fn_okD (T.fun_ 28 (d := dd_Reader_call)) sc_Reader_call rfl (fun cdv A outer s H Ex F B0 pv hr => ?_) (.inl rfl)
  exact (ss_one (N1 := [uu, uu]) (s_ret (w_of_e (e_ix ix_d r4 (e_ix ix_d r4 (e_fz (w_call (ok_along T) (hr.mono (by decide)) (takes_of rfl rfl rfl rfl) (T.glo 39) (T.fun_ 27 (d := dd_along)).kp (b_along T) (ao_dat (e_var (i := 0) rfl) (ao_dat (e_var (i := 1) rfl) ao_nil)))) (e_un un_dNeg r3 e_int)) e_int))) rfl)
theorem b__law_lesser (T : Tx fa fn ts fx w K mg) : Binds K (fdOf K ("_law_lesser", none)) ["row"] [] := (T.fun_ 29 (d := dd__law_lesser)).bindsN fun _ _ _ _ _ _ us hl => match us, hl with | [_], _ => rfl
theorem ok__law_lesser (T : Tx fa fn ts fx w K mg) : FnOk P w K mg base (L2.CX P w) 2 (He.fAd K ("_law_lesser", none)) (fdOf K ("_law_lesser", none)) ["row"] (spF K [.fz] (.fz) m__law_lesser) := by
  refine fn_okD (T.fun_ 29 (d := dd__law_lesser)) sc__law_lesser rfl (fun cdv A outer s H Ex F B0 pv hr => ?_) (.inl rfl)
  exact (ss_cons (N1 := [zz, ll, uu]) (s_set (i := 1) sc__law_lesser.nd (w_lst (a_cons (e_lst a_nil) a_nil)))
      (ss_cons (N1 := [zz, ll, uu]) (s_for (ws := [2]) (O2 := [zz, ll, zz]) (passes_of rfl) rfl (i_seq (e_fz (w_call0 (ok__law_letters T) (hr.mono (by decide)) (takes_of rfl rfl rfl rfl) (T.glo 34) (T.fun_ 18 (d := dd__law_letters)).kp (b__law_letters T)))) (g_name (i := 2) sc__law_lesser.nd) (ss_one (N1 := [zz, ll, zz]) (s_if (PW.pt (tw_or (t_cmp (op_dGt) r4 (e_blt call_dLen rl (by rfl) (T.free 0) boot_len (a_cons (e_var (i := 0) rfl) a_nil)) e_int (nomark _)) (tw_or1 (t_cmp (op_dLt) r4 (e_index (e_fz (w_call0 (ok__law_letters T) (hr.mono (by decide)) (takes_of rfl rfl rfl rfl) (T.glo 34) (T.fun_ 18 (d := dd__law_letters)).kp (b__law_letters T))) (a_cons (e_var (i := 2) rfl) a_nil)) (e_index (e_fz (w_call0 (ok__law_letters T) (hr.mono (by decide)) (takes_of rfl rfl rfl rfl) (T.glo 34) (T.fun_ 18 (d := dd__law_letters)).kp (b__law_letters T))) (a_cons (e_ix ix_d r4 (e_var (i := 0) rfl) e_int) a_nil)) (nomark _))))) (ss_one (N1 := [zz, ll, zz]) (s_expr (e_mut (i := 1) rfl PySem.F.plainAttrs_list PySem.F.slot_list_append PySem.F.type_list_append mu_append rm (a_cons (e_lst (a_cons (e_var (i := 2) rfl) a_nil)) a_nil))) rfl) (ss_nil rfl)) rfl))
      (ss_cons (N1 := [zz, ll, uu]) (s_if (t_cmp (op_dEq hr.units) r4 (e_blt call_dLen rl (by rfl) (T.free 0) boot_len (a_cons (e_var (i := 0) rfl) a_nil)) e_int (nomark _)) (ss_one (N1 := [zz, ll, uu]) (s_for (ws := [2]) (O2 := [zz, ll, zz]) (passes_of rfl) rfl (i_seq (e_fz (w_call0 (ok__law_letters T) (hr.mono (by decide)) (takes_of rfl rfl rfl rfl) (T.glo 34) (T.fun_ 18 (d := dd__law_letters)).kp (b__law_letters T)))) (g_name (i := 2) sc__law_lesser.nd) (ss_one (N1 := [zz, ll, zz]) (s_if (t_cmp (op_dLt) r4 (e_index (e_fz (w_call0 (ok__law_letters T) (hr.mono (by decide)) (takes_of rfl rfl rfl rfl) (T.glo 34) (T.fun_ 18 (d := dd__law_letters)).kp (b__law_letters T))) (a_cons (e_var (i := 2) rfl) a_nil)) (e_index (e_fz (w_call0 (ok__law_letters T) (hr.mono (by decide)) (takes_of rfl rfl rfl rfl) (T.glo 34) (T.fun_ 18 (d := dd__law_letters)).kp (b__law_letters T))) (a_cons (e_ix ix_d r4 (e_var (i := 0) rfl) e_int) a_nil)) (nomark _)) (ss_one (N1 := [zz, ll, zz]) (s_expr (e_mut (i := 1) rfl PySem.F.plainAttrs_list PySem.F.slot_list_append PySem.F.type_list_append mu_append rm (a_cons (e_lst (a_cons e_str (a_cons (e_var (i := 2) rfl) a_nil))) a_nil))) rfl) (ss_nil rfl)) rfl)) rfl) (ss_nil rfl))
      (ss_one (N1 := [uu]) (s_pre (O1 := [zz, zz, uu]) rfl (s_ret (w_of_e (e_var (i := 1) rfl)))) rfl))))
theorem b__law_pairs_part (T : Tx fa fn ts fx w K mg) : Binds K (fdOf K ("_law_pairs_part", none)) ["readers", "tables"] [] := (T.fun_ 30 (d := dd__law_pairs_part)).bindsN fun _ _ _ _ _ _ us hl => match us, hl with | [_, _], _ => rfl
theorem ok__law_pairs_part (T : Tx fa fn ts fx w K mg) : FnOk P w K mg base (L2.CX P w) 6 (He.fAd K ("_law_pairs_part", none)) (fdOf K ("_law_pairs_part", none)) ["readers", "tables"] (spF K [.ow .fz, .fz] (.fz) m__law_pairs_part) := by
  refine fn_okD (T.fun_ 30 (d := dd__law_pairs_part)) sc__law_pairs_part rfl (fun cdv A outer s H Ex F B0 pv hr => ?_) (.inl rfl)
  exact (ss_cons (N1 := [ll, zz, uu, uu, uu, uu]) (s_for (ws := [2, 3, 4]) (O2 := [ll, zz, zz, zz, zz, uu]) (passes_of rfl) rfl (i_seq (e_fz (w_call0 (ok__law_parting T) (hr.mono (by decide)) (takes_of rfl rfl rfl rfl) (T.glo 40) (T.fun_ 22 (d := dd__law_parting)).kp (b__law_parting T)))) (g_tup rfl (gs_cons (N1 := [ll, zz, zz, uu, uu, uu]) (g_name (i := 2) sc__law_pairs_part.nd) (gs_cons (N1 := [ll, zz, zz, zz, uu, uu]) (g_name (i := 3) sc__law_pairs_part.nd) (gs_cons (N1 := [ll, zz, zz, zz, zz, uu]) (g_name (i := 4) sc__law_pairs_part.nd) gs_nil)))) (ss_cons (N1 := [ll, zz, zz, zz, zz, uu]) (s_if (t_cmp (op_dEq hr.units) r4 (e_ix ix_d r4 (e_ix ix_d r4 (e_fz (w_call (ok__law_walk T) (hr.mono (by decide)) (takes_of rfl rfl rfl rfl) (T.glo 41) (T.fun_ 23 (d := dd__law_walk)).kp (b__law_walk T) (ao_dat (e_ix ix_d r4 (e_var (i := 1) rfl) (e_var (i := 2) rfl)) (ao_dat (e_var (i := 4) rfl) ao_nil)))) (e_un un_dNeg r3 e_int)) e_int) (e_ix ix_d r4 (e_ix ix_d r4 (e_fz (w_call (ok__law_walk T) (hr.mono (by decide)) (takes_of rfl rfl rfl rfl) (T.glo 41) (T.fun_ 23 (d := dd__law_walk)).kp (b__law_walk T) (ao_dat (e_ix ix_d r4 (e_var (i := 1) rfl) (e_var (i := 3) rfl)) (ao_dat (e_var (i := 4) rfl) ao_nil)))) (e_un un_dNeg r3 e_int)) e_int) (nomark _)) (ss_one (N1 := [ll, zz, zz, zz, zz, uu]) (s_ret (w_of_e e_bl)) rfl) (ss_nil rfl))
      (ss_cons (N1 := [ll, zz, zz, zz, zz, uu]) (s_if (t_cmp (op_dEq hr.units) r4 (e_fz (w_callI (C := "Reader") (e_ixO (i := 0) rfl (e_var (i := 2) rfl)) (T.callo 10) (ok_Reader_call T) (hr.mono (by decide)) (takes_of rfl rfl rfl rfl) (b_Reader_call T) (ao_dat (e_var (i := 4) rfl) ao_nil))) (e_fz (w_callI (C := "Reader") (e_ixO (i := 0) rfl (e_var (i := 3) rfl)) (T.callo 10) (ok_Reader_call T) (hr.mono (by decide)) (takes_of rfl rfl rfl rfl) (b_Reader_call T) (ao_dat (e_var (i := 4) rfl) ao_nil))) (nomark _)) (ss_one (N1 := [ll, zz, zz, zz, zz, uu]) (s_ret (w_of_e e_bl)) rfl) (ss_nil rfl))
      (ss_one (N1 := [ll, zz, zz, zz, zz, uu]) (s_for (ws := [5]) (O2 := [ll, zz, zz, zz, zz, zz]) (passes_of rfl) rfl (i_seq (e_fz (w_call (ok__law_lesser T) (hr.mono (by decide)) (takes_of rfl rfl rfl rfl) (T.glo 42) (T.fun_ 29 (d := dd__law_lesser)).kp (b__law_lesser T) (ao_dat (e_var (i := 4) rfl) ao_nil)))) (g_name (i := 5) sc__law_pairs_part.nd) (ss_one (N1 := [ll, zz, zz, zz, zz, zz]) (s_if (t_cmp (op_dNe hr.units) r4 (e_fz (w_callI (C := "Reader") (e_ixO (i := 0) rfl (e_var (i := 2) rfl)) (T.callo 10) (ok_Reader_call T) (hr.mono (by decide)) (takes_of rfl rfl rfl rfl) (b_Reader_call T) (ao_dat (e_var (i := 5) rfl) ao_nil))) (e_fz (w_callI (C := "Reader") (e_ixO (i := 0) rfl (e_var (i := 3) rfl)) (T.callo 10) (ok_Reader_call T) (hr.mono (by decide)) (takes_of rfl rfl rfl rfl) (b_Reader_call T) (ao_dat (e_var (i := 5) rfl) ao_nil))) (nomark _)) (ss_one (N1 := [ll, zz, zz, zz, zz, zz]) (s_ret (w_of_e e_bl)) rfl) (ss_nil rfl)) rfl)) rfl))))
      (ss_one (N1 := [ll, uu]) (s_ret (w_of_e e_bl)) rfl))
theorem b__law_take (T : Tx fa fn ts fx w K mg) : Binds K (fdOf K ("_law_take", none)) ["draws", "many"] [] := (T.fun_ 31 (d := dd__law_take)).bindsN fun _ _ _ _ _ _ us hl => match us, hl with | [_, _], _ => rfl
theorem ok__law_take (T : Tx fa fn ts fx w K mg) : FnOk P w K mg base (L2.CX P w) 1 (He.fAd K ("_law_take", none)) (fdOf K ("_law_take", none)) ["draws", "many"] (spF K [.ow .fz, .fz] (.fz) m__law_take) := by
  refine fn_okD (T.fun_ 31 (d := dd__law_take)) sc__law_take rfl (fun cdv A outer s H Ex F B0 pv hr => ?_) (.inl rfl)
  exact (ss_cons (N1 := [ll, zz]) (s_if (PW.pt (tw_or (t_cmp (op_dEq hr.units) r4 (e_lenO (i := 0) rfl (T.free 0)) e_int (nomark _)) (tw_or1 (t_cmp (op_dLt) r4 (e_var (i := 1) rfl) e_int (nomark _))))) (ss_one (N1 := [ll, zz]) (s_ret (w_of_e e_int)) rfl) (ss_nil rfl))
      (ss_one (N1 := [ll, uu]) (s_ret (w_of_e (e_bin op_dMod r4 (e_ty call_dInt rl (by rfl) (T.free 3) boot_int (a_cons (e_mut0 (i := 0) rfl PySem.F.plainAttrs_list PySem.F.slot_list_pop PySem.F.type_list_pop mu_pop rm) a_nil)) (e_var (i := 1) rfl)))) rfl))
theorem b__law_drawn_row (T : Tx fa fn ts fx w K mg) : Binds K (fdOf K ("_law_drawn_row", none)) ["draws", "most"] [] := (T.fun_ 32 (d := dd__law_drawn_row)).bindsN fun _ _ _ _ _ _ us hl => match us, hl with | [_, _], _ => rfl
theorem ok__law_drawn_row (T : Tx fa fn ts fx w K mg) : FnOk P w K mg base (L2.CX P w) 2 (He.fAd K ("_law_drawn_row", none)) (fdOf K ("_law_drawn_row", none)) ["draws", "most"] (spF K [.ow .fz, .fz] (.fz) m__law_drawn_row) := by
  refine fn_okD (T.fun_ 32 (d := dd__law_drawn_row)) sc__law_drawn_row rfl (fun cdv A outer s H Ex F B0 pv hr => ?_) (.inl rfl)
  exact (ss_cons (N1 := [ll, zz, zz, uu]) (s_set (i := 2) sc__law_drawn_row.nd (w_of_e (e_bin op_dAdd r4 (e_bin op_dAdd r4 (e_lst (a_cons e_str a_nil)) (e_fz (w_call0 (ok__law_letters T) (hr.mono (by decide)) (takes_of rfl rfl rfl rfl) (T.glo 34) (T.fun_ 18 (d := dd__law_letters)).kp (b__law_letters T)))) (e_lst (a_cons e_str a_nil)))))
      (ss_one (N1 := [ll, uu]) (s_ret (w_of_e (e_fz (w_lc (own := [("k", 3)]) (O2 := [ll, zz, zz, zz]) rfl sc__law_drawn_row.nd (i_rng1 (T.free 2) (a_cons (e_fz (w_call (ok__law_take T) (hr.mono (by decide)) (takes_of rfl rfl rfl rfl) (T.glo 43) (T.fun_ 31 (d := dd__law_take)).kp (b__law_take T) (ao_own (i := 0) rfl (ao_dat (e_bin op_dAdd r4 (e_var (i := 1) rfl) e_int) ao_nil)))) a_nil)) (blkOk_by (by kernel_rfl)) (fun F s H C cl fp => (g_name (i := 3) sc__law_drawn_row.nd)) (fun F s H C cl fp => t_nil) (fun F s H C cl fp => (e_ix ix_d r4 (e_var (i := 2) rfl) (e_fz (w_call (ok__law_take T) (hr.mono (by decide)) L3.takes0 (T.glo 43) (T.fun_ 31 (d := dd__law_take)).kp (b__law_take T) (ao_own (i := 0) rfl (ao_dat e_int ao_nil)))))))))) rfl))
theorem b__law_held_is (T : Tx fa fn ts fx w K mg) : Binds K (fdOf K ("_law_held_is", none)) ["reader", "states", "row"] [] := (T.fun_ 33 (d := dd__law_held_is)).bindsN fun _ _ _ _ _ _ us hl => match us, hl with | [_, _, _], _ => rfl
theorem ok__law_held_is (T : Tx fa fn ts fx w K mg) : FnOk P w K mg base (L2.CX P w) 6 (He.fAd K ("_law_held_is", none)) (fdOf K ("_law_held_is", none)) ["reader", "states", "row"] (spF K [.fz, .fz, .fz] (.fz) m__law_held_is) := by
  refine fn_okD (T.fun_ 33 (d := dd__law_held_is)) sc__law_held_is rfl (fun cdv A outer s H Ex F B0 pv hr => ?_) (.inl rfl)
  exact (ss_cons (N1 := [zz, zz, zz, zz, uu]) (s_set (i := 3) sc__law_held_is.nd (w_of_e (e_fz (w_call (ok__law_walk T) (hr.mono (by decide)) (takes_of rfl rfl rfl rfl) (T.glo 41) (T.fun_ 23 (d := dd__law_walk)).kp (b__law_walk T) (ao_dat (e_var (i := 1) rfl) (ao_dat (e_var (i := 2) rfl) ao_nil))))))
      (ss_cons (N1 := [zz, zz, zz, zz, zz]) (s_set (i := 4) sc__law_held_is.nd (w_of_e (e_fz (w_call (ok_along T) (hr.mono (by decide)) (takes_of rfl rfl rfl rfl) (T.glo 39) (T.fun_ 27 (d := dd_along)).kp (b_along T) (ao_dat (e_var (i := 0) rfl) (ao_dat (e_var (i := 2) rfl) ao_nil))))))
      (ss_cons (N1 := [zz, zz, zz, zz, zz]) (s_if (PW.pt (tw_or (t_not (t_val (e_blt (call_dIsi (T.itab 0)) rl (by rfl) (T.free 6) boot_isinstance (a_cons (e_var (i := 4) rfl) (a_cons (e_bty (T.free 4) boot_list) a_nil))))) (tw_or1 (t_cmp (op_dNe hr.units) r4 (e_var (i := 4) rfl) (e_var (i := 3) rfl) (nomark _))))) (ss_one (N1 := [zz, zz, zz, zz, zz]) (s_ret (w_of_e e_bl)) rfl) (ss_nil rfl))
      (ss_one (N1 := [uu, uu, uu]) (s_ret (w_of_e (e_cmp (op_dEq hr.units) r4 (e_fz (w_callI (C := "Reader") (e_var (i := 0) rfl) (T.callo 10) (ok_Reader_call T) (hr.mono (by decide)) (takes_of rfl rfl rfl rfl) (b_Reader_call T) (ao_dat (e_ty call_dTuple rl (by rfl) (T.free 5) boot_tuple (a_cons (e_var (i := 2) rfl) a_nil)) ao_nil))) (e_ix ix_d r4 (e_ix ix_d r4 (e_var (i := 3) rfl) (e_un un_dNeg r3 e_int)) e_int) (nomark _)))) rfl))))
theorem b_with_entry (T : Tx fa fn ts fx w K mg) : Binds K (fdOf K ("with_entry", none)) ["reader", "state", "letter", "act", "to"] [] := (T.fun_ 34 (d := dd_with_entry)).bindsN fun _ _ _ _ _ _ us hl => match us, hl with | [_, _, _, _, _], _ => rfl
theorem ok_with_entry (T : Tx fa fn ts fx w K mg) : FnOk P w K mg base (L2.CX P w) 6 (He.fAd K ("with_entry", none)) (fdOf K ("with_entry", none)) ["reader", "state", "letter", "act", "to"] (spF K [.fz, .fz, .fz, .fz, .fz] (.fz) m_with_entry) := by
  obtain ⟨du0, dv0, hv0, hq0, hb0⟩ := b1_Reader_init T
  refine fn_okD (T.fun_ 34 (d := dd_with_entry)) sc_with_entry rfl (fun cdv A outer s H Ex F B0 pv hr => ?_) (.inl rfl)
  exact (ss_cons (N1 := [zz, zz, zz, zz, zz, uu, uu, uu]) (s_expr (e_fz (w_call (ok_check_int T) (hr.mono (by decide)) (takes_of rfl rfl rfl rfl) (T.glo 14) (T.fun_ 4 (d := dd_check_int)).kp (b_check_int T) (ao_dat (e_var (i := 1) rfl) (ao_dat e_str (ao_dat e_int (ao_dat (e_bin op_dSub r4 (e_blt call_dLen rl (by rfl) (T.free 0) boot_len (a_cons (e_fld (C := "Reader") (e_var (i := 0) rfl) (T.cls 17) (T.noat 18)) a_nil)) e_int) ao_nil)))))))
      (ss_cons (N1 := [zz, zz, zz, zz, zz, uu, uu, uu]) (s_if (t_cmp (op_dEq hr.units) r4 (e_fz (w_call (ok_check_letter T) (hr.mono (by decide)) (takes_of rfl rfl rfl rfl) (T.glo 33) (T.fun_ 16 (d := dd_check_letter)).kp (b_check_letter T) (ao_dat (e_var (i := 2) rfl) (ao_dat e_str ao_nil)))) e_str (nomark _)) (ss_one (N1 := [zz, zz, zz, zz, zz, uu, uu, uu]) s_never rfl) (ss_nil rfl))
      (ss_cons (N1 := [zz, zz, zz, zz, zz, uu, uu, uu]) (s_if (PW.pt (tw_or (t_not (t_val (e_blt (call_dIsi (T.itab 0)) rl (by rfl) (T.free 6) boot_isinstance (a_cons (e_var (i := 3) rfl) (a_cons (e_bty (T.free 12) boot_str) a_nil))))) (tw_or (t_cmp (op_dNotIn) r4 (e_var (i := 3) rfl) (e_kt (T.ctup 12).2 (e_cval (pe_glob (by rfl) (T.glo 24) rfl) (T.cread 11) (T.ctup 12).1)) rfl) (tw_or1 (PW.pt (tw_and (t_cmp (op_dEq hr.units) r4 (e_var (i := 2) rfl) e_str (nomark _)) (tw_and1 (t_cmp (op_dIn) r4 (e_var (i := 3) rfl) (e_tup (a_cons e_str (a_cons e_str a_nil))) rfl)))))))) (ss_one (N1 := [zz, zz, zz, zz, zz, uu, uu, uu]) s_never rfl) (ss_nil rfl))
      (ss_cons (N1 := [zz, zz, zz, zz, zz, uu, uu, uu]) (s_expr (e_fz (w_call (ok_check_int T) (hr.mono (by decide)) (takes_of rfl rfl rfl rfl) (T.glo 14) (T.fun_ 4 (d := dd_check_int)).kp (b_check_int T) (ao_dat (e_var (i := 4) rfl) (ao_dat e_str (ao_dat e_int (ao_dat (e_bin op_dSub r4 (e_blt call_dLen rl (by rfl) (T.free 0) boot_len (a_cons (e_fld (C := "Reader") (e_var (i := 0) rfl) (T.cls 17) (T.noat 18)) a_nil)) e_int) ao_nil)))))))
      (ss_cons (N1 := [zz, zz, zz, zz, zz, mm, uu, uu]) (s_setLcO (oe := .ow .fz) (own := [("row", 7)]) (i := 5) (O2 := [zz, zz, zz, zz, zz, uu, uu, zz]) rfl sc_with_entry.nd (i_seq (e_fld (C := "Reader") (e_var (i := 0) rfl) (T.cls 17) (T.noat 18))) (blkOk_by (by kernel_rfl)) (fun F s H C cl fp => (g_name (i := 7) sc_with_entry.nd)) (fun F s H C cl fp => t_nil) (fun F s H C cl fp => (w_list (a_cons (e_var (i := 7) rfl) a_nil) (T.free 4))))
      (ss_cons (N1 := [zz, zz, zz, zz, zz, mm, zz, uu]) (s_set (i := 6) sc_with_entry.nd (w_of_e (e_indexK (ys := ["P", "B", "X", "H", "TB", "T1", "T2", "TX"]) (T.ctup 13).2 rfl (e_cval (pe_glob (by rfl) (T.glo 24) rfl) (T.cread 11) (T.ctup 13).1) (e_var (i := 2) rfl))))
      (ss_cons (N1 := [zz, zz, zz, zz, zz, mm, zz, uu]) (s_set2 (i := 5) (j := 6) rfl rfl (e_tup (a_cons (e_var (i := 3) rfl) (a_cons (e_var (i := 4) rfl) a_nil))) (e_var (i := 1) rfl))
      (ss_one (N1 := [uu, uu, uu, uu, uu]) (s_pre (O1 := [zz, zz, zz, zz, zz, zz, zz, uu]) rfl (s_ret (w_of_e (e_fz (w_make (C := "Reader") (n := 2) (dds := [.str ""]) (T.mkr 23) (ok_Reader_init T) (hr.mono (by decide)) (takes_of rfl rfl rfl rfl) (T.glo 24) hb0 hv0 hq0 (a_cons (e_var (i := 5) rfl) a_nil) rfl))))) rfl))))))))
theorem b__law_exchanged (T : Tx fa fn ts fx w K mg) : Binds K (fdOf K ("_law_exchanged", none)) ["draws", "readers", "tables"] [] := (T.fun_ 35 (d := dd__law_exchanged)).bindsN fun _ _ _ _ _ _ us hl => match us, hl with | [_, _, _], _ => rfl
theorem ok__law_exchanged (T : Tx fa fn ts fx w K mg) : FnOk P w K mg base (L2.CX P w) 7 (He.fAd K ("_law_exchanged", none)) (fdOf K ("_law_exchanged", none)) ["draws", "readers", "tables"] (spF K [.ow .fz, .fz, .fz] (.fz) m__law_exchanged) := by
  refine fn_okD (T.fun_ 35 (d := dd__law_exchanged)) sc__law_exchanged rfl (fun cdv A outer s H Ex F B0 pv hr => ?_) (.inl rfl)
  exact (ss_cons (N1 := [ll, zz, zz, zz, uu, uu, uu, uu, uu, uu, uu, uu, uu]) (s_set (i := 3) sc__law_exchanged.nd (w_of_e (e_fz (w_call (ok__law_take T) (hr.mono (by decide)) (takes_of rfl rfl rfl rfl) (T.glo 43) (T.fun_ 31 (d := dd__law_take)).kp (b__law_take T) (ao_own (i := 0) rfl (ao_dat e_int ao_nil))))))
      (ss_cons (N1 := [ll, zz, zz, zz, zz, uu, uu, uu, uu, uu, uu, uu, uu]) (s_set (i := 4) sc__law_exchanged.nd (w_of_e (e_fz (w_call (ok__law_take T) (hr.mono (by decide)) (takes_of rfl rfl rfl rfl) (T.glo 43) (T.fun_ 31 (d := dd__law_take)).kp (b__law_take T) (ao_own (i := 0) rfl (ao_dat (e_blt call_dLen rl (by rfl) (T.free 0) boot_len (a_cons (e_ix ix_d r4 (e_var (i := 2) rfl) (e_var (i := 3) rfl)) a_nil)) ao_nil))))))
      (ss_cons (N1 := [ll, zz, zz, zz, zz, zz, uu, uu, uu, uu, uu, uu, uu]) (s_set (i := 5) sc__law_exchanged.nd (w_of_e (e_ix ix_d r4 (e_fz (w_call0 (ok__law_letters T) (hr.mono (by decide)) (takes_of rfl rfl rfl rfl) (T.glo 34) (T.fun_ 18 (d := dd__law_letters)).kp (b__law_letters T))) (e_bin op_dAdd r4 e_int (e_fz (w_call (ok__law_take T) (hr.mono (by decide)) (takes_of rfl rfl rfl rfl) (T.glo 43) (T.fun_ 31 (d := dd__law_take)).kp (b__law_take T) (ao_own (i := 0) rfl (ao_dat e_int ao_nil))))))))
      (ss_cons (N1 := [ll, zz, zz, zz, zz, zz, zz, uu, uu, uu, uu, uu, uu]) (s_set (i := 6) sc__law_exchanged.nd (w_of_e (e_ix ix_d r4 (e_lst (a_cons e_str (a_cons e_str (a_cons e_str (a_cons e_str a_nil))))) (e_fz (w_call (ok__law_take T) (hr.mono (by decide)) (takes_of rfl rfl rfl rfl) (T.glo 43) (T.fun_ 31 (d := dd__law_take)).kp (b__law_take T) (ao_own (i := 0) rfl (ao_dat e_int ao_nil)))))))
      (ss_cons (N1 := [ll, zz, zz, zz, zz, zz, zz, uu, uu, uu, uu, uu, uu]) (s_if (t_cmp (op_dEq hr.units) r4 (e_var (i := 5) rfl) e_str (nomark _)) (ss_one (N1 := [ll, zz, zz, zz, zz, zz, zz, uu, uu, uu, uu, uu, uu]) (s_set (i := 6) sc__law_exchanged.nd (w_of_e (e_ix ix_d r4 (e_lst (a_cons e_str (a_cons e_str a_nil))) (e_fz (w_call (ok__law_take T) (hr.mono (by decide)) (takes_of rfl rfl rfl rfl) (T.glo 43) (T.fun_ 31 (d := dd__law_take)).kp (b__law_take T) (ao_own (i := 0) rfl (ao_dat e_int ao_nil))))))) rfl) (ss_nil rfl))
      (ss_cons (N1 := [ll, zz, zz, zz, zz, zz, zz, uu, uu, uu, uu, uu, uu]) (s_if (PW.pt (tw_and (t_cmp (op_dEq hr.units) r4 (e_var (i := 3) rfl) e_int (nomark _)) (tw_and (t_cmp (op_dEq hr.units) r4 (e_var (i := 5) rfl) e_str (nomark _)) (tw_and1 (t_cmp (op_dEq hr.units) r4 (e_var (i := 4) rfl) e_int (nomark _)))))) (ss_one (N1 := [ll, zz, zz, zz, zz, zz, zz, uu, uu, uu, uu, uu, uu]) (s_set (i := 6) sc__law_exchanged.nd (w_of_e e_str)) rfl) (ss_nil rfl))
      (ss_cons (N1 := [ll, zz, zz, zz, zz, zz, zz, zz, uu, uu, uu, uu, uu]) (s_set (i := 7) sc__law_exchanged.nd (w_of_e (e_fz (w_call (ok_with_entry T) (hr.mono (by decide)) (takes_of rfl rfl rfl rfl) (T.glo 44) (T.fun_ 34 (d := dd_with_entry)).kp (b_with_entry T) (ao_dat (e_ix ix_d r4 (e_var (i := 1) rfl) (e_var (i := 3) rfl)) (ao_dat (e_var (i := 4) rfl) (ao_dat (e_var (i := 5) rfl) (ao_dat (e_var (i := 6) rfl) (ao_dat (e_fz (w_call (ok__law_take T) (hr.mono (by decide)) (takes_of rfl rfl rfl rfl) (T.glo 43) (T.fun_ 31 (d := dd__law_take)).kp (b__law_take T) (ao_own (i := 0) rfl (ao_dat (e_blt call_dLen rl (by rfl) (T.free 0) boot_len (a_cons (e_ix ix_d r4 (e_var (i := 2) rfl) (e_var (i := 3) rfl)) a_nil)) ao_nil)))) ao_nil)))))))))
      (ss_cons (N1 := [ll, zz, zz, zz, zz, zz, zz, zz, uu, uu, uu, uu, uu]) (s_for (ws := [8]) (O2 := [ll, zz, zz, zz, zz, zz, zz, zz, zz, uu, uu, uu, uu]) (passes_of rfl) rfl (i_rng1 (T.free 2) (a_cons e_int a_nil)) (g_name (i := 8) sc__law_exchanged.nd) (ss_cons (N1 := [ll, zz, zz, zz, zz, zz, zz, zz, zz, zz, uu, uu, uu]) (s_set (i := 9) sc__law_exchanged.nd (w_of_e (e_fz (w_call (ok__law_drawn_row T) (hr.mono (by decide)) (takes_of rfl rfl rfl rfl) (T.glo 45) (T.fun_ 32 (d := dd__law_drawn_row)).kp (b__law_drawn_row T) (ao_own (i := 0) rfl (ao_dat e_int ao_nil))))))
      (ss_cons (N1 := [ll, zz, zz, zz, zz, zz, zz, zz, zz, zz, zz, uu, uu]) (s_set (i := 10) sc__law_exchanged.nd (w_of_e (e_fz (w_call (ok__law_walk T) (hr.mono (by decide)) (takes_of rfl rfl rfl rfl) (T.glo 41) (T.fun_ 23 (d := dd__law_walk)).kp (b__law_walk T) (ao_dat (e_ix ix_d r4 (e_var (i := 2) rfl) (e_var (i := 3) rfl)) (ao_dat (e_var (i := 9) rfl) ao_nil))))))
      (ss_cons (N1 := [ll, zz, zz, zz, zz, zz, zz, zz, zz, zz, zz, zz, uu]) (s_set (i := 11) sc__law_exchanged.nd (w_of_e e_bl))
      (ss_cons (N1 := [ll, zz, zz, zz, zz, zz, zz, zz, zz, zz, zz, zz, uu]) (s_for (ws := [12]) (O2 := [ll, zz, zz, zz, zz, zz, zz, zz, zz, zz, zz, zz, zz]) (passes_of rfl) rfl (i_rng1 (T.free 2) (a_cons (e_blt call_dLen rl (by rfl) (T.free 0) boot_len (a_cons (e_var (i := 9) rfl) a_nil)) a_nil)) (g_name (i := 12) sc__law_exchanged.nd) (ss_one (N1 := [ll, zz, zz, zz, zz, zz, zz, zz, zz, zz, zz, zz, zz]) (s_if (PW.pt (tw_and (t_cmp (op_dEq hr.units) r4 (e_ix ix_d r4 (e_ix ix_d r4 (e_var (i := 10) rfl) (e_var (i := 12) rfl)) e_int) (e_var (i := 4) rfl) (nomark _)) (tw_and1 (t_cmp (op_dEq hr.units) r4 (e_ix ix_d r4 (e_var (i := 9) rfl) (e_var (i := 12) rfl)) (e_var (i := 5) rfl) (nomark _))))) (ss_one (N1 := [ll, zz, zz, zz, zz, zz, zz, zz, zz, zz, zz, zz, zz]) (s_set (i := 11) sc__law_exchanged.nd (w_of_e e_bl)) rfl) (ss_nil rfl)) rfl))
      (ss_one (N1 := [ll, zz, zz, zz, zz, zz, zz, zz, zz, zz, zz, zz, uu]) (s_if (PW.pt (tw_and (t_not (t_val (e_var (i := 11) rfl))) (tw_and1 (t_cmp (op_dNe hr.units) r4 (e_fz (w_callI (C := "Reader") (e_var (i := 7) rfl) (T.callo 10) (ok_Reader_call T) (hr.mono (by decide)) (takes_of rfl rfl rfl rfl) (b_Reader_call T) (ao_dat (e_var (i := 9) rfl) ao_nil))) (e_ix ix_d r4 (e_ix ix_d r4 (e_var (i := 10) rfl) (e_un un_dNeg r3 e_int)) e_int) (nomark _))))) (ss_one (N1 := [ll, zz, zz, zz, zz, zz, zz, zz, zz, zz, zz, zz, uu]) (s_ret (w_of_e e_bl)) rfl) (ss_nil rfl)) rfl))))))
      (ss_one (N1 := [ll, uu, uu]) (s_ret (w_of_e e_bl)) rfl)))))))))
theorem b_law (T : Tx fa fn ts fx w K mg) : Binds K (fdOf K ("law", none)) ["script"] [] := (T.fun_ 36 (d := dd_law)).bindsN fun _ _ _ _ _ _ us hl => match us, hl with | [_], _ => rfl
theorem ok_law (T : Tx fa fn ts fx w K mg) : FnOk P w K mg base (L2.CX P w) 8 (He.fAd K ("law", none)) (fdOf K ("law", none)) ["script"] (spF K [.fz] (.fz) m_law) := by
  refine fn_okD (T.fun_ 36 (d := dd_law)) sc_law rfl (fun cdv A outer s H Ex F B0 pv hr => ?_) (.inl rfl)
  exact (ss_cons (N1 := [zz, ll, uu, uu, uu, uu, uu, uu]) (s_set (i := 1) sc_law.nd (w_call (ok__law_draws T) (hr.mono (by decide)) (takes_of rfl rfl rfl rfl) (T.glo 46) (T.fun_ 0 (d := dd__law_draws)).kp (b__law_draws T) (ao_dat (e_var (i := 0) rfl) ao_nil)))
      (ss_cons (N1 := [zz, ll, zz, uu, uu, uu, uu, uu]) (s_set (i := 2) sc_law.nd (w_of_e (e_fz (w_call0 (ok__law_tables T) (hr.mono (by decide)) (takes_of rfl rfl rfl rfl) (T.glo 47) (T.fun_ 1 (d := dd__law_tables)).kp (b__law_tables T)))))
      (ss_cons (N1 := [zz, ll, zz, ll, uu, uu, uu, uu]) (s_set (i := 3) sc_law.nd (w_call0 (ok_told_readers T) (hr.mono (by decide)) (takes_of rfl rfl rfl rfl) (T.glo 48) (T.fun_ 15 (d := dd_told_readers)).kp (b_told_readers T)))
      (ss_cons (N1 := [zz, ll, zz, ll, zz, uu, uu, uu]) (s_set (i := 4) sc_law.nd (w_of_e (e_lst (a_cons (e_fz (w_call0 (ok_by_table T) (hr.mono (by decide)) (takes_of rfl rfl rfl rfl) (T.glo 27) (T.fun_ 10 (d := dd_by_table)).kp (b_by_table T))) (a_cons (e_fz (w_call0 (ok_through T) (hr.mono (by decide)) (takes_of rfl rfl rfl rfl) (T.glo 28) (T.fun_ 11 (d := dd_through)).kp (b_through T))) (a_cons (e_fz (w_call0 (ok_both_ways T) (hr.mono (by decide)) (takes_of rfl rfl rfl rfl) (T.glo 29) (T.fun_ 12 (d := dd_both_ways)).kp (b_both_ways T))) (a_cons (e_fz (w_call0 (ok_careful T) (hr.mono (by decide)) (takes_of rfl rfl rfl rfl) (T.glo 30) (T.fun_ 13 (d := dd_careful)).kp (b_careful T))) (a_cons (e_fz (w_call0 (ok_adopting T) (hr.mono (by decide)) (takes_of rfl rfl rfl rfl) (T.glo 31) (T.fun_ 14 (d := dd_adopting)).kp (b_adopting T))) a_nil))))))))
      (ss_cons (N1 := [zz, ll, zz, ll, zz, uu, uu, uu]) (s_if (PW.pt (tw_or (t_not (t_val (e_bltO (i := 3) rfl (call_dIsi (T.itab 0)) rl isiC_atom (by rfl) (T.free 6) boot_isinstance (a_cons (e_bty (T.free 4) boot_list) a_nil)))) (tw_or1 (t_cmp (op_dNe hr.units) r4 (e_lenO (i := 3) rfl (T.free 0)) e_int (nomark _))))) (ss_one (N1 := [zz, ll, zz, ll, zz, uu, uu, uu]) (s_ret (w_of_e e_bl)) rfl) (ss_nil rfl))
      (ss_cons (N1 := [zz, ll, zz, ll, zz, uu, uu, uu]) (s_for (ws := [5]) (O2 := [zz, ll, zz, ll, zz, zz, uu, uu]) (passes_of rfl) rfl (i_rng1 (T.free 2) (a_cons e_int a_nil)) (g_name (i := 5) sc_law.nd) (ss_cons (N1 := [zz, ll, zz, ll, zz, zz, uu, uu]) (s_if (t_not (t_val (e_fz (w_call (ok__law_reader_is T) (hr.mono (by decide)) (takes_of rfl rfl rfl rfl) (T.glo 50) (T.fun_ 20 (d := dd__law_reader_is)).kp (b__law_reader_is T) (ao_dat (e_ixO (i := 3) rfl (e_var (i := 5) rfl)) (ao_dat (e_ix ix_d r4 (e_var (i := 2) rfl) (e_var (i := 5) rfl)) (ao_dat (e_ix ix_d r4 (e_fz (w_call0 (ok__law_names T) (hr.mono (by decide)) (takes_of rfl rfl rfl rfl) (T.glo 49) (T.fun_ 21 (d := dd__law_names)).kp (b__law_names T))) (e_var (i := 5) rfl)) ao_nil))))))) (ss_one (N1 := [zz, ll, zz, ll, zz, zz, uu, uu]) (s_ret (w_of_e e_bl)) rfl) (ss_nil rfl))
      (ss_one (N1 := [zz, ll, zz, ll, zz, zz, uu, uu]) (s_if (t_not (t_val (e_fz (w_call (ok__law_reader_is T) (hr.mono (by decide)) (takes_of rfl rfl rfl rfl) (T.glo 50) (T.fun_ 20 (d := dd__law_reader_is)).kp (b__law_reader_is T) (ao_dat (e_ix ix_d r4 (e_var (i := 4) rfl) (e_var (i := 5) rfl)) (ao_dat (e_ix ix_d r4 (e_var (i := 2) rfl) (e_var (i := 5) rfl)) (ao_dat (e_ix ix_d r4 (e_fz (w_call0 (ok__law_names T) (hr.mono (by decide)) (takes_of rfl rfl rfl rfl) (T.glo 49) (T.fun_ 21 (d := dd__law_names)).kp (b__law_names T))) (e_var (i := 5) rfl)) ao_nil))))))) (ss_one (N1 := [zz, ll, zz, ll, zz, zz, uu, uu]) (s_ret (w_of_e e_bl)) rfl) (ss_nil rfl)) rfl)))
      (ss_cons (N1 := [zz, ll, zz, ll, zz, uu, uu, uu]) (s_if (t_not (t_val (e_fz (w_call (ok__law_pairs_part T) (hr.mono (by decide)) (takes_of rfl rfl rfl rfl) (T.glo 51) (T.fun_ 30 (d := dd__law_pairs_part)).kp (b__law_pairs_part T) (ao_own (i := 3) rfl (ao_dat (e_var (i := 2) rfl) ao_nil)))))) (ss_one (N1 := [zz, ll, zz, ll, zz, uu, uu, uu]) (s_ret (w_of_e e_bl)) rfl) (ss_nil rfl))
      (ss_cons (N1 := [zz, ll, zz, ll, zz, uu, zz, uu]) (s_set (i := 6) sc_law.nd (w_of_e (e_fz (w_call (ok__law_drawn_row T) (hr.mono (by decide)) (takes_of rfl rfl rfl rfl) (T.glo 45) (T.fun_ 32 (d := dd__law_drawn_row)).kp (b__law_drawn_row T) (ao_own (i := 1) rfl (ao_dat e_int ao_nil))))))
      (ss_cons (N1 := [zz, ll, zz, ll, zz, uu, zz, uu]) (s_for (ws := [5]) (O2 := [zz, ll, zz, ll, zz, zz, zz, uu]) (passes_of rfl) rfl (i_rng1 (T.free 2) (a_cons e_int a_nil)) (g_name (i := 5) sc_law.nd) (ss_cons (N1 := [zz, ll, zz, ll, zz, zz, zz, uu]) (s_if (t_not (t_val (e_fz (w_call (ok__law_held_is T) (hr.mono (by decide)) (takes_of rfl rfl rfl rfl) (T.glo 52) (T.fun_ 33 (d := dd__law_held_is)).kp (b__law_held_is T) (ao_dat (e_ixO (i := 3) rfl (e_var (i := 5) rfl)) (ao_dat (e_ix ix_d r4 (e_var (i := 2) rfl) (e_var (i := 5) rfl)) (ao_dat (e_var (i := 6) rfl) ao_nil))))))) (ss_one (N1 := [zz, ll, zz, ll, zz, zz, zz, uu]) (s_ret (w_of_e e_bl)) rfl) (ss_nil rfl))
      (ss_one (N1 := [zz, ll, zz, ll, zz, zz, zz, uu]) (s_for (ws := [7]) (O2 := [zz, ll, zz, ll, zz, zz, zz, zz]) (passes_of rfl) rfl (i_seq (e_fz (w_call (ok__law_lesser T) (hr.mono (by decide)) (takes_of rfl rfl rfl rfl) (T.glo 42) (T.fun_ 29 (d := dd__law_lesser)).kp (b__law_lesser T) (ao_dat (e_lst (a_cons e_str (a_cons e_str a_nil))) ao_nil)))) (g_name (i := 7) sc_law.nd) (ss_one (N1 := [zz, ll, zz, ll, zz, zz, zz, zz]) (s_if (t_not (t_val (e_fz (w_call (ok__law_held_is T) (hr.mono (by decide)) (takes_of rfl rfl rfl rfl) (T.glo 52) (T.fun_ 33 (d := dd__law_held_is)).kp (b__law_held_is T) (ao_dat (e_ix ix_d r4 (e_var (i := 4) rfl) (e_var (i := 5) rfl)) (ao_dat (e_ix ix_d r4 (e_var (i := 2) rfl) (e_var (i := 5) rfl)) (ao_dat (e_var (i := 7) rfl) ao_nil))))))) (ss_one (N1 := [zz, ll, zz, ll, zz, zz, zz, zz]) (s_ret (w_of_e e_bl)) rfl) (ss_nil rfl)) rfl)) rfl)))
      (ss_cons (N1 := [zz, ll, zz, ll, zz, uu, zz, uu]) (s_expr (e_mut0 (i := 3) rfl PySem.F.plainAttrs_list PySem.F.slot_list_clear PySem.F.type_list_clear mu_clear rm))
      (ss_cons (N1 := [zz, ll, zz, ll, zz, uu, zz, uu]) (s_if (t_cmp (op_dNe hr.units) r4 (e_blt call_dLen rl (by rfl) (T.free 0) boot_len (a_cons (e_fz (w_call0 (ok_told_readers T) (hr.mono (by decide)) (takes_of rfl rfl rfl rfl) (T.glo 48) (T.fun_ 15 (d := dd_told_readers)).kp (b_told_readers T))) a_nil)) e_int (nomark _)) (ss_one (N1 := [zz, ll, zz, ll, zz, uu, zz, uu]) (s_ret (w_of_e e_bl)) rfl) (ss_nil rfl))
      (ss_one (N1 := [uu]) (s_ret (w_of_e (e_fz (w_call (ok__law_exchanged T) (hr.mono (by decide)) (takes_of rfl rfl rfl rfl) (T.glo 53) (T.fun_ 35 (d := dd__law_exchanged)).kp (b__law_exchanged T) (ao_own (i := 1) rfl (ao_dat (e_var (i := 4) rfl) (ao_dat (e_var (i := 2) rfl) ao_nil))))))) rfl))))))))))))
end
end Law

namespace Law
open PySem PySem.Spec PyProof.Rows L2 L3
abbrev NN (ds : List Int) : Prop := ∀ x ∈ ds, 0 ≤ x
theorem take_ok (ds : List Int) (hn : NN ds) (many : Int) (hm : 1 ≤ many) : ∃ t ds', m__law_take [.lst (ds.map D.int), .int many] = .ok (.int t) [some (.lst (ds'.map D.int)), none] ∧ 0 ≤ t ∧ t < many ∧ NN ds' := by
  by_cases h0 : ds = []
  · subst h0
    exact ⟨0, [], rfl, by omega, by omega, hn⟩
  · by_cases h2 : many < 2
    · refine ⟨0, ds, ?_, by omega, by omega, hn⟩
      simp [m__law_take, bd__law_take, defM, fSeq, RS.seq, R.toS, L3.R.bind, lift, fVar, fC, f2, f1O, peek, dLen, fIfS, ftOr, ftB, toB, dEq, eqB, dLt, cmpI, fRet, maskE, h2]
    · have hl : ds.getLast? = some (ds.getLast h0) := List.getLast?_eq_some_getLast h0
      refine ⟨ds.getLast h0 % many, ds.dropLast, ?_, Int.emod_nonneg _ (by omega), Int.emod_lt_of_pos _ (by omega), fun x hx => hn x (List.dropLast_subset ds hx)⟩
      simp [m__law_take, bd__law_take, defM, fSeq, RS.seq, R.toS, L3.R.bind, lift, fVar, fC, f2, fL, faC, faN, f1O, peek, dLen, fIfS, ftOr, ftB, toB, dEq, eqB, dLt, cmpI, fRet, maskE, h2, h0, fMut, mutR, gPop, dInt, dMod, hl, show 0 < many by omega]
end Law

namespace Law
open PySem PySem.Spec PyProof.Rows L2 L3
/-- what stands in the slots of _law_draws between turns -/
def DI (S : D) (a : Option D) (L : Nat) (ρ : E) : Prop := ∃ c k nb ds, ρ = [some S, some (.lst (ds.map D.int)), a, some (.int c), k, nb] ∧ 0 ≤ c ∧ NN ds ∧ ds.length ≤ L
theorem nn_snoc {ds : List Int} {x : Int} (h : NN ds) (hx : 0 ≤ x) : NN (ds ++ [x]) := fun y hy => by
  rcases List.mem_append.mp hy with h1 | h1
  · exact h y h1
  · rw [List.mem_singleton.mp h1]; exact hx
theorem big_loop (S : D) (a : Option D) (L : Nat) (hL : L + 50 < sizeLine) (c : Int) (k nb : Option D) (ds : List Int) (hc : 0 ≤ c) (hn : NN ds) (hl : ds.length ≤ L) :
    ∃ ρ', forF (hName 4) lp__law_draws_2 (rngD 0 50) [some S, some (.lst (ds.map D.int)), a, some (.int c), k, nb] = .nx ρ' ∧ DI S a (L + 50) ρ' := by
  have key := forF_ix (set := hName 4) (body := lp__law_draws_2) (I := fun i ρ => DI S a (L + i) ρ) (rngD 0 50) 0 [some S, some (.lst (ds.map D.int)), a, some (.int c), k, nb] (fun i d hd ρ hI => by
    obtain ⟨hi, rfl⟩ := rngD_at hd
    obtain ⟨c, k, nb, ds, rfl, hc, hn, hl⟩ := hI
    refine ⟨_, rfl, ?_⟩
    simp only [List.set_cons_succ, List.set_cons_zero]
    by_cases h0 : 0 < c
    · refine ⟨[some S, some (.lst ((ds ++ [c % 30]).map D.int)), a, some (.int (c / 30)), some (.int (0 + (i : Nat))), nb], .inl ?_, c / 30, _, _, _, rfl, by omega, nn_snoc hn (by omega), by simp; omega⟩
      simp [lp__law_draws_2, fSeq, RS.seq, R.toS, L3.R.bind, lift, fVar, fC, f1, f2, fL, faC, faN, fSet, fIfS, ftB, ftV, ftNot, ftAnd, ftOr, toB, truth, fRet, fRetO, fDrop, fIf, fAnd, fOr, fMut, mutR, fAsg, hTup, hCons, hName, hNil, fIxO, peek, f1O, f2O, defM, maskE, fCall, callM, L3.fill, L3.unfill, dAdd, dSub, dMul, dMod, dFdiv, dLt, dLe, dGt, dGe, cmpI, dEq, dNe, eqB, dIs, dIsNot, dLen, dInt, dTuple, dList, dLim, gAppend, gPop, gExtend, gReverse, gClear, h0, show ds.length < sizeLine by omega]
    · refine ⟨[some S, some (.lst (ds.map D.int)), a, some (.int c), some (.int (0 + (i : Nat))), nb], .inl ?_, c, _, _, _, rfl, hc, hn, by omega⟩
      simp [lp__law_draws_2, fSeq, RS.seq, R.toS, L3.R.bind, lift, fVar, fC, f1, f2, fL, faC, faN, fSet, fIfS, ftB, ftV, ftNot, ftAnd, ftOr, toB, truth, fRet, fRetO, fDrop, fIf, fAnd, fOr, fMut, mutR, fAsg, hTup, hCons, hName, hNil, fIxO, peek, f1O, f2O, defM, maskE, fCall, callM, L3.fill, L3.unfill, dAdd, dSub, dMul, dMod, dFdiv, dLt, dLe, dGt, dGe, cmpI, dEq, dNe, eqB, dIs, dIsNot, dLen, dInt, dTuple, dList, dLim, gAppend, gPop, gExtend, gReverse, gClear, h0]) ⟨c, k, nb, ds, rfl, hc, hn, hl⟩
  obtain ⟨ρ', h1, h2⟩ := key
  rw [rngD_length] at h2
  exact ⟨ρ', h1, by simpa using h2⟩
theorem small_loop (S : D) (at_ : Int) (L : Nat) (hL : L + 7 < sizeLine) (c nb : Int) (k : Option D) (ds : List Int) (hc : 0 ≤ c) (hb : 0 ≤ nb ∧ nb < 2147483647) (hn : NN ds) (hl : ds.length ≤ L) :
    ∃ ρ', forF (hName 4) lp__law_draws_3 (rngD 0 7) [some S, some (.lst (ds.map D.int)), some (.int at_), some (.int c), k, some (.int nb)] = .nx ρ' ∧ DI S (some (.int at_)) (L + 7) ρ' := by
  have key := forF_ix (set := hName 4) (body := lp__law_draws_3)
    (I := fun i ρ => ∃ k nb ds, ρ = [some S, some (.lst (ds.map D.int)), some (.int at_), some (.int c), k, some (.int nb)] ∧ (0 ≤ nb ∧ nb < 2147483647) ∧ NN ds ∧ ds.length ≤ L + i) (rngD 0 7) 0 [some S, some (.lst (ds.map D.int)), some (.int at_), some (.int c), k, some (.int nb)] (fun i d hd ρ hI => by
    obtain ⟨hi, rfl⟩ := rngD_at hd
    obtain ⟨k, nb, ds, rfl, hb, hn, hl⟩ := hI
    refine ⟨_, rfl, ?_⟩
    simp only [List.set_cons_succ, List.set_cons_zero]
    obtain ⟨z, hz⟩ : ∃ z : Int, z = (nb * nb + (0 + (i : Nat)) * 60013 + at_ + 3) % 2147483579 := ⟨_, rfl⟩
    have hm : 0 ≤ z ∧ z < 2147483579 := by
      rw [hz]
      exact ⟨Int.emod_nonneg _ (by omega), Int.emod_lt_of_pos _ (by omega)⟩
    have hs : (smallI nb || smallI nb) = true := by
      have : smallI nb = true := by
        unfold smallI
        rw [Bool.and_eq_true, decide_eq_true_eq, decide_eq_true_eq]
        constructor <;> omega
      rw [this]; rfl
    have hs2 : (smallI (0 + (i : Nat)) || smallI 60013) = true := by
      rw [show smallI 60013 = true by decide, Bool.or_true]
    refine ⟨[some S, some (.lst ((ds ++ [z / 7]).map D.int)), some (.int at_), some (.int c), some (.int (0 + (i : Nat))), some (.int z)], .inl ?_, _, _, _, rfl, ⟨hm.1, by omega⟩, nn_snoc hn (by omega), by simp; omega⟩
    unfold lp__law_draws_3
    apply Eq.trans
    · repeat' (first | (with_reducible exact L3.v_c) | (with_reducible apply L3.v_var) | ((with_reducible apply L3.at_mk); exact rfl) | ((with_reducible apply L3.bt_mk); exact rfl) | (with_reducible exact L3.v_aN) | (with_reducible apply L3.st_z) | (with_reducible apply L3.st_s) | (with_reducible apply L3.fl_n) | (with_reducible apply L3.fl_d) | (with_reducible apply L3.fl_o) | (with_reducible apply L3.uf_n) | (with_reducible apply L3.uf_d) | (with_reducible apply L3.uf_o) | (with_reducible apply L3.v_aC) | (with_reducible apply L3.v_f2) | (with_reducible apply L3.v_f1) | (with_reducible apply L3.v_fL) | (with_reducible apply L3.z_seq) | (with_reducible apply L3.z_nx) | (with_reducible apply L3.z_set) | (with_reducible apply L3.z_drop) | (with_reducible apply L3.z_ret) | (with_reducible apply L3.z_retO) | (with_reducible apply L3.z_if) | (with_reducible apply L3.v_ite_t) | (with_reducible apply L3.v_ite_f) | (with_reducible apply L3.t_B) | (with_reducible apply L3.t_V) | (with_reducible apply L3.t_N) | (with_reducible apply L3.t_A) | (with_reducible apply L3.t_O) | (with_reducible apply L3.v_if) | (with_reducible apply L3.v_and) | (with_reducible apply L3.v_or) | (with_reducible apply L3.z_asg) | (with_reducible apply L3.z_par) | (with_reducible apply L3.z_for) | (with_reducible apply L3.v_mut) | (with_reducible apply L3.v_ixO) | (with_reducible apply L3.v_f1O) | (with_reducible apply L3.v_f2O) | (with_reducible apply L3.v_isiO) | (with_reducible apply L3.i_r1) | (with_reducible apply L3.i_r2) | (with_reducible apply L3.v_call) | (with_reducible apply L3.v_meth) | (with_reducible apply L3.v_callI) | (with_reducible apply L3.v_make) | (with_reducible apply L3.fg_name) | (with_reducible apply L3.fg_nil) | (with_reducible apply L3.fg_cons) | (with_reducible apply L3.v_bm) | (with_reducible exact L3.z_rt) | (with_reducible exact L3.z_n) | (with_reducible exact L3.z_ok) | (with_reducible exact L3.tr_bl) | (with_reducible exact L3.bn_t) | (with_reducible exact L3.bn_f) | (with_reducible exact L3.o_add) | (with_reducible exact L3.o_sub) | (with_reducible exact L3.o_int) | (with_reducible exact L3.o_lenl) | (with_reducible exact L3.o_lenk) | (with_reducible exact L3.o_lent) | (with_reducible exact L3.o_tuple_l) | (with_reducible exact L3.o_tuple_t) | (with_reducible exact L3.o_list_t) | (with_reducible exact L3.o_list_l) | (with_reducible exact L3.o_reverse) | (with_reducible exact L3.o_clear) | (with_reducible exact L3.o_ix0) | (with_reducible exact L3.o_ix1) | (with_reducible exact L3.o_lx0) | (with_reducible exact L3.o_isn) | (with_reducible exact L3.o_isnI) | (with_reducible exact L3.o_neg) | ((with_reducible apply L3.o_lt_t); omega) | ((with_reducible apply L3.o_lt_f); omega) | ((with_reducible apply L3.o_le_t); omega) | ((with_reducible apply L3.o_le_f); omega) | ((with_reducible apply L3.o_gt_t); omega) | ((with_reducible apply L3.o_gt_f); omega) | ((with_reducible apply L3.o_ge_t); omega) | ((with_reducible apply L3.o_ge_f); omega) | ((with_reducible apply L3.o_eq_t); omega) | ((with_reducible apply L3.o_eq_f); omega) | ((with_reducible apply L3.o_ne_t); omega) | ((with_reducible apply L3.o_ne_f); omega) | ((with_reducible apply L3.o_eqs_t); exact rfl) | ((with_reducible apply L3.o_eqs_f); decide) | ((with_reducible apply L3.o_nes_f); exact rfl) | ((with_reducible apply L3.o_nes_t); decide) | ((with_reducible apply L3.o_mul1); omega) | ((with_reducible apply L3.o_mul2); omega) | ((with_reducible apply L3.o_mod); omega) | ((with_reducible apply L3.o_fdiv); omega) | ((with_reducible apply L3.inW_of'); omega) | ((with_reducible apply L3.o_fld); exact rfl) | ((with_reducible apply L3.fg_tup); (first | exact rfl | skip)) | ((with_reducible apply L3.o_append); first | assumption | (simp only [List.length_map] at *; omega)) | ((with_reducible apply L3.o_tup); exact le_size (by simp)) | ((with_reducible apply L3.o_lst); exact le_size (by simp)))
    · subst hz
      simp) ⟨k, nb, ds, rfl, hb, hn, hl⟩
  obtain ⟨ρ', h1, h2⟩ := key
  rw [rngD_length] at h2
  obtain ⟨k', nb', ds', rfl, hb', hn', hl'⟩ := h2
  exact ⟨_, h1, c, k', some (.int nb'), ds', rfl, hc, hn', by simpa using hl'⟩
theorem pow18 : dPow (.int 10) (.int 18) = some (.int 1000000000000000000) := by simp [dPow]
theorem draws_body (ns : List Int) (i : Nat) (hi : i < ns.length) (h63 : i < 63) (a c k nb : Option D) (ds : List Int) (hn : NN ds) (hl : ds.length ≤ 50 * i) :
    ∃ ρ2, lp__law_draws_1 [some (.lsk (ns.map D.int)), some (.lst (ds.map D.int)), some (.int (0 + (i : Nat))), c, k, nb] = .nx ρ2 ∧ ∃ a c k nb ds, ρ2 = [some (.lsk (ns.map D.int)), some (.lst (ds.map D.int)), a, c, k, nb] ∧ NN ds ∧ ds.length ≤ 50 * (i + 1) := by
  have hix : dIx (.lsk (ns.map D.int)) (.int (0 + (i : Nat))) = some (.int ns[i]) := by
    rw [Int.zero_add, dIx_lsk, List.getElem?_map, List.getElem?_eq_getElem hi]; rfl
  have hsl : 50 * 63 + 100 < sizeLine := by decide
  obtain ⟨x, hx⟩ : ∃ x, x = ns[i] := ⟨_, rfl⟩
  rw [← hx] at hix
  obtain ⟨c', hc'⟩ : ∃ c' : Int, c' = (if x < 0 then 1 - x else x) := ⟨_, rfl⟩
  have hc0 : 0 ≤ c' := by rw [hc']; split <;> omega
  have hset : fSeq (fSet 3 (fL dInt (faC (f2 dIx (fVar 0) (fVar 2)) (faN)))) (fIfS (ftB (f2 dLt (fVar 3) (fC (.int 0)))) (fSet 3 (f2 dSub (fC (.int 1)) (fVar 3))) (RS.nx)) [some (.lsk (ns.map D.int)), some (.lst (ds.map D.int)), some (.int (0 + (i : Nat))), c, k, nb] = .nx [some (.lsk (ns.map D.int)), some (.lst (ds.map D.int)), some (.int (0 + (i : Nat))), some (.int c'), k, nb] := by
    by_cases h0 : x < 0
    · rw [if_pos h0] at hc'
      apply Eq.trans
      · repeat' (first | (with_reducible exact hix) | (with_reducible exact L3.v_c) | (with_reducible apply L3.v_var) | ((with_reducible apply L3.at_mk); exact rfl) | ((with_reducible apply L3.bt_mk); exact rfl) | (with_reducible exact L3.v_aN) | (with_reducible apply L3.st_z) | (with_reducible apply L3.st_s) | (with_reducible apply L3.fl_n) | (with_reducible apply L3.fl_d) | (with_reducible apply L3.fl_o) | (with_reducible apply L3.uf_n) | (with_reducible apply L3.uf_d) | (with_reducible apply L3.uf_o) | (with_reducible apply L3.v_aC) | (with_reducible apply L3.v_f2) | (with_reducible apply L3.v_f1) | (with_reducible apply L3.v_fL) | (with_reducible apply L3.z_seq) | (with_reducible apply L3.z_nx) | (with_reducible apply L3.z_set) | (with_reducible apply L3.z_drop) | (with_reducible apply L3.z_ret) | (with_reducible apply L3.z_retO) | (with_reducible apply L3.z_if) | (with_reducible apply L3.v_ite_t) | (with_reducible apply L3.v_ite_f) | (with_reducible apply L3.t_B) | (with_reducible apply L3.t_V) | (with_reducible apply L3.t_N) | (with_reducible apply L3.t_A) | (with_reducible apply L3.t_O) | (with_reducible apply L3.v_if) | (with_reducible apply L3.v_and) | (with_reducible apply L3.v_or) | (with_reducible apply L3.z_asg) | (with_reducible apply L3.z_par) | (with_reducible apply L3.z_for) | (with_reducible apply L3.v_mut) | (with_reducible apply L3.v_ixO) | (with_reducible apply L3.v_f1O) | (with_reducible apply L3.v_f2O) | (with_reducible apply L3.v_isiO) | (with_reducible apply L3.i_r1) | (with_reducible apply L3.i_r2) | (with_reducible apply L3.v_call) | (with_reducible apply L3.v_meth) | (with_reducible apply L3.v_callI) | (with_reducible apply L3.v_make) | (with_reducible apply L3.fg_name) | (with_reducible apply L3.fg_nil) | (with_reducible apply L3.fg_cons) | (with_reducible apply L3.v_bm) | (with_reducible exact L3.z_rt) | (with_reducible exact L3.z_n) | (with_reducible exact L3.z_ok) | (with_reducible exact L3.tr_bl) | (with_reducible exact L3.bn_t) | (with_reducible exact L3.bn_f) | (with_reducible exact L3.o_add) | (with_reducible exact L3.o_sub) | (with_reducible exact L3.o_int) | (with_reducible exact L3.o_lenl) | (with_reducible exact L3.o_lenk) | (with_reducible exact L3.o_lent) | (with_reducible exact L3.o_tuple_l) | (with_reducible exact L3.o_tuple_t) | (with_reducible exact L3.o_list_t) | (with_reducible exact L3.o_list_l) | (with_reducible exact L3.o_reverse) | (with_reducible exact L3.o_clear) | (with_reducible exact L3.o_ix0) | (with_reducible exact L3.o_ix1) | (with_reducible exact L3.o_lx0) | (with_reducible exact L3.o_isn) | (with_reducible exact L3.o_isnI) | (with_reducible exact L3.o_neg) | ((with_reducible apply L3.o_lt_t); omega) | ((with_reducible apply L3.o_lt_f); omega) | ((with_reducible apply L3.o_le_t); omega) | ((with_reducible apply L3.o_le_f); omega) | ((with_reducible apply L3.o_gt_t); omega) | ((with_reducible apply L3.o_gt_f); omega) | ((with_reducible apply L3.o_ge_t); omega) | ((with_reducible apply L3.o_ge_f); omega) | ((with_reducible apply L3.o_eq_t); omega) | ((with_reducible apply L3.o_eq_f); omega) | ((with_reducible apply L3.o_ne_t); omega) | ((with_reducible apply L3.o_ne_f); omega) | ((with_reducible apply L3.o_eqs_t); exact rfl) | ((with_reducible apply L3.o_eqs_f); decide) | ((with_reducible apply L3.o_nes_f); exact rfl) | ((with_reducible apply L3.o_nes_t); decide) | ((with_reducible apply L3.o_mul1); omega) | ((with_reducible apply L3.o_mul2); omega) | ((with_reducible apply L3.o_mod); omega) | ((with_reducible apply L3.o_fdiv); omega) | ((with_reducible apply L3.inW_of'); omega) | ((with_reducible apply L3.o_fld); exact rfl) | ((with_reducible apply L3.fg_tup); (first | exact rfl | skip)) | ((with_reducible apply L3.o_append); first | assumption | (simp only [List.length_map] at *; omega)) | ((with_reducible apply L3.o_tup); exact le_size (by simp)) | ((with_reducible apply L3.o_lst); exact le_size (by simp)))
      · rw [hc']
    · rw [if_neg h0] at hc'
      apply Eq.trans
      · repeat' (first | (with_reducible exact hix) | (with_reducible exact L3.v_c) | (with_reducible apply L3.v_var) | ((with_reducible apply L3.at_mk); exact rfl) | ((with_reducible apply L3.bt_mk); exact rfl) | (with_reducible exact L3.v_aN) | (with_reducible apply L3.st_z) | (with_reducible apply L3.st_s) | (with_reducible apply L3.fl_n) | (with_reducible apply L3.fl_d) | (with_reducible apply L3.fl_o) | (with_reducible apply L3.uf_n) | (with_reducible apply L3.uf_d) | (with_reducible apply L3.uf_o) | (with_reducible apply L3.v_aC) | (with_reducible apply L3.v_f2) | (with_reducible apply L3.v_f1) | (with_reducible apply L3.v_fL) | (with_reducible apply L3.z_seq) | (with_reducible apply L3.z_nx) | (with_reducible apply L3.z_set) | (with_reducible apply L3.z_drop) | (with_reducible apply L3.z_ret) | (with_reducible apply L3.z_retO) | (with_reducible apply L3.z_if) | (with_reducible apply L3.v_ite_t) | (with_reducible apply L3.v_ite_f) | (with_reducible apply L3.t_B) | (with_reducible apply L3.t_V) | (with_reducible apply L3.t_N) | (with_reducible apply L3.t_A) | (with_reducible apply L3.t_O) | (with_reducible apply L3.v_if) | (with_reducible apply L3.v_and) | (with_reducible apply L3.v_or) | (with_reducible apply L3.z_asg) | (with_reducible apply L3.z_par) | (with_reducible apply L3.z_for) | (with_reducible apply L3.v_mut) | (with_reducible apply L3.v_ixO) | (with_reducible apply L3.v_f1O) | (with_reducible apply L3.v_f2O) | (with_reducible apply L3.v_isiO) | (with_reducible apply L3.i_r1) | (with_reducible apply L3.i_r2) | (with_reducible apply L3.v_call) | (with_reducible apply L3.v_meth) | (with_reducible apply L3.v_callI) | (with_reducible apply L3.v_make) | (with_reducible apply L3.fg_name) | (with_reducible apply L3.fg_nil) | (with_reducible apply L3.fg_cons) | (with_reducible apply L3.v_bm) | (with_reducible exact L3.z_rt) | (with_reducible exact L3.z_n) | (with_reducible exact L3.z_ok) | (with_reducible exact L3.tr_bl) | (with_reducible exact L3.bn_t) | (with_reducible exact L3.bn_f) | (with_reducible exact L3.o_add) | (with_reducible exact L3.o_sub) | (with_reducible exact L3.o_int) | (with_reducible exact L3.o_lenl) | (with_reducible exact L3.o_lenk) | (with_reducible exact L3.o_lent) | (with_reducible exact L3.o_tuple_l) | (with_reducible exact L3.o_tuple_t) | (with_reducible exact L3.o_list_t) | (with_reducible exact L3.o_list_l) | (with_reducible exact L3.o_reverse) | (with_reducible exact L3.o_clear) | (with_reducible exact L3.o_ix0) | (with_reducible exact L3.o_ix1) | (with_reducible exact L3.o_lx0) | (with_reducible exact L3.o_isn) | (with_reducible exact L3.o_isnI) | (with_reducible exact L3.o_neg) | ((with_reducible apply L3.o_lt_t); omega) | ((with_reducible apply L3.o_lt_f); omega) | ((with_reducible apply L3.o_le_t); omega) | ((with_reducible apply L3.o_le_f); omega) | ((with_reducible apply L3.o_gt_t); omega) | ((with_reducible apply L3.o_gt_f); omega) | ((with_reducible apply L3.o_ge_t); omega) | ((with_reducible apply L3.o_ge_f); omega) | ((with_reducible apply L3.o_eq_t); omega) | ((with_reducible apply L3.o_eq_f); omega) | ((with_reducible apply L3.o_ne_t); omega) | ((with_reducible apply L3.o_ne_f); omega) | ((with_reducible apply L3.o_eqs_t); exact rfl) | ((with_reducible apply L3.o_eqs_f); decide) | ((with_reducible apply L3.o_nes_f); exact rfl) | ((with_reducible apply L3.o_nes_t); decide) | ((with_reducible apply L3.o_mul1); omega) | ((with_reducible apply L3.o_mul2); omega) | ((with_reducible apply L3.o_mod); omega) | ((with_reducible apply L3.o_fdiv); omega) | ((with_reducible apply L3.inW_of'); omega) | ((with_reducible apply L3.o_fld); exact rfl) | ((with_reducible apply L3.fg_tup); (first | exact rfl | skip)) | ((with_reducible apply L3.o_append); first | assumption | (simp only [List.length_map] at *; omega)) | ((with_reducible apply L3.o_tup); exact le_size (by simp)) | ((with_reducible apply L3.o_lst); exact le_size (by simp)))
      · rw [hc']
  have hsplit : ∀ g : E → RS, ∀ r, g [some (.lsk (ns.map D.int)), some (.lst (ds.map D.int)), some (.int (0 + (i : Nat))), some (.int c'), k, nb] = r → fSeq (fSet 3 (fL dInt (faC (f2 dIx (fVar 0) (fVar 2)) (faN)))) (fSeq (fIfS (ftB (f2 dLt (fVar 3) (fC (.int 0)))) (fSet 3 (f2 dSub (fC (.int 1)) (fVar 3))) (RS.nx)) g) [some (.lsk (ns.map D.int)), some (.lst (ds.map D.int)), some (.int (0 + (i : Nat))), c, k, nb] = r := fun g r hg => by
    rw [← z_assoc]; exact z_seq hset hg
  by_cases hb : 1000000000000000000 ≤ c'
  · obtain ⟨ρ', h1, c2, k2, nb2, ds2, rfl, g1, g2, g3⟩ := big_loop (.lsk (ns.map D.int)) (some (.int (0 + (i : Nat)))) (50 * i) (by omega) c' k nb ds hc0 hn hl
    refine ⟨_, hsplit _ _ ?_, some (.int (0 + (i : Nat))), some (.int c2), k2, nb2, ds2, rfl, g2, by omega⟩
    repeat' (first | (with_reducible exact pow18) | ((with_reducible apply L3.lp_mk); exact h1) | (with_reducible exact L3.v_c) | (with_reducible apply L3.v_var) | ((with_reducible apply L3.at_mk); exact rfl) | ((with_reducible apply L3.bt_mk); exact rfl) | (with_reducible exact L3.v_aN) | (with_reducible apply L3.st_z) | (with_reducible apply L3.st_s) | (with_reducible apply L3.fl_n) | (with_reducible apply L3.fl_d) | (with_reducible apply L3.fl_o) | (with_reducible apply L3.uf_n) | (with_reducible apply L3.uf_d) | (with_reducible apply L3.uf_o) | (with_reducible apply L3.v_aC) | (with_reducible apply L3.v_f2) | (with_reducible apply L3.v_f1) | (with_reducible apply L3.v_fL) | (with_reducible apply L3.z_seq) | (with_reducible apply L3.z_nx) | (with_reducible apply L3.z_set) | (with_reducible apply L3.z_drop) | (with_reducible apply L3.z_ret) | (with_reducible apply L3.z_retO) | (with_reducible apply L3.z_if) | (with_reducible apply L3.v_ite_t) | (with_reducible apply L3.v_ite_f) | (with_reducible apply L3.t_B) | (with_reducible apply L3.t_V) | (with_reducible apply L3.t_N) | (with_reducible apply L3.t_A) | (with_reducible apply L3.t_O) | (with_reducible apply L3.v_if) | (with_reducible apply L3.v_and) | (with_reducible apply L3.v_or) | (with_reducible apply L3.z_asg) | (with_reducible apply L3.z_par) | (with_reducible apply L3.z_for) | (with_reducible apply L3.v_mut) | (with_reducible apply L3.v_ixO) | (with_reducible apply L3.v_f1O) | (with_reducible apply L3.v_f2O) | (with_reducible apply L3.v_isiO) | (with_reducible apply L3.i_r1) | (with_reducible apply L3.i_r2) | (with_reducible apply L3.v_call) | (with_reducible apply L3.v_meth) | (with_reducible apply L3.v_callI) | (with_reducible apply L3.v_make) | (with_reducible apply L3.fg_name) | (with_reducible apply L3.fg_nil) | (with_reducible apply L3.fg_cons) | (with_reducible apply L3.v_bm) | (with_reducible exact L3.z_rt) | (with_reducible exact L3.z_n) | (with_reducible exact L3.z_ok) | (with_reducible exact L3.tr_bl) | (with_reducible exact L3.bn_t) | (with_reducible exact L3.bn_f) | (with_reducible exact L3.o_add) | (with_reducible exact L3.o_sub) | (with_reducible exact L3.o_int) | (with_reducible exact L3.o_lenl) | (with_reducible exact L3.o_lenk) | (with_reducible exact L3.o_lent) | (with_reducible exact L3.o_tuple_l) | (with_reducible exact L3.o_tuple_t) | (with_reducible exact L3.o_list_t) | (with_reducible exact L3.o_list_l) | (with_reducible exact L3.o_reverse) | (with_reducible exact L3.o_clear) | (with_reducible exact L3.o_ix0) | (with_reducible exact L3.o_ix1) | (with_reducible exact L3.o_lx0) | (with_reducible exact L3.o_isn) | (with_reducible exact L3.o_isnI) | (with_reducible exact L3.o_neg) | ((with_reducible apply L3.o_lt_t); omega) | ((with_reducible apply L3.o_lt_f); omega) | ((with_reducible apply L3.o_le_t); omega) | ((with_reducible apply L3.o_le_f); omega) | ((with_reducible apply L3.o_gt_t); omega) | ((with_reducible apply L3.o_gt_f); omega) | ((with_reducible apply L3.o_ge_t); omega) | ((with_reducible apply L3.o_ge_f); omega) | ((with_reducible apply L3.o_eq_t); omega) | ((with_reducible apply L3.o_eq_f); omega) | ((with_reducible apply L3.o_ne_t); omega) | ((with_reducible apply L3.o_ne_f); omega) | ((with_reducible apply L3.o_eqs_t); exact rfl) | ((with_reducible apply L3.o_eqs_f); decide) | ((with_reducible apply L3.o_nes_f); exact rfl) | ((with_reducible apply L3.o_nes_t); decide) | ((with_reducible apply L3.o_mul1); omega) | ((with_reducible apply L3.o_mul2); omega) | ((with_reducible apply L3.o_mod); omega) | ((with_reducible apply L3.o_fdiv); omega) | ((with_reducible apply L3.inW_of'); omega) | ((with_reducible apply L3.o_fld); exact rfl) | ((with_reducible apply L3.fg_tup); (first | exact rfl | skip)) | ((with_reducible apply L3.o_append); first | assumption | (simp only [List.length_map] at *; omega)) | ((with_reducible apply L3.o_tup); exact le_size (by simp)) | ((with_reducible apply L3.o_lst); exact le_size (by simp)))
  · obtain ⟨z, hz⟩ : ∃ z : Int, z = (c' * 52361 + (0 + (i : Nat)) * 71993 + 5) % 2147483647 := ⟨_, rfl⟩
    have hm : 0 ≤ z ∧ z < 2147483647 := by
      rw [hz]
      exact ⟨Int.emod_nonneg _ (by omega), Int.emod_lt_of_pos _ (by omega)⟩
    obtain ⟨ρ', h1, c2, k2, nb2, ds2, rfl, g1, g2, g3⟩ := small_loop (.lsk (ns.map D.int)) (0 + (i : Nat)) (50 * i) (by omega) c' z k ds hc0 hm hn hl
    refine ⟨_, hsplit _ _ ?_, some (.int (0 + (i : Nat))), some (.int c2), k2, nb2, ds2, rfl, g2, by omega⟩
    rw [hz] at h1
    repeat' (first | (with_reducible exact pow18) | ((with_reducible apply L3.lp_mk); exact h1) | (with_reducible exact L3.v_c) | (with_reducible apply L3.v_var) | ((with_reducible apply L3.at_mk); exact rfl) | ((with_reducible apply L3.bt_mk); exact rfl) | (with_reducible exact L3.v_aN) | (with_reducible apply L3.st_z) | (with_reducible apply L3.st_s) | (with_reducible apply L3.fl_n) | (with_reducible apply L3.fl_d) | (with_reducible apply L3.fl_o) | (with_reducible apply L3.uf_n) | (with_reducible apply L3.uf_d) | (with_reducible apply L3.uf_o) | (with_reducible apply L3.v_aC) | (with_reducible apply L3.v_f2) | (with_reducible apply L3.v_f1) | (with_reducible apply L3.v_fL) | (with_reducible apply L3.z_seq) | (with_reducible apply L3.z_nx) | (with_reducible apply L3.z_set) | (with_reducible apply L3.z_drop) | (with_reducible apply L3.z_ret) | (with_reducible apply L3.z_retO) | (with_reducible apply L3.z_if) | (with_reducible apply L3.v_ite_t) | (with_reducible apply L3.v_ite_f) | (with_reducible apply L3.t_B) | (with_reducible apply L3.t_V) | (with_reducible apply L3.t_N) | (with_reducible apply L3.t_A) | (with_reducible apply L3.t_O) | (with_reducible apply L3.v_if) | (with_reducible apply L3.v_and) | (with_reducible apply L3.v_or) | (with_reducible apply L3.z_asg) | (with_reducible apply L3.z_par) | (with_reducible apply L3.z_for) | (with_reducible apply L3.v_mut) | (with_reducible apply L3.v_ixO) | (with_reducible apply L3.v_f1O) | (with_reducible apply L3.v_f2O) | (with_reducible apply L3.v_isiO) | (with_reducible apply L3.i_r1) | (with_reducible apply L3.i_r2) | (with_reducible apply L3.v_call) | (with_reducible apply L3.v_meth) | (with_reducible apply L3.v_callI) | (with_reducible apply L3.v_make) | (with_reducible apply L3.fg_name) | (with_reducible apply L3.fg_nil) | (with_reducible apply L3.fg_cons) | (with_reducible apply L3.v_bm) | (with_reducible exact L3.z_rt) | (with_reducible exact L3.z_n) | (with_reducible exact L3.z_ok) | (with_reducible exact L3.tr_bl) | (with_reducible exact L3.bn_t) | (with_reducible exact L3.bn_f) | (with_reducible exact L3.o_add) | (with_reducible exact L3.o_sub) | (with_reducible exact L3.o_int) | (with_reducible exact L3.o_lenl) | (with_reducible exact L3.o_lenk) | (with_reducible exact L3.o_lent) | (with_reducible exact L3.o_tuple_l) | (with_reducible exact L3.o_tuple_t) | (with_reducible exact L3.o_list_t) | (with_reducible exact L3.o_list_l) | (with_reducible exact L3.o_reverse) | (with_reducible exact L3.o_clear) | (with_reducible exact L3.o_ix0) | (with_reducible exact L3.o_ix1) | (with_reducible exact L3.o_lx0) | (with_reducible exact L3.o_isn) | (with_reducible exact L3.o_isnI) | (with_reducible exact L3.o_neg) | ((with_reducible apply L3.o_lt_t); omega) | ((with_reducible apply L3.o_lt_f); omega) | ((with_reducible apply L3.o_le_t); omega) | ((with_reducible apply L3.o_le_f); omega) | ((with_reducible apply L3.o_gt_t); omega) | ((with_reducible apply L3.o_gt_f); omega) | ((with_reducible apply L3.o_ge_t); omega) | ((with_reducible apply L3.o_ge_f); omega) | ((with_reducible apply L3.o_eq_t); omega) | ((with_reducible apply L3.o_eq_f); omega) | ((with_reducible apply L3.o_ne_t); omega) | ((with_reducible apply L3.o_ne_f); omega) | ((with_reducible apply L3.o_eqs_t); exact rfl) | ((with_reducible apply L3.o_eqs_f); decide) | ((with_reducible apply L3.o_nes_f); exact rfl) | ((with_reducible apply L3.o_nes_t); decide) | ((with_reducible apply L3.o_mul1); omega) | ((with_reducible apply L3.o_mul2); omega) | ((with_reducible apply L3.o_mod); omega) | ((with_reducible apply L3.o_fdiv); omega) | ((with_reducible apply L3.inW_of'); omega) | ((with_reducible apply L3.o_fld); exact rfl) | ((with_reducible apply L3.fg_tup); (first | exact rfl | skip)) | ((with_reducible apply L3.o_append); first | assumption | (simp only [List.length_map] at *; omega)) | ((with_reducible apply L3.o_tup); exact le_size (by simp)) | ((with_reducible apply L3.o_lst); exact le_size (by simp)))
theorem draws_ok (ns : List Int) : ∃ ds, m__law_draws [.lsk (ns.map D.int)] = .ok (.lst (ds.map D.int)) [none] ∧ NN ds := by
  obtain ⟨m, hm⟩ : ∃ m : Nat, m = min ns.length 63 := ⟨_, rfl⟩
  obtain ⟨ρ', h1, a, c, k, nb, ds, rfl, hn, _⟩ := forF_ix (set := hName 2) (body := lp__law_draws_1) (I := fun i ρ => ∃ a c k nb ds, ρ = [some (.lsk (ns.map D.int)), some (.lst (ds.map D.int)), a, c, k, nb] ∧ NN ds ∧ ds.length ≤ 50 * i) (rngD 0 m) 0 [some (.lsk (ns.map D.int)), some (.lst []), none, none, none, none] (fun i d hd ρ hI => by
    obtain ⟨hi, rfl⟩ := rngD_at hd
    obtain ⟨a, c, k, nb, ds, rfl, hn, hl⟩ := hI
    refine ⟨_, rfl, ?_⟩
    simp only [List.set_cons_succ, List.set_cons_zero]
    rw [Nat.zero_add] at hl
    obtain ⟨ρ2, h1, h2⟩ := draws_body ns i (by omega) (by omega) a c k nb ds hn hl
    exact ⟨ρ2, .inl h1, by rw [Nat.zero_add]; exact h2⟩) ⟨none, none, none, none, [], rfl, fun x hx => (nomatch hx), by simp⟩
  refine ⟨ds.reverse, ?_, fun x hx => hn x (List.mem_reverse.mp hx)⟩
  have hmin : dMin [.int (ns.map D.int).length, .int 63] = some (.int (m : Int)) := by
    rw [List.length_map]
    show some (D.int (if (63 : Int) < (ns.length : Int) then (63 : Int) else (ns.length : Int))) = _
    rw [hm]; congr 2; split <;> omega
  rw [List.map_reverse]
  refine m_rt (ρ := [some (.lsk (ns.map D.int)), some (.lst (ds.map D.int).reverse), a, c, k, nb]) ?_
  apply Eq.trans
  · unfold bd__law_draws
    simp only [List.getElem?_cons_zero, List.getElem?_cons_succ, List.set_cons_zero, List.set_cons_succ, List.map_cons, List.map_nil, List.replicate, List.cons_append, List.nil_append]
    repeat' (first | (with_reducible exact hmin) | ((with_reducible apply L3.lp_mk); exact h1) | (with_reducible exact L3.v_c) | (with_reducible apply L3.v_var) | ((with_reducible apply L3.at_mk); exact rfl) | ((with_reducible apply L3.bt_mk); exact rfl) | (with_reducible exact L3.v_aN) | (with_reducible apply L3.st_z) | (with_reducible apply L3.st_s) | (with_reducible apply L3.fl_n) | (with_reducible apply L3.fl_d) | (with_reducible apply L3.fl_o) | (with_reducible apply L3.uf_n) | (with_reducible apply L3.uf_d) | (with_reducible apply L3.uf_o) | (with_reducible apply L3.v_aC) | (with_reducible apply L3.v_f2) | (with_reducible apply L3.v_f1) | (with_reducible apply L3.v_fL) | (with_reducible apply L3.z_seq) | (with_reducible apply L3.z_nx) | (with_reducible apply L3.z_set) | (with_reducible apply L3.z_drop) | (with_reducible apply L3.z_ret) | (with_reducible apply L3.z_retO) | (with_reducible apply L3.z_if) | (with_reducible apply L3.v_ite_t) | (with_reducible apply L3.v_ite_f) | (with_reducible apply L3.t_B) | (with_reducible apply L3.t_V) | (with_reducible apply L3.t_N) | (with_reducible apply L3.t_A) | (with_reducible apply L3.t_O) | (with_reducible apply L3.v_if) | (with_reducible apply L3.v_and) | (with_reducible apply L3.v_or) | (with_reducible apply L3.z_asg) | (with_reducible apply L3.z_par) | (with_reducible apply L3.z_for) | (with_reducible apply L3.v_mut) | (with_reducible apply L3.v_ixO) | (with_reducible apply L3.v_f1O) | (with_reducible apply L3.v_f2O) | (with_reducible apply L3.v_isiO) | (with_reducible apply L3.i_r1) | (with_reducible apply L3.i_r2) | (with_reducible apply L3.v_call) | (with_reducible apply L3.v_meth) | (with_reducible apply L3.v_callI) | (with_reducible apply L3.v_make) | (with_reducible apply L3.fg_name) | (with_reducible apply L3.fg_nil) | (with_reducible apply L3.fg_cons) | (with_reducible apply L3.v_bm) | (with_reducible exact L3.z_rt) | (with_reducible exact L3.z_n) | (with_reducible exact L3.z_ok) | (with_reducible exact L3.tr_bl) | (with_reducible exact L3.bn_t) | (with_reducible exact L3.bn_f) | (with_reducible exact L3.o_add) | (with_reducible exact L3.o_sub) | (with_reducible exact L3.o_int) | (with_reducible exact L3.o_lenl) | (with_reducible exact L3.o_lenk) | (with_reducible exact L3.o_lent) | (with_reducible exact L3.o_tuple_l) | (with_reducible exact L3.o_tuple_t) | (with_reducible exact L3.o_list_t) | (with_reducible exact L3.o_list_l) | (with_reducible exact L3.o_reverse) | (with_reducible exact L3.o_clear) | (with_reducible exact L3.o_ix0) | (with_reducible exact L3.o_ix1) | (with_reducible exact L3.o_lx0) | (with_reducible exact L3.o_isn) | (with_reducible exact L3.o_isnI) | (with_reducible exact L3.o_neg) | ((with_reducible apply L3.o_lt_t); omega) | ((with_reducible apply L3.o_lt_f); omega) | ((with_reducible apply L3.o_le_t); omega) | ((with_reducible apply L3.o_le_f); omega) | ((with_reducible apply L3.o_gt_t); omega) | ((with_reducible apply L3.o_gt_f); omega) | ((with_reducible apply L3.o_ge_t); omega) | ((with_reducible apply L3.o_ge_f); omega) | ((with_reducible apply L3.o_eq_t); omega) | ((with_reducible apply L3.o_eq_f); omega) | ((with_reducible apply L3.o_ne_t); omega) | ((with_reducible apply L3.o_ne_f); omega) | ((with_reducible apply L3.o_eqs_t); exact rfl) | ((with_reducible apply L3.o_eqs_f); decide) | ((with_reducible apply L3.o_nes_f); exact rfl) | ((with_reducible apply L3.o_nes_t); decide) | ((with_reducible apply L3.o_mul1); omega) | ((with_reducible apply L3.o_mul2); omega) | ((with_reducible apply L3.o_mod); omega) | ((with_reducible apply L3.o_fdiv); omega) | ((with_reducible apply L3.inW_of'); omega) | ((with_reducible apply L3.o_fld); exact rfl) | ((with_reducible apply L3.fg_tup); (first | exact rfl | skip)) | ((with_reducible apply L3.o_append); first | assumption | (simp only [List.length_map] at *; omega)) | ((with_reducible apply L3.o_tup); exact le_size (by simp)) | ((with_reducible apply L3.o_lst); exact le_size (by simp)))
  · rfl
end Law

namespace Law
open PySem PySem.Spec PyProof.Rows L2 L3
abbrev L8 : List Str := ["P", "B", "X", "H", "TB", "T1", "T2", "TX"]
abbrev L8D : D := .lst [.str "P", .str "B", .str "X", .str "H", .str "TB", .str "T1", .str "T2", .str "TX"]
abbrev pairD (p : Str × Nat) : D := .tup [.str p.1, .int (p.2 : Nat)]
abbrev Tb := List (List (Str × Nat))
abbrev stD (st : List (Str × Nat)) : List D := st.map pairD
abbrev tbL (T : Tb) : D := .lst (T.map fun st => .lst (stD st))
abbrev tbT (T : Tb) : D := .tup (T.map fun st => .tup (stD st))
abbrev rdr (T : Tb) (nm : Str) : D := .ins "Reader" [("states", tbT T), ("name", .str nm)]
/-- what is known of a letter: its place, its length -/
structure LF (c : Str) (k n : Nat) : Prop where
  hin : dIn (.str c) L8D = some (.bl true)
  idx : gIndex L8D [.str c] = some (.int (k : Nat))
  idK : gIndexK ["P", "B", "X", "H", "TB", "T1", "T2", "TX"] (.str c) = some (.int (k : Nat))
  len : dLen [.str c] = some (.int (n : Nat))
  n12 : n = 1 ∨ n = 2
  ne : c ≠ "-"
  lin : c ≠ "H" → dIxT tab_LINES_OF (.str c) = some (.int (n : Nat))
  tab : dNotInT tab_LINES_OF (.str c) = some (.bl false)
  k8 : k < 8
  kH : c = "H" → k = 3
def kOf (c : Str) : Nat := (L8.findIdx? fun y => decide (y = c)).getD 0
def nOf (c : Str) : Nat := if c = "P" ∨ c = "B" ∨ c = "X" ∨ c = "H" then 1 else 2
theorem lf (c : Str) (h : c ∈ L8) : LF c (kOf c) (nOf c) := by
  simp only [L8, List.mem_cons, List.not_mem_nil, or_false] at h
  rcases h with rfl | rfl | rfl | rfl | rfl | rfl | rfl | rfl <;>
  exact ⟨by kernel_rfl, by kernel_rfl, by kernel_rfl, by kernel_rfl, by decide +kernel, by decide +kernel, fun h => by first | exact absurd rfl h | kernel_rfl, by kernel_rfl, by decide +kernel, by decide +kernel⟩
theorem dash_in : dIn (.str "-") L8D = some (.bl false) := by kernel_rfl
theorem dash_tab : dNotInT tab_LINES_OF (.str "-") = some (.bl false) := by kernel_rfl
/-- what is held behind a letter -/
def heldP (a : Str) (n i : Nat) (h : D) : D := if a = "keep" then h else if a = "drop" then .non else .tup [.int (0 + (i : Nat)), .int (if a = "last" then (n : Nat) else 1)]
abbrev ActOk (a : Str) : Prop := a = "keep" ∨ a = "first" ∨ a = "last" ∨ a = "drop"
/-- the letter's entry in the state's row -/
structure En (T : Tb) (s k : Nat) (p : Str × Nat) : Prop where
  st : ∃ st, T[s]? = some st ∧ st[k]? = some p
theorem En.l {T : Tb} {s k : Nat} {p : Str × Nat} (h : En T s k p) : ∃ ds, dIx (tbL T) (.int (s : Nat)) = some (.lst ds) ∧ dIx (.lst ds) (.int (k : Nat)) = some (.tup [.str p.1, .int (p.2 : Nat)]) := by
  obtain ⟨st, h1, h2⟩ := h.st
  refine ⟨stD st, ?_, ?_⟩
  · rw [dIx_nat, List.getElem?_map, h1]; rfl
  · rw [dIx_nat, List.getElem?_map, h2]; rfl
theorem En.t {T : Tb} {s k : Nat} {p : Str × Nat} (h : En T s k p) : ∃ ds, dIx (tbT T) (.int (s : Nat)) = some (.tup ds) ∧ dIx (.tup ds) (.int (k : Nat)) = some (.tup [.str p.1, .int (p.2 : Nat)]) := by
  obtain ⟨st, h1, h2⟩ := h.st
  refine ⟨stD st, ?_, ?_⟩
  · rw [dIx_tup, List.getElem?_map, h1]; rfl
  · rw [dIx_tup, List.getElem?_map, h2]; rfl
theorem walk_body (T : Tb) (R : D) (s i : Nat) (h : D) (told : List D) (e : Option D) (c : Str) (k n : Nat) (F : LF c k n) (hr : dIx R (.int (0 + (i : Nat))) = some (.str c)) (p : Str × Nat) (hp : En T s k p) (ha : ActOk p.1) (hl : told.length < sizeLine) :
    lp__law_walk_1 [some (tbL T), some R, some L8D, some (.int (s : Nat)), some h, some (.lst told), some (.int (0 + (i : Nat))), e] = .nx [some (tbL T), some R, some L8D, some (.int (p.2 : Nat)), some (heldP p.1 n i h), some (.lst (told ++ [.tup [.int (p.2 : Nat), heldP p.1 n i h]])), some (.int (0 + (i : Nat))), some (.tup [.str p.1, .int (p.2 : Nat)])] := by
  obtain ⟨ds, g1, g2⟩ := hp.l
  obtain ⟨a, t⟩ := p
  dsimp only at g2 ha ⊢
  have f1 := F.hin
  have f2 := F.idx
  have f3 := F.len
  unfold lp__law_walk_1
  rcases ha with rfl | rfl | rfl | rfl
  · apply Eq.trans
    · repeat' (first | (with_reducible exact hr) | (with_reducible exact f1) | (with_reducible exact f2) | (with_reducible exact f3) | (with_reducible exact g1) | (with_reducible exact g2) | (with_reducible exact L3.v_c) | (with_reducible apply L3.v_var) | ((with_reducible apply L3.at_mk); exact rfl) | ((with_reducible apply L3.bt_mk); exact rfl) | (with_reducible exact L3.v_aN) | (with_reducible apply L3.st_z) | (with_reducible apply L3.st_s) | (with_reducible apply L3.fl_n) | (with_reducible apply L3.fl_d) | (with_reducible apply L3.fl_o) | (with_reducible apply L3.uf_n) | (with_reducible apply L3.uf_d) | (with_reducible apply L3.uf_o) | (with_reducible apply L3.v_aC) | (with_reducible apply L3.v_f2) | (with_reducible apply L3.v_f1) | (with_reducible apply L3.v_fL) | (with_reducible apply L3.z_seq) | (with_reducible apply L3.z_nx) | (with_reducible apply L3.z_set) | (with_reducible apply L3.z_drop) | (with_reducible apply L3.z_ret) | (with_reducible apply L3.z_retO) | (with_reducible apply L3.z_if) | (with_reducible apply L3.v_ite_t) | (with_reducible apply L3.v_ite_f) | (with_reducible apply L3.t_B) | (with_reducible apply L3.t_V) | (with_reducible apply L3.t_N) | (with_reducible apply L3.t_A) | (with_reducible apply L3.t_O) | (with_reducible apply L3.v_if) | (with_reducible apply L3.v_and) | (with_reducible apply L3.v_or) | (with_reducible apply L3.z_asg) | (with_reducible apply L3.z_par) | (with_reducible apply L3.z_for) | (with_reducible apply L3.v_mut) | (with_reducible apply L3.v_ixO) | (with_reducible apply L3.v_f1O) | (with_reducible apply L3.v_f2O) | (with_reducible apply L3.v_isiO) | (with_reducible apply L3.i_r1) | (with_reducible apply L3.i_r2) | (with_reducible apply L3.v_call) | (with_reducible apply L3.v_meth) | (with_reducible apply L3.v_callI) | (with_reducible apply L3.v_make) | (with_reducible apply L3.fg_name) | (with_reducible apply L3.fg_nil) | (with_reducible apply L3.fg_cons) | (with_reducible apply L3.v_bm) | (with_reducible exact L3.z_rt) | (with_reducible exact L3.z_n) | (with_reducible exact L3.z_ok) | (with_reducible exact L3.tr_bl) | (with_reducible exact L3.bn_t) | (with_reducible exact L3.bn_f) | (with_reducible exact L3.o_add) | (with_reducible exact L3.o_sub) | (with_reducible exact L3.o_int) | (with_reducible exact L3.o_lenl) | (with_reducible exact L3.o_lenk) | (with_reducible exact L3.o_lent) | (with_reducible exact L3.o_tuple_l) | (with_reducible exact L3.o_tuple_t) | (with_reducible exact L3.o_list_t) | (with_reducible exact L3.o_list_l) | (with_reducible exact L3.o_reverse) | (with_reducible exact L3.o_clear) | (with_reducible exact L3.o_ix0) | (with_reducible exact L3.o_ix1) | (with_reducible exact L3.o_lx0) | (with_reducible exact L3.o_isn) | (with_reducible exact L3.o_isnI) | (with_reducible exact L3.o_neg) | ((with_reducible apply L3.o_lt_t); omega) | ((with_reducible apply L3.o_lt_f); omega) | ((with_reducible apply L3.o_le_t); omega) | ((with_reducible apply L3.o_le_f); omega) | ((with_reducible apply L3.o_gt_t); omega) | ((with_reducible apply L3.o_gt_f); omega) | ((with_reducible apply L3.o_ge_t); omega) | ((with_reducible apply L3.o_ge_f); omega) | ((with_reducible apply L3.o_eq_t); omega) | ((with_reducible apply L3.o_eq_f); omega) | ((with_reducible apply L3.o_ne_t); omega) | ((with_reducible apply L3.o_ne_f); omega) | ((with_reducible apply L3.o_eqs_t); exact rfl) | ((with_reducible apply L3.o_eqs_f); decide) | ((with_reducible apply L3.o_nes_f); exact rfl) | ((with_reducible apply L3.o_nes_t); decide) | ((with_reducible apply L3.o_mul1); omega) | ((with_reducible apply L3.o_mul2); omega) | ((with_reducible apply L3.o_mod); omega) | ((with_reducible apply L3.o_fdiv); omega) | ((with_reducible apply L3.inW_of'); omega) | ((with_reducible apply L3.o_fld); exact rfl) | ((with_reducible apply L3.fg_tup); (first | exact rfl | skip)) | ((with_reducible apply L3.o_append); first | assumption | (simp only [List.length_map] at *; omega)) | ((with_reducible apply L3.o_tup); exact le_size (by simp)) | ((with_reducible apply L3.o_lst); exact le_size (by simp)))
    · rfl
  · apply Eq.trans
    · repeat' (first | (with_reducible exact hr) | (with_reducible exact f1) | (with_reducible exact f2) | (with_reducible exact f3) | (with_reducible exact g1) | (with_reducible exact g2) | (with_reducible exact L3.v_c) | (with_reducible apply L3.v_var) | ((with_reducible apply L3.at_mk); exact rfl) | ((with_reducible apply L3.bt_mk); exact rfl) | (with_reducible exact L3.v_aN) | (with_reducible apply L3.st_z) | (with_reducible apply L3.st_s) | (with_reducible apply L3.fl_n) | (with_reducible apply L3.fl_d) | (with_reducible apply L3.fl_o) | (with_reducible apply L3.uf_n) | (with_reducible apply L3.uf_d) | (with_reducible apply L3.uf_o) | (with_reducible apply L3.v_aC) | (with_reducible apply L3.v_f2) | (with_reducible apply L3.v_f1) | (with_reducible apply L3.v_fL) | (with_reducible apply L3.z_seq) | (with_reducible apply L3.z_nx) | (with_reducible apply L3.z_set) | (with_reducible apply L3.z_drop) | (with_reducible apply L3.z_ret) | (with_reducible apply L3.z_retO) | (with_reducible apply L3.z_if) | (with_reducible apply L3.v_ite_t) | (with_reducible apply L3.v_ite_f) | (with_reducible apply L3.t_B) | (with_reducible apply L3.t_V) | (with_reducible apply L3.t_N) | (with_reducible apply L3.t_A) | (with_reducible apply L3.t_O) | (with_reducible apply L3.v_if) | (with_reducible apply L3.v_and) | (with_reducible apply L3.v_or) | (with_reducible apply L3.z_asg) | (with_reducible apply L3.z_par) | (with_reducible apply L3.z_for) | (with_reducible apply L3.v_mut) | (with_reducible apply L3.v_ixO) | (with_reducible apply L3.v_f1O) | (with_reducible apply L3.v_f2O) | (with_reducible apply L3.v_isiO) | (with_reducible apply L3.i_r1) | (with_reducible apply L3.i_r2) | (with_reducible apply L3.v_call) | (with_reducible apply L3.v_meth) | (with_reducible apply L3.v_callI) | (with_reducible apply L3.v_make) | (with_reducible apply L3.fg_name) | (with_reducible apply L3.fg_nil) | (with_reducible apply L3.fg_cons) | (with_reducible apply L3.v_bm) | (with_reducible exact L3.z_rt) | (with_reducible exact L3.z_n) | (with_reducible exact L3.z_ok) | (with_reducible exact L3.tr_bl) | (with_reducible exact L3.bn_t) | (with_reducible exact L3.bn_f) | (with_reducible exact L3.o_add) | (with_reducible exact L3.o_sub) | (with_reducible exact L3.o_int) | (with_reducible exact L3.o_lenl) | (with_reducible exact L3.o_lenk) | (with_reducible exact L3.o_lent) | (with_reducible exact L3.o_tuple_l) | (with_reducible exact L3.o_tuple_t) | (with_reducible exact L3.o_list_t) | (with_reducible exact L3.o_list_l) | (with_reducible exact L3.o_reverse) | (with_reducible exact L3.o_clear) | (with_reducible exact L3.o_ix0) | (with_reducible exact L3.o_ix1) | (with_reducible exact L3.o_lx0) | (with_reducible exact L3.o_isn) | (with_reducible exact L3.o_isnI) | (with_reducible exact L3.o_neg) | ((with_reducible apply L3.o_lt_t); omega) | ((with_reducible apply L3.o_lt_f); omega) | ((with_reducible apply L3.o_le_t); omega) | ((with_reducible apply L3.o_le_f); omega) | ((with_reducible apply L3.o_gt_t); omega) | ((with_reducible apply L3.o_gt_f); omega) | ((with_reducible apply L3.o_ge_t); omega) | ((with_reducible apply L3.o_ge_f); omega) | ((with_reducible apply L3.o_eq_t); omega) | ((with_reducible apply L3.o_eq_f); omega) | ((with_reducible apply L3.o_ne_t); omega) | ((with_reducible apply L3.o_ne_f); omega) | ((with_reducible apply L3.o_eqs_t); exact rfl) | ((with_reducible apply L3.o_eqs_f); decide) | ((with_reducible apply L3.o_nes_f); exact rfl) | ((with_reducible apply L3.o_nes_t); decide) | ((with_reducible apply L3.o_mul1); omega) | ((with_reducible apply L3.o_mul2); omega) | ((with_reducible apply L3.o_mod); omega) | ((with_reducible apply L3.o_fdiv); omega) | ((with_reducible apply L3.inW_of'); omega) | ((with_reducible apply L3.o_fld); exact rfl) | ((with_reducible apply L3.fg_tup); (first | exact rfl | skip)) | ((with_reducible apply L3.o_append); first | assumption | (simp only [List.length_map] at *; omega)) | ((with_reducible apply L3.o_tup); exact le_size (by simp)) | ((with_reducible apply L3.o_lst); exact le_size (by simp)))
    · rfl
  · rcases F.n12 with rfl | rfl
    · apply Eq.trans
      · repeat' (first | (with_reducible exact hr) | (with_reducible exact f1) | (with_reducible exact f2) | (with_reducible exact f3) | (with_reducible exact g1) | (with_reducible exact g2) | (with_reducible exact L3.v_c) | (with_reducible apply L3.v_var) | ((with_reducible apply L3.at_mk); exact rfl) | ((with_reducible apply L3.bt_mk); exact rfl) | (with_reducible exact L3.v_aN) | (with_reducible apply L3.st_z) | (with_reducible apply L3.st_s) | (with_reducible apply L3.fl_n) | (with_reducible apply L3.fl_d) | (with_reducible apply L3.fl_o) | (with_reducible apply L3.uf_n) | (with_reducible apply L3.uf_d) | (with_reducible apply L3.uf_o) | (with_reducible apply L3.v_aC) | (with_reducible apply L3.v_f2) | (with_reducible apply L3.v_f1) | (with_reducible apply L3.v_fL) | (with_reducible apply L3.z_seq) | (with_reducible apply L3.z_nx) | (with_reducible apply L3.z_set) | (with_reducible apply L3.z_drop) | (with_reducible apply L3.z_ret) | (with_reducible apply L3.z_retO) | (with_reducible apply L3.z_if) | (with_reducible apply L3.v_ite_t) | (with_reducible apply L3.v_ite_f) | (with_reducible apply L3.t_B) | (with_reducible apply L3.t_V) | (with_reducible apply L3.t_N) | (with_reducible apply L3.t_A) | (with_reducible apply L3.t_O) | (with_reducible apply L3.v_if) | (with_reducible apply L3.v_and) | (with_reducible apply L3.v_or) | (with_reducible apply L3.z_asg) | (with_reducible apply L3.z_par) | (with_reducible apply L3.z_for) | (with_reducible apply L3.v_mut) | (with_reducible apply L3.v_ixO) | (with_reducible apply L3.v_f1O) | (with_reducible apply L3.v_f2O) | (with_reducible apply L3.v_isiO) | (with_reducible apply L3.i_r1) | (with_reducible apply L3.i_r2) | (with_reducible apply L3.v_call) | (with_reducible apply L3.v_meth) | (with_reducible apply L3.v_callI) | (with_reducible apply L3.v_make) | (with_reducible apply L3.fg_name) | (with_reducible apply L3.fg_nil) | (with_reducible apply L3.fg_cons) | (with_reducible apply L3.v_bm) | (with_reducible exact L3.z_rt) | (with_reducible exact L3.z_n) | (with_reducible exact L3.z_ok) | (with_reducible exact L3.tr_bl) | (with_reducible exact L3.bn_t) | (with_reducible exact L3.bn_f) | (with_reducible exact L3.o_add) | (with_reducible exact L3.o_sub) | (with_reducible exact L3.o_int) | (with_reducible exact L3.o_lenl) | (with_reducible exact L3.o_lenk) | (with_reducible exact L3.o_lent) | (with_reducible exact L3.o_tuple_l) | (with_reducible exact L3.o_tuple_t) | (with_reducible exact L3.o_list_t) | (with_reducible exact L3.o_list_l) | (with_reducible exact L3.o_reverse) | (with_reducible exact L3.o_clear) | (with_reducible exact L3.o_ix0) | (with_reducible exact L3.o_ix1) | (with_reducible exact L3.o_lx0) | (with_reducible exact L3.o_isn) | (with_reducible exact L3.o_isnI) | (with_reducible exact L3.o_neg) | ((with_reducible apply L3.o_lt_t); omega) | ((with_reducible apply L3.o_lt_f); omega) | ((with_reducible apply L3.o_le_t); omega) | ((with_reducible apply L3.o_le_f); omega) | ((with_reducible apply L3.o_gt_t); omega) | ((with_reducible apply L3.o_gt_f); omega) | ((with_reducible apply L3.o_ge_t); omega) | ((with_reducible apply L3.o_ge_f); omega) | ((with_reducible apply L3.o_eq_t); omega) | ((with_reducible apply L3.o_eq_f); omega) | ((with_reducible apply L3.o_ne_t); omega) | ((with_reducible apply L3.o_ne_f); omega) | ((with_reducible apply L3.o_eqs_t); exact rfl) | ((with_reducible apply L3.o_eqs_f); decide) | ((with_reducible apply L3.o_nes_f); exact rfl) | ((with_reducible apply L3.o_nes_t); decide) | ((with_reducible apply L3.o_mul1); omega) | ((with_reducible apply L3.o_mul2); omega) | ((with_reducible apply L3.o_mod); omega) | ((with_reducible apply L3.o_fdiv); omega) | ((with_reducible apply L3.inW_of'); omega) | ((with_reducible apply L3.o_fld); exact rfl) | ((with_reducible apply L3.fg_tup); (first | exact rfl | skip)) | ((with_reducible apply L3.o_append); first | assumption | (simp only [List.length_map] at *; omega)) | ((with_reducible apply L3.o_tup); exact le_size (by simp)) | ((with_reducible apply L3.o_lst); exact le_size (by simp)))
      · rfl
    · apply Eq.trans
      · repeat' (first | (with_reducible exact hr) | (with_reducible exact f1) | (with_reducible exact f2) | (with_reducible exact f3) | (with_reducible exact g1) | (with_reducible exact g2) | (with_reducible exact L3.v_c) | (with_reducible apply L3.v_var) | ((with_reducible apply L3.at_mk); exact rfl) | ((with_reducible apply L3.bt_mk); exact rfl) | (with_reducible exact L3.v_aN) | (with_reducible apply L3.st_z) | (with_reducible apply L3.st_s) | (with_reducible apply L3.fl_n) | (with_reducible apply L3.fl_d) | (with_reducible apply L3.fl_o) | (with_reducible apply L3.uf_n) | (with_reducible apply L3.uf_d) | (with_reducible apply L3.uf_o) | (with_reducible apply L3.v_aC) | (with_reducible apply L3.v_f2) | (with_reducible apply L3.v_f1) | (with_reducible apply L3.v_fL) | (with_reducible apply L3.z_seq) | (with_reducible apply L3.z_nx) | (with_reducible apply L3.z_set) | (with_reducible apply L3.z_drop) | (with_reducible apply L3.z_ret) | (with_reducible apply L3.z_retO) | (with_reducible apply L3.z_if) | (with_reducible apply L3.v_ite_t) | (with_reducible apply L3.v_ite_f) | (with_reducible apply L3.t_B) | (with_reducible apply L3.t_V) | (with_reducible apply L3.t_N) | (with_reducible apply L3.t_A) | (with_reducible apply L3.t_O) | (with_reducible apply L3.v_if) | (with_reducible apply L3.v_and) | (with_reducible apply L3.v_or) | (with_reducible apply L3.z_asg) | (with_reducible apply L3.z_par) | (with_reducible apply L3.z_for) | (with_reducible apply L3.v_mut) | (with_reducible apply L3.v_ixO) | (with_reducible apply L3.v_f1O) | (with_reducible apply L3.v_f2O) | (with_reducible apply L3.v_isiO) | (with_reducible apply L3.i_r1) | (with_reducible apply L3.i_r2) | (with_reducible apply L3.v_call) | (with_reducible apply L3.v_meth) | (with_reducible apply L3.v_callI) | (with_reducible apply L3.v_make) | (with_reducible apply L3.fg_name) | (with_reducible apply L3.fg_nil) | (with_reducible apply L3.fg_cons) | (with_reducible apply L3.v_bm) | (with_reducible exact L3.z_rt) | (with_reducible exact L3.z_n) | (with_reducible exact L3.z_ok) | (with_reducible exact L3.tr_bl) | (with_reducible exact L3.bn_t) | (with_reducible exact L3.bn_f) | (with_reducible exact L3.o_add) | (with_reducible exact L3.o_sub) | (with_reducible exact L3.o_int) | (with_reducible exact L3.o_lenl) | (with_reducible exact L3.o_lenk) | (with_reducible exact L3.o_lent) | (with_reducible exact L3.o_tuple_l) | (with_reducible exact L3.o_tuple_t) | (with_reducible exact L3.o_list_t) | (with_reducible exact L3.o_list_l) | (with_reducible exact L3.o_reverse) | (with_reducible exact L3.o_clear) | (with_reducible exact L3.o_ix0) | (with_reducible exact L3.o_ix1) | (with_reducible exact L3.o_lx0) | (with_reducible exact L3.o_isn) | (with_reducible exact L3.o_isnI) | (with_reducible exact L3.o_neg) | ((with_reducible apply L3.o_lt_t); omega) | ((with_reducible apply L3.o_lt_f); omega) | ((with_reducible apply L3.o_le_t); omega) | ((with_reducible apply L3.o_le_f); omega) | ((with_reducible apply L3.o_gt_t); omega) | ((with_reducible apply L3.o_gt_f); omega) | ((with_reducible apply L3.o_ge_t); omega) | ((with_reducible apply L3.o_ge_f); omega) | ((with_reducible apply L3.o_eq_t); omega) | ((with_reducible apply L3.o_eq_f); omega) | ((with_reducible apply L3.o_ne_t); omega) | ((with_reducible apply L3.o_ne_f); omega) | ((with_reducible apply L3.o_eqs_t); exact rfl) | ((with_reducible apply L3.o_eqs_f); decide) | ((with_reducible apply L3.o_nes_f); exact rfl) | ((with_reducible apply L3.o_nes_t); decide) | ((with_reducible apply L3.o_mul1); omega) | ((with_reducible apply L3.o_mul2); omega) | ((with_reducible apply L3.o_mod); omega) | ((with_reducible apply L3.o_fdiv); omega) | ((with_reducible apply L3.inW_of'); omega) | ((with_reducible apply L3.o_fld); exact rfl) | ((with_reducible apply L3.fg_tup); (first | exact rfl | skip)) | ((with_reducible apply L3.o_append); first | assumption | (simp only [List.length_map] at *; omega)) | ((with_reducible apply L3.o_tup); exact le_size (by simp)) | ((with_reducible apply L3.o_lst); exact le_size (by simp)))
      · rfl
  · apply Eq.trans
    · repeat' (first | (with_reducible exact hr) | (with_reducible exact f1) | (with_reducible exact f2) | (with_reducible exact f3) | (with_reducible exact g1) | (with_reducible exact g2) | (with_reducible exact L3.v_c) | (with_reducible apply L3.v_var) | ((with_reducible apply L3.at_mk); exact rfl) | ((with_reducible apply L3.bt_mk); exact rfl) | (with_reducible exact L3.v_aN) | (with_reducible apply L3.st_z) | (with_reducible apply L3.st_s) | (with_reducible apply L3.fl_n) | (with_reducible apply L3.fl_d) | (with_reducible apply L3.fl_o) | (with_reducible apply L3.uf_n) | (with_reducible apply L3.uf_d) | (with_reducible apply L3.uf_o) | (with_reducible apply L3.v_aC) | (with_reducible apply L3.v_f2) | (with_reducible apply L3.v_f1) | (with_reducible apply L3.v_fL) | (with_reducible apply L3.z_seq) | (with_reducible apply L3.z_nx) | (with_reducible apply L3.z_set) | (with_reducible apply L3.z_drop) | (with_reducible apply L3.z_ret) | (with_reducible apply L3.z_retO) | (with_reducible apply L3.z_if) | (with_reducible apply L3.v_ite_t) | (with_reducible apply L3.v_ite_f) | (with_reducible apply L3.t_B) | (with_reducible apply L3.t_V) | (with_reducible apply L3.t_N) | (with_reducible apply L3.t_A) | (with_reducible apply L3.t_O) | (with_reducible apply L3.v_if) | (with_reducible apply L3.v_and) | (with_reducible apply L3.v_or) | (with_reducible apply L3.z_asg) | (with_reducible apply L3.z_par) | (with_reducible apply L3.z_for) | (with_reducible apply L3.v_mut) | (with_reducible apply L3.v_ixO) | (with_reducible apply L3.v_f1O) | (with_reducible apply L3.v_f2O) | (with_reducible apply L3.v_isiO) | (with_reducible apply L3.i_r1) | (with_reducible apply L3.i_r2) | (with_reducible apply L3.v_call) | (with_reducible apply L3.v_meth) | (with_reducible apply L3.v_callI) | (with_reducible apply L3.v_make) | (with_reducible apply L3.fg_name) | (with_reducible apply L3.fg_nil) | (with_reducible apply L3.fg_cons) | (with_reducible apply L3.v_bm) | (with_reducible exact L3.z_rt) | (with_reducible exact L3.z_n) | (with_reducible exact L3.z_ok) | (with_reducible exact L3.tr_bl) | (with_reducible exact L3.bn_t) | (with_reducible exact L3.bn_f) | (with_reducible exact L3.o_add) | (with_reducible exact L3.o_sub) | (with_reducible exact L3.o_int) | (with_reducible exact L3.o_lenl) | (with_reducible exact L3.o_lenk) | (with_reducible exact L3.o_lent) | (with_reducible exact L3.o_tuple_l) | (with_reducible exact L3.o_tuple_t) | (with_reducible exact L3.o_list_t) | (with_reducible exact L3.o_list_l) | (with_reducible exact L3.o_reverse) | (with_reducible exact L3.o_clear) | (with_reducible exact L3.o_ix0) | (with_reducible exact L3.o_ix1) | (with_reducible exact L3.o_lx0) | (with_reducible exact L3.o_isn) | (with_reducible exact L3.o_isnI) | (with_reducible exact L3.o_neg) | ((with_reducible apply L3.o_lt_t); omega) | ((with_reducible apply L3.o_lt_f); omega) | ((with_reducible apply L3.o_le_t); omega) | ((with_reducible apply L3.o_le_f); omega) | ((with_reducible apply L3.o_gt_t); omega) | ((with_reducible apply L3.o_gt_f); omega) | ((with_reducible apply L3.o_ge_t); omega) | ((with_reducible apply L3.o_ge_f); omega) | ((with_reducible apply L3.o_eq_t); omega) | ((with_reducible apply L3.o_eq_f); omega) | ((with_reducible apply L3.o_ne_t); omega) | ((with_reducible apply L3.o_ne_f); omega) | ((with_reducible apply L3.o_eqs_t); exact rfl) | ((with_reducible apply L3.o_eqs_f); decide) | ((with_reducible apply L3.o_nes_f); exact rfl) | ((with_reducible apply L3.o_nes_t); decide) | ((with_reducible apply L3.o_mul1); omega) | ((with_reducible apply L3.o_mul2); omega) | ((with_reducible apply L3.o_mod); omega) | ((with_reducible apply L3.o_fdiv); omega) | ((with_reducible apply L3.inW_of'); omega) | ((with_reducible apply L3.o_fld); exact rfl) | ((with_reducible apply L3.fg_tup); (first | exact rfl | skip)) | ((with_reducible apply L3.o_append); first | assumption | (simp only [List.length_map] at *; omega)) | ((with_reducible apply L3.o_tup); exact le_size (by simp)) | ((with_reducible apply L3.o_lst); exact le_size (by simp)))
    · rfl
theorem walk_dash (T : Tb) (R : D) (s i : Nat) (h : D) (told : List D) (e : Option D) (hr : dIx R (.int (0 + (i : Nat))) = some (.str "-")) (hl : told.length < sizeLine) :
    lp__law_walk_1 [some (tbL T), some R, some L8D, some (.int (s : Nat)), some h, some (.lst told), some (.int (0 + (i : Nat))), e] = .nx [some (tbL T), some R, some L8D, some (.int (s : Nat)), some h, some (.lst (told ++ [.tup [.int (s : Nat), h]])), some (.int (0 + (i : Nat))), e] := by
  have f1 := dash_in
  unfold lp__law_walk_1
  apply Eq.trans
  · repeat' (first | (with_reducible exact hr) | (with_reducible exact f1) | (with_reducible exact L3.v_c) | (with_reducible apply L3.v_var) | ((with_reducible apply L3.at_mk); exact rfl) | ((with_reducible apply L3.bt_mk); exact rfl) | (with_reducible exact L3.v_aN) | (with_reducible apply L3.st_z) | (with_reducible apply L3.st_s) | (with_reducible apply L3.fl_n) | (with_reducible apply L3.fl_d) | (with_reducible apply L3.fl_o) | (with_reducible apply L3.uf_n) | (with_reducible apply L3.uf_d) | (with_reducible apply L3.uf_o) | (with_reducible apply L3.v_aC) | (with_reducible apply L3.v_f2) | (with_reducible apply L3.v_f1) | (with_reducible apply L3.v_fL) | (with_reducible apply L3.z_seq) | (with_reducible apply L3.z_nx) | (with_reducible apply L3.z_set) | (with_reducible apply L3.z_drop) | (with_reducible apply L3.z_ret) | (with_reducible apply L3.z_retO) | (with_reducible apply L3.z_if) | (with_reducible apply L3.v_ite_t) | (with_reducible apply L3.v_ite_f) | (with_reducible apply L3.t_B) | (with_reducible apply L3.t_V) | (with_reducible apply L3.t_N) | (with_reducible apply L3.t_A) | (with_reducible apply L3.t_O) | (with_reducible apply L3.v_if) | (with_reducible apply L3.v_and) | (with_reducible apply L3.v_or) | (with_reducible apply L3.z_asg) | (with_reducible apply L3.z_par) | (with_reducible apply L3.z_for) | (with_reducible apply L3.v_mut) | (with_reducible apply L3.v_ixO) | (with_reducible apply L3.v_f1O) | (with_reducible apply L3.v_f2O) | (with_reducible apply L3.v_isiO) | (with_reducible apply L3.i_r1) | (with_reducible apply L3.i_r2) | (with_reducible apply L3.v_call) | (with_reducible apply L3.v_meth) | (with_reducible apply L3.v_callI) | (with_reducible apply L3.v_make) | (with_reducible apply L3.fg_name) | (with_reducible apply L3.fg_nil) | (with_reducible apply L3.fg_cons) | (with_reducible apply L3.v_bm) | (with_reducible exact L3.z_rt) | (with_reducible exact L3.z_n) | (with_reducible exact L3.z_ok) | (with_reducible exact L3.tr_bl) | (with_reducible exact L3.bn_t) | (with_reducible exact L3.bn_f) | (with_reducible exact L3.o_add) | (with_reducible exact L3.o_sub) | (with_reducible exact L3.o_int) | (with_reducible exact L3.o_lenl) | (with_reducible exact L3.o_lenk) | (with_reducible exact L3.o_lent) | (with_reducible exact L3.o_tuple_l) | (with_reducible exact L3.o_tuple_t) | (with_reducible exact L3.o_list_t) | (with_reducible exact L3.o_list_l) | (with_reducible exact L3.o_reverse) | (with_reducible exact L3.o_clear) | (with_reducible exact L3.o_ix0) | (with_reducible exact L3.o_ix1) | (with_reducible exact L3.o_lx0) | (with_reducible exact L3.o_isn) | (with_reducible exact L3.o_isnI) | (with_reducible exact L3.o_neg) | ((with_reducible apply L3.o_lt_t); omega) | ((with_reducible apply L3.o_lt_f); omega) | ((with_reducible apply L3.o_le_t); omega) | ((with_reducible apply L3.o_le_f); omega) | ((with_reducible apply L3.o_gt_t); omega) | ((with_reducible apply L3.o_gt_f); omega) | ((with_reducible apply L3.o_ge_t); omega) | ((with_reducible apply L3.o_ge_f); omega) | ((with_reducible apply L3.o_eq_t); omega) | ((with_reducible apply L3.o_eq_f); omega) | ((with_reducible apply L3.o_ne_t); omega) | ((with_reducible apply L3.o_ne_f); omega) | ((with_reducible apply L3.o_eqs_t); exact rfl) | ((with_reducible apply L3.o_eqs_f); decide) | ((with_reducible apply L3.o_nes_f); exact rfl) | ((with_reducible apply L3.o_nes_t); decide) | ((with_reducible apply L3.o_mul1); omega) | ((with_reducible apply L3.o_mul2); omega) | ((with_reducible apply L3.o_mod); omega) | ((with_reducible apply L3.o_fdiv); omega) | ((with_reducible apply L3.inW_of'); omega) | ((with_reducible apply L3.o_fld); exact rfl) | ((with_reducible apply L3.fg_tup); (first | exact rfl | skip)) | ((with_reducible apply L3.o_append); first | assumption | (simp only [List.length_map] at *; omega)) | ((with_reducible apply L3.o_tup); exact le_size (by simp)) | ((with_reducible apply L3.o_lst); exact le_size (by simp)))
  · rfl
end Law

namespace Law
open PySem PySem.Spec PyProof.Rows L2 L3
theorem isi_int (x : Int) : dIsiC itc itb [.int x, .ty "int"] = some (.bl true) := rfl
theorem isi_boo (x : Int) : dIsiC itc itb [.int x, .ty "bool"] = some (.bl false) := rfl
theorem isi_str (x : Str) : dIsiC itc itb [.str x, .ty "str"] = some (.bl true) := rfl
theorem isi_lt1 (ds : List D) : dIsiC itc itb [.lst ds, .tup [.ty "list", .ty "tuple"]] = some (.bl true) := rfl
theorem isi_lt2 (ds : List D) : dIsiC itc itb [.tup ds, .tup [.ty "list", .ty "tuple"]] = some (.bl true) := rfl
theorem isi_l (ds : List D) : dIsiC itc itb [.lst ds, .ty "list"] = some (.bl true) := rfl
theorem is_int_ok (x : Int) : m_is_int [.int x] = .ok (.bl true) [none] := rfl
theorem check_int_ok (x lo hi : Int) (w : D) (h1 : lo ≤ x) (h2 : x ≤ hi) : m_check_int [.int x, w, .int lo, .int hi] = .ok (.int x) [none, none, none, none] := by
  refine m_rt (ρ := [some (.int x), some w, some (.int lo), some (.int hi)]) ?_
  unfold bd_check_int
  simp only [List.getElem?_cons_zero, List.getElem?_cons_succ, List.set_cons_zero, List.set_cons_succ, List.map_cons, List.map_nil, List.replicate, List.cons_append, List.nil_append]
  have g := is_int_ok x
  repeat' (first | ((with_reducible apply L3.ca_mk); exact g) | (with_reducible exact L3.tr_bl) | (with_reducible exact L3.v_c) | (with_reducible apply L3.v_var) | ((with_reducible apply L3.at_mk); exact rfl) | ((with_reducible apply L3.bt_mk); exact rfl) | (with_reducible exact L3.v_aN) | (with_reducible apply L3.st_z) | (with_reducible apply L3.st_s) | (with_reducible apply L3.fl_n) | (with_reducible apply L3.fl_d) | (with_reducible apply L3.fl_o) | (with_reducible apply L3.uf_n) | (with_reducible apply L3.uf_d) | (with_reducible apply L3.uf_o) | (with_reducible apply L3.v_aC) | (with_reducible apply L3.v_f2) | (with_reducible apply L3.v_f1) | (with_reducible apply L3.v_fL) | (with_reducible apply L3.z_seq) | (with_reducible apply L3.z_nx) | (with_reducible apply L3.z_set) | (with_reducible apply L3.z_drop) | (with_reducible apply L3.z_ret) | (with_reducible apply L3.z_retO) | (with_reducible apply L3.z_if) | (with_reducible apply L3.v_ite_t) | (with_reducible apply L3.v_ite_f) | (with_reducible apply L3.t_B) | (with_reducible apply L3.t_V) | (with_reducible apply L3.t_N) | (with_reducible apply L3.t_A) | (with_reducible apply L3.t_O) | (with_reducible apply L3.v_if) | (with_reducible apply L3.v_and) | (with_reducible apply L3.v_or) | (with_reducible apply L3.z_asg) | (with_reducible apply L3.z_par) | (with_reducible apply L3.z_for) | (with_reducible apply L3.v_mut) | (with_reducible apply L3.v_ixO) | (with_reducible apply L3.v_f1O) | (with_reducible apply L3.v_f2O) | (with_reducible apply L3.v_isiO) | (with_reducible apply L3.i_r1) | (with_reducible apply L3.i_r2) | (with_reducible apply L3.v_call) | (with_reducible apply L3.v_meth) | (with_reducible apply L3.v_callI) | (with_reducible apply L3.v_make) | (with_reducible apply L3.fg_name) | (with_reducible apply L3.fg_nil) | (with_reducible apply L3.fg_cons) | (with_reducible apply L3.v_bm) | (with_reducible exact L3.z_rt) | (with_reducible exact L3.z_n) | (with_reducible exact L3.z_ok) | (with_reducible exact L3.tr_bl) | (with_reducible exact L3.bn_t) | (with_reducible exact L3.bn_f) | (with_reducible exact L3.o_add) | (with_reducible exact L3.o_sub) | (with_reducible exact L3.o_int) | (with_reducible exact L3.o_lenl) | (with_reducible exact L3.o_lenk) | (with_reducible exact L3.o_lent) | (with_reducible exact L3.o_tuple_l) | (with_reducible exact L3.o_tuple_t) | (with_reducible exact L3.o_list_t) | (with_reducible exact L3.o_list_l) | (with_reducible exact L3.o_reverse) | (with_reducible exact L3.o_clear) | (with_reducible exact L3.o_ix0) | (with_reducible exact L3.o_ix1) | (with_reducible exact L3.o_lx0) | (with_reducible exact L3.o_isn) | (with_reducible exact L3.o_isnI) | (with_reducible exact L3.o_neg) | ((with_reducible apply L3.o_lt_t); omega) | ((with_reducible apply L3.o_lt_f); omega) | ((with_reducible apply L3.o_le_t); omega) | ((with_reducible apply L3.o_le_f); omega) | ((with_reducible apply L3.o_gt_t); omega) | ((with_reducible apply L3.o_gt_f); omega) | ((with_reducible apply L3.o_ge_t); omega) | ((with_reducible apply L3.o_ge_f); omega) | ((with_reducible apply L3.o_eq_t); omega) | ((with_reducible apply L3.o_eq_f); omega) | ((with_reducible apply L3.o_ne_t); omega) | ((with_reducible apply L3.o_ne_f); omega) | ((with_reducible apply L3.o_eqs_t); exact rfl) | ((with_reducible apply L3.o_eqs_f); decide) | ((with_reducible apply L3.o_nes_f); exact rfl) | ((with_reducible apply L3.o_nes_t); decide) | ((with_reducible apply L3.o_mul1); omega) | ((with_reducible apply L3.o_mul2); omega) | ((with_reducible apply L3.o_mod); omega) | ((with_reducible apply L3.o_fdiv); omega) | ((with_reducible apply L3.inW_of'); omega) | ((with_reducible apply L3.o_fld); exact rfl) | ((with_reducible apply L3.fg_tup); (first | exact rfl | skip)) | ((with_reducible apply L3.o_append); first | assumption | (simp only [List.length_map] at *; omega)) | ((with_reducible apply L3.o_tup); exact le_size (by simp)) | ((with_reducible apply L3.o_lst); exact le_size (by simp)))
theorem check_letter_ok (c : Str) (w : D) (h : dNotInT tab_LINES_OF (.str c) = some (.bl false)) : m_check_letter [.str c, w] = .ok (.str c) [none, none] := by
  refine m_rt (ρ := [some (.str c), some w]) ?_
  unfold bd_check_letter
  simp only [List.getElem?_cons_zero, List.getElem?_cons_succ, List.set_cons_zero, List.set_cons_succ, List.map_cons, List.map_nil, List.replicate, List.cons_append, List.nil_append]
  have g := isi_str c
  repeat' (first | (with_reducible exact h) | (with_reducible exact g) | (with_reducible exact L3.tr_bl) | (with_reducible exact L3.v_c) | (with_reducible apply L3.v_var) | ((with_reducible apply L3.at_mk); exact rfl) | ((with_reducible apply L3.bt_mk); exact rfl) | (with_reducible exact L3.v_aN) | (with_reducible apply L3.st_z) | (with_reducible apply L3.st_s) | (with_reducible apply L3.fl_n) | (with_reducible apply L3.fl_d) | (with_reducible apply L3.fl_o) | (with_reducible apply L3.uf_n) | (with_reducible apply L3.uf_d) | (with_reducible apply L3.uf_o) | (with_reducible apply L3.v_aC) | (with_reducible apply L3.v_f2) | (with_reducible apply L3.v_f1) | (with_reducible apply L3.v_fL) | (with_reducible apply L3.z_seq) | (with_reducible apply L3.z_nx) | (with_reducible apply L3.z_set) | (with_reducible apply L3.z_drop) | (with_reducible apply L3.z_ret) | (with_reducible apply L3.z_retO) | (with_reducible apply L3.z_if) | (with_reducible apply L3.v_ite_t) | (with_reducible apply L3.v_ite_f) | (with_reducible apply L3.t_B) | (with_reducible apply L3.t_V) | (with_reducible apply L3.t_N) | (with_reducible apply L3.t_A) | (with_reducible apply L3.t_O) | (with_reducible apply L3.v_if) | (with_reducible apply L3.v_and) | (with_reducible apply L3.v_or) | (with_reducible apply L3.z_asg) | (with_reducible apply L3.z_par) | (with_reducible apply L3.z_for) | (with_reducible apply L3.v_mut) | (with_reducible apply L3.v_ixO) | (with_reducible apply L3.v_f1O) | (with_reducible apply L3.v_f2O) | (with_reducible apply L3.v_isiO) | (with_reducible apply L3.i_r1) | (with_reducible apply L3.i_r2) | (with_reducible apply L3.v_call) | (with_reducible apply L3.v_meth) | (with_reducible apply L3.v_callI) | (with_reducible apply L3.v_make) | (with_reducible apply L3.fg_name) | (with_reducible apply L3.fg_nil) | (with_reducible apply L3.fg_cons) | (with_reducible apply L3.v_bm) | (with_reducible exact L3.z_rt) | (with_reducible exact L3.z_n) | (with_reducible exact L3.z_ok) | (with_reducible exact L3.tr_bl) | (with_reducible exact L3.bn_t) | (with_reducible exact L3.bn_f) | (with_reducible exact L3.o_add) | (with_reducible exact L3.o_sub) | (with_reducible exact L3.o_int) | (with_reducible exact L3.o_lenl) | (with_reducible exact L3.o_lenk) | (with_reducible exact L3.o_lent) | (with_reducible exact L3.o_tuple_l) | (with_reducible exact L3.o_tuple_t) | (with_reducible exact L3.o_list_t) | (with_reducible exact L3.o_list_l) | (with_reducible exact L3.o_reverse) | (with_reducible exact L3.o_clear) | (with_reducible exact L3.o_ix0) | (with_reducible exact L3.o_ix1) | (with_reducible exact L3.o_lx0) | (with_reducible exact L3.o_isn) | (with_reducible exact L3.o_isnI) | (with_reducible exact L3.o_neg) | ((with_reducible apply L3.o_lt_t); omega) | ((with_reducible apply L3.o_lt_f); omega) | ((with_reducible apply L3.o_le_t); omega) | ((with_reducible apply L3.o_le_f); omega) | ((with_reducible apply L3.o_gt_t); omega) | ((with_reducible apply L3.o_gt_f); omega) | ((with_reducible apply L3.o_ge_t); omega) | ((with_reducible apply L3.o_ge_f); omega) | ((with_reducible apply L3.o_eq_t); omega) | ((with_reducible apply L3.o_eq_f); omega) | ((with_reducible apply L3.o_ne_t); omega) | ((with_reducible apply L3.o_ne_f); omega) | ((with_reducible apply L3.o_eqs_t); exact rfl) | ((with_reducible apply L3.o_eqs_f); decide) | ((with_reducible apply L3.o_nes_f); exact rfl) | ((with_reducible apply L3.o_nes_t); decide) | ((with_reducible apply L3.o_mul1); omega) | ((with_reducible apply L3.o_mul2); omega) | ((with_reducible apply L3.o_mod); omega) | ((with_reducible apply L3.o_fdiv); omega) | ((with_reducible apply L3.inW_of'); omega) | ((with_reducible apply L3.o_fld); exact rfl) | ((with_reducible apply L3.fg_tup); (first | exact rfl | skip)) | ((with_reducible apply L3.o_append); first | assumption | (simp only [List.length_map] at *; omega)) | ((with_reducible apply L3.o_tup); exact le_size (by simp)) | ((with_reducible apply L3.o_lst); exact le_size (by simp)))
theorem fld_states (T : Tb) (nm : Str) : dFld "Reader" "states" (rdr T nm) = some (tbT T) := o_fld rfl
theorem entry_ok (T : Tb) (nm : Str) (s : Nat) (hs : s < T.length) (c : Str) (k n : Nat) (F : LF c k n) (p : Str × Nat) (hp : En T s k p) : m_Reader_entry [rdr T nm, .int (s : Nat), .str c] = .ok (.tup [.str p.1, .int (p.2 : Nat)]) [none, none, none] := by
  refine m_rt (ρ := [some (rdr T nm), some (.int (s : Nat)), some (.str c)]) ?_
  unfold bd_Reader_entry
  simp only [List.getElem?_cons_zero, List.getElem?_cons_succ, List.set_cons_zero, List.set_cons_succ, List.map_cons, List.map_nil, List.replicate, List.cons_append, List.nil_append]
  have g0 := fld_states T nm
  have g1 := check_int_ok (s : Nat) 0 (((T.map fun st => D.tup (stD st)).length : Int) - 1) (.str "state") (by omega) (by rw [List.length_map]; omega)
  have g2 := check_letter_ok c (.str "letter") F.tab
  have g3 := F.ne
  have g4 := F.idK
  obtain ⟨ds, g5, g6⟩ := hp.t
  repeat' (first | (with_reducible exact g0) | (with_reducible exact g4) | (with_reducible exact g5) | (with_reducible exact g6) | ((with_reducible apply L3.ca_mk (m := m_check_int)); exact g1) | ((with_reducible apply L3.ca_mk (m := m_check_letter)); exact g2) | ((with_reducible apply L3.o_eqs_f); exact g3) | (with_reducible exact L3.v_c) | (with_reducible apply L3.v_var) | ((with_reducible apply L3.at_mk); exact rfl) | ((with_reducible apply L3.bt_mk); exact rfl) | (with_reducible exact L3.v_aN) | (with_reducible apply L3.st_z) | (with_reducible apply L3.st_s) | (with_reducible apply L3.fl_n) | (with_reducible apply L3.fl_d) | (with_reducible apply L3.fl_o) | (with_reducible apply L3.uf_n) | (with_reducible apply L3.uf_d) | (with_reducible apply L3.uf_o) | (with_reducible apply L3.v_aC) | (with_reducible apply L3.v_f2) | (with_reducible apply L3.v_f1) | (with_reducible apply L3.v_fL) | (with_reducible apply L3.z_seq) | (with_reducible apply L3.z_nx) | (with_reducible apply L3.z_set) | (with_reducible apply L3.z_drop) | (with_reducible apply L3.z_ret) | (with_reducible apply L3.z_retO) | (with_reducible apply L3.z_if) | (with_reducible apply L3.v_ite_t) | (with_reducible apply L3.v_ite_f) | (with_reducible apply L3.t_B) | (with_reducible apply L3.t_V) | (with_reducible apply L3.t_N) | (with_reducible apply L3.t_A) | (with_reducible apply L3.t_O) | (with_reducible apply L3.v_if) | (with_reducible apply L3.v_and) | (with_reducible apply L3.v_or) | (with_reducible apply L3.z_asg) | (with_reducible apply L3.z_par) | (with_reducible apply L3.z_for) | (with_reducible apply L3.v_mut) | (with_reducible apply L3.v_ixO) | (with_reducible apply L3.v_f1O) | (with_reducible apply L3.v_f2O) | (with_reducible apply L3.v_isiO) | (with_reducible apply L3.i_r1) | (with_reducible apply L3.i_r2) | (with_reducible apply L3.v_call) | (with_reducible apply L3.v_meth) | (with_reducible apply L3.v_callI) | (with_reducible apply L3.v_make) | (with_reducible apply L3.fg_name) | (with_reducible apply L3.fg_nil) | (with_reducible apply L3.fg_cons) | (with_reducible apply L3.v_bm) | (with_reducible exact L3.z_rt) | (with_reducible exact L3.z_n) | (with_reducible exact L3.z_ok) | (with_reducible exact L3.tr_bl) | (with_reducible exact L3.bn_t) | (with_reducible exact L3.bn_f) | (with_reducible exact L3.o_add) | (with_reducible exact L3.o_sub) | (with_reducible exact L3.o_int) | (with_reducible exact L3.o_lenl) | (with_reducible exact L3.o_lenk) | (with_reducible exact L3.o_lent) | (with_reducible exact L3.o_tuple_l) | (with_reducible exact L3.o_tuple_t) | (with_reducible exact L3.o_list_t) | (with_reducible exact L3.o_list_l) | (with_reducible exact L3.o_reverse) | (with_reducible exact L3.o_clear) | (with_reducible exact L3.o_ix0) | (with_reducible exact L3.o_ix1) | (with_reducible exact L3.o_lx0) | (with_reducible exact L3.o_isn) | (with_reducible exact L3.o_isnI) | (with_reducible exact L3.o_neg) | ((with_reducible apply L3.o_lt_t); omega) | ((with_reducible apply L3.o_lt_f); omega) | ((with_reducible apply L3.o_le_t); omega) | ((with_reducible apply L3.o_le_f); omega) | ((with_reducible apply L3.o_gt_t); omega) | ((with_reducible apply L3.o_gt_f); omega) | ((with_reducible apply L3.o_ge_t); omega) | ((with_reducible apply L3.o_ge_f); omega) | ((with_reducible apply L3.o_eq_t); omega) | ((with_reducible apply L3.o_eq_f); omega) | ((with_reducible apply L3.o_ne_t); omega) | ((with_reducible apply L3.o_ne_f); omega) | ((with_reducible apply L3.o_eqs_t); exact rfl) | ((with_reducible apply L3.o_eqs_f); decide) | ((with_reducible apply L3.o_nes_f); exact rfl) | ((with_reducible apply L3.o_nes_t); decide) | ((with_reducible apply L3.o_mul1); omega) | ((with_reducible apply L3.o_mul2); omega) | ((with_reducible apply L3.o_mod); omega) | ((with_reducible apply L3.o_fdiv); omega) | ((with_reducible apply L3.inW_of'); omega) | ((with_reducible apply L3.o_fld); exact rfl) | ((with_reducible apply L3.fg_tup); (first | exact rfl | skip)) | ((with_reducible apply L3.o_append); first | assumption | (simp only [List.length_map] at *; omega)) | ((with_reducible apply L3.o_tup); exact le_size (by simp)) | ((with_reducible apply L3.o_lst); exact le_size (by simp)))
theorem entry_dash (T : Tb) (nm : Str) (s : Nat) (hs : s < T.length) : m_Reader_entry [rdr T nm, .int (s : Nat), .str "-"] = .ok (.tup [.str "keep", .int (s : Nat)]) [none, none, none] := by
  refine m_rt (ρ := [some (rdr T nm), some (.int (s : Nat)), some (.str "-")]) ?_
  unfold bd_Reader_entry
  simp only [List.getElem?_cons_zero, List.getElem?_cons_succ, List.set_cons_zero, List.set_cons_succ, List.map_cons, List.map_nil, List.replicate, List.cons_append, List.nil_append]
  have g0 := fld_states T nm
  have g1 := check_int_ok (s : Nat) 0 (((T.map fun st => D.tup (stD st)).length : Int) - 1) (.str "state") (by omega) (by rw [List.length_map]; omega)
  have g2 := check_letter_ok "-" (.str "letter") dash_tab
  repeat' (first | (with_reducible exact g0) | ((with_reducible apply L3.ca_mk (m := m_check_int)); exact g1) | ((with_reducible apply L3.ca_mk (m := m_check_letter)); exact g2) | (with_reducible exact L3.v_c) | (with_reducible apply L3.v_var) | ((with_reducible apply L3.at_mk); exact rfl) | ((with_reducible apply L3.bt_mk); exact rfl) | (with_reducible exact L3.v_aN) | (with_reducible apply L3.st_z) | (with_reducible apply L3.st_s) | (with_reducible apply L3.fl_n) | (with_reducible apply L3.fl_d) | (with_reducible apply L3.fl_o) | (with_reducible apply L3.uf_n) | (with_reducible apply L3.uf_d) | (with_reducible apply L3.uf_o) | (with_reducible apply L3.v_aC) | (with_reducible apply L3.v_f2) | (with_reducible apply L3.v_f1) | (with_reducible apply L3.v_fL) | (with_reducible apply L3.z_seq) | (with_reducible apply L3.z_nx) | (with_reducible apply L3.z_set) | (with_reducible apply L3.z_drop) | (with_reducible apply L3.z_ret) | (with_reducible apply L3.z_retO) | (with_reducible apply L3.z_if) | (with_reducible apply L3.v_ite_t) | (with_reducible apply L3.v_ite_f) | (with_reducible apply L3.t_B) | (with_reducible apply L3.t_V) | (with_reducible apply L3.t_N) | (with_reducible apply L3.t_A) | (with_reducible apply L3.t_O) | (with_reducible apply L3.v_if) | (with_reducible apply L3.v_and) | (with_reducible apply L3.v_or) | (with_reducible apply L3.z_asg) | (with_reducible apply L3.z_par) | (with_reducible apply L3.z_for) | (with_reducible apply L3.v_mut) | (with_reducible apply L3.v_ixO) | (with_reducible apply L3.v_f1O) | (with_reducible apply L3.v_f2O) | (with_reducible apply L3.v_isiO) | (with_reducible apply L3.i_r1) | (with_reducible apply L3.i_r2) | (with_reducible apply L3.v_call) | (with_reducible apply L3.v_meth) | (with_reducible apply L3.v_callI) | (with_reducible apply L3.v_make) | (with_reducible apply L3.fg_name) | (with_reducible apply L3.fg_nil) | (with_reducible apply L3.fg_cons) | (with_reducible apply L3.v_bm) | (with_reducible exact L3.z_rt) | (with_reducible exact L3.z_n) | (with_reducible exact L3.z_ok) | (with_reducible exact L3.tr_bl) | (with_reducible exact L3.bn_t) | (with_reducible exact L3.bn_f) | (with_reducible exact L3.o_add) | (with_reducible exact L3.o_sub) | (with_reducible exact L3.o_int) | (with_reducible exact L3.o_lenl) | (with_reducible exact L3.o_lenk) | (with_reducible exact L3.o_lent) | (with_reducible exact L3.o_tuple_l) | (with_reducible exact L3.o_tuple_t) | (with_reducible exact L3.o_list_t) | (with_reducible exact L3.o_list_l) | (with_reducible exact L3.o_reverse) | (with_reducible exact L3.o_clear) | (with_reducible exact L3.o_ix0) | (with_reducible exact L3.o_ix1) | (with_reducible exact L3.o_lx0) | (with_reducible exact L3.o_isn) | (with_reducible exact L3.o_isnI) | (with_reducible exact L3.o_neg) | ((with_reducible apply L3.o_lt_t); omega) | ((with_reducible apply L3.o_lt_f); omega) | ((with_reducible apply L3.o_le_t); omega) | ((with_reducible apply L3.o_le_f); omega) | ((with_reducible apply L3.o_gt_t); omega) | ((with_reducible apply L3.o_gt_f); omega) | ((with_reducible apply L3.o_ge_t); omega) | ((with_reducible apply L3.o_ge_f); omega) | ((with_reducible apply L3.o_eq_t); omega) | ((with_reducible apply L3.o_eq_f); omega) | ((with_reducible apply L3.o_ne_t); omega) | ((with_reducible apply L3.o_ne_f); omega) | ((with_reducible apply L3.o_eqs_t); exact rfl) | ((with_reducible apply L3.o_eqs_f); decide) | ((with_reducible apply L3.o_nes_f); exact rfl) | ((with_reducible apply L3.o_nes_t); decide) | ((with_reducible apply L3.o_mul1); omega) | ((with_reducible apply L3.o_mul2); omega) | ((with_reducible apply L3.o_mod); omega) | ((with_reducible apply L3.o_fdiv); omega) | ((with_reducible apply L3.inW_of'); omega) | ((with_reducible apply L3.o_fld); exact rfl) | ((with_reducible apply L3.fg_tup); (first | exact rfl | skip)) | ((with_reducible apply L3.o_append); first | assumption | (simp only [List.length_map] at *; omega)) | ((with_reducible apply L3.o_tup); exact le_size (by simp)) | ((with_reducible apply L3.o_lst); exact le_size (by simp)))
theorem lines_ok (c : Str) (n : Nat) (h : dIxT tab_LINES_OF (.str c) = some (.int (n : Nat))) : m_lines_in [.str c] = .ok (.int (n : Nat)) [none] := by
  refine m_rt (ρ := [some (.str c)]) ?_
  unfold bd_lines_in
  simp only [List.getElem?_cons_zero, List.getElem?_cons_succ, List.set_cons_zero, List.set_cons_succ, List.map_cons, List.map_nil, List.replicate, List.cons_append, List.nil_append]
  repeat' (first | (with_reducible exact h) | (with_reducible exact L3.v_c) | (with_reducible apply L3.v_var) | ((with_reducible apply L3.at_mk); exact rfl) | ((with_reducible apply L3.bt_mk); exact rfl) | (with_reducible exact L3.v_aN) | (with_reducible apply L3.st_z) | (with_reducible apply L3.st_s) | (with_reducible apply L3.fl_n) | (with_reducible apply L3.fl_d) | (with_reducible apply L3.fl_o) | (with_reducible apply L3.uf_n) | (with_reducible apply L3.uf_d) | (with_reducible apply L3.uf_o) | (with_reducible apply L3.v_aC) | (with_reducible apply L3.v_f2) | (with_reducible apply L3.v_f1) | (with_reducible apply L3.v_fL) | (with_reducible apply L3.z_seq) | (with_reducible apply L3.z_nx) | (with_reducible apply L3.z_set) | (with_reducible apply L3.z_drop) | (with_reducible apply L3.z_ret) | (with_reducible apply L3.z_retO) | (with_reducible apply L3.z_if) | (with_reducible apply L3.v_ite_t) | (with_reducible apply L3.v_ite_f) | (with_reducible apply L3.t_B) | (with_reducible apply L3.t_V) | (with_reducible apply L3.t_N) | (with_reducible apply L3.t_A) | (with_reducible apply L3.t_O) | (with_reducible apply L3.v_if) | (with_reducible apply L3.v_and) | (with_reducible apply L3.v_or) | (with_reducible apply L3.z_asg) | (with_reducible apply L3.z_par) | (with_reducible apply L3.z_for) | (with_reducible apply L3.v_mut) | (with_reducible apply L3.v_ixO) | (with_reducible apply L3.v_f1O) | (with_reducible apply L3.v_f2O) | (with_reducible apply L3.v_isiO) | (with_reducible apply L3.i_r1) | (with_reducible apply L3.i_r2) | (with_reducible apply L3.v_call) | (with_reducible apply L3.v_meth) | (with_reducible apply L3.v_callI) | (with_reducible apply L3.v_make) | (with_reducible apply L3.fg_name) | (with_reducible apply L3.fg_nil) | (with_reducible apply L3.fg_cons) | (with_reducible apply L3.v_bm) | (with_reducible exact L3.z_rt) | (with_reducible exact L3.z_n) | (with_reducible exact L3.z_ok) | (with_reducible exact L3.tr_bl) | (with_reducible exact L3.bn_t) | (with_reducible exact L3.bn_f) | (with_reducible exact L3.o_add) | (with_reducible exact L3.o_sub) | (with_reducible exact L3.o_int) | (with_reducible exact L3.o_lenl) | (with_reducible exact L3.o_lenk) | (with_reducible exact L3.o_lent) | (with_reducible exact L3.o_tuple_l) | (with_reducible exact L3.o_tuple_t) | (with_reducible exact L3.o_list_t) | (with_reducible exact L3.o_list_l) | (with_reducible exact L3.o_reverse) | (with_reducible exact L3.o_clear) | (with_reducible exact L3.o_ix0) | (with_reducible exact L3.o_ix1) | (with_reducible exact L3.o_lx0) | (with_reducible exact L3.o_isn) | (with_reducible exact L3.o_isnI) | (with_reducible exact L3.o_neg) | ((with_reducible apply L3.o_lt_t); omega) | ((with_reducible apply L3.o_lt_f); omega) | ((with_reducible apply L3.o_le_t); omega) | ((with_reducible apply L3.o_le_f); omega) | ((with_reducible apply L3.o_gt_t); omega) | ((with_reducible apply L3.o_gt_f); omega) | ((with_reducible apply L3.o_ge_t); omega) | ((with_reducible apply L3.o_ge_f); omega) | ((with_reducible apply L3.o_eq_t); omega) | ((with_reducible apply L3.o_eq_f); omega) | ((with_reducible apply L3.o_ne_t); omega) | ((with_reducible apply L3.o_ne_f); omega) | ((with_reducible apply L3.o_eqs_t); exact rfl) | ((with_reducible apply L3.o_eqs_f); decide) | ((with_reducible apply L3.o_nes_f); exact rfl) | ((with_reducible apply L3.o_nes_t); decide) | ((with_reducible apply L3.o_mul1); omega) | ((with_reducible apply L3.o_mul2); omega) | ((with_reducible apply L3.o_mod); omega) | ((with_reducible apply L3.o_fdiv); omega) | ((with_reducible apply L3.inW_of'); omega) | ((with_reducible apply L3.o_fld); exact rfl) | ((with_reducible apply L3.fg_tup); (first | exact rfl | skip)) | ((with_reducible apply L3.o_append); first | assumption | (simp only [List.length_map] at *; omega)) | ((with_reducible apply L3.o_tup); exact le_size (by simp)) | ((with_reducible apply L3.o_lst); exact le_size (by simp)))
theorem held_ok (h : D) (a c : Str) (k n i : Nat) (F : LF c k n) (ha : ActOk a) (hH : c = "H" → a ≠ "last") : m_held_after [h, .str a, .str c, .int (0 + (i : Nat))] = .ok (heldP a n i h) [none, none, none, none] := by
  refine m_rt (ρ := [some h, some (.str a), some (.str c), some (.int (0 + (i : Nat)))]) ?_
  unfold bd_held_after
  simp only [List.getElem?_cons_zero, List.getElem?_cons_succ, List.set_cons_zero, List.set_cons_succ, List.map_cons, List.map_nil, List.replicate, List.cons_append, List.nil_append]
  rcases ha with rfl | rfl | rfl | rfl
  · apply Eq.trans
    · repeat' (first | (with_reducible exact L3.v_c) | (with_reducible apply L3.v_var) | ((with_reducible apply L3.at_mk); exact rfl) | ((with_reducible apply L3.bt_mk); exact rfl) | (with_reducible exact L3.v_aN) | (with_reducible apply L3.st_z) | (with_reducible apply L3.st_s) | (with_reducible apply L3.fl_n) | (with_reducible apply L3.fl_d) | (with_reducible apply L3.fl_o) | (with_reducible apply L3.uf_n) | (with_reducible apply L3.uf_d) | (with_reducible apply L3.uf_o) | (with_reducible apply L3.v_aC) | (with_reducible apply L3.v_f2) | (with_reducible apply L3.v_f1) | (with_reducible apply L3.v_fL) | (with_reducible apply L3.z_seq) | (with_reducible apply L3.z_nx) | (with_reducible apply L3.z_set) | (with_reducible apply L3.z_drop) | (with_reducible apply L3.z_ret) | (with_reducible apply L3.z_retO) | (with_reducible apply L3.z_if) | (with_reducible apply L3.v_ite_t) | (with_reducible apply L3.v_ite_f) | (with_reducible apply L3.t_B) | (with_reducible apply L3.t_V) | (with_reducible apply L3.t_N) | (with_reducible apply L3.t_A) | (with_reducible apply L3.t_O) | (with_reducible apply L3.v_if) | (with_reducible apply L3.v_and) | (with_reducible apply L3.v_or) | (with_reducible apply L3.z_asg) | (with_reducible apply L3.z_par) | (with_reducible apply L3.z_for) | (with_reducible apply L3.v_mut) | (with_reducible apply L3.v_ixO) | (with_reducible apply L3.v_f1O) | (with_reducible apply L3.v_f2O) | (with_reducible apply L3.v_isiO) | (with_reducible apply L3.i_r1) | (with_reducible apply L3.i_r2) | (with_reducible apply L3.v_call) | (with_reducible apply L3.v_meth) | (with_reducible apply L3.v_callI) | (with_reducible apply L3.v_make) | (with_reducible apply L3.fg_name) | (with_reducible apply L3.fg_nil) | (with_reducible apply L3.fg_cons) | (with_reducible apply L3.v_bm) | (with_reducible exact L3.z_rt) | (with_reducible exact L3.z_n) | (with_reducible exact L3.z_ok) | (with_reducible exact L3.tr_bl) | (with_reducible exact L3.bn_t) | (with_reducible exact L3.bn_f) | (with_reducible exact L3.o_add) | (with_reducible exact L3.o_sub) | (with_reducible exact L3.o_int) | (with_reducible exact L3.o_lenl) | (with_reducible exact L3.o_lenk) | (with_reducible exact L3.o_lent) | (with_reducible exact L3.o_tuple_l) | (with_reducible exact L3.o_tuple_t) | (with_reducible exact L3.o_list_t) | (with_reducible exact L3.o_list_l) | (with_reducible exact L3.o_reverse) | (with_reducible exact L3.o_clear) | (with_reducible exact L3.o_ix0) | (with_reducible exact L3.o_ix1) | (with_reducible exact L3.o_lx0) | (with_reducible exact L3.o_isn) | (with_reducible exact L3.o_isnI) | (with_reducible exact L3.o_neg) | ((with_reducible apply L3.o_lt_t); omega) | ((with_reducible apply L3.o_lt_f); omega) | ((with_reducible apply L3.o_le_t); omega) | ((with_reducible apply L3.o_le_f); omega) | ((with_reducible apply L3.o_gt_t); omega) | ((with_reducible apply L3.o_gt_f); omega) | ((with_reducible apply L3.o_ge_t); omega) | ((with_reducible apply L3.o_ge_f); omega) | ((with_reducible apply L3.o_eq_t); omega) | ((with_reducible apply L3.o_eq_f); omega) | ((with_reducible apply L3.o_ne_t); omega) | ((with_reducible apply L3.o_ne_f); omega) | ((with_reducible apply L3.o_eqs_t); exact rfl) | ((with_reducible apply L3.o_eqs_f); decide) | ((with_reducible apply L3.o_nes_f); exact rfl) | ((with_reducible apply L3.o_nes_t); decide) | ((with_reducible apply L3.o_mul1); omega) | ((with_reducible apply L3.o_mul2); omega) | ((with_reducible apply L3.o_mod); omega) | ((with_reducible apply L3.o_fdiv); omega) | ((with_reducible apply L3.inW_of'); omega) | ((with_reducible apply L3.o_fld); exact rfl) | ((with_reducible apply L3.fg_tup); (first | exact rfl | skip)) | ((with_reducible apply L3.o_append); first | assumption | (simp only [List.length_map] at *; omega)) | ((with_reducible apply L3.o_tup); exact le_size (by simp)) | ((with_reducible apply L3.o_lst); exact le_size (by simp)))
    · rfl
  · apply Eq.trans
    · repeat' (first | (with_reducible exact L3.v_c) | (with_reducible apply L3.v_var) | ((with_reducible apply L3.at_mk); exact rfl) | ((with_reducible apply L3.bt_mk); exact rfl) | (with_reducible exact L3.v_aN) | (with_reducible apply L3.st_z) | (with_reducible apply L3.st_s) | (with_reducible apply L3.fl_n) | (with_reducible apply L3.fl_d) | (with_reducible apply L3.fl_o) | (with_reducible apply L3.uf_n) | (with_reducible apply L3.uf_d) | (with_reducible apply L3.uf_o) | (with_reducible apply L3.v_aC) | (with_reducible apply L3.v_f2) | (with_reducible apply L3.v_f1) | (with_reducible apply L3.v_fL) | (with_reducible apply L3.z_seq) | (with_reducible apply L3.z_nx) | (with_reducible apply L3.z_set) | (with_reducible apply L3.z_drop) | (with_reducible apply L3.z_ret) | (with_reducible apply L3.z_retO) | (with_reducible apply L3.z_if) | (with_reducible apply L3.v_ite_t) | (with_reducible apply L3.v_ite_f) | (with_reducible apply L3.t_B) | (with_reducible apply L3.t_V) | (with_reducible apply L3.t_N) | (with_reducible apply L3.t_A) | (with_reducible apply L3.t_O) | (with_reducible apply L3.v_if) | (with_reducible apply L3.v_and) | (with_reducible apply L3.v_or) | (with_reducible apply L3.z_asg) | (with_reducible apply L3.z_par) | (with_reducible apply L3.z_for) | (with_reducible apply L3.v_mut) | (with_reducible apply L3.v_ixO) | (with_reducible apply L3.v_f1O) | (with_reducible apply L3.v_f2O) | (with_reducible apply L3.v_isiO) | (with_reducible apply L3.i_r1) | (with_reducible apply L3.i_r2) | (with_reducible apply L3.v_call) | (with_reducible apply L3.v_meth) | (with_reducible apply L3.v_callI) | (with_reducible apply L3.v_make) | (with_reducible apply L3.fg_name) | (with_reducible apply L3.fg_nil) | (with_reducible apply L3.fg_cons) | (with_reducible apply L3.v_bm) | (with_reducible exact L3.z_rt) | (with_reducible exact L3.z_n) | (with_reducible exact L3.z_ok) | (with_reducible exact L3.tr_bl) | (with_reducible exact L3.bn_t) | (with_reducible exact L3.bn_f) | (with_reducible exact L3.o_add) | (with_reducible exact L3.o_sub) | (with_reducible exact L3.o_int) | (with_reducible exact L3.o_lenl) | (with_reducible exact L3.o_lenk) | (with_reducible exact L3.o_lent) | (with_reducible exact L3.o_tuple_l) | (with_reducible exact L3.o_tuple_t) | (with_reducible exact L3.o_list_t) | (with_reducible exact L3.o_list_l) | (with_reducible exact L3.o_reverse) | (with_reducible exact L3.o_clear) | (with_reducible exact L3.o_ix0) | (with_reducible exact L3.o_ix1) | (with_reducible exact L3.o_lx0) | (with_reducible exact L3.o_isn) | (with_reducible exact L3.o_isnI) | (with_reducible exact L3.o_neg) | ((with_reducible apply L3.o_lt_t); omega) | ((with_reducible apply L3.o_lt_f); omega) | ((with_reducible apply L3.o_le_t); omega) | ((with_reducible apply L3.o_le_f); omega) | ((with_reducible apply L3.o_gt_t); omega) | ((with_reducible apply L3.o_gt_f); omega) | ((with_reducible apply L3.o_ge_t); omega) | ((with_reducible apply L3.o_ge_f); omega) | ((with_reducible apply L3.o_eq_t); omega) | ((with_reducible apply L3.o_eq_f); omega) | ((with_reducible apply L3.o_ne_t); omega) | ((with_reducible apply L3.o_ne_f); omega) | ((with_reducible apply L3.o_eqs_t); exact rfl) | ((with_reducible apply L3.o_eqs_f); decide) | ((with_reducible apply L3.o_nes_f); exact rfl) | ((with_reducible apply L3.o_nes_t); decide) | ((with_reducible apply L3.o_mul1); omega) | ((with_reducible apply L3.o_mul2); omega) | ((with_reducible apply L3.o_mod); omega) | ((with_reducible apply L3.o_fdiv); omega) | ((with_reducible apply L3.inW_of'); omega) | ((with_reducible apply L3.o_fld); exact rfl) | ((with_reducible apply L3.fg_tup); (first | exact rfl | skip)) | ((with_reducible apply L3.o_append); first | assumption | (simp only [List.length_map] at *; omega)) | ((with_reducible apply L3.o_tup); exact le_size (by simp)) | ((with_reducible apply L3.o_lst); exact le_size (by simp)))
    · rfl
  · have g := lines_ok c n (F.lin fun z => hH z rfl)
    apply Eq.trans
    · repeat' (first | ((with_reducible apply L3.ca_mk); exact g) | (with_reducible exact L3.v_c) | (with_reducible apply L3.v_var) | ((with_reducible apply L3.at_mk); exact rfl) | ((with_reducible apply L3.bt_mk); exact rfl) | (with_reducible exact L3.v_aN) | (with_reducible apply L3.st_z) | (with_reducible apply L3.st_s) | (with_reducible apply L3.fl_n) | (with_reducible apply L3.fl_d) | (with_reducible apply L3.fl_o) | (with_reducible apply L3.uf_n) | (with_reducible apply L3.uf_d) | (with_reducible apply L3.uf_o) | (with_reducible apply L3.v_aC) | (with_reducible apply L3.v_f2) | (with_reducible apply L3.v_f1) | (with_reducible apply L3.v_fL) | (with_reducible apply L3.z_seq) | (with_reducible apply L3.z_nx) | (with_reducible apply L3.z_set) | (with_reducible apply L3.z_drop) | (with_reducible apply L3.z_ret) | (with_reducible apply L3.z_retO) | (with_reducible apply L3.z_if) | (with_reducible apply L3.v_ite_t) | (with_reducible apply L3.v_ite_f) | (with_reducible apply L3.t_B) | (with_reducible apply L3.t_V) | (with_reducible apply L3.t_N) | (with_reducible apply L3.t_A) | (with_reducible apply L3.t_O) | (with_reducible apply L3.v_if) | (with_reducible apply L3.v_and) | (with_reducible apply L3.v_or) | (with_reducible apply L3.z_asg) | (with_reducible apply L3.z_par) | (with_reducible apply L3.z_for) | (with_reducible apply L3.v_mut) | (with_reducible apply L3.v_ixO) | (with_reducible apply L3.v_f1O) | (with_reducible apply L3.v_f2O) | (with_reducible apply L3.v_isiO) | (with_reducible apply L3.i_r1) | (with_reducible apply L3.i_r2) | (with_reducible apply L3.v_call) | (with_reducible apply L3.v_meth) | (with_reducible apply L3.v_callI) | (with_reducible apply L3.v_make) | (with_reducible apply L3.fg_name) | (with_reducible apply L3.fg_nil) | (with_reducible apply L3.fg_cons) | (with_reducible apply L3.v_bm) | (with_reducible exact L3.z_rt) | (with_reducible exact L3.z_n) | (with_reducible exact L3.z_ok) | (with_reducible exact L3.tr_bl) | (with_reducible exact L3.bn_t) | (with_reducible exact L3.bn_f) | (with_reducible exact L3.o_add) | (with_reducible exact L3.o_sub) | (with_reducible exact L3.o_int) | (with_reducible exact L3.o_lenl) | (with_reducible exact L3.o_lenk) | (with_reducible exact L3.o_lent) | (with_reducible exact L3.o_tuple_l) | (with_reducible exact L3.o_tuple_t) | (with_reducible exact L3.o_list_t) | (with_reducible exact L3.o_list_l) | (with_reducible exact L3.o_reverse) | (with_reducible exact L3.o_clear) | (with_reducible exact L3.o_ix0) | (with_reducible exact L3.o_ix1) | (with_reducible exact L3.o_lx0) | (with_reducible exact L3.o_isn) | (with_reducible exact L3.o_isnI) | (with_reducible exact L3.o_neg) | ((with_reducible apply L3.o_lt_t); omega) | ((with_reducible apply L3.o_lt_f); omega) | ((with_reducible apply L3.o_le_t); omega) | ((with_reducible apply L3.o_le_f); omega) | ((with_reducible apply L3.o_gt_t); omega) | ((with_reducible apply L3.o_gt_f); omega) | ((with_reducible apply L3.o_ge_t); omega) | ((with_reducible apply L3.o_ge_f); omega) | ((with_reducible apply L3.o_eq_t); omega) | ((with_reducible apply L3.o_eq_f); omega) | ((with_reducible apply L3.o_ne_t); omega) | ((with_reducible apply L3.o_ne_f); omega) | ((with_reducible apply L3.o_eqs_t); exact rfl) | ((with_reducible apply L3.o_eqs_f); decide) | ((with_reducible apply L3.o_nes_f); exact rfl) | ((with_reducible apply L3.o_nes_t); decide) | ((with_reducible apply L3.o_mul1); omega) | ((with_reducible apply L3.o_mul2); omega) | ((with_reducible apply L3.o_mod); omega) | ((with_reducible apply L3.o_fdiv); omega) | ((with_reducible apply L3.inW_of'); omega) | ((with_reducible apply L3.o_fld); exact rfl) | ((with_reducible apply L3.fg_tup); (first | exact rfl | skip)) | ((with_reducible apply L3.o_append); first | assumption | (simp only [List.length_map] at *; omega)) | ((with_reducible apply L3.o_tup); exact le_size (by simp)) | ((with_reducible apply L3.o_lst); exact le_size (by simp)))
    · rfl
  · apply Eq.trans
    · repeat' (first | (with_reducible exact L3.v_c) | (with_reducible apply L3.v_var) | ((with_reducible apply L3.at_mk); exact rfl) | ((with_reducible apply L3.bt_mk); exact rfl) | (with_reducible exact L3.v_aN) | (with_reducible apply L3.st_z) | (with_reducible apply L3.st_s) | (with_reducible apply L3.fl_n) | (with_reducible apply L3.fl_d) | (with_reducible apply L3.fl_o) | (with_reducible apply L3.uf_n) | (with_reducible apply L3.uf_d) | (with_reducible apply L3.uf_o) | (with_reducible apply L3.v_aC) | (with_reducible apply L3.v_f2) | (with_reducible apply L3.v_f1) | (with_reducible apply L3.v_fL) | (with_reducible apply L3.z_seq) | (with_reducible apply L3.z_nx) | (with_reducible apply L3.z_set) | (with_reducible apply L3.z_drop) | (with_reducible apply L3.z_ret) | (with_reducible apply L3.z_retO) | (with_reducible apply L3.z_if) | (with_reducible apply L3.v_ite_t) | (with_reducible apply L3.v_ite_f) | (with_reducible apply L3.t_B) | (with_reducible apply L3.t_V) | (with_reducible apply L3.t_N) | (with_reducible apply L3.t_A) | (with_reducible apply L3.t_O) | (with_reducible apply L3.v_if) | (with_reducible apply L3.v_and) | (with_reducible apply L3.v_or) | (with_reducible apply L3.z_asg) | (with_reducible apply L3.z_par) | (with_reducible apply L3.z_for) | (with_reducible apply L3.v_mut) | (with_reducible apply L3.v_ixO) | (with_reducible apply L3.v_f1O) | (with_reducible apply L3.v_f2O) | (with_reducible apply L3.v_isiO) | (with_reducible apply L3.i_r1) | (with_reducible apply L3.i_r2) | (with_reducible apply L3.v_call) | (with_reducible apply L3.v_meth) | (with_reducible apply L3.v_callI) | (with_reducible apply L3.v_make) | (with_reducible apply L3.fg_name) | (with_reducible apply L3.fg_nil) | (with_reducible apply L3.fg_cons) | (with_reducible apply L3.v_bm) | (with_reducible exact L3.z_rt) | (with_reducible exact L3.z_n) | (with_reducible exact L3.z_ok) | (with_reducible exact L3.tr_bl) | (with_reducible exact L3.bn_t) | (with_reducible exact L3.bn_f) | (with_reducible exact L3.o_add) | (with_reducible exact L3.o_sub) | (with_reducible exact L3.o_int) | (with_reducible exact L3.o_lenl) | (with_reducible exact L3.o_lenk) | (with_reducible exact L3.o_lent) | (with_reducible exact L3.o_tuple_l) | (with_reducible exact L3.o_tuple_t) | (with_reducible exact L3.o_list_t) | (with_reducible exact L3.o_list_l) | (with_reducible exact L3.o_reverse) | (with_reducible exact L3.o_clear) | (with_reducible exact L3.o_ix0) | (with_reducible exact L3.o_ix1) | (with_reducible exact L3.o_lx0) | (with_reducible exact L3.o_isn) | (with_reducible exact L3.o_isnI) | (with_reducible exact L3.o_neg) | ((with_reducible apply L3.o_lt_t); omega) | ((with_reducible apply L3.o_lt_f); omega) | ((with_reducible apply L3.o_le_t); omega) | ((with_reducible apply L3.o_le_f); omega) | ((with_reducible apply L3.o_gt_t); omega) | ((with_reducible apply L3.o_gt_f); omega) | ((with_reducible apply L3.o_ge_t); omega) | ((with_reducible apply L3.o_ge_f); omega) | ((with_reducible apply L3.o_eq_t); omega) | ((with_reducible apply L3.o_eq_f); omega) | ((with_reducible apply L3.o_ne_t); omega) | ((with_reducible apply L3.o_ne_f); omega) | ((with_reducible apply L3.o_eqs_t); exact rfl) | ((with_reducible apply L3.o_eqs_f); decide) | ((with_reducible apply L3.o_nes_f); exact rfl) | ((with_reducible apply L3.o_nes_t); decide) | ((with_reducible apply L3.o_mul1); omega) | ((with_reducible apply L3.o_mul2); omega) | ((with_reducible apply L3.o_mod); omega) | ((with_reducible apply L3.o_fdiv); omega) | ((with_reducible apply L3.inW_of'); omega) | ((with_reducible apply L3.o_fld); exact rfl) | ((with_reducible apply L3.fg_tup); (first | exact rfl | skip)) | ((with_reducible apply L3.o_append); first | assumption | (simp only [List.length_map] at *; omega)) | ((with_reducible apply L3.o_tup); exact le_size (by simp)) | ((with_reducible apply L3.o_lst); exact le_size (by simp)))
    · rfl
theorem held_dash (h : D) (c : Str) (i : Int) : m_held_after [h, .str "keep", .str c, .int i] = .ok h [none, none, none, none] := by
  refine m_rt (ρ := [some h, some (.str "keep"), some (.str c), some (.int i)]) ?_
  unfold bd_held_after
  simp only [List.getElem?_cons_zero, List.getElem?_cons_succ, List.set_cons_zero, List.set_cons_succ, List.map_cons, List.map_nil, List.replicate, List.cons_append, List.nil_append]
  repeat' (first | (with_reducible exact L3.v_c) | (with_reducible apply L3.v_var) | ((with_reducible apply L3.at_mk); exact rfl) | ((with_reducible apply L3.bt_mk); exact rfl) | (with_reducible exact L3.v_aN) | (with_reducible apply L3.st_z) | (with_reducible apply L3.st_s) | (with_reducible apply L3.fl_n) | (with_reducible apply L3.fl_d) | (with_reducible apply L3.fl_o) | (with_reducible apply L3.uf_n) | (with_reducible apply L3.uf_d) | (with_reducible apply L3.uf_o) | (with_reducible apply L3.v_aC) | (with_reducible apply L3.v_f2) | (with_reducible apply L3.v_f1) | (with_reducible apply L3.v_fL) | (with_reducible apply L3.z_seq) | (with_reducible apply L3.z_nx) | (with_reducible apply L3.z_set) | (with_reducible apply L3.z_drop) | (with_reducible apply L3.z_ret) | (with_reducible apply L3.z_retO) | (with_reducible apply L3.z_if) | (with_reducible apply L3.v_ite_t) | (with_reducible apply L3.v_ite_f) | (with_reducible apply L3.t_B) | (with_reducible apply L3.t_V) | (with_reducible apply L3.t_N) | (with_reducible apply L3.t_A) | (with_reducible apply L3.t_O) | (with_reducible apply L3.v_if) | (with_reducible apply L3.v_and) | (with_reducible apply L3.v_or) | (with_reducible apply L3.z_asg) | (with_reducible apply L3.z_par) | (with_reducible apply L3.z_for) | (with_reducible apply L3.v_mut) | (with_reducible apply L3.v_ixO) | (with_reducible apply L3.v_f1O) | (with_reducible apply L3.v_f2O) | (with_reducible apply L3.v_isiO) | (with_reducible apply L3.i_r1) | (with_reducible apply L3.i_r2) | (with_reducible apply L3.v_call) | (with_reducible apply L3.v_meth) | (with_reducible apply L3.v_callI) | (with_reducible apply L3.v_make) | (with_reducible apply L3.fg_name) | (with_reducible apply L3.fg_nil) | (with_reducible apply L3.fg_cons) | (with_reducible apply L3.v_bm) | (with_reducible exact L3.z_rt) | (with_reducible exact L3.z_n) | (with_reducible exact L3.z_ok) | (with_reducible exact L3.tr_bl) | (with_reducible exact L3.bn_t) | (with_reducible exact L3.bn_f) | (with_reducible exact L3.o_add) | (with_reducible exact L3.o_sub) | (with_reducible exact L3.o_int) | (with_reducible exact L3.o_lenl) | (with_reducible exact L3.o_lenk) | (with_reducible exact L3.o_lent) | (with_reducible exact L3.o_tuple_l) | (with_reducible exact L3.o_tuple_t) | (with_reducible exact L3.o_list_t) | (with_reducible exact L3.o_list_l) | (with_reducible exact L3.o_reverse) | (with_reducible exact L3.o_clear) | (with_reducible exact L3.o_ix0) | (with_reducible exact L3.o_ix1) | (with_reducible exact L3.o_lx0) | (with_reducible exact L3.o_isn) | (with_reducible exact L3.o_isnI) | (with_reducible exact L3.o_neg) | ((with_reducible apply L3.o_lt_t); omega) | ((with_reducible apply L3.o_lt_f); omega) | ((with_reducible apply L3.o_le_t); omega) | ((with_reducible apply L3.o_le_f); omega) | ((with_reducible apply L3.o_gt_t); omega) | ((with_reducible apply L3.o_gt_f); omega) | ((with_reducible apply L3.o_ge_t); omega) | ((with_reducible apply L3.o_ge_f); omega) | ((with_reducible apply L3.o_eq_t); omega) | ((with_reducible apply L3.o_eq_f); omega) | ((with_reducible apply L3.o_ne_t); omega) | ((with_reducible apply L3.o_ne_f); omega) | ((with_reducible apply L3.o_eqs_t); exact rfl) | ((with_reducible apply L3.o_eqs_f); decide) | ((with_reducible apply L3.o_nes_f); exact rfl) | ((with_reducible apply L3.o_nes_t); decide) | ((with_reducible apply L3.o_mul1); omega) | ((with_reducible apply L3.o_mul2); omega) | ((with_reducible apply L3.o_mod); omega) | ((with_reducible apply L3.o_fdiv); omega) | ((with_reducible apply L3.inW_of'); omega) | ((with_reducible apply L3.o_fld); exact rfl) | ((with_reducible apply L3.fg_tup); (first | exact rfl | skip)) | ((with_reducible apply L3.o_append); first | assumption | (simp only [List.length_map] at *; omega)) | ((with_reducible apply L3.o_tup); exact le_size (by simp)) | ((with_reducible apply L3.o_lst); exact le_size (by simp)))
theorem along_body (T : Tb) (nm : Str) (R : D) (s i : Nat) (h : D) (told : List D) (a0 : Option D) (c : Str) (k n : Nat) (F : LF c k n) (hs : s < T.length) (p : Str × Nat) (hp : En T s k p) (ha : ActOk p.1) (hH : c = "H" → p.1 ≠ "last") (hl : told.length < sizeLine) :
    lp_along_1 [some (rdr T nm), some R, some (.int (s : Nat)), some h, some (.lst told), some (.int (0 + (i : Nat))), some (.str c), a0] = .nx [some (rdr T nm), some R, some (.int (p.2 : Nat)), some (heldP p.1 n i h), some (.lst (told ++ [.tup [.int (p.2 : Nat), heldP p.1 n i h]])), some (.int (0 + (i : Nat))), some (.str c), some (.str p.1)] := by
  have g1 := entry_ok T nm s hs c k n F p hp
  have g2 := held_ok h p.1 c k n i F ha hH
  unfold lp_along_1
  repeat' (first | ((with_reducible apply L3.ca_mk (m := m_Reader_entry)); exact g1) | ((with_reducible apply L3.ca_mk (m := m_held_after)); exact g2) | (with_reducible exact L3.v_c) | (with_reducible apply L3.v_var) | ((with_reducible apply L3.at_mk); exact rfl) | ((with_reducible apply L3.bt_mk); exact rfl) | (with_reducible exact L3.v_aN) | (with_reducible apply L3.st_z) | (with_reducible apply L3.st_s) | (with_reducible apply L3.fl_n) | (with_reducible apply L3.fl_d) | (with_reducible apply L3.fl_o) | (with_reducible apply L3.uf_n) | (with_reducible apply L3.uf_d) | (with_reducible apply L3.uf_o) | (with_reducible apply L3.v_aC) | (with_reducible apply L3.v_f2) | (with_reducible apply L3.v_f1) | (with_reducible apply L3.v_fL) | (with_reducible apply L3.z_seq) | (with_reducible apply L3.z_nx) | (with_reducible apply L3.z_set) | (with_reducible apply L3.z_drop) | (with_reducible apply L3.z_ret) | (with_reducible apply L3.z_retO) | (with_reducible apply L3.z_if) | (with_reducible apply L3.v_ite_t) | (with_reducible apply L3.v_ite_f) | (with_reducible apply L3.t_B) | (with_reducible apply L3.t_V) | (with_reducible apply L3.t_N) | (with_reducible apply L3.t_A) | (with_reducible apply L3.t_O) | (with_reducible apply L3.v_if) | (with_reducible apply L3.v_and) | (with_reducible apply L3.v_or) | (with_reducible apply L3.z_asg) | (with_reducible apply L3.z_par) | (with_reducible apply L3.z_for) | (with_reducible apply L3.v_mut) | (with_reducible apply L3.v_ixO) | (with_reducible apply L3.v_f1O) | (with_reducible apply L3.v_f2O) | (with_reducible apply L3.v_isiO) | (with_reducible apply L3.i_r1) | (with_reducible apply L3.i_r2) | (with_reducible apply L3.v_call) | (with_reducible apply L3.v_meth) | (with_reducible apply L3.v_callI) | (with_reducible apply L3.v_make) | (with_reducible apply L3.fg_name) | (with_reducible apply L3.fg_nil) | (with_reducible apply L3.fg_cons) | (with_reducible apply L3.v_bm) | (with_reducible exact L3.z_rt) | (with_reducible exact L3.z_n) | (with_reducible exact L3.z_ok) | (with_reducible exact L3.tr_bl) | (with_reducible exact L3.bn_t) | (with_reducible exact L3.bn_f) | (with_reducible exact L3.o_add) | (with_reducible exact L3.o_sub) | (with_reducible exact L3.o_int) | (with_reducible exact L3.o_lenl) | (with_reducible exact L3.o_lenk) | (with_reducible exact L3.o_lent) | (with_reducible exact L3.o_tuple_l) | (with_reducible exact L3.o_tuple_t) | (with_reducible exact L3.o_list_t) | (with_reducible exact L3.o_list_l) | (with_reducible exact L3.o_reverse) | (with_reducible exact L3.o_clear) | (with_reducible exact L3.o_ix0) | (with_reducible exact L3.o_ix1) | (with_reducible exact L3.o_lx0) | (with_reducible exact L3.o_isn) | (with_reducible exact L3.o_isnI) | (with_reducible exact L3.o_neg) | ((with_reducible apply L3.o_lt_t); omega) | ((with_reducible apply L3.o_lt_f); omega) | ((with_reducible apply L3.o_le_t); omega) | ((with_reducible apply L3.o_le_f); omega) | ((with_reducible apply L3.o_gt_t); omega) | ((with_reducible apply L3.o_gt_f); omega) | ((with_reducible apply L3.o_ge_t); omega) | ((with_reducible apply L3.o_ge_f); omega) | ((with_reducible apply L3.o_eq_t); omega) | ((with_reducible apply L3.o_eq_f); omega) | ((with_reducible apply L3.o_ne_t); omega) | ((with_reducible apply L3.o_ne_f); omega) | ((with_reducible apply L3.o_eqs_t); exact rfl) | ((with_reducible apply L3.o_eqs_f); decide) | ((with_reducible apply L3.o_nes_f); exact rfl) | ((with_reducible apply L3.o_nes_t); decide) | ((with_reducible apply L3.o_mul1); omega) | ((with_reducible apply L3.o_mul2); omega) | ((with_reducible apply L3.o_mod); omega) | ((with_reducible apply L3.o_fdiv); omega) | ((with_reducible apply L3.inW_of'); omega) | ((with_reducible apply L3.o_fld); exact rfl) | ((with_reducible apply L3.fg_tup); (first | exact rfl | skip)) | ((with_reducible apply L3.o_append); first | assumption | (simp only [List.length_map] at *; omega)) | ((with_reducible apply L3.o_tup); exact le_size (by simp)) | ((with_reducible apply L3.o_lst); exact le_size (by simp)))
theorem along_dash (T : Tb) (nm : Str) (R : D) (s i : Nat) (h : D) (told : List D) (a0 : Option D) (hs : s < T.length) (hl : told.length < sizeLine) :
    lp_along_1 [some (rdr T nm), some R, some (.int (s : Nat)), some h, some (.lst told), some (.int (0 + (i : Nat))), some (.str "-"), a0] = .nx [some (rdr T nm), some R, some (.int (s : Nat)), some h, some (.lst (told ++ [.tup [.int (s : Nat), h]])), some (.int (0 + (i : Nat))), some (.str "-"), some (.str "keep")] := by
  have g1 := entry_dash T nm s hs
  have g2 := held_dash h "-" (0 + (i : Nat))
  unfold lp_along_1
  repeat' (first | ((with_reducible apply L3.ca_mk (m := m_Reader_entry)); exact g1) | ((with_reducible apply L3.ca_mk (m := m_held_after)); exact g2) | (with_reducible exact L3.v_c) | (with_reducible apply L3.v_var) | ((with_reducible apply L3.at_mk); exact rfl) | ((with_reducible apply L3.bt_mk); exact rfl) | (with_reducible exact L3.v_aN) | (with_reducible apply L3.st_z) | (with_reducible apply L3.st_s) | (with_reducible apply L3.fl_n) | (with_reducible apply L3.fl_d) | (with_reducible apply L3.fl_o) | (with_reducible apply L3.uf_n) | (with_reducible apply L3.uf_d) | (with_reducible apply L3.uf_o) | (with_reducible apply L3.v_aC) | (with_reducible apply L3.v_f2) | (with_reducible apply L3.v_f1) | (with_reducible apply L3.v_fL) | (with_reducible apply L3.z_seq) | (with_reducible apply L3.z_nx) | (with_reducible apply L3.z_set) | (with_reducible apply L3.z_drop) | (with_reducible apply L3.z_ret) | (with_reducible apply L3.z_retO) | (with_reducible apply L3.z_if) | (with_reducible apply L3.v_ite_t) | (with_reducible apply L3.v_ite_f) | (with_reducible apply L3.t_B) | (with_reducible apply L3.t_V) | (with_reducible apply L3.t_N) | (with_reducible apply L3.t_A) | (with_reducible apply L3.t_O) | (with_reducible apply L3.v_if) | (with_reducible apply L3.v_and) | (with_reducible apply L3.v_or) | (with_reducible apply L3.z_asg) | (with_reducible apply L3.z_par) | (with_reducible apply L3.z_for) | (with_reducible apply L3.v_mut) | (with_reducible apply L3.v_ixO) | (with_reducible apply L3.v_f1O) | (with_reducible apply L3.v_f2O) | (with_reducible apply L3.v_isiO) | (with_reducible apply L3.i_r1) | (with_reducible apply L3.i_r2) | (with_reducible apply L3.v_call) | (with_reducible apply L3.v_meth) | (with_reducible apply L3.v_callI) | (with_reducible apply L3.v_make) | (with_reducible apply L3.fg_name) | (with_reducible apply L3.fg_nil) | (with_reducible apply L3.fg_cons) | (with_reducible apply L3.v_bm) | (with_reducible exact L3.z_rt) | (with_reducible exact L3.z_n) | (with_reducible exact L3.z_ok) | (with_reducible exact L3.tr_bl) | (with_reducible exact L3.bn_t) | (with_reducible exact L3.bn_f) | (with_reducible exact L3.o_add) | (with_reducible exact L3.o_sub) | (with_reducible exact L3.o_int) | (with_reducible exact L3.o_lenl) | (with_reducible exact L3.o_lenk) | (with_reducible exact L3.o_lent) | (with_reducible exact L3.o_tuple_l) | (with_reducible exact L3.o_tuple_t) | (with_reducible exact L3.o_list_t) | (with_reducible exact L3.o_list_l) | (with_reducible exact L3.o_reverse) | (with_reducible exact L3.o_clear) | (with_reducible exact L3.o_ix0) | (with_reducible exact L3.o_ix1) | (with_reducible exact L3.o_lx0) | (with_reducible exact L3.o_isn) | (with_reducible exact L3.o_isnI) | (with_reducible exact L3.o_neg) | ((with_reducible apply L3.o_lt_t); omega) | ((with_reducible apply L3.o_lt_f); omega) | ((with_reducible apply L3.o_le_t); omega) | ((with_reducible apply L3.o_le_f); omega) | ((with_reducible apply L3.o_gt_t); omega) | ((with_reducible apply L3.o_gt_f); omega) | ((with_reducible apply L3.o_ge_t); omega) | ((with_reducible apply L3.o_ge_f); omega) | ((with_reducible apply L3.o_eq_t); omega) | ((with_reducible apply L3.o_eq_f); omega) | ((with_reducible apply L3.o_ne_t); omega) | ((with_reducible apply L3.o_ne_f); omega) | ((with_reducible apply L3.o_eqs_t); exact rfl) | ((with_reducible apply L3.o_eqs_f); decide) | ((with_reducible apply L3.o_nes_f); exact rfl) | ((with_reducible apply L3.o_nes_t); decide) | ((with_reducible apply L3.o_mul1); omega) | ((with_reducible apply L3.o_mul2); omega) | ((with_reducible apply L3.o_mod); omega) | ((with_reducible apply L3.o_fdiv); omega) | ((with_reducible apply L3.inW_of'); omega) | ((with_reducible apply L3.o_fld); exact rfl) | ((with_reducible apply L3.fg_tup); (first | exact rfl | skip)) | ((with_reducible apply L3.o_append); first | assumption | (simp only [List.length_map] at *; omega)) | ((with_reducible apply L3.o_tup); exact le_size (by simp)) | ((with_reducible apply L3.o_lst); exact le_size (by simp)))
end Law

namespace Law
open PySem PySem.Spec PyProof.Rows L2 L3
abbrev MenuOk (row : List Str) : Prop := ∀ c ∈ row, c ∈ L8 ∨ c = "-"
structure WF (T : Tb) : Prop where
  pos : 0 < T.length
  en : ∀ s, s < T.length → ∀ c ∈ L8, ∃ p, En T s (kOf c) p ∧ ActOk p.1 ∧ p.2 < T.length ∧ (c = "H" → p.1 ≠ "last")
def stepS (T : Tb) (i : Nat) (c : Str) (q : Nat × D) : Nat × D := if c = "-" then q else match (T[q.1]?).bind fun st => st[kOf c]? with
  | some p => (p.2, heldP p.1 (nOf c) i q.2)
  | none => q
def runS (T : Tb) (row : List Str) : Nat → (Nat × D) × List D
  | 0 => ((0, .non), [.tup [.int (0 : Nat), .non]])
  | i + 1 => match row[i]? with
    | some c => (stepS T i c (runS T row i).1, (runS T row i).2 ++ [.tup [.int ((stepS T i c (runS T row i).1).1 : Nat), (stepS T i c (runS T row i).1).2]])
    | none => runS T row i
theorem stepS_en {T : Tb} {i : Nat} {c : Str} {s : Nat} {h : D} {p : Str × Nat} (hc : c ∈ L8) (hp : En T s (kOf c) p) : stepS T i c (s, h) = (p.2, heldP p.1 (nOf c) i h) := by
  obtain ⟨st, h1, h2⟩ := hp.st
  have hne : c ≠ "-" := (lf c hc).ne
  unfold stepS
  rw [if_neg hne]
  simp only [h1, Option.bind_some, h2]
theorem stepS_dash {T : Tb} {i : Nat} {q : Nat × D} : stepS T i "-" q = q := by unfold stepS; rw [if_pos rfl]
theorem step_lt {T : Tb} (W : WF T) {i : Nat} {c : Str} (hc : c ∈ L8 ∨ c = "-") {s : Nat} {h : D} (hs : s < T.length) : (stepS T i c (s, h)).1 < T.length := by
  rcases hc with hc | rfl
  · obtain ⟨p, hp, _, h1, _⟩ := W.en s hs c hc
    rw [stepS_en hc hp]; exact h1
  · rw [stepS_dash]; exact hs
theorem run_lt {T : Tb} (W : WF T) {row : List Str} (hm : MenuOk row) : ∀ i, (runS T row i).1.1 < T.length
  | 0 => W.pos
  | i + 1 => by
    unfold runS
    split
    · rename_i c hc
      exact step_lt W (hm c (List.mem_of_getElem? hc)) (run_lt W hm i)
    · exact run_lt W hm i
theorem run_len {T : Tb} {row : List Str} : ∀ i, (runS T row i).2.length ≤ i + 1
  | 0 => by simp [runS]
  | i + 1 => by
    have := run_len (T := T) (row := row) i
    unfold runS
    split <;> simp <;> omega
theorem run_last {T : Tb} {row : List Str} : ∀ i, ∃ l, (runS T row i).2 = l ++ [.tup [.int ((runS T row i).1.1 : Nat), (runS T row i).1.2]]
  | 0 => ⟨[], rfl⟩
  | i + 1 => by
    unfold runS
    split
    · exact ⟨_, rfl⟩
    · exact run_last i
theorem run_succ {T : Tb} {row : List Str} {i : Nat} {c : Str} (h : row[i]? = some c) : runS T row (i + 1) = (stepS T i c (runS T row i).1, (runS T row i).2 ++ [.tup [.int ((stepS T i c (runS T row i).1).1 : Nat), (stepS T i c (runS T row i).1).2]]) := by
  rw [runS, h]
abbrev rowS (row : List Str) : List D := row.map D.str
theorem walk_ok (T : Tb) (W : WF T) (row : List Str) (hm : MenuOk row) (hl : row.length ≤ 1000) : m__law_walk [tbL T, .lst (rowS row)] = .ok (.lst (runS T row row.length).2) [none, none] := by
  obtain ⟨ρ', h1, a, e, rfl⟩ := forF_ix (set := hName 6) (body := lp__law_walk_1) (I := fun i ρ => ∃ a e, ρ = [some (tbL T), some (.lst (rowS row)), some L8D, some (.int ((runS T row i).1.1 : Nat)), some (runS T row i).1.2, some (.lst (runS T row i).2), a, e]) (rngD 0 row.length) 0 [some (tbL T), some (.lst (rowS row)), some L8D, some (.int (0 : Nat)), some .non, some (.lst [.tup [.int (0 : Nat), .non]]), none, none] (fun i d hd ρ hI => by
    obtain ⟨hi, rfl⟩ := rngD_at hd
    obtain ⟨a, e, rfl⟩ := hI
    refine ⟨_, rfl, ?_⟩
    simp only [List.set_cons_succ, List.set_cons_zero, Nat.zero_add]
    have hc : row[i]? = some row[i] := List.getElem?_eq_getElem hi
    have hr : dIx (.lst (rowS row)) (.int (0 + (i : Nat))) = some (.str row[i]) := by
      rw [Int.zero_add, dIx_nat, List.getElem?_map, hc]; rfl
    have hll : (runS T row i).2.length < sizeLine := lt_size (by have := run_len (T := T) (row := row) i; omega)
    have hs := run_lt W hm i
    rw [run_succ hc]
    rcases hm _ (List.mem_of_getElem? hc) with hc' | hc'
    · obtain ⟨p, hp, ha, _, _⟩ := W.en _ hs _ hc'
      rw [show (runS T row i).1 = ((runS T row i).1.1, (runS T row i).1.2) from rfl, stepS_en hc' hp]
      exact ⟨_, .inl (walk_body T _ _ i _ _ e _ _ _ (lf _ hc') hr p hp ha hll), _, _, rfl⟩
    · rw [hc'] at hr ⊢
      rw [stepS_dash]
      exact ⟨_, .inl (walk_dash T _ _ i _ _ e hr hll), _, _, rfl⟩) ⟨none, none, rfl⟩
  rw [rngD_length] at h1
  simp only [Nat.zero_add] at h1
  refine m_rt (ρ := [some (tbL T), some (.lst (rowS row)), some L8D, some (.int ((runS T row row.length).1.1 : Nat)), some (runS T row row.length).1.2, some (.lst (runS T row row.length).2), a, e]) ?_
  unfold bd__law_walk
  simp only [List.getElem?_cons_zero, List.getElem?_cons_succ, List.set_cons_zero, List.set_cons_succ, List.map_cons, List.map_nil, List.replicate, List.cons_append, List.nil_append]
  have g1 : m__law_letters [] = .ok L8D [] := rfl
  have g2 : inW ((rowS row).length : Nat) = true := by rw [List.length_map]; exact inW_of' (by omega)
  have key : (((rowS row).length : Nat) : Int).toNat = row.length := by simp
  have h2 : forF (hName 6) lp__law_walk_1 (rngD 0 (((rowS row).length : Nat) : Int).toNat) [some (tbL T), some (.lst (rowS row)), some L8D, some (.int 0), some .non, some (.lst [.tup [.int 0, .non]]), none, none] = RS.nx [some (tbL T), some (.lst (rowS row)), some L8D, some (.int ((runS T row row.length).1.1 : Nat)), some (runS T row row.length).1.2, some (.lst (runS T row row.length).2), a, e] := by
    rw [key]
    exact h1
  apply Eq.trans
  · repeat' (first | ((with_reducible apply L3.ca_mk (m := m__law_letters)); exact g1) | (with_reducible exact g2) | ((with_reducible apply L3.lp_mk); exact h2) | (with_reducible exact L3.v_c) | (with_reducible apply L3.v_var) | ((with_reducible apply L3.at_mk); exact rfl) | ((with_reducible apply L3.bt_mk); exact rfl) | (with_reducible exact L3.v_aN) | (with_reducible apply L3.st_z) | (with_reducible apply L3.st_s) | (with_reducible apply L3.fl_n) | (with_reducible apply L3.fl_d) | (with_reducible apply L3.fl_o) | (with_reducible apply L3.uf_n) | (with_reducible apply L3.uf_d) | (with_reducible apply L3.uf_o) | (with_reducible apply L3.v_aC) | (with_reducible apply L3.v_f2) | (with_reducible apply L3.v_f1) | (with_reducible apply L3.v_fL) | (with_reducible apply L3.z_seq) | (with_reducible apply L3.z_nx) | (with_reducible apply L3.z_set) | (with_reducible apply L3.z_drop) | (with_reducible apply L3.z_ret) | (with_reducible apply L3.z_retO) | (with_reducible apply L3.z_if) | (with_reducible apply L3.v_ite_t) | (with_reducible apply L3.v_ite_f) | (with_reducible apply L3.t_B) | (with_reducible apply L3.t_V) | (with_reducible apply L3.t_N) | (with_reducible apply L3.t_A) | (with_reducible apply L3.t_O) | (with_reducible apply L3.v_if) | (with_reducible apply L3.v_and) | (with_reducible apply L3.v_or) | (with_reducible apply L3.z_asg) | (with_reducible apply L3.z_par) | (with_reducible apply L3.z_for) | (with_reducible apply L3.v_mut) | (with_reducible apply L3.v_ixO) | (with_reducible apply L3.v_f1O) | (with_reducible apply L3.v_f2O) | (with_reducible apply L3.v_isiO) | (with_reducible apply L3.i_r1) | (with_reducible apply L3.i_r2) | (with_reducible apply L3.v_call) | (with_reducible apply L3.v_meth) | (with_reducible apply L3.v_callI) | (with_reducible apply L3.v_make) | (with_reducible apply L3.fg_name) | (with_reducible apply L3.fg_nil) | (with_reducible apply L3.fg_cons) | (with_reducible apply L3.v_bm) | (with_reducible exact L3.z_rt) | (with_reducible exact L3.z_n) | (with_reducible exact L3.z_ok) | (with_reducible exact L3.tr_bl) | (with_reducible exact L3.bn_t) | (with_reducible exact L3.bn_f) | (with_reducible exact L3.o_add) | (with_reducible exact L3.o_sub) | (with_reducible exact L3.o_int) | (with_reducible exact L3.o_lenl) | (with_reducible exact L3.o_lenk) | (with_reducible exact L3.o_lent) | (with_reducible exact L3.o_tuple_l) | (with_reducible exact L3.o_tuple_t) | (with_reducible exact L3.o_list_t) | (with_reducible exact L3.o_list_l) | (with_reducible exact L3.o_reverse) | (with_reducible exact L3.o_clear) | (with_reducible exact L3.o_ix0) | (with_reducible exact L3.o_ix1) | (with_reducible exact L3.o_lx0) | (with_reducible exact L3.o_isn) | (with_reducible exact L3.o_isnI) | (with_reducible exact L3.o_neg) | ((with_reducible apply L3.o_lt_t); omega) | ((with_reducible apply L3.o_lt_f); omega) | ((with_reducible apply L3.o_le_t); omega) | ((with_reducible apply L3.o_le_f); omega) | ((with_reducible apply L3.o_gt_t); omega) | ((with_reducible apply L3.o_gt_f); omega) | ((with_reducible apply L3.o_ge_t); omega) | ((with_reducible apply L3.o_ge_f); omega) | ((with_reducible apply L3.o_eq_t); omega) | ((with_reducible apply L3.o_eq_f); omega) | ((with_reducible apply L3.o_ne_t); omega) | ((with_reducible apply L3.o_ne_f); omega) | ((with_reducible apply L3.o_eqs_t); exact rfl) | ((with_reducible apply L3.o_eqs_f); decide) | ((with_reducible apply L3.o_nes_f); exact rfl) | ((with_reducible apply L3.o_nes_t); decide) | ((with_reducible apply L3.o_mul1); omega) | ((with_reducible apply L3.o_mul2); omega) | ((with_reducible apply L3.o_mod); omega) | ((with_reducible apply L3.o_fdiv); omega) | ((with_reducible apply L3.inW_of'); omega) | ((with_reducible apply L3.o_fld); exact rfl) | ((with_reducible apply L3.fg_tup); (first | exact rfl | skip)) | ((with_reducible apply L3.o_append); first | assumption | (simp only [List.length_map] at *; omega)) | ((with_reducible apply L3.o_tup); exact le_size (by simp)) | ((with_reducible apply L3.o_lst); exact le_size (by simp)))
  · rfl
/-- a row as a list or a tuple -/
inductive RowD (row : List Str) : D → Prop
  | l : RowD row (.lst (rowS row))
  | t : RowD row (.tup (rowS row))
theorem menu_tab {c : Str} (h : c ∈ L8 ∨ c = "-") : dNotInT tab_LINES_OF (.str c) = some (.bl false) := by
  rcases h with h | rfl
  · exact (lf c h).tab
  · exact dash_tab
theorem check_row_ok (row : List Str) (hm : MenuOk row) (hl : row.length ≤ 60) {R : D} (hR : RowD row R) : m_check_row [R, .str "row"] = .ok (.tup (rowS row)) [none, none] := by
  obtain ⟨ρ', h1, a, rfl⟩ := forF_inv (set := hName 2) (body := lp_check_row_1) (I := fun ρ => ∃ a, ρ = [some R, some (.str "row"), a]) (rowS row) [some R, some (.str "row"), none] (fun d hd ρ hI => by
    obtain ⟨a, rfl⟩ := hI
    obtain ⟨c, hc, rfl⟩ := List.mem_map.mp hd
    refine ⟨_, rfl, ?_⟩
    simp only [List.set_cons_succ, List.set_cons_zero]
    have g := check_letter_ok c (.str "row") (menu_tab (hm c hc))
    refine ⟨_, .inl ?_, some (.str c), rfl⟩
    unfold lp_check_row_1
    repeat' (first | ((with_reducible apply L3.ca_mk); exact g) | (with_reducible exact L3.v_c) | (with_reducible apply L3.v_var) | ((with_reducible apply L3.at_mk); exact rfl) | ((with_reducible apply L3.bt_mk); exact rfl) | (with_reducible exact L3.v_aN) | (with_reducible apply L3.st_z) | (with_reducible apply L3.st_s) | (with_reducible apply L3.fl_n) | (with_reducible apply L3.fl_d) | (with_reducible apply L3.fl_o) | (with_reducible apply L3.uf_n) | (with_reducible apply L3.uf_d) | (with_reducible apply L3.uf_o) | (with_reducible apply L3.v_aC) | (with_reducible apply L3.v_f2) | (with_reducible apply L3.v_f1) | (with_reducible apply L3.v_fL) | (with_reducible apply L3.z_seq) | (with_reducible apply L3.z_nx) | (with_reducible apply L3.z_set) | (with_reducible apply L3.z_drop) | (with_reducible apply L3.z_ret) | (with_reducible apply L3.z_retO) | (with_reducible apply L3.z_if) | (with_reducible apply L3.v_ite_t) | (with_reducible apply L3.v_ite_f) | (with_reducible apply L3.t_B) | (with_reducible apply L3.t_V) | (with_reducible apply L3.t_N) | (with_reducible apply L3.t_A) | (with_reducible apply L3.t_O) | (with_reducible apply L3.v_if) | (with_reducible apply L3.v_and) | (with_reducible apply L3.v_or) | (with_reducible apply L3.z_asg) | (with_reducible apply L3.z_par) | (with_reducible apply L3.z_for) | (with_reducible apply L3.v_mut) | (with_reducible apply L3.v_ixO) | (with_reducible apply L3.v_f1O) | (with_reducible apply L3.v_f2O) | (with_reducible apply L3.v_isiO) | (with_reducible apply L3.i_r1) | (with_reducible apply L3.i_r2) | (with_reducible apply L3.v_call) | (with_reducible apply L3.v_meth) | (with_reducible apply L3.v_callI) | (with_reducible apply L3.v_make) | (with_reducible apply L3.fg_name) | (with_reducible apply L3.fg_nil) | (with_reducible apply L3.fg_cons) | (with_reducible apply L3.v_bm) | (with_reducible exact L3.z_rt) | (with_reducible exact L3.z_n) | (with_reducible exact L3.z_ok) | (with_reducible exact L3.tr_bl) | (with_reducible exact L3.bn_t) | (with_reducible exact L3.bn_f) | (with_reducible exact L3.o_add) | (with_reducible exact L3.o_sub) | (with_reducible exact L3.o_int) | (with_reducible exact L3.o_lenl) | (with_reducible exact L3.o_lenk) | (with_reducible exact L3.o_lent) | (with_reducible exact L3.o_tuple_l) | (with_reducible exact L3.o_tuple_t) | (with_reducible exact L3.o_list_t) | (with_reducible exact L3.o_list_l) | (with_reducible exact L3.o_reverse) | (with_reducible exact L3.o_clear) | (with_reducible exact L3.o_ix0) | (with_reducible exact L3.o_ix1) | (with_reducible exact L3.o_lx0) | (with_reducible exact L3.o_isn) | (with_reducible exact L3.o_isnI) | (with_reducible exact L3.o_neg) | ((with_reducible apply L3.o_lt_t); omega) | ((with_reducible apply L3.o_lt_f); omega) | ((with_reducible apply L3.o_le_t); omega) | ((with_reducible apply L3.o_le_f); omega) | ((with_reducible apply L3.o_gt_t); omega) | ((with_reducible apply L3.o_gt_f); omega) | ((with_reducible apply L3.o_ge_t); omega) | ((with_reducible apply L3.o_ge_f); omega) | ((with_reducible apply L3.o_eq_t); omega) | ((with_reducible apply L3.o_eq_f); omega) | ((with_reducible apply L3.o_ne_t); omega) | ((with_reducible apply L3.o_ne_f); omega) | ((with_reducible apply L3.o_eqs_t); exact rfl) | ((with_reducible apply L3.o_eqs_f); decide) | ((with_reducible apply L3.o_nes_f); exact rfl) | ((with_reducible apply L3.o_nes_t); decide) | ((with_reducible apply L3.o_mul1); omega) | ((with_reducible apply L3.o_mul2); omega) | ((with_reducible apply L3.o_mod); omega) | ((with_reducible apply L3.o_fdiv); omega) | ((with_reducible apply L3.inW_of'); omega) | ((with_reducible apply L3.o_fld); exact rfl) | ((with_reducible apply L3.fg_tup); (first | exact rfl | skip)) | ((with_reducible apply L3.o_append); first | assumption | (simp only [List.length_map] at *; omega)) | ((with_reducible apply L3.o_tup); exact le_size (by simp)) | ((with_reducible apply L3.o_lst); exact le_size (by simp)))) ⟨none, rfl⟩
  refine m_rt (ρ := [some R, some (.str "row"), a]) ?_
  unfold bd_check_row
  simp only [List.getElem?_cons_zero, List.getElem?_cons_succ, List.set_cons_zero, List.set_cons_succ, List.map_cons, List.map_nil, List.replicate, List.cons_append, List.nil_append]
  have hlen : ((rowS row).length : Int) ≤ 60 := by rw [List.length_map]; omega
  cases hR with
  | l =>
    have g := isi_lt1 (rowS row)
    repeat' (first | (with_reducible exact g) | (with_reducible apply L3.i_sl) | ((with_reducible apply L3.lp_mk); exact h1) | (with_reducible exact L3.v_c) | (with_reducible apply L3.v_var) | ((with_reducible apply L3.at_mk); exact rfl) | ((with_reducible apply L3.bt_mk); exact rfl) | (with_reducible exact L3.v_aN) | (with_reducible apply L3.st_z) | (with_reducible apply L3.st_s) | (with_reducible apply L3.fl_n) | (with_reducible apply L3.fl_d) | (with_reducible apply L3.fl_o) | (with_reducible apply L3.uf_n) | (with_reducible apply L3.uf_d) | (with_reducible apply L3.uf_o) | (with_reducible apply L3.v_aC) | (with_reducible apply L3.v_f2) | (with_reducible apply L3.v_f1) | (with_reducible apply L3.v_fL) | (with_reducible apply L3.z_seq) | (with_reducible apply L3.z_nx) | (with_reducible apply L3.z_set) | (with_reducible apply L3.z_drop) | (with_reducible apply L3.z_ret) | (with_reducible apply L3.z_retO) | (with_reducible apply L3.z_if) | (with_reducible apply L3.v_ite_t) | (with_reducible apply L3.v_ite_f) | (with_reducible apply L3.t_B) | (with_reducible apply L3.t_V) | (with_reducible apply L3.t_N) | (with_reducible apply L3.t_A) | (with_reducible apply L3.t_O) | (with_reducible apply L3.v_if) | (with_reducible apply L3.v_and) | (with_reducible apply L3.v_or) | (with_reducible apply L3.z_asg) | (with_reducible apply L3.z_par) | (with_reducible apply L3.z_for) | (with_reducible apply L3.v_mut) | (with_reducible apply L3.v_ixO) | (with_reducible apply L3.v_f1O) | (with_reducible apply L3.v_f2O) | (with_reducible apply L3.v_isiO) | (with_reducible apply L3.i_r1) | (with_reducible apply L3.i_r2) | (with_reducible apply L3.v_call) | (with_reducible apply L3.v_meth) | (with_reducible apply L3.v_callI) | (with_reducible apply L3.v_make) | (with_reducible apply L3.fg_name) | (with_reducible apply L3.fg_nil) | (with_reducible apply L3.fg_cons) | (with_reducible apply L3.v_bm) | (with_reducible exact L3.z_rt) | (with_reducible exact L3.z_n) | (with_reducible exact L3.z_ok) | (with_reducible exact L3.tr_bl) | (with_reducible exact L3.bn_t) | (with_reducible exact L3.bn_f) | (with_reducible exact L3.o_add) | (with_reducible exact L3.o_sub) | (with_reducible exact L3.o_int) | (with_reducible exact L3.o_lenl) | (with_reducible exact L3.o_lenk) | (with_reducible exact L3.o_lent) | (with_reducible exact L3.o_tuple_l) | (with_reducible exact L3.o_tuple_t) | (with_reducible exact L3.o_list_t) | (with_reducible exact L3.o_list_l) | (with_reducible exact L3.o_reverse) | (with_reducible exact L3.o_clear) | (with_reducible exact L3.o_ix0) | (with_reducible exact L3.o_ix1) | (with_reducible exact L3.o_lx0) | (with_reducible exact L3.o_isn) | (with_reducible exact L3.o_isnI) | (with_reducible exact L3.o_neg) | ((with_reducible apply L3.o_lt_t); omega) | ((with_reducible apply L3.o_lt_f); omega) | ((with_reducible apply L3.o_le_t); omega) | ((with_reducible apply L3.o_le_f); omega) | ((with_reducible apply L3.o_gt_t); omega) | ((with_reducible apply L3.o_gt_f); omega) | ((with_reducible apply L3.o_ge_t); omega) | ((with_reducible apply L3.o_ge_f); omega) | ((with_reducible apply L3.o_eq_t); omega) | ((with_reducible apply L3.o_eq_f); omega) | ((with_reducible apply L3.o_ne_t); omega) | ((with_reducible apply L3.o_ne_f); omega) | ((with_reducible apply L3.o_eqs_t); exact rfl) | ((with_reducible apply L3.o_eqs_f); decide) | ((with_reducible apply L3.o_nes_f); exact rfl) | ((with_reducible apply L3.o_nes_t); decide) | ((with_reducible apply L3.o_mul1); omega) | ((with_reducible apply L3.o_mul2); omega) | ((with_reducible apply L3.o_mod); omega) | ((with_reducible apply L3.o_fdiv); omega) | ((with_reducible apply L3.inW_of'); omega) | ((with_reducible apply L3.o_fld); exact rfl) | ((with_reducible apply L3.fg_tup); (first | exact rfl | skip)) | ((with_reducible apply L3.o_append); first | assumption | (simp only [List.length_map] at *; omega)) | ((with_reducible apply L3.o_tup); exact le_size (by simp)) | ((with_reducible apply L3.o_lst); exact le_size (by simp)))
  | t =>
    have g := isi_lt2 (rowS row)
    repeat' (first | (with_reducible exact g) | (with_reducible apply L3.i_st) | ((with_reducible apply L3.lp_mk); exact h1) | (with_reducible exact L3.v_c) | (with_reducible apply L3.v_var) | ((with_reducible apply L3.at_mk); exact rfl) | ((with_reducible apply L3.bt_mk); exact rfl) | (with_reducible exact L3.v_aN) | (with_reducible apply L3.st_z) | (with_reducible apply L3.st_s) | (with_reducible apply L3.fl_n) | (with_reducible apply L3.fl_d) | (with_reducible apply L3.fl_o) | (with_reducible apply L3.uf_n) | (with_reducible apply L3.uf_d) | (with_reducible apply L3.uf_o) | (with_reducible apply L3.v_aC) | (with_reducible apply L3.v_f2) | (with_reducible apply L3.v_f1) | (with_reducible apply L3.v_fL) | (with_reducible apply L3.z_seq) | (with_reducible apply L3.z_nx) | (with_reducible apply L3.z_set) | (with_reducible apply L3.z_drop) | (with_reducible apply L3.z_ret) | (with_reducible apply L3.z_retO) | (with_reducible apply L3.z_if) | (with_reducible apply L3.v_ite_t) | (with_reducible apply L3.v_ite_f) | (with_reducible apply L3.t_B) | (with_reducible apply L3.t_V) | (with_reducible apply L3.t_N) | (with_reducible apply L3.t_A) | (with_reducible apply L3.t_O) | (with_reducible apply L3.v_if) | (with_reducible apply L3.v_and) | (with_reducible apply L3.v_or) | (with_reducible apply L3.z_asg) | (with_reducible apply L3.z_par) | (with_reducible apply L3.z_for) | (with_reducible apply L3.v_mut) | (with_reducible apply L3.v_ixO) | (with_reducible apply L3.v_f1O) | (with_reducible apply L3.v_f2O) | (with_reducible apply L3.v_isiO) | (with_reducible apply L3.i_r1) | (with_reducible apply L3.i_r2) | (with_reducible apply L3.v_call) | (with_reducible apply L3.v_meth) | (with_reducible apply L3.v_callI) | (with_reducible apply L3.v_make) | (with_reducible apply L3.fg_name) | (with_reducible apply L3.fg_nil) | (with_reducible apply L3.fg_cons) | (with_reducible apply L3.v_bm) | (with_reducible exact L3.z_rt) | (with_reducible exact L3.z_n) | (with_reducible exact L3.z_ok) | (with_reducible exact L3.tr_bl) | (with_reducible exact L3.bn_t) | (with_reducible exact L3.bn_f) | (with_reducible exact L3.o_add) | (with_reducible exact L3.o_sub) | (with_reducible exact L3.o_int) | (with_reducible exact L3.o_lenl) | (with_reducible exact L3.o_lenk) | (with_reducible exact L3.o_lent) | (with_reducible exact L3.o_tuple_l) | (with_reducible exact L3.o_tuple_t) | (with_reducible exact L3.o_list_t) | (with_reducible exact L3.o_list_l) | (with_reducible exact L3.o_reverse) | (with_reducible exact L3.o_clear) | (with_reducible exact L3.o_ix0) | (with_reducible exact L3.o_ix1) | (with_reducible exact L3.o_lx0) | (with_reducible exact L3.o_isn) | (with_reducible exact L3.o_isnI) | (with_reducible exact L3.o_neg) | ((with_reducible apply L3.o_lt_t); omega) | ((with_reducible apply L3.o_lt_f); omega) | ((with_reducible apply L3.o_le_t); omega) | ((with_reducible apply L3.o_le_f); omega) | ((with_reducible apply L3.o_gt_t); omega) | ((with_reducible apply L3.o_gt_f); omega) | ((with_reducible apply L3.o_ge_t); omega) | ((with_reducible apply L3.o_ge_f); omega) | ((with_reducible apply L3.o_eq_t); omega) | ((with_reducible apply L3.o_eq_f); omega) | ((with_reducible apply L3.o_ne_t); omega) | ((with_reducible apply L3.o_ne_f); omega) | ((with_reducible apply L3.o_eqs_t); exact rfl) | ((with_reducible apply L3.o_eqs_f); decide) | ((with_reducible apply L3.o_nes_f); exact rfl) | ((with_reducible apply L3.o_nes_t); decide) | ((with_reducible apply L3.o_mul1); omega) | ((with_reducible apply L3.o_mul2); omega) | ((with_reducible apply L3.o_mod); omega) | ((with_reducible apply L3.o_fdiv); omega) | ((with_reducible apply L3.inW_of'); omega) | ((with_reducible apply L3.o_fld); exact rfl) | ((with_reducible apply L3.fg_tup); (first | exact rfl | skip)) | ((with_reducible apply L3.o_append); first | assumption | (simp only [List.length_map] at *; omega)) | ((with_reducible apply L3.o_tup); exact le_size (by simp)) | ((with_reducible apply L3.o_lst); exact le_size (by simp)))
theorem along_ok (T : Tb) (W : WF T) (nm : Str) (row : List Str) (hm : MenuOk row) (hl : row.length ≤ 60) {R : D} (hR : RowD row R) : m_along [rdr T nm, R] = .ok (.lst (runS T row row.length).2) [none, none] := by
  obtain ⟨ρ', h1, a, b, e, rfl⟩ := forF_ix (set := hTup 2 (hCons (hName 5) (hCons (hName 6) (hNil)))) (body := lp_along_1) (I := fun i ρ => ∃ a b e, ρ = [some (rdr T nm), some R, some (.int ((runS T row i).1.1 : Nat)), some (runS T row i).1.2, some (.lst (runS T row i).2), a, b, e]) (enumD 0 (rowS row)) 0 [some (rdr T nm), some R, some (.int (0 : Nat)), some .non, some (.lst [.tup [.int (0 : Nat), .non]]), none, none, none] (fun i d hd ρ hI => by
    obtain ⟨x, hx, rfl⟩ := enumD_get 0 _ i hd
    obtain ⟨a, b, e, rfl⟩ := hI
    rw [List.getElem?_map] at hx
    obtain ⟨c, hc, rfl⟩ := Option.map_eq_some_iff.mp hx
    refine ⟨[some (rdr T nm), some R, some (.int ((runS T row (0 + i)).1.1 : Nat)), some (runS T row (0 + i)).1.2, some (.lst (runS T row (0 + i)).2), some (.int (0 + (i : Nat))), some (.str c), e], by rw [Nat.zero_add, Int.zero_add]; rfl, ?_⟩
    simp only [Nat.zero_add]
    have hi : i < row.length := (List.getElem?_eq_some_iff.mp hc).1
    have hll : (runS T row i).2.length < sizeLine := lt_size (by have := run_len (T := T) (row := row) i; omega)
    have hs := run_lt W hm i
    rw [run_succ hc]
    rcases hm _ (List.mem_of_getElem? hc) with hc' | rfl
    · obtain ⟨p, hp, ha, _, hH⟩ := W.en _ hs _ hc'
      rw [show (runS T row i).1 = ((runS T row i).1.1, (runS T row i).1.2) from rfl, stepS_en hc' hp]
      exact ⟨_, .inl (along_body T nm R _ i _ _ e _ _ _ (lf _ hc') hs p hp ha hH hll), _, _, _, rfl⟩
    · rw [stepS_dash]
      exact ⟨_, .inl (along_dash T nm R _ i _ _ e hs hll), _, _, _, rfl⟩) ⟨none, none, none, rfl⟩
  rw [enumD_length, List.length_map] at h1
  simp only [Nat.zero_add] at h1
  refine m_rt (ρ := [some (rdr T nm), some R, some (.int ((runS T row row.length).1.1 : Nat)), some (runS T row row.length).1.2, some (.lst (runS T row row.length).2), a, b, e]) ?_
  unfold bd_along
  simp only [List.getElem?_cons_zero, List.getElem?_cons_succ, List.set_cons_zero, List.set_cons_succ, List.map_cons, List.map_nil, List.replicate, List.cons_append, List.nil_append]
  have g1 := check_row_ok row hm hl hR
  repeat' (first | ((with_reducible apply L3.ca_mk (m := m_check_row)); exact g1) | (with_reducible apply L3.i_et) | ((with_reducible apply L3.lp_mk); exact h1) | (with_reducible exact L3.v_c) | (with_reducible apply L3.v_var) | ((with_reducible apply L3.at_mk); exact rfl) | ((with_reducible apply L3.bt_mk); exact rfl) | (with_reducible exact L3.v_aN) | (with_reducible apply L3.st_z) | (with_reducible apply L3.st_s) | (with_reducible apply L3.fl_n) | (with_reducible apply L3.fl_d) | (with_reducible apply L3.fl_o) | (with_reducible apply L3.uf_n) | (with_reducible apply L3.uf_d) | (with_reducible apply L3.uf_o) | (with_reducible apply L3.v_aC) | (with_reducible apply L3.v_f2) | (with_reducible apply L3.v_f1) | (with_reducible apply L3.v_fL) | (with_reducible apply L3.z_seq) | (with_reducible apply L3.z_nx) | (with_reducible apply L3.z_set) | (with_reducible apply L3.z_drop) | (with_reducible apply L3.z_ret) | (with_reducible apply L3.z_retO) | (with_reducible apply L3.z_if) | (with_reducible apply L3.v_ite_t) | (with_reducible apply L3.v_ite_f) | (with_reducible apply L3.t_B) | (with_reducible apply L3.t_V) | (with_reducible apply L3.t_N) | (with_reducible apply L3.t_A) | (with_reducible apply L3.t_O) | (with_reducible apply L3.v_if) | (with_reducible apply L3.v_and) | (with_reducible apply L3.v_or) | (with_reducible apply L3.z_asg) | (with_reducible apply L3.z_par) | (with_reducible apply L3.z_for) | (with_reducible apply L3.v_mut) | (with_reducible apply L3.v_ixO) | (with_reducible apply L3.v_f1O) | (with_reducible apply L3.v_f2O) | (with_reducible apply L3.v_isiO) | (with_reducible apply L3.i_r1) | (with_reducible apply L3.i_r2) | (with_reducible apply L3.v_call) | (with_reducible apply L3.v_meth) | (with_reducible apply L3.v_callI) | (with_reducible apply L3.v_make) | (with_reducible apply L3.fg_name) | (with_reducible apply L3.fg_nil) | (with_reducible apply L3.fg_cons) | (with_reducible apply L3.v_bm) | (with_reducible exact L3.z_rt) | (with_reducible exact L3.z_n) | (with_reducible exact L3.z_ok) | (with_reducible exact L3.tr_bl) | (with_reducible exact L3.bn_t) | (with_reducible exact L3.bn_f) | (with_reducible exact L3.o_add) | (with_reducible exact L3.o_sub) | (with_reducible exact L3.o_int) | (with_reducible exact L3.o_lenl) | (with_reducible exact L3.o_lenk) | (with_reducible exact L3.o_lent) | (with_reducible exact L3.o_tuple_l) | (with_reducible exact L3.o_tuple_t) | (with_reducible exact L3.o_list_t) | (with_reducible exact L3.o_list_l) | (with_reducible exact L3.o_reverse) | (with_reducible exact L3.o_clear) | (with_reducible exact L3.o_ix0) | (with_reducible exact L3.o_ix1) | (with_reducible exact L3.o_lx0) | (with_reducible exact L3.o_isn) | (with_reducible exact L3.o_isnI) | (with_reducible exact L3.o_neg) | ((with_reducible apply L3.o_lt_t); omega) | ((with_reducible apply L3.o_lt_f); omega) | ((with_reducible apply L3.o_le_t); omega) | ((with_reducible apply L3.o_le_f); omega) | ((with_reducible apply L3.o_gt_t); omega) | ((with_reducible apply L3.o_gt_f); omega) | ((with_reducible apply L3.o_ge_t); omega) | ((with_reducible apply L3.o_ge_f); omega) | ((with_reducible apply L3.o_eq_t); omega) | ((with_reducible apply L3.o_eq_f); omega) | ((with_reducible apply L3.o_ne_t); omega) | ((with_reducible apply L3.o_ne_f); omega) | ((with_reducible apply L3.o_eqs_t); exact rfl) | ((with_reducible apply L3.o_eqs_f); decide) | ((with_reducible apply L3.o_nes_f); exact rfl) | ((with_reducible apply L3.o_nes_t); decide) | ((with_reducible apply L3.o_mul1); omega) | ((with_reducible apply L3.o_mul2); omega) | ((with_reducible apply L3.o_mod); omega) | ((with_reducible apply L3.o_fdiv); omega) | ((with_reducible apply L3.inW_of'); omega) | ((with_reducible apply L3.o_fld); exact rfl) | ((with_reducible apply L3.fg_tup); (first | exact rfl | skip)) | ((with_reducible apply L3.o_append); first | assumption | (simp only [List.length_map] at *; omega)) | ((with_reducible apply L3.o_tup); exact le_size (by simp)) | ((with_reducible apply L3.o_lst); exact le_size (by simp)))
theorem last_ix {l : List D} {x : D} : dIx (.lst (l ++ [x])) (.int (-1)) = some x := by
  show (ixN (l ++ [x]).length (-1)).bind (fun j => (l ++ [x])[j]?) = _
  unfold ixN
  rw [if_neg (by decide), if_pos (by simp; omega)]
  simp only [Option.bind_some, List.length_append, List.length_cons, List.length_nil]
  rw [show ((-1 : Int) + ((l.length + (0 + 1) : Nat) : Int)).toNat = l.length by omega]
  simp
theorem rcall_ok (T : Tb) (W : WF T) (nm : Str) (row : List Str) (hm : MenuOk row) (hl : row.length ≤ 60) {R : D} (hR : RowD row R) : m_Reader_call [rdr T nm, R] = .ok (runS T row row.length).1.2 [none, none] := by
  refine m_rt (ρ := [some (rdr T nm), some R]) ?_
  unfold bd_Reader_call
  simp only [List.getElem?_cons_zero, List.getElem?_cons_succ, List.set_cons_zero, List.set_cons_succ, List.map_cons, List.map_nil, List.replicate, List.cons_append, List.nil_append]
  have g1 := along_ok T W nm row hm hl hR
  obtain ⟨l, g2⟩ := run_last (T := T) (row := row) row.length
  rw [g2] at g1
  repeat' (first | ((with_reducible apply L3.ca_mk (m := m_along)); exact g1) | (with_reducible exact last_ix) | (with_reducible exact L3.v_c) | (with_reducible apply L3.v_var) | ((with_reducible apply L3.at_mk); exact rfl) | ((with_reducible apply L3.bt_mk); exact rfl) | (with_reducible exact L3.v_aN) | (with_reducible apply L3.st_z) | (with_reducible apply L3.st_s) | (with_reducible apply L3.fl_n) | (with_reducible apply L3.fl_d) | (with_reducible apply L3.fl_o) | (with_reducible apply L3.uf_n) | (with_reducible apply L3.uf_d) | (with_reducible apply L3.uf_o) | (with_reducible apply L3.v_aC) | (with_reducible apply L3.v_f2) | (with_reducible apply L3.v_f1) | (with_reducible apply L3.v_fL) | (with_reducible apply L3.z_seq) | (with_reducible apply L3.z_nx) | (with_reducible apply L3.z_set) | (with_reducible apply L3.z_drop) | (with_reducible apply L3.z_ret) | (with_reducible apply L3.z_retO) | (with_reducible apply L3.z_if) | (with_reducible apply L3.v_ite_t) | (with_reducible apply L3.v_ite_f) | (with_reducible apply L3.t_B) | (with_reducible apply L3.t_V) | (with_reducible apply L3.t_N) | (with_reducible apply L3.t_A) | (with_reducible apply L3.t_O) | (with_reducible apply L3.v_if) | (with_reducible apply L3.v_and) | (with_reducible apply L3.v_or) | (with_reducible apply L3.z_asg) | (with_reducible apply L3.z_par) | (with_reducible apply L3.z_for) | (with_reducible apply L3.v_mut) | (with_reducible apply L3.v_ixO) | (with_reducible apply L3.v_f1O) | (with_reducible apply L3.v_f2O) | (with_reducible apply L3.v_isiO) | (with_reducible apply L3.i_r1) | (with_reducible apply L3.i_r2) | (with_reducible apply L3.v_call) | (with_reducible apply L3.v_meth) | (with_reducible apply L3.v_callI) | (with_reducible apply L3.v_make) | (with_reducible apply L3.fg_name) | (with_reducible apply L3.fg_nil) | (with_reducible apply L3.fg_cons) | (with_reducible apply L3.v_bm) | (with_reducible exact L3.z_rt) | (with_reducible exact L3.z_n) | (with_reducible exact L3.z_ok) | (with_reducible exact L3.tr_bl) | (with_reducible exact L3.bn_t) | (with_reducible exact L3.bn_f) | (with_reducible exact L3.o_add) | (with_reducible exact L3.o_sub) | (with_reducible exact L3.o_int) | (with_reducible exact L3.o_lenl) | (with_reducible exact L3.o_lenk) | (with_reducible exact L3.o_lent) | (with_reducible exact L3.o_tuple_l) | (with_reducible exact L3.o_tuple_t) | (with_reducible exact L3.o_list_t) | (with_reducible exact L3.o_list_l) | (with_reducible exact L3.o_reverse) | (with_reducible exact L3.o_clear) | (with_reducible exact L3.o_ix0) | (with_reducible exact L3.o_ix1) | (with_reducible exact L3.o_lx0) | (with_reducible exact L3.o_isn) | (with_reducible exact L3.o_isnI) | (with_reducible exact L3.o_neg) | ((with_reducible apply L3.o_lt_t); omega) | ((with_reducible apply L3.o_lt_f); omega) | ((with_reducible apply L3.o_le_t); omega) | ((with_reducible apply L3.o_le_f); omega) | ((with_reducible apply L3.o_gt_t); omega) | ((with_reducible apply L3.o_gt_f); omega) | ((with_reducible apply L3.o_ge_t); omega) | ((with_reducible apply L3.o_ge_f); omega) | ((with_reducible apply L3.o_eq_t); omega) | ((with_reducible apply L3.o_eq_f); omega) | ((with_reducible apply L3.o_ne_t); omega) | ((with_reducible apply L3.o_ne_f); omega) | ((with_reducible apply L3.o_eqs_t); exact rfl) | ((with_reducible apply L3.o_eqs_f); decide) | ((with_reducible apply L3.o_nes_f); exact rfl) | ((with_reducible apply L3.o_nes_t); decide) | ((with_reducible apply L3.o_mul1); omega) | ((with_reducible apply L3.o_mul2); omega) | ((with_reducible apply L3.o_mod); omega) | ((with_reducible apply L3.o_fdiv); omega) | ((with_reducible apply L3.inW_of'); omega) | ((with_reducible apply L3.o_fld); exact rfl) | ((with_reducible apply L3.fg_tup); (first | exact rfl | skip)) | ((with_reducible apply L3.o_append); first | assumption | (simp only [List.length_map] at *; omega)) | ((with_reducible apply L3.o_tup); exact le_size (by simp)) | ((with_reducible apply L3.o_lst); exact le_size (by simp)))
end Law

namespace Law
open PySem PySem.Spec PyProof.Rows L2 L3
abbrev T0 : Tb := [[("first", 0), ("keep", 0), ("drop", 0), ("drop", 0), ("keep", 0), ("first", 0), ("last", 0), ("drop", 0)]]
abbrev T1 : Tb := [[("first", 0), ("first", 0), ("first", 0), ("keep", 0), ("last", 0), ("last", 0), ("last", 0), ("last", 0)]]
abbrev T2 : Tb := [[("first", 0), ("first", 0), ("keep", 0), ("keep", 0), ("last", 0), ("first", 0), ("last", 0), ("keep", 0)]]
abbrev T3 : Tb := [[("first", 0), ("drop", 1), ("drop", 1), ("drop", 1), ("drop", 1), ("drop", 1), ("drop", 1), ("drop", 1)], [("drop", 1), ("drop", 1), ("drop", 1), ("drop", 1), ("drop", 1), ("drop", 1), ("drop", 1), ("drop", 1)]]
abbrev T4 : Tb := [[("first", 1), ("first", 1), ("drop", 0), ("drop", 0), ("last", 1), ("first", 1), ("last", 1), ("drop", 0)], [("first", 1), ("keep", 1), ("drop", 1), ("drop", 1), ("keep", 1), ("first", 1), ("last", 1), ("drop", 1)]]
theorem tables_ok : m__law_tables [] = .ok (.lst [tbL T0, tbL T1, tbL T2, tbL T3, tbL T4]) [] := by kernel_rfl
theorem r0_ok : m_by_table [] = .ok (rdr T0 "by table") [] := by kernel_rfl
theorem r1_ok : m_through [] = .ok (rdr T1 "through") [] := by kernel_rfl
theorem r2_ok : m_both_ways [] = .ok (rdr T2 "both ways") [] := by kernel_rfl
theorem r3_ok : m_careful [] = .ok (rdr T3 "careful") [] := by kernel_rfl
theorem r4_ok : m_adopting [] = .ok (rdr T4 "adopting") [] := by kernel_rfl
abbrev RD : List D := [rdr T0 "by table", rdr T1 "through", rdr T2 "both ways", rdr T3 "careful", rdr T4 "adopting"]
abbrev TD : D := .lst [tbL T0, tbL T1, tbL T2, tbL T3, tbL T4]
theorem told_ok : m_told_readers [] = .ok (.lst RD) [] := by kernel_rfl
theorem pairs_ok : m__law_pairs_part [.lst RD, TD] = .ok (.bl true) [some (.lst RD), none] := by kernel_rfl
theorem is0 : m__law_reader_is [rdr T0 "by table", tbL T0, .str "by table"] = .ok (.bl true) [none, none, none] := by kernel_rfl
theorem is1 : m__law_reader_is [rdr T1 "through", tbL T1, .str "through"] = .ok (.bl true) [none, none, none] := by kernel_rfl
theorem is2 : m__law_reader_is [rdr T2 "both ways", tbL T2, .str "both ways"] = .ok (.bl true) [none, none, none] := by kernel_rfl
theorem is3 : m__law_reader_is [rdr T3 "careful", tbL T3, .str "careful"] = .ok (.bl true) [none, none, none] := by kernel_rfl
theorem is4 : m__law_reader_is [rdr T4 "adopting", tbL T4, .str "adopting"] = .ok (.bl true) [none, none, none] := by kernel_rfl
end Law

namespace Law
open PySem PySem.Spec PyProof.Rows L2 L3
theorem heldP_lay {a : Str} {n i : Nat} {h : D} (hh : Lay 1 h) : Lay 1 (heldP a n i h) := by
  unfold heldP
  split
  · exact hh
  · split
    · exact .non
    · exact .tup fun d hd => by
        simp only [List.mem_cons, List.not_mem_nil, or_false] at hd
        rcases hd with rfl | rfl <;> exact .int
theorem step_lay {T : Tb} {i : Nat} {c : Str} {q : Nat × D} (hq : Lay 1 q.2) : Lay 1 (stepS T i c q).2 := by
  unfold stepS
  split
  · exact hq
  · split
    · exact heldP_lay hq
    · exact hq
theorem run_lay {T : Tb} {row : List Str} : ∀ i, Lay 1 (runS T row i).1.2 ∧ ∀ d ∈ (runS T row i).2, Lay 2 d
  | 0 => ⟨.non, fun d hd => by
    rw [List.mem_singleton.mp hd]
    exact .tup fun d hd => by
      simp only [List.mem_cons, List.not_mem_nil, or_false] at hd
      rcases hd with rfl | rfl
      · exact .int
      · exact .non⟩
  | i + 1 => by
    obtain ⟨h1, h2⟩ := run_lay (T := T) (row := row) i
    unfold runS
    split
    · rename_i c hc
      have h3 := step_lay (T := T) (i := i) (c := c) h1
      refine ⟨h3, fun d hd => ?_⟩
      rcases List.mem_append.mp hd with hd | hd
      · exact h2 d hd
      · rw [List.mem_singleton.mp hd]
        exact .tup fun d hd => by
          simp only [List.mem_cons, List.not_mem_nil, or_false] at hd
          rcases hd with rfl | rfl
          · exact .int
          · exact h3
    · exact ⟨h1, h2⟩
theorem held_is_ok (T : Tb) (W : WF T) (nm : Str) (row : List Str) (hm : MenuOk row) (hl : row.length ≤ 60) : m__law_held_is [rdr T nm, tbL T, .lst (rowS row)] = .ok (.bl true) [none, none, none] := by
  obtain ⟨l, g0⟩ := run_last (T := T) (row := row) row.length
  obtain ⟨y1, y2⟩ := run_lay (T := T) (row := row) row.length
  have g1 := walk_ok T W row hm (by omega)
  have g2 := along_ok T W nm row hm hl (.l : RowD row _)
  have g3 := rcall_ok T W nm row hm hl (.t : RowD row _)
  have e1 : dNe (.lst (runS T row row.length).2) (.lst (runS T row row.length).2) = some (.bl false) := dNe_self (n := 3) (.lst y2) (by decide)
  have e2 : dEq (runS T row row.length).1.2 (runS T row row.length).1.2 = some (.bl true) := dEq_self y1 (by decide)
  have e3 := isi_l (runS T row row.length).2
  rw [g0] at g1 g2 e1 e3
  refine m_rt (ρ := [some (rdr T nm), some (tbL T), some (.lst (rowS row)), some (.lst (l ++ [D.tup [D.int ((runS T row row.length).1.1 : Nat), (runS T row row.length).1.2]])), some (.lst (l ++ [D.tup [D.int ((runS T row row.length).1.1 : Nat), (runS T row row.length).1.2]]))]) ?_
  unfold bd__law_held_is
  simp only [List.getElem?_cons_zero, List.getElem?_cons_succ, List.set_cons_zero, List.set_cons_succ, List.map_cons, List.map_nil, List.replicate, List.cons_append, List.nil_append]
  repeat' (first | ((with_reducible apply L3.ca_mk (m := m__law_walk)); exact g1) | ((with_reducible apply L3.ca_mk (m := m_along)); exact g2) | ((with_reducible apply L3.ca_mk (m := m_Reader_call)); exact g3) | (with_reducible exact e1) | (with_reducible exact e2) | (with_reducible exact e3) | (with_reducible exact last_ix) | (with_reducible exact L3.v_c) | (with_reducible apply L3.v_var) | ((with_reducible apply L3.at_mk); exact rfl) | ((with_reducible apply L3.bt_mk); exact rfl) | (with_reducible exact L3.v_aN) | (with_reducible apply L3.st_z) | (with_reducible apply L3.st_s) | (with_reducible apply L3.fl_n) | (with_reducible apply L3.fl_d) | (with_reducible apply L3.fl_o) | (with_reducible apply L3.uf_n) | (with_reducible apply L3.uf_d) | (with_reducible apply L3.uf_o) | (with_reducible apply L3.v_aC) | (with_reducible apply L3.v_f2) | (with_reducible apply L3.v_f1) | (with_reducible apply L3.v_fL) | (with_reducible apply L3.z_seq) | (with_reducible apply L3.z_nx) | (with_reducible apply L3.z_set) | (with_reducible apply L3.z_drop) | (with_reducible apply L3.z_ret) | (with_reducible apply L3.z_retO) | (with_reducible apply L3.z_if) | (with_reducible apply L3.v_ite_t) | (with_reducible apply L3.v_ite_f) | (with_reducible apply L3.t_B) | (with_reducible apply L3.t_V) | (with_reducible apply L3.t_N) | (with_reducible apply L3.t_A) | (with_reducible apply L3.t_O) | (with_reducible apply L3.v_if) | (with_reducible apply L3.v_and) | (with_reducible apply L3.v_or) | (with_reducible apply L3.z_asg) | (with_reducible apply L3.z_par) | (with_reducible apply L3.z_for) | (with_reducible apply L3.v_mut) | (with_reducible apply L3.v_ixO) | (with_reducible apply L3.v_f1O) | (with_reducible apply L3.v_f2O) | (with_reducible apply L3.v_isiO) | (with_reducible apply L3.i_r1) | (with_reducible apply L3.i_r2) | (with_reducible apply L3.v_call) | (with_reducible apply L3.v_meth) | (with_reducible apply L3.v_callI) | (with_reducible apply L3.v_make) | (with_reducible apply L3.fg_name) | (with_reducible apply L3.fg_nil) | (with_reducible apply L3.fg_cons) | (with_reducible apply L3.v_bm) | (with_reducible exact L3.z_rt) | (with_reducible exact L3.z_n) | (with_reducible exact L3.z_ok) | (with_reducible exact L3.tr_bl) | (with_reducible exact L3.bn_t) | (with_reducible exact L3.bn_f) | (with_reducible exact L3.o_add) | (with_reducible exact L3.o_sub) | (with_reducible exact L3.o_int) | (with_reducible exact L3.o_lenl) | (with_reducible exact L3.o_lenk) | (with_reducible exact L3.o_lent) | (with_reducible exact L3.o_tuple_l) | (with_reducible exact L3.o_tuple_t) | (with_reducible exact L3.o_list_t) | (with_reducible exact L3.o_list_l) | (with_reducible exact L3.o_reverse) | (with_reducible exact L3.o_clear) | (with_reducible exact L3.o_ix0) | (with_reducible exact L3.o_ix1) | (with_reducible exact L3.o_lx0) | (with_reducible exact L3.o_isn) | (with_reducible exact L3.o_isnI) | (with_reducible exact L3.o_neg) | ((with_reducible apply L3.o_lt_t); omega) | ((with_reducible apply L3.o_lt_f); omega) | ((with_reducible apply L3.o_le_t); omega) | ((with_reducible apply L3.o_le_f); omega) | ((with_reducible apply L3.o_gt_t); omega) | ((with_reducible apply L3.o_gt_f); omega) | ((with_reducible apply L3.o_ge_t); omega) | ((with_reducible apply L3.o_ge_f); omega) | ((with_reducible apply L3.o_eq_t); omega) | ((with_reducible apply L3.o_eq_f); omega) | ((with_reducible apply L3.o_ne_t); omega) | ((with_reducible apply L3.o_ne_f); omega) | ((with_reducible apply L3.o_eqs_t); exact rfl) | ((with_reducible apply L3.o_eqs_f); decide) | ((with_reducible apply L3.o_nes_f); exact rfl) | ((with_reducible apply L3.o_nes_t); decide) | ((with_reducible apply L3.o_mul1); omega) | ((with_reducible apply L3.o_mul2); omega) | ((with_reducible apply L3.o_mod); omega) | ((with_reducible apply L3.o_fdiv); omega) | ((with_reducible apply L3.inW_of'); omega) | ((with_reducible apply L3.o_fld); exact rfl) | ((with_reducible apply L3.fg_tup); (first | exact rfl | skip)) | ((with_reducible apply L3.o_append); first | assumption | (simp only [List.length_map] at *; omega)) | ((with_reducible apply L3.o_tup); exact le_size (by simp)) | ((with_reducible apply L3.o_lst); exact le_size (by simp)))
abbrev menuL : List Str := ["P", "P", "B", "X", "H", "TB", "T1", "T2", "TX", "-"]
theorem menu_at (t : Int) (h0 : 0 ≤ t) (h1 : t < 10) : ∃ c, dIx (.lst (menuL.map D.str)) (.int t) = some (.str c) ∧ (c ∈ L8 ∨ c = "-") := by
  obtain ⟨n, rfl⟩ : ∃ n : Nat, t = n := ⟨t.toNat, by omega⟩
  have hn : n < 10 := by omega
  have h : ∀ n, n < 10 → ∃ c, (menuL.map D.str)[n]? = some (.str c) ∧ (c ∈ L8 ∨ c = "-") := by
    intro n hn
    match n, hn with
    | 0, _ => exact ⟨"P", rfl, .inl (by decide)⟩
    | 1, _ => exact ⟨"P", rfl, .inl (by decide)⟩
    | 2, _ => exact ⟨"B", rfl, .inl (by decide)⟩
    | 3, _ => exact ⟨"X", rfl, .inl (by decide)⟩
    | 4, _ => exact ⟨"H", rfl, .inl (by decide)⟩
    | 5, _ => exact ⟨"TB", rfl, .inl (by decide)⟩
    | 6, _ => exact ⟨"T1", rfl, .inl (by decide)⟩
    | 7, _ => exact ⟨"T2", rfl, .inl (by decide)⟩
    | 8, _ => exact ⟨"TX", rfl, .inl (by decide)⟩
    | 9, _ => exact ⟨"-", rfl, .inr rfl⟩
    | n + 10, h => omega
  rw [dIx_nat]
  exact h n hn
theorem drawn_ok (ds : List Int) (hn : NN ds) (most : Int) (h0 : 0 ≤ most) (h1 : most ≤ 60) : ∃ row ds', m__law_drawn_row [.lst (ds.map D.int), .int most] = .ok (.lst (rowS row)) [some (.lst (ds'.map D.int)), none] ∧ MenuOk row ∧ row.length ≤ most.toNat ∧ NN ds' := by
  obtain ⟨t, ds1, g1, ht0, ht1, hn1⟩ := take_ok ds hn (most + 1) (by omega)
  obtain ⟨ys, ρ', k1, k2, k3, ds2, rfl, hn2⟩ := compF_inv (set := hName 3) (tt := ftYes) (elt := f2 dIx (fVar 2) (fCall m__law_take [some 0, none] (faC (fC .non) (faC (fC (.int 10)) (faN))))) (vs := [3]) (I := fun ρ => ∃ ds, ρ = [some (.lst (ds.map D.int)), some (.int most), some (.lst (menuL.map D.str)), none] ∧ NN ds) (Pd := fun d => ∃ c, d = .str c ∧ (c ∈ L8 ∨ c = "-")) (rngD 0 t.toNat) [some (.lst (ds1.map D.int)), some (.int most), some (.lst (menuL.map D.str)), none] [] (fun d hd ρ hI => by
    obtain ⟨ds, rfl, hn⟩ := hI
    obtain ⟨t, ds', g, h0, h1, hn'⟩ := take_ok ds hn 10 (by decide)
    obtain ⟨c, hc, hm⟩ := menu_at t h0 h1
    refine ⟨_, _, .str c, [some (.lst (ds'.map D.int)), some (.int most), some (.lst (menuL.map D.str)), some d], rfl, rfl, ?_, ⟨c, rfl, hm⟩, ds', rfl, hn'⟩
    simp only [List.set_cons_succ, List.set_cons_zero]
    repeat' (first | ((with_reducible apply L3.ca_mk); exact g) | (with_reducible exact hc) | (with_reducible exact L3.v_c) | (with_reducible apply L3.v_var) | ((with_reducible apply L3.at_mk); exact rfl) | ((with_reducible apply L3.bt_mk); exact rfl) | (with_reducible exact L3.v_aN) | (with_reducible apply L3.st_z) | (with_reducible apply L3.st_s) | (with_reducible apply L3.fl_n) | (with_reducible apply L3.fl_d) | (with_reducible apply L3.fl_o) | (with_reducible apply L3.uf_n) | (with_reducible apply L3.uf_d) | (with_reducible apply L3.uf_o) | (with_reducible apply L3.v_aC) | (with_reducible apply L3.v_f2) | (with_reducible apply L3.v_f1) | (with_reducible apply L3.v_fL) | (with_reducible apply L3.z_seq) | (with_reducible apply L3.z_nx) | (with_reducible apply L3.z_set) | (with_reducible apply L3.z_drop) | (with_reducible apply L3.z_ret) | (with_reducible apply L3.z_retO) | (with_reducible apply L3.z_if) | (with_reducible apply L3.v_ite_t) | (with_reducible apply L3.v_ite_f) | (with_reducible apply L3.t_B) | (with_reducible apply L3.t_V) | (with_reducible apply L3.t_N) | (with_reducible apply L3.t_A) | (with_reducible apply L3.t_O) | (with_reducible apply L3.v_if) | (with_reducible apply L3.v_and) | (with_reducible apply L3.v_or) | (with_reducible apply L3.z_asg) | (with_reducible apply L3.z_par) | (with_reducible apply L3.z_for) | (with_reducible apply L3.v_mut) | (with_reducible apply L3.v_ixO) | (with_reducible apply L3.v_f1O) | (with_reducible apply L3.v_f2O) | (with_reducible apply L3.v_isiO) | (with_reducible apply L3.i_r1) | (with_reducible apply L3.i_r2) | (with_reducible apply L3.v_call) | (with_reducible apply L3.v_meth) | (with_reducible apply L3.v_callI) | (with_reducible apply L3.v_make) | (with_reducible apply L3.fg_name) | (with_reducible apply L3.fg_nil) | (with_reducible apply L3.fg_cons) | (with_reducible apply L3.v_bm) | (with_reducible exact L3.z_rt) | (with_reducible exact L3.z_n) | (with_reducible exact L3.z_ok) | (with_reducible exact L3.tr_bl) | (with_reducible exact L3.bn_t) | (with_reducible exact L3.bn_f) | (with_reducible exact L3.o_add) | (with_reducible exact L3.o_sub) | (with_reducible exact L3.o_int) | (with_reducible exact L3.o_lenl) | (with_reducible exact L3.o_lenk) | (with_reducible exact L3.o_lent) | (with_reducible exact L3.o_tuple_l) | (with_reducible exact L3.o_tuple_t) | (with_reducible exact L3.o_list_t) | (with_reducible exact L3.o_list_l) | (with_reducible exact L3.o_reverse) | (with_reducible exact L3.o_clear) | (with_reducible exact L3.o_ix0) | (with_reducible exact L3.o_ix1) | (with_reducible exact L3.o_lx0) | (with_reducible exact L3.o_isn) | (with_reducible exact L3.o_isnI) | (with_reducible exact L3.o_neg) | ((with_reducible apply L3.o_lt_t); omega) | ((with_reducible apply L3.o_lt_f); omega) | ((with_reducible apply L3.o_le_t); omega) | ((with_reducible apply L3.o_le_f); omega) | ((with_reducible apply L3.o_gt_t); omega) | ((with_reducible apply L3.o_gt_f); omega) | ((with_reducible apply L3.o_ge_t); omega) | ((with_reducible apply L3.o_ge_f); omega) | ((with_reducible apply L3.o_eq_t); omega) | ((with_reducible apply L3.o_eq_f); omega) | ((with_reducible apply L3.o_ne_t); omega) | ((with_reducible apply L3.o_ne_f); omega) | ((with_reducible apply L3.o_eqs_t); exact rfl) | ((with_reducible apply L3.o_eqs_f); decide) | ((with_reducible apply L3.o_nes_f); exact rfl) | ((with_reducible apply L3.o_nes_t); decide) | ((with_reducible apply L3.o_mul1); omega) | ((with_reducible apply L3.o_mul2); omega) | ((with_reducible apply L3.o_mod); omega) | ((with_reducible apply L3.o_fdiv); omega) | ((with_reducible apply L3.inW_of'); omega) | ((with_reducible apply L3.o_fld); exact rfl) | ((with_reducible apply L3.fg_tup); (first | exact rfl | skip)) | ((with_reducible apply L3.o_append); first | assumption | (simp only [List.length_map] at *; omega)) | ((with_reducible apply L3.o_tup); exact le_size (by simp)) | ((with_reducible apply L3.o_lst); exact le_size (by simp)))) ⟨ds1, rfl, hn1⟩ (by rw [rngD_length]; exact le_size (by simp; omega))
  obtain ⟨row, rfl, hrow⟩ : ∃ row : List Str, ys = rowS row ∧ MenuOk row := by
    clear k1 k2
    induction ys with
    | nil => exact ⟨[], rfl, fun c hc => nomatch hc⟩
    | cons y r ih =>
      obtain ⟨c, rfl, hc⟩ := k3 y List.mem_cons_self
      obtain ⟨row, rfl, hr⟩ := ih fun y hy => k3 y (List.mem_cons_of_mem _ hy)
      exact ⟨c :: row, rfl, fun x hx => (List.mem_cons.mp hx).elim (fun e => e ▸ hc) (hr x)⟩
  rw [List.nil_append] at k1
  rw [List.length_map, rngD_length] at k2
  refine ⟨row, ds2, ?_, hrow, by omega, hn2⟩
  refine m_rt (ρ := [some (.lst (ds2.map D.int)), some (.int most), some (.lst (menuL.map D.str)), none]) ?_
  unfold bd__law_drawn_row
  simp only [List.getElem?_cons_zero, List.getElem?_cons_succ, List.set_cons_zero, List.set_cons_succ, List.map_cons, List.map_nil, List.replicate, List.cons_append, List.nil_append]
  have g2 : m__law_letters [] = .ok L8D [] := rfl
  have a1 : dAdd (.lst [.str "P"]) L8D = some (.lst ([.str "P"] ++ [.str "P", .str "B", .str "X", .str "H", .str "TB", .str "T1", .str "T2", .str "TX"])) := rfl
  have a2 : dAdd (.lst ([.str "P"] ++ [.str "P", .str "B", .str "X", .str "H", .str "TB", .str "T1", .str "T2", .str "TX"])) (.lst [.str "-"]) = some (.lst (menuL.map D.str)) := rfl
  have w1 : inW t = true := inW_of' (by omega)
  have k1' : compF (hName 3) ftYes (f2 dIx (fVar 2) (fCall m__law_take [some 0, none] (faC (fC .non) (faC (fC (.int 10)) (faN))))) [3] (rngD 0 t.toNat) (wipeE [some (.lst (ds1.map D.int)), some (.int most), some (.lst (menuL.map D.str)), none] [3]) [] = .ok (rowS row) [some (.lst (ds2.map D.int)), some (.int most), some (.lst (menuL.map D.str)), none] := k1
  have h3 : restE [some (.lst (ds1.map D.int)), some (.int most), some (.lst (menuL.map D.str)), none] [some (.lst (ds2.map D.int)), some (.int most), some (.lst (menuL.map D.str)), none] [3] = [some (.lst (ds2.map D.int)), some (.int most), some (.lst (menuL.map D.str)), none] := rfl
  repeat' (first | ((with_reducible apply L3.lc_tag); refine L3.lc_mk (L3.v_lc ?_ k1' h3)) | ((with_reducible apply L3.ca_mk (m := m__law_letters)); exact g2) | ((with_reducible apply L3.ca_mk (m := m__law_take)); exact g1) | (with_reducible exact a1) | (with_reducible exact a2) | (with_reducible exact w1) | (with_reducible exact L3.v_c) | (with_reducible apply L3.v_var) | ((with_reducible apply L3.at_mk); exact rfl) | ((with_reducible apply L3.bt_mk); exact rfl) | (with_reducible exact L3.v_aN) | (with_reducible apply L3.st_z) | (with_reducible apply L3.st_s) | (with_reducible apply L3.fl_n) | (with_reducible apply L3.fl_d) | (with_reducible apply L3.fl_o) | (with_reducible apply L3.uf_n) | (with_reducible apply L3.uf_d) | (with_reducible apply L3.uf_o) | (with_reducible apply L3.v_aC) | (with_reducible apply L3.v_f2) | (with_reducible apply L3.v_f1) | (with_reducible apply L3.v_fL) | (with_reducible apply L3.z_seq) | (with_reducible apply L3.z_nx) | (with_reducible apply L3.z_set) | (with_reducible apply L3.z_drop) | (with_reducible apply L3.z_ret) | (with_reducible apply L3.z_retO) | (with_reducible apply L3.z_if) | (with_reducible apply L3.v_ite_t) | (with_reducible apply L3.v_ite_f) | (with_reducible apply L3.t_B) | (with_reducible apply L3.t_V) | (with_reducible apply L3.t_N) | (with_reducible apply L3.t_A) | (with_reducible apply L3.t_O) | (with_reducible apply L3.v_if) | (with_reducible apply L3.v_and) | (with_reducible apply L3.v_or) | (with_reducible apply L3.z_asg) | (with_reducible apply L3.z_par) | (with_reducible apply L3.z_for) | (with_reducible apply L3.v_mut) | (with_reducible apply L3.v_ixO) | (with_reducible apply L3.v_f1O) | (with_reducible apply L3.v_f2O) | (with_reducible apply L3.v_isiO) | (with_reducible apply L3.i_r1) | (with_reducible apply L3.i_r2) | (with_reducible apply L3.v_call) | (with_reducible apply L3.v_meth) | (with_reducible apply L3.v_callI) | (with_reducible apply L3.v_make) | (with_reducible apply L3.fg_name) | (with_reducible apply L3.fg_nil) | (with_reducible apply L3.fg_cons) | (with_reducible apply L3.v_bm) | (with_reducible exact L3.z_rt) | (with_reducible exact L3.z_n) | (with_reducible exact L3.z_ok) | (with_reducible exact L3.tr_bl) | (with_reducible exact L3.bn_t) | (with_reducible exact L3.bn_f) | (with_reducible exact L3.o_add) | (with_reducible exact L3.o_sub) | (with_reducible exact L3.o_int) | (with_reducible exact L3.o_lenl) | (with_reducible exact L3.o_lenk) | (with_reducible exact L3.o_lent) | (with_reducible exact L3.o_tuple_l) | (with_reducible exact L3.o_tuple_t) | (with_reducible exact L3.o_list_t) | (with_reducible exact L3.o_list_l) | (with_reducible exact L3.o_reverse) | (with_reducible exact L3.o_clear) | (with_reducible exact L3.o_ix0) | (with_reducible exact L3.o_ix1) | (with_reducible exact L3.o_lx0) | (with_reducible exact L3.o_isn) | (with_reducible exact L3.o_isnI) | (with_reducible exact L3.o_neg) | ((with_reducible apply L3.o_lt_t); omega) | ((with_reducible apply L3.o_lt_f); omega) | ((with_reducible apply L3.o_le_t); omega) | ((with_reducible apply L3.o_le_f); omega) | ((with_reducible apply L3.o_gt_t); omega) | ((with_reducible apply L3.o_gt_f); omega) | ((with_reducible apply L3.o_ge_t); omega) | ((with_reducible apply L3.o_ge_f); omega) | ((with_reducible apply L3.o_eq_t); omega) | ((with_reducible apply L3.o_eq_f); omega) | ((with_reducible apply L3.o_ne_t); omega) | ((with_reducible apply L3.o_ne_f); omega) | ((with_reducible apply L3.o_eqs_t); exact rfl) | ((with_reducible apply L3.o_eqs_f); decide) | ((with_reducible apply L3.o_nes_f); exact rfl) | ((with_reducible apply L3.o_nes_t); decide) | ((with_reducible apply L3.o_mul1); omega) | ((with_reducible apply L3.o_mul2); omega) | ((with_reducible apply L3.o_mod); omega) | ((with_reducible apply L3.o_fdiv); omega) | ((with_reducible apply L3.inW_of'); omega) | ((with_reducible apply L3.o_fld); exact rfl) | ((with_reducible apply L3.fg_tup); (first | exact rfl | skip)) | ((with_reducible apply L3.o_append); first | assumption | (simp only [List.length_map] at *; omega)) | ((with_reducible apply L3.o_tup); exact le_size (by simp)) | ((with_reducible apply L3.o_lst); exact le_size (by simp)))
end Law

namespace Law
open PySem PySem.Spec PyProof.Rows L2 L3
/-! ### every exchanged entry, by one run -/
mutual
def beqD : D → D → Bool
  | .non, .non => true
  | .bl a, .bl b => a == b
  | .int a, .int b => decide (a = b)
  | .str a, .str b => decide (a = b)
  | .tup a, .tup b => beqL a b
  | .lst a, .lst b => beqL a b
  | .ins c a, .ins d b => decide (c = d) && beqF a b
  | _, _ => false
def beqL : List D → List D → Bool
  | [], [] => true
  | a :: r, b :: s => beqD a b && beqL r s
  | _, _ => false
def beqF : List (Str × D) → List (Str × D) → Bool
  | [], [] => true
  | (x, a) :: r, (y, b) :: s => decide (x = y) && (beqD a b && beqF r s)
  | _, _ => false
end
mutual
theorem beqD_ok : ∀ {a b : D}, beqD a b = true → a = b
  | .non, b, h => by cases b <;> first | rfl | (simp [beqD] at h)
  | .bl a, b, h => by
    cases b <;> simp [beqD] at h
    rw [h]
  | .int a, b, h => by
    cases b <;> simp [beqD] at h
    rw [h]
  | .str a, b, h => by
    cases b <;> simp [beqD] at h
    rw [h]
  | .tup a, b, h => by
    cases b <;> simp [beqD] at h
    rw [beqL_ok h]
  | .lst a, b, h => by
    cases b <;> simp [beqD] at h
    rw [beqL_ok h]
  | .ins c a, b, h => by
    cases b <;> simp [beqD] at h
    rw [h.1, beqF_ok h.2]
  | .ty _, b, h => by simp [beqD] at h
  | .fn _, b, h => by simp [beqD] at h
  | .lsk _, b, h => by simp [beqD] at h
theorem beqL_ok : ∀ {a b : List D}, beqL a b = true → a = b
  | [], b, h => by cases b <;> first | rfl | (simp [beqL] at h)
  | a :: r, b, h => by
    cases b <;> simp [beqL] at h
    rw [beqD_ok h.1, beqL_ok h.2]
theorem beqF_ok : ∀ {a b : List (Str × D)}, beqF a b = true → a = b
  | [], b, h => by cases b <;> first | rfl | (simp [beqF] at h)
  | (x, a) :: r, b, h => by
    cases b with
    | nil => simp [beqF] at h
    | cons q s =>
      obtain ⟨y, b⟩ := q
      simp [beqF] at h
      rw [h.1, beqD_ok h.2.1, beqF_ok h.2.2]
end
def noneE : E → Bool
  | [] => true
  | none :: r => noneE r
  | _ => false
theorem noneE_ok : ∀ {ρ : E}, noneE ρ = true → ρ = List.replicate ρ.length none
  | [], _ => rfl
  | none :: r, h => by
    have := noneE_ok (ρ := r) h
    rw [List.length_cons, List.replicate_succ, ← this]
  | some _ :: _, h => by simp [noneE] at h
def isR (r : R D) (d : D) (n : Nat) : Bool := match r with
  | .ok e ρ => beqD e d && (noneE ρ && decide (ρ.length = n))
  | _ => false
theorem isR_ok {r : R D} {d : D} {n : Nat} (h : isR r d n = true) : r = .ok d (List.replicate n none) := by
  cases r with
  | ok e ρ =>
    have h' : (beqD e d && (noneE ρ && decide (ρ.length = n))) = true := h
    rw [Bool.and_eq_true, Bool.and_eq_true, decide_eq_true_eq] at h'
    obtain ⟨h1, h2, h3⟩ := h'
    rw [beqD_ok h1, noneE_ok h2, h3]
  | ex _ _ => cases h
  | no => cases h
def actB (a : Str) : Bool := decide (a = "keep") || (decide (a = "first") || (decide (a = "last") || decide (a = "drop")))
theorem actB_ok {a : Str} (h : actB a = true) : ActOk a := by
  unfold actB at h
  simpa [ActOk] using h
def wfB (T : Tb) : Bool := decide (0 < T.length) && (List.range T.length).all fun s => L8.all fun c => match (T[s]?).bind fun st => st[kOf c]? with
  | some p => actB p.1 && (decide (p.2 < T.length) && (decide (c ≠ "H") || decide (p.1 ≠ "last")))
  | none => false
theorem wfB_ok {T : Tb} (h : wfB T = true) : WF T := by
  unfold wfB at h
  rw [Bool.and_eq_true, decide_eq_true_eq] at h
  obtain ⟨h0, h1⟩ := h
  refine ⟨h0, fun s hs c hc => ?_⟩
  have h2 := List.all_eq_true.mp (List.all_eq_true.mp h1 s (List.mem_range.mpr hs)) c hc
  cases q : (T[s]?).bind fun st => st[kOf c]? with
  | none => rw [q] at h2; cases h2
  | some p =>
    rw [q] at h2
    simp only [Bool.and_eq_true, decide_eq_true_eq, Bool.or_eq_true] at h2
    obtain ⟨g1, g2, g3⟩ := h2
    obtain ⟨st, e1, e2⟩ := Option.bind_eq_some_iff.mp q
    exact ⟨p, ⟨st, e1, e2⟩, actB_ok g1, g2, fun z => g3.resolve_left fun y => y z⟩
def setE (T : Tb) (s k : Nat) (p : Str × Nat) : Tb := T.set s ((T.getD s []).set k p)
def tb : Nat → Tb
  | 0 => T0 | 1 => T1 | 2 => T2 | 3 => T3 | _ => T4
def nmO : Nat → Str
  | 0 => "by table" | 1 => "through" | 2 => "both ways" | 3 => "careful" | _ => "adopting"
def letO (l : Nat) : Str := L8.getD (l + 1) "P"
def actO (a : Nat) : Str := (["keep", "drop", "first", "last"] : List Str).getD a "keep"
def one (w s l a t : Nat) : Bool := (decide (l = 2) && decide (2 ≤ a)) || (isR (m_with_entry [rdr (tb w) (nmO w), .int (s : Nat), .str (letO l), .str (actO a), .int (t : Nat)]) (rdr (setE (tb w) s (l + 1) (actO a, t)) "") 5 && wfB (setE (tb w) s (l + 1) (actO a, t)))
def chk : Bool := (List.range 5).all fun w => (List.range (tb w).length).all fun s => (List.range 7).all fun l => (List.range 4).all fun a => (List.range (tb w).length).all fun t => one w s l a t
theorem chk_ok : chk = true := by kernel_rfl
theorem entry_set {w s l a t : Nat} (hw : w < 5) (hs : s < (tb w).length) (hl : l < 7) (ha : a < 4) (ht : t < (tb w).length) (hH : l = 2 → a < 2) :
    m_with_entry [rdr (tb w) (nmO w), .int (s : Nat), .str (letO l), .str (actO a), .int (t : Nat)] = .ok (rdr (setE (tb w) s (l + 1) (actO a, t)) "") [none, none, none, none, none] ∧ WF (setE (tb w) s (l + 1) (actO a, t)) := by
  have h := List.all_eq_true.mp (List.all_eq_true.mp (List.all_eq_true.mp (List.all_eq_true.mp (List.all_eq_true.mp chk_ok w (List.mem_range.mpr hw)) s (List.mem_range.mpr hs)) l (List.mem_range.mpr hl)) a (List.mem_range.mpr ha)) t (List.mem_range.mpr ht)
  unfold one at h
  rw [Bool.or_eq_true, Bool.and_eq_true, Bool.and_eq_true, decide_eq_true_eq, decide_eq_true_eq] at h
  rcases h with ⟨h1, h2⟩ | ⟨h1, h2⟩
  · have := hH h1; omega
  · exact ⟨isR_ok h1, wfB_ok h2⟩
theorem wf_tb {w : Nat} (hw : w < 5) : WF (tb w) := by
  match w, hw with
  | 0, _ => exact wfB_ok (by kernel_rfl)
  | 1, _ => exact wfB_ok (by kernel_rfl)
  | 2, _ => exact wfB_ok (by kernel_rfl)
  | 3, _ => exact wfB_ok (by kernel_rfl)
  | 4, _ => exact wfB_ok (by kernel_rfl)
  | n + 5, h => omega
/-! ### a changed entry that is never met -/
theorem setE_get {T : Tb} {s k s' k' : Nat} {p : Str × Nat} (h : ¬ (s' = s ∧ k' = k)) : ((setE T s k p)[s']?).bind (fun st => st[k']?) = (T[s']?).bind fun st => st[k']? := by
  unfold setE
  by_cases hs : s' = s
  · subst hs
    have hk : k ≠ k' := fun z => h ⟨rfl, z.symm⟩
    by_cases hl : s' < T.length
    · rw [List.getElem?_set_self hl]
      have e : T.getD s' [] = T[s'] := by simp [List.getD, List.getElem?_eq_getElem hl]
      rw [e, List.getElem?_eq_getElem hl]
      simp only [Option.bind_some]
      rw [List.getElem?_set_ne hk]
    · rw [List.getElem?_eq_none (by simpa using hl), List.getElem?_eq_none (by simpa using hl)]
  · rw [List.getElem?_set_ne fun z => hs z.symm]
theorem kOf_inj {c d : Str} (hc : c ∈ L8) (hd : d ∈ L8) (h : kOf c = kOf d) : c = d := by
  have key : ∀ c ∈ L8, ∀ d ∈ L8, kOf c = kOf d → c = d := by decide +kernel
  exact key c hc d hd h
theorem run_same {T : Tb} {s : Nat} {x : Str} (hx : x ∈ L8) {p : Str × Nat} {row : List Str} (hm : MenuOk row) : ∀ i, (∀ j, j < i → ∀ c, row[j]? = some c → ¬ ((runS T row j).1.1 = s ∧ c = x)) → runS (setE T s (kOf x) p) row i = runS T row i
  | 0, _ => rfl
  | i + 1, h => by
    have ih := run_same (T := T) (p := p) hx hm i fun j hj => h j (by omega)
    unfold runS
    split
    · rename_i c hc
      rw [ih]
      have e : stepS (setE T s (kOf x) p) i c (runS T row i).1 = stepS T i c (runS T row i).1 := by
        unfold stepS
        by_cases hd : c = "-"
        · rw [if_pos hd, if_pos hd]
        · rw [if_neg hd, if_neg hd]
          have hc8 := (hm c (List.mem_of_getElem? hc)).resolve_right hd
          rw [setE_get fun z => h i (by omega) c hc ⟨z.1, kOf_inj hc8 hx z.2⟩]
      rw [e]
    · exact ih
theorem run_at {T : Tb} {row : List Str} : ∀ n, n ≤ row.length → (runS T row n).2.length = n + 1 ∧ ∀ i, i ≤ n → (runS T row n).2[i]? = some (.tup [.int ((runS T row i).1.1 : Nat), (runS T row i).1.2])
  | 0, _ => ⟨rfl, fun i hi => by
    obtain rfl : i = 0 := by omega
    rfl⟩
  | n + 1, hn => by
    obtain ⟨h1, h2⟩ := run_at (T := T) (row := row) n (by omega)
    have hc : row[n]? = some row[n] := List.getElem?_eq_getElem (by omega)
    rw [run_succ hc]
    refine ⟨by simp [h1], fun i hi => ?_⟩
    by_cases hi' : i ≤ n
    · rw [List.getElem?_append_left (by omega)]; exact h2 i hi'
    · obtain rfl : i = n + 1 := by omega
      rw [List.getElem?_append_right (by omega), h1, run_succ hc]
      simp
end Law

namespace Law
open PySem PySem.Spec PyProof.Rows L2 L3
section
variable {A0 A1 A2 A3 A6 A7 A8 : Option D}
theorem met_loop (T : Tb) (row : List Str) (s : Nat) (x : Str) (y0 : Option D) :
    ∃ b y, forF (hName 12) lp__law_exchanged_2 (rngD 0 row.length) [A0, A1, A2, A3, some (.int (s : Nat)), some (.str x), A6, A7, A8, some (.lst (rowS row)), some (.lst (runS T row row.length).2), some (.bl false), y0] = .nx [A0, A1, A2, A3, some (.int (s : Nat)), some (.str x), A6, A7, A8, some (.lst (rowS row)), some (.lst (runS T row row.length).2), some (.bl b), y] ∧
      (b = false → ∀ j, j < row.length → ∀ c, row[j]? = some c → ¬ ((runS T row j).1.1 = s ∧ c = x)) := by
  obtain ⟨ρ', h1, b, y, rfl, hb⟩ := forF_ix (set := hName 12) (body := lp__law_exchanged_2) (I := fun i ρ => ∃ b y, ρ = [A0, A1, A2, A3, some (.int (s : Nat)), some (.str x), A6, A7, A8, some (.lst (rowS row)), some (.lst (runS T row row.length).2), some (.bl b), y] ∧ (b = false → ∀ j, j < i → ∀ c, row[j]? = some c → ¬ ((runS T row j).1.1 = s ∧ c = x))) (rngD 0 row.length) 0 [A0, A1, A2, A3, some (.int (s : Nat)), some (.str x), A6, A7, A8, some (.lst (rowS row)), some (.lst (runS T row row.length).2), some (.bl false), y0] (fun i d hd ρ hI => by
    obtain ⟨hi, rfl⟩ := rngD_at hd
    obtain ⟨b, y, rfl, hb⟩ := hI
    rw [Nat.zero_add] at hb
    refine ⟨_, rfl, ?_⟩
    simp only [List.set_cons_succ, List.set_cons_zero, Nat.zero_add]
    have hc : row[i]? = some row[i] := List.getElem?_eq_getElem hi
    have hr : dIx (.lst (rowS row)) (.int (0 + (i : Nat))) = some (.str row[i]) := by
      rw [Int.zero_add, dIx_nat, List.getElem?_map, hc]; rfl
    have ht : dIx (.lst (runS T row row.length).2) (.int (0 + (i : Nat))) = some (.tup [.int ((runS T row i).1.1 : Nat), (runS T row i).1.2]) := by
      rw [Int.zero_add, dIx_nat, (run_at (T := T) (row := row) row.length (Nat.le_refl _)).2 i (by omega)]
    unfold lp__law_exchanged_2
    by_cases e1 : (runS T row i).1.1 = s
    · by_cases e2 : row[i] = x
      · refine ⟨[A0, A1, A2, A3, some (.int (s : Nat)), some (.str x), A6, A7, A8, some (.lst (rowS row)), some (.lst (runS T row row.length).2), some (.bl true), some (.int (0 + (i : Nat)))], .inl ?_, true, _, rfl, fun z => (nomatch z)⟩
        repeat' (first | (with_reducible exact hr) | (with_reducible exact ht) | ((with_reducible apply L3.o_eqs_t); exact e2) | (with_reducible exact L3.v_c) | (with_reducible apply L3.v_var) | ((with_reducible apply L3.at_mk); exact rfl) | ((with_reducible apply L3.bt_mk); exact rfl) | (with_reducible exact L3.v_aN) | (with_reducible apply L3.st_z) | (with_reducible apply L3.st_s) | (with_reducible apply L3.fl_n) | (with_reducible apply L3.fl_d) | (with_reducible apply L3.fl_o) | (with_reducible apply L3.uf_n) | (with_reducible apply L3.uf_d) | (with_reducible apply L3.uf_o) | (with_reducible apply L3.v_aC) | (with_reducible apply L3.v_f2) | (with_reducible apply L3.v_f1) | (with_reducible apply L3.v_fL) | (with_reducible apply L3.z_seq) | (with_reducible apply L3.z_nx) | (with_reducible apply L3.z_set) | (with_reducible apply L3.z_drop) | (with_reducible apply L3.z_ret) | (with_reducible apply L3.z_retO) | (with_reducible apply L3.z_if) | (with_reducible apply L3.v_ite_t) | (with_reducible apply L3.v_ite_f) | (with_reducible apply L3.t_B) | (with_reducible apply L3.t_V) | (with_reducible apply L3.t_N) | (with_reducible apply L3.t_A) | (with_reducible apply L3.t_O) | (with_reducible apply L3.v_if) | (with_reducible apply L3.v_and) | (with_reducible apply L3.v_or) | (with_reducible apply L3.z_asg) | (with_reducible apply L3.z_par) | (with_reducible apply L3.z_for) | (with_reducible apply L3.v_mut) | (with_reducible apply L3.v_ixO) | (with_reducible apply L3.v_f1O) | (with_reducible apply L3.v_f2O) | (with_reducible apply L3.v_isiO) | (with_reducible apply L3.i_r1) | (with_reducible apply L3.i_r2) | (with_reducible apply L3.v_call) | (with_reducible apply L3.v_meth) | (with_reducible apply L3.v_callI) | (with_reducible apply L3.v_make) | (with_reducible apply L3.fg_name) | (with_reducible apply L3.fg_nil) | (with_reducible apply L3.fg_cons) | (with_reducible apply L3.v_bm) | (with_reducible exact L3.z_rt) | (with_reducible exact L3.z_n) | (with_reducible exact L3.z_ok) | (with_reducible exact L3.tr_bl) | (with_reducible exact L3.bn_t) | (with_reducible exact L3.bn_f) | (with_reducible exact L3.o_add) | (with_reducible exact L3.o_sub) | (with_reducible exact L3.o_int) | (with_reducible exact L3.o_lenl) | (with_reducible exact L3.o_lenk) | (with_reducible exact L3.o_lent) | (with_reducible exact L3.o_tuple_l) | (with_reducible exact L3.o_tuple_t) | (with_reducible exact L3.o_list_t) | (with_reducible exact L3.o_list_l) | (with_reducible exact L3.o_reverse) | (with_reducible exact L3.o_clear) | (with_reducible exact L3.o_ix0) | (with_reducible exact L3.o_ix1) | (with_reducible exact L3.o_lx0) | (with_reducible exact L3.o_isn) | (with_reducible exact L3.o_isnI) | (with_reducible exact L3.o_neg) | ((with_reducible apply L3.o_lt_t); omega) | ((with_reducible apply L3.o_lt_f); omega) | ((with_reducible apply L3.o_le_t); omega) | ((with_reducible apply L3.o_le_f); omega) | ((with_reducible apply L3.o_gt_t); omega) | ((with_reducible apply L3.o_gt_f); omega) | ((with_reducible apply L3.o_ge_t); omega) | ((with_reducible apply L3.o_ge_f); omega) | ((with_reducible apply L3.o_eq_t); omega) | ((with_reducible apply L3.o_eq_f); omega) | ((with_reducible apply L3.o_ne_t); omega) | ((with_reducible apply L3.o_ne_f); omega) | ((with_reducible apply L3.o_eqs_t); exact rfl) | ((with_reducible apply L3.o_eqs_f); decide) | ((with_reducible apply L3.o_nes_f); exact rfl) | ((with_reducible apply L3.o_nes_t); decide) | ((with_reducible apply L3.o_mul1); omega) | ((with_reducible apply L3.o_mul2); omega) | ((with_reducible apply L3.o_mod); omega) | ((with_reducible apply L3.o_fdiv); omega) | ((with_reducible apply L3.inW_of'); omega) | ((with_reducible apply L3.o_fld); exact rfl) | ((with_reducible apply L3.fg_tup); (first | exact rfl | skip)) | ((with_reducible apply L3.o_append); first | assumption | (simp only [List.length_map] at *; omega)) | ((with_reducible apply L3.o_tup); exact le_size (by simp)) | ((with_reducible apply L3.o_lst); exact le_size (by simp)))
      · refine ⟨[A0, A1, A2, A3, some (.int (s : Nat)), some (.str x), A6, A7, A8, some (.lst (rowS row)), some (.lst (runS T row row.length).2), some (.bl b), some (.int (0 + (i : Nat)))], .inl ?_, b, _, rfl, fun z j hj c hjc => ?_⟩
        · repeat' (first | (with_reducible exact hr) | (with_reducible exact ht) | ((with_reducible apply L3.o_eqs_f); exact e2) | (with_reducible exact L3.v_c) | (with_reducible apply L3.v_var) | ((with_reducible apply L3.at_mk); exact rfl) | ((with_reducible apply L3.bt_mk); exact rfl) | (with_reducible exact L3.v_aN) | (with_reducible apply L3.st_z) | (with_reducible apply L3.st_s) | (with_reducible apply L3.fl_n) | (with_reducible apply L3.fl_d) | (with_reducible apply L3.fl_o) | (with_reducible apply L3.uf_n) | (with_reducible apply L3.uf_d) | (with_reducible apply L3.uf_o) | (with_reducible apply L3.v_aC) | (with_reducible apply L3.v_f2) | (with_reducible apply L3.v_f1) | (with_reducible apply L3.v_fL) | (with_reducible apply L3.z_seq) | (with_reducible apply L3.z_nx) | (with_reducible apply L3.z_set) | (with_reducible apply L3.z_drop) | (with_reducible apply L3.z_ret) | (with_reducible apply L3.z_retO) | (with_reducible apply L3.z_if) | (with_reducible apply L3.v_ite_t) | (with_reducible apply L3.v_ite_f) | (with_reducible apply L3.t_B) | (with_reducible apply L3.t_V) | (with_reducible apply L3.t_N) | (with_reducible apply L3.t_A) | (with_reducible apply L3.t_O) | (with_reducible apply L3.v_if) | (with_reducible apply L3.v_and) | (with_reducible apply L3.v_or) | (with_reducible apply L3.z_asg) | (with_reducible apply L3.z_par) | (with_reducible apply L3.z_for) | (with_reducible apply L3.v_mut) | (with_reducible apply L3.v_ixO) | (with_reducible apply L3.v_f1O) | (with_reducible apply L3.v_f2O) | (with_reducible apply L3.v_isiO) | (with_reducible apply L3.i_r1) | (with_reducible apply L3.i_r2) | (with_reducible apply L3.v_call) | (with_reducible apply L3.v_meth) | (with_reducible apply L3.v_callI) | (with_reducible apply L3.v_make) | (with_reducible apply L3.fg_name) | (with_reducible apply L3.fg_nil) | (with_reducible apply L3.fg_cons) | (with_reducible apply L3.v_bm) | (with_reducible exact L3.z_rt) | (with_reducible exact L3.z_n) | (with_reducible exact L3.z_ok) | (with_reducible exact L3.tr_bl) | (with_reducible exact L3.bn_t) | (with_reducible exact L3.bn_f) | (with_reducible exact L3.o_add) | (with_reducible exact L3.o_sub) | (with_reducible exact L3.o_int) | (with_reducible exact L3.o_lenl) | (with_reducible exact L3.o_lenk) | (with_reducible exact L3.o_lent) | (with_reducible exact L3.o_tuple_l) | (with_reducible exact L3.o_tuple_t) | (with_reducible exact L3.o_list_t) | (with_reducible exact L3.o_list_l) | (with_reducible exact L3.o_reverse) | (with_reducible exact L3.o_clear) | (with_reducible exact L3.o_ix0) | (with_reducible exact L3.o_ix1) | (with_reducible exact L3.o_lx0) | (with_reducible exact L3.o_isn) | (with_reducible exact L3.o_isnI) | (with_reducible exact L3.o_neg) | ((with_reducible apply L3.o_lt_t); omega) | ((with_reducible apply L3.o_lt_f); omega) | ((with_reducible apply L3.o_le_t); omega) | ((with_reducible apply L3.o_le_f); omega) | ((with_reducible apply L3.o_gt_t); omega) | ((with_reducible apply L3.o_gt_f); omega) | ((with_reducible apply L3.o_ge_t); omega) | ((with_reducible apply L3.o_ge_f); omega) | ((with_reducible apply L3.o_eq_t); omega) | ((with_reducible apply L3.o_eq_f); omega) | ((with_reducible apply L3.o_ne_t); omega) | ((with_reducible apply L3.o_ne_f); omega) | ((with_reducible apply L3.o_eqs_t); exact rfl) | ((with_reducible apply L3.o_eqs_f); decide) | ((with_reducible apply L3.o_nes_f); exact rfl) | ((with_reducible apply L3.o_nes_t); decide) | ((with_reducible apply L3.o_mul1); omega) | ((with_reducible apply L3.o_mul2); omega) | ((with_reducible apply L3.o_mod); omega) | ((with_reducible apply L3.o_fdiv); omega) | ((with_reducible apply L3.inW_of'); omega) | ((with_reducible apply L3.o_fld); exact rfl) | ((with_reducible apply L3.fg_tup); (first | exact rfl | skip)) | ((with_reducible apply L3.o_append); first | assumption | (simp only [List.length_map] at *; omega)) | ((with_reducible apply L3.o_tup); exact le_size (by simp)) | ((with_reducible apply L3.o_lst); exact le_size (by simp)))
        · by_cases hji : j < i
          · exact hb z j hji c hjc
          · obtain rfl : j = i := by omega
            rw [hc] at hjc; cases hjc
            exact fun q => e2 q.2
    · refine ⟨[A0, A1, A2, A3, some (.int (s : Nat)), some (.str x), A6, A7, A8, some (.lst (rowS row)), some (.lst (runS T row row.length).2), some (.bl b), some (.int (0 + (i : Nat)))], .inl ?_, b, _, rfl, fun z j hj c hjc => ?_⟩
      · repeat' (first | (with_reducible exact hr) | (with_reducible exact ht) | (with_reducible exact L3.v_c) | (with_reducible apply L3.v_var) | ((with_reducible apply L3.at_mk); exact rfl) | ((with_reducible apply L3.bt_mk); exact rfl) | (with_reducible exact L3.v_aN) | (with_reducible apply L3.st_z) | (with_reducible apply L3.st_s) | (with_reducible apply L3.fl_n) | (with_reducible apply L3.fl_d) | (with_reducible apply L3.fl_o) | (with_reducible apply L3.uf_n) | (with_reducible apply L3.uf_d) | (with_reducible apply L3.uf_o) | (with_reducible apply L3.v_aC) | (with_reducible apply L3.v_f2) | (with_reducible apply L3.v_f1) | (with_reducible apply L3.v_fL) | (with_reducible apply L3.z_seq) | (with_reducible apply L3.z_nx) | (with_reducible apply L3.z_set) | (with_reducible apply L3.z_drop) | (with_reducible apply L3.z_ret) | (with_reducible apply L3.z_retO) | (with_reducible apply L3.z_if) | (with_reducible apply L3.v_ite_t) | (with_reducible apply L3.v_ite_f) | (with_reducible apply L3.t_B) | (with_reducible apply L3.t_V) | (with_reducible apply L3.t_N) | (with_reducible apply L3.t_A) | (with_reducible apply L3.t_O) | (with_reducible apply L3.v_if) | (with_reducible apply L3.v_and) | (with_reducible apply L3.v_or) | (with_reducible apply L3.z_asg) | (with_reducible apply L3.z_par) | (with_reducible apply L3.z_for) | (with_reducible apply L3.v_mut) | (with_reducible apply L3.v_ixO) | (with_reducible apply L3.v_f1O) | (with_reducible apply L3.v_f2O) | (with_reducible apply L3.v_isiO) | (with_reducible apply L3.i_r1) | (with_reducible apply L3.i_r2) | (with_reducible apply L3.v_call) | (with_reducible apply L3.v_meth) | (with_reducible apply L3.v_callI) | (with_reducible apply L3.v_make) | (with_reducible apply L3.fg_name) | (with_reducible apply L3.fg_nil) | (with_reducible apply L3.fg_cons) | (with_reducible apply L3.v_bm) | (with_reducible exact L3.z_rt) | (with_reducible exact L3.z_n) | (with_reducible exact L3.z_ok) | (with_reducible exact L3.tr_bl) | (with_reducible exact L3.bn_t) | (with_reducible exact L3.bn_f) | (with_reducible exact L3.o_add) | (with_reducible exact L3.o_sub) | (with_reducible exact L3.o_int) | (with_reducible exact L3.o_lenl) | (with_reducible exact L3.o_lenk) | (with_reducible exact L3.o_lent) | (with_reducible exact L3.o_tuple_l) | (with_reducible exact L3.o_tuple_t) | (with_reducible exact L3.o_list_t) | (with_reducible exact L3.o_list_l) | (with_reducible exact L3.o_reverse) | (with_reducible exact L3.o_clear) | (with_reducible exact L3.o_ix0) | (with_reducible exact L3.o_ix1) | (with_reducible exact L3.o_lx0) | (with_reducible exact L3.o_isn) | (with_reducible exact L3.o_isnI) | (with_reducible exact L3.o_neg) | ((with_reducible apply L3.o_lt_t); omega) | ((with_reducible apply L3.o_lt_f); omega) | ((with_reducible apply L3.o_le_t); omega) | ((with_reducible apply L3.o_le_f); omega) | ((with_reducible apply L3.o_gt_t); omega) | ((with_reducible apply L3.o_gt_f); omega) | ((with_reducible apply L3.o_ge_t); omega) | ((with_reducible apply L3.o_ge_f); omega) | ((with_reducible apply L3.o_eq_t); omega) | ((with_reducible apply L3.o_eq_f); omega) | ((with_reducible apply L3.o_ne_t); omega) | ((with_reducible apply L3.o_ne_f); omega) | ((with_reducible apply L3.o_eqs_t); exact rfl) | ((with_reducible apply L3.o_eqs_f); decide) | ((with_reducible apply L3.o_nes_f); exact rfl) | ((with_reducible apply L3.o_nes_t); decide) | ((with_reducible apply L3.o_mul1); omega) | ((with_reducible apply L3.o_mul2); omega) | ((with_reducible apply L3.o_mod); omega) | ((with_reducible apply L3.o_fdiv); omega) | ((with_reducible apply L3.inW_of'); omega) | ((with_reducible apply L3.o_fld); exact rfl) | ((with_reducible apply L3.fg_tup); (first | exact rfl | skip)) | ((with_reducible apply L3.o_append); first | assumption | (simp only [List.length_map] at *; omega)) | ((with_reducible apply L3.o_tup); exact le_size (by simp)) | ((with_reducible apply L3.o_lst); exact le_size (by simp)))
      · by_cases hji : j < i
        · exact hb z j hji c hjc
        · obtain rfl : j = i := by omega
          exact fun q => e1 q.1) ⟨false, y0, rfl, fun _ j hj => by omega⟩
  rw [rngD_length] at hb
  exact ⟨b, y, h1, fun z j hj => hb z j (by omega)⟩
end
theorem tr_false : truth (.bl false) = some false := rfl
theorem ix_TD {w : Nat} (hw : w < 5) : dIx TD (.int (w : Nat)) = some (tbL (tb w)) := by
  rw [dIx_nat]
  match w, hw with
  | 0, _ => rfl
  | 1, _ => rfl
  | 2, _ => rfl
  | 3, _ => rfl
  | 4, _ => rfl
  | n + 5, h => omega
theorem ix_RD {w : Nat} (hw : w < 5) : dIx (.lst RD) (.int (w : Nat)) = some (rdr (tb w) (nmO w)) := by
  rw [dIx_nat]
  match w, hw with
  | 0, _ => rfl
  | 1, _ => rfl
  | 2, _ => rfl
  | 3, _ => rfl
  | 4, _ => rfl
  | n + 5, h => omega
theorem ix_L {l : Nat} (hl : l < 7) : dIx L8D (.int (1 + (l : Nat))) = some (.str (letO l)) := by
  rw [show (1 : Int) + (l : Nat) = ((l + 1 : Nat) : Int) by omega, dIx_nat]
  match l, hl with
  | 0, _ => rfl
  | 1, _ => rfl
  | 2, _ => rfl
  | 3, _ => rfl
  | 4, _ => rfl
  | 5, _ => rfl
  | 6, _ => rfl
  | n + 7, h => omega
theorem ix_A {a : Nat} (ha : a < 4) : dIx (.lst [.str "keep", .str "drop", .str "first", .str "last"]) (.int (a : Nat)) = some (.str (actO a)) := by
  rw [dIx_nat]
  match a, ha with
  | 0, _ => rfl
  | 1, _ => rfl
  | 2, _ => rfl
  | 3, _ => rfl
  | n + 4, h => omega
theorem ix_B {a : Nat} (ha : a < 2) : dIx (.lst [.str "keep", .str "drop"]) (.int (a : Nat)) = some (.str (actO a)) := by
  rw [dIx_nat]
  match a, ha with
  | 0, _ => rfl
  | 1, _ => rfl
  | n + 2, h => omega
theorem let_H {l : Nat} (hl : l < 7) : letO l = "H" ↔ l = 2 := by
  have h : ∀ l, l < 7 → (letO l = "H" ↔ l = 2) := by decide +kernel
  exact h l hl
theorem let_8 {l : Nat} (hl : l < 7) : letO l ∈ L8 ∧ kOf (letO l) = l + 1 := by
  have h : ∀ l, l < 7 → (letO l ∈ L8 ∧ kOf (letO l) = l + 1) := by decide +kernel
  exact h l hl
theorem nat_of {t n : Int} (h0 : 0 ≤ t) (h1 : t < n) : ∃ k : Nat, t = (k : Int) ∧ (k : Int) < n := ⟨t.toNat, by omega, by omega⟩
/-- one turn of the rows -/
theorem turn_ok (ds : List Int) (hn : NN ds) (w s l : Nat) (hw : w < 5) (hl : l < 7) (p : Str × Nat) (W' : WF (setE (tb w) s (l + 1) p)) (R a i9 i10 i11 i12 : Option D) (k : D) :
    ∃ ds' b9 b10 b11 b12, lp__law_exchanged_1 [some (.lst (ds.map D.int)), R, some TD, some (.int (w : Nat)), some (.int (s : Nat)), some (.str (letO l)), a, some (rdr (setE (tb w) s (l + 1) p) ""), some k, i9, i10, i11, i12] = .nx [some (.lst (ds'.map D.int)), R, some TD, some (.int (w : Nat)), some (.int (s : Nat)), some (.str (letO l)), a, some (rdr (setE (tb w) s (l + 1) p) ""), some k, b9, b10, b11, b12] ∧ NN ds' := by
  obtain ⟨row, ds1, g1, hm, hlen, hn1⟩ := drawn_ok ds hn 8 (by decide) (by decide)
  have hl8 : row.length ≤ 8 := by omega
  have g2 := walk_ok (tb w) (wf_tb hw) row hm (by omega)
  have g3 := ix_TD hw
  have key : (((rowS row).length : Nat) : Int).toNat = row.length := by simp
  have hin : inW ((rowS row).length : Nat) = true := by rw [List.length_map]; exact inW_of' (by omega)
  obtain ⟨b, y, h1, hb⟩ := met_loop (A0 := some (.lst (ds1.map D.int))) (A1 := R) (A2 := some TD) (A3 := some (.int (w : Nat))) (A6 := a) (A7 := some (rdr (setE (tb w) s (l + 1) p) "")) (A8 := some k) (tb w) row s (letO l) i12
  have hk : rngD 0 row.length = rngD 0 (((rowS row).length : Nat) : Int).toNat := by rw [key]
  rw [hk] at h1
  unfold lp__law_exchanged_1
  cases b with
  | true =>
    refine ⟨ds1, some (.lst (rowS row)), some (.lst (runS (tb w) row row.length).2), some (.bl true), y, ?_, hn1⟩
    repeat' (first | ((with_reducible apply L3.ca_mk (m := m__law_drawn_row)); exact g1) | ((with_reducible apply L3.ca_mk (m := m__law_walk)); exact g2) | (with_reducible exact g3) | (with_reducible exact hin) | ((with_reducible apply L3.lp_mk); exact h1) | (with_reducible exact L3.v_c) | (with_reducible apply L3.v_var) | ((with_reducible apply L3.at_mk); exact rfl) | ((with_reducible apply L3.bt_mk); exact rfl) | (with_reducible exact L3.v_aN) | (with_reducible apply L3.st_z) | (with_reducible apply L3.st_s) | (with_reducible apply L3.fl_n) | (with_reducible apply L3.fl_d) | (with_reducible apply L3.fl_o) | (with_reducible apply L3.uf_n) | (with_reducible apply L3.uf_d) | (with_reducible apply L3.uf_o) | (with_reducible apply L3.v_aC) | (with_reducible apply L3.v_f2) | (with_reducible apply L3.v_f1) | (with_reducible apply L3.v_fL) | (with_reducible apply L3.z_seq) | (with_reducible apply L3.z_nx) | (with_reducible apply L3.z_set) | (with_reducible apply L3.z_drop) | (with_reducible apply L3.z_ret) | (with_reducible apply L3.z_retO) | (with_reducible apply L3.z_if) | (with_reducible apply L3.v_ite_t) | (with_reducible apply L3.v_ite_f) | (with_reducible apply L3.t_B) | (with_reducible apply L3.t_V) | (with_reducible apply L3.t_N) | (with_reducible apply L3.t_A) | (with_reducible apply L3.t_O) | (with_reducible apply L3.v_if) | (with_reducible apply L3.v_and) | (with_reducible apply L3.v_or) | (with_reducible apply L3.z_asg) | (with_reducible apply L3.z_par) | (with_reducible apply L3.z_for) | (with_reducible apply L3.v_mut) | (with_reducible apply L3.v_ixO) | (with_reducible apply L3.v_f1O) | (with_reducible apply L3.v_f2O) | (with_reducible apply L3.v_isiO) | (with_reducible apply L3.i_r1) | (with_reducible apply L3.i_r2) | (with_reducible apply L3.v_call) | (with_reducible apply L3.v_meth) | (with_reducible apply L3.v_callI) | (with_reducible apply L3.v_make) | (with_reducible apply L3.fg_name) | (with_reducible apply L3.fg_nil) | (with_reducible apply L3.fg_cons) | (with_reducible apply L3.v_bm) | (with_reducible exact L3.z_rt) | (with_reducible exact L3.z_n) | (with_reducible exact L3.z_ok) | (with_reducible exact L3.tr_bl) | (with_reducible exact L3.bn_t) | (with_reducible exact L3.bn_f) | (with_reducible exact L3.o_add) | (with_reducible exact L3.o_sub) | (with_reducible exact L3.o_int) | (with_reducible exact L3.o_lenl) | (with_reducible exact L3.o_lenk) | (with_reducible exact L3.o_lent) | (with_reducible exact L3.o_tuple_l) | (with_reducible exact L3.o_tuple_t) | (with_reducible exact L3.o_list_t) | (with_reducible exact L3.o_list_l) | (with_reducible exact L3.o_reverse) | (with_reducible exact L3.o_clear) | (with_reducible exact L3.o_ix0) | (with_reducible exact L3.o_ix1) | (with_reducible exact L3.o_lx0) | (with_reducible exact L3.o_isn) | (with_reducible exact L3.o_isnI) | (with_reducible exact L3.o_neg) | ((with_reducible apply L3.o_lt_t); omega) | ((with_reducible apply L3.o_lt_f); omega) | ((with_reducible apply L3.o_le_t); omega) | ((with_reducible apply L3.o_le_f); omega) | ((with_reducible apply L3.o_gt_t); omega) | ((with_reducible apply L3.o_gt_f); omega) | ((with_reducible apply L3.o_ge_t); omega) | ((with_reducible apply L3.o_ge_f); omega) | ((with_reducible apply L3.o_eq_t); omega) | ((with_reducible apply L3.o_eq_f); omega) | ((with_reducible apply L3.o_ne_t); omega) | ((with_reducible apply L3.o_ne_f); omega) | ((with_reducible apply L3.o_eqs_t); exact rfl) | ((with_reducible apply L3.o_eqs_f); decide) | ((with_reducible apply L3.o_nes_f); exact rfl) | ((with_reducible apply L3.o_nes_t); decide) | ((with_reducible apply L3.o_mul1); omega) | ((with_reducible apply L3.o_mul2); omega) | ((with_reducible apply L3.o_mod); omega) | ((with_reducible apply L3.o_fdiv); omega) | ((with_reducible apply L3.inW_of'); omega) | ((with_reducible apply L3.o_fld); exact rfl) | ((with_reducible apply L3.fg_tup); (first | exact rfl | skip)) | ((with_reducible apply L3.o_append); first | assumption | (simp only [List.length_map] at *; omega)) | ((with_reducible apply L3.o_tup); exact le_size (by simp)) | ((with_reducible apply L3.o_lst); exact le_size (by simp)))
  | false =>
    refine ⟨ds1, some (.lst (rowS row)), some (.lst (runS (tb w) row row.length).2), some (.bl false), y, ?_, hn1⟩
    obtain ⟨hl1, hl2⟩ := let_8 hl
    have e := run_same (T := tb w) (s := s) (p := p) hl1 hm row.length fun j hj => hb rfl j hj
    rw [hl2] at e
    have g4 := rcall_ok _ W' "" row hm (by omega) (.l : RowD row _)
    rw [e] at g4
    obtain ⟨ll, g5⟩ := run_last (T := tb w) (row := row) row.length
    have g6 : dIx (.lst (runS (tb w) row row.length).2) (.int (-1)) = some (.tup [.int ((runS (tb w) row row.length).1.1 : Nat), (runS (tb w) row row.length).1.2]) := by
      rw [g5]; exact last_ix
    have g7 : dNe (runS (tb w) row row.length).1.2 (runS (tb w) row row.length).1.2 = some (.bl false) := dNe_self (run_lay (T := tb w) (row := row) row.length).1 (by decide)
    repeat' (first | ((with_reducible apply L3.ca_mk (m := m__law_drawn_row)); exact g1) | ((with_reducible apply L3.ca_mk (m := m__law_walk)); exact g2) | ((with_reducible apply L3.ca_mk (m := m_Reader_call)); exact g4) | (with_reducible exact g3) | (with_reducible exact g6) | (with_reducible exact g7) | (with_reducible exact hin) | ((with_reducible apply L3.lp_mk); exact h1) | (with_reducible exact L3.v_c) | (with_reducible apply L3.v_var) | ((with_reducible apply L3.at_mk); exact rfl) | ((with_reducible apply L3.bt_mk); exact rfl) | (with_reducible exact L3.v_aN) | (with_reducible apply L3.st_z) | (with_reducible apply L3.st_s) | (with_reducible apply L3.fl_n) | (with_reducible apply L3.fl_d) | (with_reducible apply L3.fl_o) | (with_reducible apply L3.uf_n) | (with_reducible apply L3.uf_d) | (with_reducible apply L3.uf_o) | (with_reducible apply L3.v_aC) | (with_reducible apply L3.v_f2) | (with_reducible apply L3.v_f1) | (with_reducible apply L3.v_fL) | (with_reducible apply L3.z_seq) | (with_reducible apply L3.z_nx) | (with_reducible apply L3.z_set) | (with_reducible apply L3.z_drop) | (with_reducible apply L3.z_ret) | (with_reducible apply L3.z_retO) | (with_reducible apply L3.z_if) | (with_reducible apply L3.v_ite_t) | (with_reducible apply L3.v_ite_f) | (with_reducible apply L3.t_B) | (with_reducible apply L3.t_V) | (with_reducible apply L3.t_N) | (with_reducible apply L3.t_A) | (with_reducible apply L3.t_O) | (with_reducible apply L3.v_if) | (with_reducible apply L3.v_and) | (with_reducible apply L3.v_or) | (with_reducible apply L3.z_asg) | (with_reducible apply L3.z_par) | (with_reducible apply L3.z_for) | (with_reducible apply L3.v_mut) | (with_reducible apply L3.v_ixO) | (with_reducible apply L3.v_f1O) | (with_reducible apply L3.v_f2O) | (with_reducible apply L3.v_isiO) | (with_reducible apply L3.i_r1) | (with_reducible apply L3.i_r2) | (with_reducible apply L3.v_call) | (with_reducible apply L3.v_meth) | (with_reducible apply L3.v_callI) | (with_reducible apply L3.v_make) | (with_reducible apply L3.fg_name) | (with_reducible apply L3.fg_nil) | (with_reducible apply L3.fg_cons) | (with_reducible apply L3.v_bm) | (with_reducible exact L3.z_rt) | (with_reducible exact L3.z_n) | (with_reducible exact L3.z_ok) | (with_reducible exact L3.tr_bl) | (with_reducible exact L3.bn_t) | (with_reducible exact L3.bn_f) | (with_reducible exact L3.o_add) | (with_reducible exact L3.o_sub) | (with_reducible exact L3.o_int) | (with_reducible exact L3.o_lenl) | (with_reducible exact L3.o_lenk) | (with_reducible exact L3.o_lent) | (with_reducible exact L3.o_tuple_l) | (with_reducible exact L3.o_tuple_t) | (with_reducible exact L3.o_list_t) | (with_reducible exact L3.o_list_l) | (with_reducible exact L3.o_reverse) | (with_reducible exact L3.o_clear) | (with_reducible exact L3.o_ix0) | (with_reducible exact L3.o_ix1) | (with_reducible exact L3.o_lx0) | (with_reducible exact L3.o_isn) | (with_reducible exact L3.o_isnI) | (with_reducible exact L3.o_neg) | ((with_reducible apply L3.o_lt_t); omega) | ((with_reducible apply L3.o_lt_f); omega) | ((with_reducible apply L3.o_le_t); omega) | ((with_reducible apply L3.o_le_f); omega) | ((with_reducible apply L3.o_gt_t); omega) | ((with_reducible apply L3.o_gt_f); omega) | ((with_reducible apply L3.o_ge_t); omega) | ((with_reducible apply L3.o_ge_f); omega) | ((with_reducible apply L3.o_eq_t); omega) | ((with_reducible apply L3.o_eq_f); omega) | ((with_reducible apply L3.o_ne_t); omega) | ((with_reducible apply L3.o_ne_f); omega) | ((with_reducible apply L3.o_eqs_t); exact rfl) | ((with_reducible apply L3.o_eqs_f); decide) | ((with_reducible apply L3.o_nes_f); exact rfl) | ((with_reducible apply L3.o_nes_t); decide) | ((with_reducible apply L3.o_mul1); omega) | ((with_reducible apply L3.o_mul2); omega) | ((with_reducible apply L3.o_mod); omega) | ((with_reducible apply L3.o_fdiv); omega) | ((with_reducible apply L3.inW_of'); omega) | ((with_reducible apply L3.o_fld); exact rfl) | ((with_reducible apply L3.fg_tup); (first | exact rfl | skip)) | ((with_reducible apply L3.o_append); first | assumption | (simp only [List.length_map] at *; omega)) | ((with_reducible apply L3.o_tup); exact le_size (by simp)) | ((with_reducible apply L3.o_lst); exact le_size (by simp)))
/-- the letter's act, as drawn and mended -/
theorem act_ok (ds : List Int) (hn : NN ds) (w s l a : Nat) (hw : w < 5) (hl : l < 7) (ha : a < 4) (R T i7 i8 i9 i10 i11 i12 : Option D) :
    ∃ (a' : Nat) (ds' : List Int), a' < 4 ∧ (l = 2 → a' < 2) ∧ NN ds' ∧ ∀ g : E → RS, fSeq (fIfS (ftB (f2 dEq (fVar 5) (fC (.str "H")))) (fSet 6 (f2 dIx (fL (dLim D.lst) (faC (fC (.str "keep")) (faC (fC (.str "drop")) (faN)))) (fCall m__law_take [some 0, none] (faC (fC .non) (faC (fC (.int 2)) (faN)))))) (RS.nx)) (fSeq (fIfS (ftAnd (ftB (f2 dEq (fVar 3) (fC (.int 4)))) (ftAnd (ftB (f2 dEq (fVar 5) (fC (.str "H")))) (ftB (f2 dEq (fVar 4) (fC (.int 0)))))) (fSet 6 (fC (.str "keep"))) (RS.nx)) g)
      [some (.lst (ds.map D.int)), R, T, some (.int (w : Nat)), some (.int (s : Nat)), some (.str (letO l)), some (.str (actO a)), i7, i8, i9, i10, i11, i12] = g [some (.lst (ds'.map D.int)), R, T, some (.int (w : Nat)), some (.int (s : Nat)), some (.str (letO l)), some (.str (actO a')), i7, i8, i9, i10, i11, i12] := by
  have hH := let_H hl
  by_cases h2 : l = 2
  · have hx : letO l = "H" := hH.mpr h2
    obtain ⟨t, ds1, g1, t0, t1, hn1⟩ := take_ok ds hn 2 (by decide)
    obtain ⟨b, rfl, hb⟩ := nat_of t0 t1
    have g2 := ix_B (a := b) (by omega)
    by_cases hw4 : w = 4
    · by_cases hs : s = 0
      · refine ⟨0, ds1, by decide, fun _ => by decide, hn1, fun g => ?_⟩
        repeat' (first | ((with_reducible apply L3.ca_mk); exact g1) | (with_reducible exact g2) | ((with_reducible apply L3.o_eqs_t); exact hx) | (with_reducible exact L3.v_c) | (with_reducible apply L3.v_var) | ((with_reducible apply L3.at_mk); exact rfl) | ((with_reducible apply L3.bt_mk); exact rfl) | (with_reducible exact L3.v_aN) | (with_reducible apply L3.st_z) | (with_reducible apply L3.st_s) | (with_reducible apply L3.fl_n) | (with_reducible apply L3.fl_d) | (with_reducible apply L3.fl_o) | (with_reducible apply L3.uf_n) | (with_reducible apply L3.uf_d) | (with_reducible apply L3.uf_o) | (with_reducible apply L3.v_aC) | (with_reducible apply L3.v_f2) | (with_reducible apply L3.v_f1) | (with_reducible apply L3.v_fL) | (with_reducible apply L3.z_seq) | (with_reducible apply L3.z_nx) | (with_reducible apply L3.z_set) | (with_reducible apply L3.z_drop) | (with_reducible apply L3.z_ret) | (with_reducible apply L3.z_retO) | (with_reducible apply L3.z_if) | (with_reducible apply L3.v_ite_t) | (with_reducible apply L3.v_ite_f) | (with_reducible apply L3.t_B) | (with_reducible apply L3.t_V) | (with_reducible apply L3.t_N) | (with_reducible apply L3.t_A) | (with_reducible apply L3.t_O) | (with_reducible apply L3.v_if) | (with_reducible apply L3.v_and) | (with_reducible apply L3.v_or) | (with_reducible apply L3.z_asg) | (with_reducible apply L3.z_par) | (with_reducible apply L3.z_for) | (with_reducible apply L3.v_mut) | (with_reducible apply L3.v_ixO) | (with_reducible apply L3.v_f1O) | (with_reducible apply L3.v_f2O) | (with_reducible apply L3.v_isiO) | (with_reducible apply L3.i_r1) | (with_reducible apply L3.i_r2) | (with_reducible apply L3.v_call) | (with_reducible apply L3.v_meth) | (with_reducible apply L3.v_callI) | (with_reducible apply L3.v_make) | (with_reducible apply L3.fg_name) | (with_reducible apply L3.fg_nil) | (with_reducible apply L3.fg_cons) | (with_reducible apply L3.v_bm) | (with_reducible exact L3.z_rt) | (with_reducible exact L3.z_n) | (with_reducible exact L3.z_ok) | (with_reducible exact L3.tr_bl) | (with_reducible exact L3.bn_t) | (with_reducible exact L3.bn_f) | (with_reducible exact L3.o_add) | (with_reducible exact L3.o_sub) | (with_reducible exact L3.o_int) | (with_reducible exact L3.o_lenl) | (with_reducible exact L3.o_lenk) | (with_reducible exact L3.o_lent) | (with_reducible exact L3.o_tuple_l) | (with_reducible exact L3.o_tuple_t) | (with_reducible exact L3.o_list_t) | (with_reducible exact L3.o_list_l) | (with_reducible exact L3.o_reverse) | (with_reducible exact L3.o_clear) | (with_reducible exact L3.o_ix0) | (with_reducible exact L3.o_ix1) | (with_reducible exact L3.o_lx0) | (with_reducible exact L3.o_isn) | (with_reducible exact L3.o_isnI) | (with_reducible exact L3.o_neg) | ((with_reducible apply L3.o_lt_t); omega) | ((with_reducible apply L3.o_lt_f); omega) | ((with_reducible apply L3.o_le_t); omega) | ((with_reducible apply L3.o_le_f); omega) | ((with_reducible apply L3.o_gt_t); omega) | ((with_reducible apply L3.o_gt_f); omega) | ((with_reducible apply L3.o_ge_t); omega) | ((with_reducible apply L3.o_ge_f); omega) | ((with_reducible apply L3.o_eq_t); omega) | ((with_reducible apply L3.o_eq_f); omega) | ((with_reducible apply L3.o_ne_t); omega) | ((with_reducible apply L3.o_ne_f); omega) | ((with_reducible apply L3.o_eqs_t); exact rfl) | ((with_reducible apply L3.o_eqs_f); decide) | ((with_reducible apply L3.o_nes_f); exact rfl) | ((with_reducible apply L3.o_nes_t); decide) | ((with_reducible apply L3.o_mul1); omega) | ((with_reducible apply L3.o_mul2); omega) | ((with_reducible apply L3.o_mod); omega) | ((with_reducible apply L3.o_fdiv); omega) | ((with_reducible apply L3.inW_of'); omega) | ((with_reducible apply L3.o_fld); exact rfl) | ((with_reducible apply L3.fg_tup); (first | exact rfl | skip)) | ((with_reducible apply L3.o_append); first | assumption | (simp only [List.length_map] at *; omega)) | ((with_reducible apply L3.o_tup); exact le_size (by simp)) | ((with_reducible apply L3.o_lst); exact le_size (by simp)))
        all_goals rfl
      · refine ⟨b, ds1, by omega, fun _ => by omega, hn1, fun g => ?_⟩
        repeat' (first | ((with_reducible apply L3.ca_mk); exact g1) | (with_reducible exact g2) | ((with_reducible apply L3.o_eqs_t); exact hx) | (with_reducible exact L3.v_c) | (with_reducible apply L3.v_var) | ((with_reducible apply L3.at_mk); exact rfl) | ((with_reducible apply L3.bt_mk); exact rfl) | (with_reducible exact L3.v_aN) | (with_reducible apply L3.st_z) | (with_reducible apply L3.st_s) | (with_reducible apply L3.fl_n) | (with_reducible apply L3.fl_d) | (with_reducible apply L3.fl_o) | (with_reducible apply L3.uf_n) | (with_reducible apply L3.uf_d) | (with_reducible apply L3.uf_o) | (with_reducible apply L3.v_aC) | (with_reducible apply L3.v_f2) | (with_reducible apply L3.v_f1) | (with_reducible apply L3.v_fL) | (with_reducible apply L3.z_seq) | (with_reducible apply L3.z_nx) | (with_reducible apply L3.z_set) | (with_reducible apply L3.z_drop) | (with_reducible apply L3.z_ret) | (with_reducible apply L3.z_retO) | (with_reducible apply L3.z_if) | (with_reducible apply L3.v_ite_t) | (with_reducible apply L3.v_ite_f) | (with_reducible apply L3.t_B) | (with_reducible apply L3.t_V) | (with_reducible apply L3.t_N) | (with_reducible apply L3.t_A) | (with_reducible apply L3.t_O) | (with_reducible apply L3.v_if) | (with_reducible apply L3.v_and) | (with_reducible apply L3.v_or) | (with_reducible apply L3.z_asg) | (with_reducible apply L3.z_par) | (with_reducible apply L3.z_for) | (with_reducible apply L3.v_mut) | (with_reducible apply L3.v_ixO) | (with_reducible apply L3.v_f1O) | (with_reducible apply L3.v_f2O) | (with_reducible apply L3.v_isiO) | (with_reducible apply L3.i_r1) | (with_reducible apply L3.i_r2) | (with_reducible apply L3.v_call) | (with_reducible apply L3.v_meth) | (with_reducible apply L3.v_callI) | (with_reducible apply L3.v_make) | (with_reducible apply L3.fg_name) | (with_reducible apply L3.fg_nil) | (with_reducible apply L3.fg_cons) | (with_reducible apply L3.v_bm) | (with_reducible exact L3.z_rt) | (with_reducible exact L3.z_n) | (with_reducible exact L3.z_ok) | (with_reducible exact L3.tr_bl) | (with_reducible exact L3.bn_t) | (with_reducible exact L3.bn_f) | (with_reducible exact L3.o_add) | (with_reducible exact L3.o_sub) | (with_reducible exact L3.o_int) | (with_reducible exact L3.o_lenl) | (with_reducible exact L3.o_lenk) | (with_reducible exact L3.o_lent) | (with_reducible exact L3.o_tuple_l) | (with_reducible exact L3.o_tuple_t) | (with_reducible exact L3.o_list_t) | (with_reducible exact L3.o_list_l) | (with_reducible exact L3.o_reverse) | (with_reducible exact L3.o_clear) | (with_reducible exact L3.o_ix0) | (with_reducible exact L3.o_ix1) | (with_reducible exact L3.o_lx0) | (with_reducible exact L3.o_isn) | (with_reducible exact L3.o_isnI) | (with_reducible exact L3.o_neg) | ((with_reducible apply L3.o_lt_t); omega) | ((with_reducible apply L3.o_lt_f); omega) | ((with_reducible apply L3.o_le_t); omega) | ((with_reducible apply L3.o_le_f); omega) | ((with_reducible apply L3.o_gt_t); omega) | ((with_reducible apply L3.o_gt_f); omega) | ((with_reducible apply L3.o_ge_t); omega) | ((with_reducible apply L3.o_ge_f); omega) | ((with_reducible apply L3.o_eq_t); omega) | ((with_reducible apply L3.o_eq_f); omega) | ((with_reducible apply L3.o_ne_t); omega) | ((with_reducible apply L3.o_ne_f); omega) | ((with_reducible apply L3.o_eqs_t); exact rfl) | ((with_reducible apply L3.o_eqs_f); decide) | ((with_reducible apply L3.o_nes_f); exact rfl) | ((with_reducible apply L3.o_nes_t); decide) | ((with_reducible apply L3.o_mul1); omega) | ((with_reducible apply L3.o_mul2); omega) | ((with_reducible apply L3.o_mod); omega) | ((with_reducible apply L3.o_fdiv); omega) | ((with_reducible apply L3.inW_of'); omega) | ((with_reducible apply L3.o_fld); exact rfl) | ((with_reducible apply L3.fg_tup); (first | exact rfl | skip)) | ((with_reducible apply L3.o_append); first | assumption | (simp only [List.length_map] at *; omega)) | ((with_reducible apply L3.o_tup); exact le_size (by simp)) | ((with_reducible apply L3.o_lst); exact le_size (by simp)))
        all_goals rfl
    · refine ⟨b, ds1, by omega, fun _ => by omega, hn1, fun g => ?_⟩
      repeat' (first | ((with_reducible apply L3.ca_mk); exact g1) | (with_reducible exact g2) | ((with_reducible apply L3.o_eqs_t); exact hx) | (with_reducible exact L3.v_c) | (with_reducible apply L3.v_var) | ((with_reducible apply L3.at_mk); exact rfl) | ((with_reducible apply L3.bt_mk); exact rfl) | (with_reducible exact L3.v_aN) | (with_reducible apply L3.st_z) | (with_reducible apply L3.st_s) | (with_reducible apply L3.fl_n) | (with_reducible apply L3.fl_d) | (with_reducible apply L3.fl_o) | (with_reducible apply L3.uf_n) | (with_reducible apply L3.uf_d) | (with_reducible apply L3.uf_o) | (with_reducible apply L3.v_aC) | (with_reducible apply L3.v_f2) | (with_reducible apply L3.v_f1) | (with_reducible apply L3.v_fL) | (with_reducible apply L3.z_seq) | (with_reducible apply L3.z_nx) | (with_reducible apply L3.z_set) | (with_reducible apply L3.z_drop) | (with_reducible apply L3.z_ret) | (with_reducible apply L3.z_retO) | (with_reducible apply L3.z_if) | (with_reducible apply L3.v_ite_t) | (with_reducible apply L3.v_ite_f) | (with_reducible apply L3.t_B) | (with_reducible apply L3.t_V) | (with_reducible apply L3.t_N) | (with_reducible apply L3.t_A) | (with_reducible apply L3.t_O) | (with_reducible apply L3.v_if) | (with_reducible apply L3.v_and) | (with_reducible apply L3.v_or) | (with_reducible apply L3.z_asg) | (with_reducible apply L3.z_par) | (with_reducible apply L3.z_for) | (with_reducible apply L3.v_mut) | (with_reducible apply L3.v_ixO) | (with_reducible apply L3.v_f1O) | (with_reducible apply L3.v_f2O) | (with_reducible apply L3.v_isiO) | (with_reducible apply L3.i_r1) | (with_reducible apply L3.i_r2) | (with_reducible apply L3.v_call) | (with_reducible apply L3.v_meth) | (with_reducible apply L3.v_callI) | (with_reducible apply L3.v_make) | (with_reducible apply L3.fg_name) | (with_reducible apply L3.fg_nil) | (with_reducible apply L3.fg_cons) | (with_reducible apply L3.v_bm) | (with_reducible exact L3.z_rt) | (with_reducible exact L3.z_n) | (with_reducible exact L3.z_ok) | (with_reducible exact L3.tr_bl) | (with_reducible exact L3.bn_t) | (with_reducible exact L3.bn_f) | (with_reducible exact L3.o_add) | (with_reducible exact L3.o_sub) | (with_reducible exact L3.o_int) | (with_reducible exact L3.o_lenl) | (with_reducible exact L3.o_lenk) | (with_reducible exact L3.o_lent) | (with_reducible exact L3.o_tuple_l) | (with_reducible exact L3.o_tuple_t) | (with_reducible exact L3.o_list_t) | (with_reducible exact L3.o_list_l) | (with_reducible exact L3.o_reverse) | (with_reducible exact L3.o_clear) | (with_reducible exact L3.o_ix0) | (with_reducible exact L3.o_ix1) | (with_reducible exact L3.o_lx0) | (with_reducible exact L3.o_isn) | (with_reducible exact L3.o_isnI) | (with_reducible exact L3.o_neg) | ((with_reducible apply L3.o_lt_t); omega) | ((with_reducible apply L3.o_lt_f); omega) | ((with_reducible apply L3.o_le_t); omega) | ((with_reducible apply L3.o_le_f); omega) | ((with_reducible apply L3.o_gt_t); omega) | ((with_reducible apply L3.o_gt_f); omega) | ((with_reducible apply L3.o_ge_t); omega) | ((with_reducible apply L3.o_ge_f); omega) | ((with_reducible apply L3.o_eq_t); omega) | ((with_reducible apply L3.o_eq_f); omega) | ((with_reducible apply L3.o_ne_t); omega) | ((with_reducible apply L3.o_ne_f); omega) | ((with_reducible apply L3.o_eqs_t); exact rfl) | ((with_reducible apply L3.o_eqs_f); decide) | ((with_reducible apply L3.o_nes_f); exact rfl) | ((with_reducible apply L3.o_nes_t); decide) | ((with_reducible apply L3.o_mul1); omega) | ((with_reducible apply L3.o_mul2); omega) | ((with_reducible apply L3.o_mod); omega) | ((with_reducible apply L3.o_fdiv); omega) | ((with_reducible apply L3.inW_of'); omega) | ((with_reducible apply L3.o_fld); exact rfl) | ((with_reducible apply L3.fg_tup); (first | exact rfl | skip)) | ((with_reducible apply L3.o_append); first | assumption | (simp only [List.length_map] at *; omega)) | ((with_reducible apply L3.o_tup); exact le_size (by simp)) | ((with_reducible apply L3.o_lst); exact le_size (by simp)))
      all_goals rfl
  · have hx : letO l ≠ "H" := fun z => h2 (hH.mp z)
    refine ⟨a, ds, ha, fun z => absurd z h2, hn, fun g => ?_⟩
    by_cases hw4 : w = 4
    · repeat' (first | ((with_reducible apply L3.o_eqs_f); exact hx) | (with_reducible exact L3.v_c) | (with_reducible apply L3.v_var) | ((with_reducible apply L3.at_mk); exact rfl) | ((with_reducible apply L3.bt_mk); exact rfl) | (with_reducible exact L3.v_aN) | (with_reducible apply L3.st_z) | (with_reducible apply L3.st_s) | (with_reducible apply L3.fl_n) | (with_reducible apply L3.fl_d) | (with_reducible apply L3.fl_o) | (with_reducible apply L3.uf_n) | (with_reducible apply L3.uf_d) | (with_reducible apply L3.uf_o) | (with_reducible apply L3.v_aC) | (with_reducible apply L3.v_f2) | (with_reducible apply L3.v_f1) | (with_reducible apply L3.v_fL) | (with_reducible apply L3.z_seq) | (with_reducible apply L3.z_nx) | (with_reducible apply L3.z_set) | (with_reducible apply L3.z_drop) | (with_reducible apply L3.z_ret) | (with_reducible apply L3.z_retO) | (with_reducible apply L3.z_if) | (with_reducible apply L3.v_ite_t) | (with_reducible apply L3.v_ite_f) | (with_reducible apply L3.t_B) | (with_reducible apply L3.t_V) | (with_reducible apply L3.t_N) | (with_reducible apply L3.t_A) | (with_reducible apply L3.t_O) | (with_reducible apply L3.v_if) | (with_reducible apply L3.v_and) | (with_reducible apply L3.v_or) | (with_reducible apply L3.z_asg) | (with_reducible apply L3.z_par) | (with_reducible apply L3.z_for) | (with_reducible apply L3.v_mut) | (with_reducible apply L3.v_ixO) | (with_reducible apply L3.v_f1O) | (with_reducible apply L3.v_f2O) | (with_reducible apply L3.v_isiO) | (with_reducible apply L3.i_r1) | (with_reducible apply L3.i_r2) | (with_reducible apply L3.v_call) | (with_reducible apply L3.v_meth) | (with_reducible apply L3.v_callI) | (with_reducible apply L3.v_make) | (with_reducible apply L3.fg_name) | (with_reducible apply L3.fg_nil) | (with_reducible apply L3.fg_cons) | (with_reducible apply L3.v_bm) | (with_reducible exact L3.z_rt) | (with_reducible exact L3.z_n) | (with_reducible exact L3.z_ok) | (with_reducible exact L3.tr_bl) | (with_reducible exact L3.bn_t) | (with_reducible exact L3.bn_f) | (with_reducible exact L3.o_add) | (with_reducible exact L3.o_sub) | (with_reducible exact L3.o_int) | (with_reducible exact L3.o_lenl) | (with_reducible exact L3.o_lenk) | (with_reducible exact L3.o_lent) | (with_reducible exact L3.o_tuple_l) | (with_reducible exact L3.o_tuple_t) | (with_reducible exact L3.o_list_t) | (with_reducible exact L3.o_list_l) | (with_reducible exact L3.o_reverse) | (with_reducible exact L3.o_clear) | (with_reducible exact L3.o_ix0) | (with_reducible exact L3.o_ix1) | (with_reducible exact L3.o_lx0) | (with_reducible exact L3.o_isn) | (with_reducible exact L3.o_isnI) | (with_reducible exact L3.o_neg) | ((with_reducible apply L3.o_lt_t); omega) | ((with_reducible apply L3.o_lt_f); omega) | ((with_reducible apply L3.o_le_t); omega) | ((with_reducible apply L3.o_le_f); omega) | ((with_reducible apply L3.o_gt_t); omega) | ((with_reducible apply L3.o_gt_f); omega) | ((with_reducible apply L3.o_ge_t); omega) | ((with_reducible apply L3.o_ge_f); omega) | ((with_reducible apply L3.o_eq_t); omega) | ((with_reducible apply L3.o_eq_f); omega) | ((with_reducible apply L3.o_ne_t); omega) | ((with_reducible apply L3.o_ne_f); omega) | ((with_reducible apply L3.o_eqs_t); exact rfl) | ((with_reducible apply L3.o_eqs_f); decide) | ((with_reducible apply L3.o_nes_f); exact rfl) | ((with_reducible apply L3.o_nes_t); decide) | ((with_reducible apply L3.o_mul1); omega) | ((with_reducible apply L3.o_mul2); omega) | ((with_reducible apply L3.o_mod); omega) | ((with_reducible apply L3.o_fdiv); omega) | ((with_reducible apply L3.inW_of'); omega) | ((with_reducible apply L3.o_fld); exact rfl) | ((with_reducible apply L3.fg_tup); (first | exact rfl | skip)) | ((with_reducible apply L3.o_append); first | assumption | (simp only [List.length_map] at *; omega)) | ((with_reducible apply L3.o_tup); exact le_size (by simp)) | ((with_reducible apply L3.o_lst); exact le_size (by simp)))
      all_goals rfl
    · repeat' (first | ((with_reducible apply L3.o_eqs_f); exact hx) | (with_reducible exact L3.v_c) | (with_reducible apply L3.v_var) | ((with_reducible apply L3.at_mk); exact rfl) | ((with_reducible apply L3.bt_mk); exact rfl) | (with_reducible exact L3.v_aN) | (with_reducible apply L3.st_z) | (with_reducible apply L3.st_s) | (with_reducible apply L3.fl_n) | (with_reducible apply L3.fl_d) | (with_reducible apply L3.fl_o) | (with_reducible apply L3.uf_n) | (with_reducible apply L3.uf_d) | (with_reducible apply L3.uf_o) | (with_reducible apply L3.v_aC) | (with_reducible apply L3.v_f2) | (with_reducible apply L3.v_f1) | (with_reducible apply L3.v_fL) | (with_reducible apply L3.z_seq) | (with_reducible apply L3.z_nx) | (with_reducible apply L3.z_set) | (with_reducible apply L3.z_drop) | (with_reducible apply L3.z_ret) | (with_reducible apply L3.z_retO) | (with_reducible apply L3.z_if) | (with_reducible apply L3.v_ite_t) | (with_reducible apply L3.v_ite_f) | (with_reducible apply L3.t_B) | (with_reducible apply L3.t_V) | (with_reducible apply L3.t_N) | (with_reducible apply L3.t_A) | (with_reducible apply L3.t_O) | (with_reducible apply L3.v_if) | (with_reducible apply L3.v_and) | (with_reducible apply L3.v_or) | (with_reducible apply L3.z_asg) | (with_reducible apply L3.z_par) | (with_reducible apply L3.z_for) | (with_reducible apply L3.v_mut) | (with_reducible apply L3.v_ixO) | (with_reducible apply L3.v_f1O) | (with_reducible apply L3.v_f2O) | (with_reducible apply L3.v_isiO) | (with_reducible apply L3.i_r1) | (with_reducible apply L3.i_r2) | (with_reducible apply L3.v_call) | (with_reducible apply L3.v_meth) | (with_reducible apply L3.v_callI) | (with_reducible apply L3.v_make) | (with_reducible apply L3.fg_name) | (with_reducible apply L3.fg_nil) | (with_reducible apply L3.fg_cons) | (with_reducible apply L3.v_bm) | (with_reducible exact L3.z_rt) | (with_reducible exact L3.z_n) | (with_reducible exact L3.z_ok) | (with_reducible exact L3.tr_bl) | (with_reducible exact L3.bn_t) | (with_reducible exact L3.bn_f) | (with_reducible exact L3.o_add) | (with_reducible exact L3.o_sub) | (with_reducible exact L3.o_int) | (with_reducible exact L3.o_lenl) | (with_reducible exact L3.o_lenk) | (with_reducible exact L3.o_lent) | (with_reducible exact L3.o_tuple_l) | (with_reducible exact L3.o_tuple_t) | (with_reducible exact L3.o_list_t) | (with_reducible exact L3.o_list_l) | (with_reducible exact L3.o_reverse) | (with_reducible exact L3.o_clear) | (with_reducible exact L3.o_ix0) | (with_reducible exact L3.o_ix1) | (with_reducible exact L3.o_lx0) | (with_reducible exact L3.o_isn) | (with_reducible exact L3.o_isnI) | (with_reducible exact L3.o_neg) | ((with_reducible apply L3.o_lt_t); omega) | ((with_reducible apply L3.o_lt_f); omega) | ((with_reducible apply L3.o_le_t); omega) | ((with_reducible apply L3.o_le_f); omega) | ((with_reducible apply L3.o_gt_t); omega) | ((with_reducible apply L3.o_gt_f); omega) | ((with_reducible apply L3.o_ge_t); omega) | ((with_reducible apply L3.o_ge_f); omega) | ((with_reducible apply L3.o_eq_t); omega) | ((with_reducible apply L3.o_eq_f); omega) | ((with_reducible apply L3.o_ne_t); omega) | ((with_reducible apply L3.o_ne_f); omega) | ((with_reducible apply L3.o_eqs_t); exact rfl) | ((with_reducible apply L3.o_eqs_f); decide) | ((with_reducible apply L3.o_nes_f); exact rfl) | ((with_reducible apply L3.o_nes_t); decide) | ((with_reducible apply L3.o_mul1); omega) | ((with_reducible apply L3.o_mul2); omega) | ((with_reducible apply L3.o_mod); omega) | ((with_reducible apply L3.o_fdiv); omega) | ((with_reducible apply L3.inW_of'); omega) | ((with_reducible apply L3.o_fld); exact rfl) | ((with_reducible apply L3.fg_tup); (first | exact rfl | skip)) | ((with_reducible apply L3.o_append); first | assumption | (simp only [List.length_map] at *; omega)) | ((with_reducible apply L3.o_tup); exact le_size (by simp)) | ((with_reducible apply L3.o_lst); exact le_size (by simp)))
      all_goals rfl
theorem tb_pos {w : Nat} (hw : w < 5) : 0 < (tb w).length := (wf_tb hw).pos
theorem ex_ok (ds : List Int) (hn : NN ds) : ∃ ds' : List Int, m__law_exchanged [.lst (ds.map D.int), .lst RD, TD] = .ok (.bl true) [some (.lst (ds'.map D.int)), none, none] := by
  obtain ⟨t1, d1, g1, p1, q1, n1⟩ := take_ok ds hn 5 (by decide)
  obtain ⟨w, rfl, hw⟩ := nat_of p1 q1
  have hw' : w < 5 := by omega
  have hT := ix_TD hw'
  have hR := ix_RD hw'
  have hp := tb_pos hw'
  have hlen : dLen [tbL (tb w)] = some (.int ((tb w).length : Nat)) := by
    show some (D.int (((tb w).map fun st => D.lst (stD st)).length : Nat)) = _
    rw [List.length_map]
  obtain ⟨t2, d2, g2, p2, q2, n2⟩ := take_ok d1 n1 ((tb w).length : Nat) (by omega)
  obtain ⟨s, rfl, hs⟩ := nat_of p2 q2
  obtain ⟨t3, d3, g3, p3, q3, n3⟩ := take_ok d2 n2 7 (by decide)
  obtain ⟨l, rfl, hl⟩ := nat_of p3 q3
  have hl' : l < 7 := by omega
  have hL := ix_L hl'
  obtain ⟨t4, d4, g4, p4, q4, n4⟩ := take_ok d3 n3 4 (by decide)
  obtain ⟨a, rfl, ha⟩ := nat_of p4 q4
  have ha' : a < 4 := by omega
  have hA := ix_A ha'
  obtain ⟨b, d5, hb, hb2, n5, g5⟩ := act_ok d4 n4 w s l a hw' hl' ha' (some (.lst RD)) (some TD) none none none none none none
  obtain ⟨t6, d6, g6, p6, q6, n6⟩ := take_ok d5 n5 ((tb w).length : Nat) (by omega)
  obtain ⟨t, rfl, ht⟩ := nat_of p6 q6
  obtain ⟨g7, W'⟩ := entry_set (w := w) (s := s) (l := l) (a := b) (t := t) hw' (by omega) hl' hb (by omega) hb2
  obtain ⟨ρ', h1, d7, i8, i9, i10, i11, i12, rfl, n7⟩ := forF_inv (set := hName 8) (body := lp__law_exchanged_1) (I := fun ρ => ∃ ds i8 i9 i10 i11 i12, ρ = [some (.lst (List.map D.int ds)), some (.lst RD), some TD, some (.int (w : Nat)), some (.int (s : Nat)), some (.str (letO l)), some (.str (actO b)), some (rdr (setE (tb w) s (l + 1) (actO b, t)) ""), i8, i9, i10, i11, i12] ∧ NN ds) (rngD 0 4) [some (.lst (d6.map D.int)), some (.lst RD), some TD, some (.int (w : Nat)), some (.int (s : Nat)), some (.str (letO l)), some (.str (actO b)), some (rdr (setE (tb w) s (l + 1) (actO b, t)) ""), none, none, none, none, none] (fun d hd ρ hI => by
    obtain ⟨ds, i8, i9, i10, i11, i12, rfl, hn⟩ := hI
    obtain ⟨ds', b9, b10, b11, b12, e, hn'⟩ := turn_ok ds hn w s l hw' hl' (actO b, t) W' (some (.lst RD)) (some (.str (actO b))) i9 i10 i11 i12 d
    exact ⟨_, rfl, _, .inl e, ds', _, _, _, _, _, rfl, hn'⟩) ⟨d6, _, _, _, _, _, rfl, n6⟩
  refine ⟨d7, m_rt (ρ := [some (.lst (d7.map D.int)), some (.lst RD), some TD, some (.int (w : Nat)), some (.int (s : Nat)), some (.str (letO l)), some (.str (actO b)), some (rdr (setE (tb w) s (l + 1) (actO b, t)) ""), i8, i9, i10, i11, i12]) ?_⟩
  have k1 : m__law_letters [] = .ok L8D [] := rfl
  unfold bd__law_exchanged
  simp only [List.getElem?_cons_zero, List.getElem?_cons_succ, List.set_cons_zero, List.set_cons_succ, List.map_cons, List.map_nil, List.replicate, List.cons_append, List.nil_append]
  repeat' (first | ((with_reducible apply L3.ca_mk (m := m__law_letters)); exact k1) | ((with_reducible apply L3.ca_mk (m := m__law_take)); (first | (with_reducible exact g1) | (with_reducible exact g2) | (with_reducible exact g3) | (with_reducible exact g4) | (with_reducible exact g6))) | ((with_reducible apply L3.ca_mk (m := m_with_entry)); exact g7) | (with_reducible exact hT) | (with_reducible exact hR) | (with_reducible exact hlen) | (with_reducible exact hL) | (with_reducible exact hA) | ((with_reducible apply L3.lp_mk); exact h1) | (with_reducible refine (g5 _).trans ?_) | (with_reducible exact L3.v_c) | (with_reducible apply L3.v_var) | ((with_reducible apply L3.at_mk); exact rfl) | ((with_reducible apply L3.bt_mk); exact rfl) | (with_reducible exact L3.v_aN) | (with_reducible apply L3.st_z) | (with_reducible apply L3.st_s) | (with_reducible apply L3.fl_n) | (with_reducible apply L3.fl_d) | (with_reducible apply L3.fl_o) | (with_reducible apply L3.uf_n) | (with_reducible apply L3.uf_d) | (with_reducible apply L3.uf_o) | (with_reducible apply L3.v_aC) | (with_reducible apply L3.v_f2) | (with_reducible apply L3.v_f1) | (with_reducible apply L3.v_fL) | (with_reducible apply L3.z_seq) | (with_reducible apply L3.z_nx) | (with_reducible apply L3.z_set) | (with_reducible apply L3.z_drop) | (with_reducible apply L3.z_ret) | (with_reducible apply L3.z_retO) | (with_reducible apply L3.z_if) | (with_reducible apply L3.v_ite_t) | (with_reducible apply L3.v_ite_f) | (with_reducible apply L3.t_B) | (with_reducible apply L3.t_V) | (with_reducible apply L3.t_N) | (with_reducible apply L3.t_A) | (with_reducible apply L3.t_O) | (with_reducible apply L3.v_if) | (with_reducible apply L3.v_and) | (with_reducible apply L3.v_or) | (with_reducible apply L3.z_asg) | (with_reducible apply L3.z_par) | (with_reducible apply L3.z_for) | (with_reducible apply L3.v_mut) | (with_reducible apply L3.v_ixO) | (with_reducible apply L3.v_f1O) | (with_reducible apply L3.v_f2O) | (with_reducible apply L3.v_isiO) | (with_reducible apply L3.i_r1) | (with_reducible apply L3.i_r2) | (with_reducible apply L3.v_call) | (with_reducible apply L3.v_meth) | (with_reducible apply L3.v_callI) | (with_reducible apply L3.v_make) | (with_reducible apply L3.fg_name) | (with_reducible apply L3.fg_nil) | (with_reducible apply L3.fg_cons) | (with_reducible apply L3.v_bm) | (with_reducible exact L3.z_rt) | (with_reducible exact L3.z_n) | (with_reducible exact L3.z_ok) | (with_reducible exact L3.tr_bl) | (with_reducible exact L3.bn_t) | (with_reducible exact L3.bn_f) | (with_reducible exact L3.o_add) | (with_reducible exact L3.o_sub) | (with_reducible exact L3.o_int) | (with_reducible exact L3.o_lenl) | (with_reducible exact L3.o_lenk) | (with_reducible exact L3.o_lent) | (with_reducible exact L3.o_tuple_l) | (with_reducible exact L3.o_tuple_t) | (with_reducible exact L3.o_list_t) | (with_reducible exact L3.o_list_l) | (with_reducible exact L3.o_reverse) | (with_reducible exact L3.o_clear) | (with_reducible exact L3.o_ix0) | (with_reducible exact L3.o_ix1) | (with_reducible exact L3.o_lx0) | (with_reducible exact L3.o_isn) | (with_reducible exact L3.o_isnI) | (with_reducible exact L3.o_neg) | ((with_reducible apply L3.o_lt_t); omega) | ((with_reducible apply L3.o_lt_f); omega) | ((with_reducible apply L3.o_le_t); omega) | ((with_reducible apply L3.o_le_f); omega) | ((with_reducible apply L3.o_gt_t); omega) | ((with_reducible apply L3.o_gt_f); omega) | ((with_reducible apply L3.o_ge_t); omega) | ((with_reducible apply L3.o_ge_f); omega) | ((with_reducible apply L3.o_eq_t); omega) | ((with_reducible apply L3.o_eq_f); omega) | ((with_reducible apply L3.o_ne_t); omega) | ((with_reducible apply L3.o_ne_f); omega) | ((with_reducible apply L3.o_eqs_t); exact rfl) | ((with_reducible apply L3.o_eqs_f); decide) | ((with_reducible apply L3.o_nes_f); exact rfl) | ((with_reducible apply L3.o_nes_t); decide) | ((with_reducible apply L3.o_mul1); omega) | ((with_reducible apply L3.o_mul2); omega) | ((with_reducible apply L3.o_mod); omega) | ((with_reducible apply L3.o_fdiv); omega) | ((with_reducible apply L3.inW_of'); omega) | ((with_reducible apply L3.o_fld); exact rfl) | ((with_reducible apply L3.fg_tup); (first | exact rfl | skip)) | ((with_reducible apply L3.o_append); first | assumption | (simp only [List.length_map] at *; omega)) | ((with_reducible apply L3.o_tup); exact le_size (by simp)) | ((with_reducible apply L3.o_lst); exact le_size (by simp)))
end Law

namespace Law
open PySem PySem.Spec PyProof.Rows L2 L3
theorem is_ok {w : Nat} (hw : w < 5) : m__law_reader_is [rdr (tb w) (nmO w), tbL (tb w), .str (nmO w)] = .ok (.bl true) [none, none, none] := by
  match w, hw with
  | 0, _ => exact is0
  | 1, _ => exact is1
  | 2, _ => exact is2
  | 3, _ => exact is3
  | 4, _ => exact is4
  | n + 5, h => omega
abbrev NMD : D := .lst [.str "by table", .str "through", .str "both ways", .str "careful", .str "adopting"]
theorem names_ok : m__law_names [] = .ok NMD [] := rfl
theorem ix_N {w : Nat} (hw : w < 5) : dIx NMD (.int (w : Nat)) = some (.str (nmO w)) := by
  rw [dIx_nat]
  match w, hw with
  | 0, _ => rfl
  | 1, _ => rfl
  | 2, _ => rfl
  | 3, _ => rfl
  | 4, _ => rfl
  | n + 5, h => omega
abbrev lessL : List (List Str) := [[], ["P"], ["B"], ["X"], ["H"], ["TB"], ["T1"], ["T2"], ["TX"], ["P", "P"], ["P", "B"], ["P", "X"], ["P", "H"], ["P", "TB"], ["P", "T1"], ["P", "T2"]]
theorem less_ok : m__law_lesser [.lst [.str "P", .str "TX"]] = .ok (.lst (lessL.map fun r => .lst (rowS r))) [none] := by kernel_rfl
theorem less_menu : ∀ r ∈ lessL, r.length ≤ 60 ∧ ∀ c ∈ r, c ∈ L8 := by decide +kernel
theorem law_true (ns : List Int) (h : ns.length ≤ 63) : ∃ ρ, m_law [.lsk (ns.map D.int)] = .ok (.bl true) ρ := by
  obtain ⟨S, hS⟩ : ∃ S, S = D.lsk (ns.map D.int) := ⟨_, rfl⟩
  obtain ⟨d1, g1, n1⟩ := draws_ok ns
  rw [← hS] at g1 ⊢
  obtain ⟨ρ1, h1, k1, rfl⟩ := forF_inv (set := hName 5) (body := lp_law_1) (I := fun ρ => ∃ k, ρ = [some S, some (.lst (d1.map D.int)), some TD, some (.lst RD), some (.lst RD), k, none, none]) (rngD 0 5) [some S, some (.lst (d1.map D.int)), some TD, some (.lst RD), some (.lst RD), none, none, none] (fun d hd ρ hI => by
    obtain ⟨i, hi⟩ := List.mem_iff_getElem?.mp hd
    obtain ⟨hi5, rfl⟩ := rngD_at hi
    obtain ⟨k, rfl⟩ := hI
    refine ⟨_, rfl, ?_⟩
    simp only [List.set_cons_succ, List.set_cons_zero, Int.zero_add]
    have a1 := is_ok hi5
    have a2 := ix_RD hi5
    have a3 := ix_TD hi5
    have a4 := ix_N hi5
    have a5 := names_ok
    refine ⟨[some S, some (.lst (d1.map D.int)), some TD, some (.lst RD), some (.lst RD), some (.int (i : Nat)), none, none], .inl ?_, _, rfl⟩
    unfold lp_law_1
    repeat' (first | ((with_reducible apply L3.ca_mk (m := m__law_names)); exact a5) | ((with_reducible apply L3.ca_mk (m := m__law_reader_is)); exact a1) | (with_reducible exact a2) | (with_reducible exact a3) | (with_reducible exact a4) | (with_reducible exact L3.v_c) | (with_reducible apply L3.v_var) | ((with_reducible apply L3.at_mk); exact rfl) | ((with_reducible apply L3.bt_mk); exact rfl) | (with_reducible exact L3.v_aN) | (with_reducible apply L3.st_z) | (with_reducible apply L3.st_s) | (with_reducible apply L3.fl_n) | (with_reducible apply L3.fl_d) | (with_reducible apply L3.fl_o) | (with_reducible apply L3.uf_n) | (with_reducible apply L3.uf_d) | (with_reducible apply L3.uf_o) | (with_reducible apply L3.v_aC) | (with_reducible apply L3.v_f2) | (with_reducible apply L3.v_f1) | (with_reducible apply L3.v_fL) | (with_reducible apply L3.z_seq) | (with_reducible apply L3.z_nx) | (with_reducible apply L3.z_set) | (with_reducible apply L3.z_drop) | (with_reducible apply L3.z_ret) | (with_reducible apply L3.z_retO) | (with_reducible apply L3.z_if) | (with_reducible apply L3.v_ite_t) | (with_reducible apply L3.v_ite_f) | (with_reducible apply L3.t_B) | (with_reducible apply L3.t_V) | (with_reducible apply L3.t_N) | (with_reducible apply L3.t_A) | (with_reducible apply L3.t_O) | (with_reducible apply L3.v_if) | (with_reducible apply L3.v_and) | (with_reducible apply L3.v_or) | (with_reducible apply L3.z_asg) | (with_reducible apply L3.z_par) | (with_reducible apply L3.z_for) | (with_reducible apply L3.v_mut) | (with_reducible apply L3.v_ixO) | (with_reducible apply L3.v_f1O) | (with_reducible apply L3.v_f2O) | (with_reducible apply L3.v_isiO) | (with_reducible apply L3.i_r1) | (with_reducible apply L3.i_r2) | (with_reducible apply L3.v_call) | (with_reducible apply L3.v_meth) | (with_reducible apply L3.v_callI) | (with_reducible apply L3.v_make) | (with_reducible apply L3.fg_name) | (with_reducible apply L3.fg_nil) | (with_reducible apply L3.fg_cons) | (with_reducible apply L3.v_bm) | (with_reducible exact L3.z_rt) | (with_reducible exact L3.z_n) | (with_reducible exact L3.z_ok) | (with_reducible exact L3.tr_bl) | (with_reducible exact L3.bn_t) | (with_reducible exact L3.bn_f) | (with_reducible exact L3.o_add) | (with_reducible exact L3.o_sub) | (with_reducible exact L3.o_int) | (with_reducible exact L3.o_lenl) | (with_reducible exact L3.o_lenk) | (with_reducible exact L3.o_lent) | (with_reducible exact L3.o_tuple_l) | (with_reducible exact L3.o_tuple_t) | (with_reducible exact L3.o_list_t) | (with_reducible exact L3.o_list_l) | (with_reducible exact L3.o_reverse) | (with_reducible exact L3.o_clear) | (with_reducible exact L3.o_ix0) | (with_reducible exact L3.o_ix1) | (with_reducible exact L3.o_lx0) | (with_reducible exact L3.o_isn) | (with_reducible exact L3.o_isnI) | (with_reducible exact L3.o_neg) | ((with_reducible apply L3.o_lt_t); omega) | ((with_reducible apply L3.o_lt_f); omega) | ((with_reducible apply L3.o_le_t); omega) | ((with_reducible apply L3.o_le_f); omega) | ((with_reducible apply L3.o_gt_t); omega) | ((with_reducible apply L3.o_gt_f); omega) | ((with_reducible apply L3.o_ge_t); omega) | ((with_reducible apply L3.o_ge_f); omega) | ((with_reducible apply L3.o_eq_t); omega) | ((with_reducible apply L3.o_eq_f); omega) | ((with_reducible apply L3.o_ne_t); omega) | ((with_reducible apply L3.o_ne_f); omega) | ((with_reducible apply L3.o_eqs_t); exact rfl) | ((with_reducible apply L3.o_eqs_f); decide) | ((with_reducible apply L3.o_nes_f); exact rfl) | ((with_reducible apply L3.o_nes_t); decide) | ((with_reducible apply L3.o_mul1); omega) | ((with_reducible apply L3.o_mul2); omega) | ((with_reducible apply L3.o_mod); omega) | ((with_reducible apply L3.o_fdiv); omega) | ((with_reducible apply L3.inW_of'); omega) | ((with_reducible apply L3.o_fld); exact rfl) | ((with_reducible apply L3.fg_tup); (first | exact rfl | skip)) | ((with_reducible apply L3.o_append); first | assumption | (simp only [List.length_map] at *; omega)) | ((with_reducible apply L3.o_tup); exact le_size (by simp)) | ((with_reducible apply L3.o_lst); exact le_size (by simp)))) ⟨none, rfl⟩
  obtain ⟨row, d2, g2, hm, hl, n2⟩ := drawn_ok d1 n1 20 (by decide) (by decide)
  have hl60 : row.length ≤ 60 := by omega
  have inner : ∀ (i : Nat) (hi : i < 5) (x0 : Option D), ∃ x, forF (hName 7) lp_law_3 (lessL.map fun r => .lst (rowS r)) [some S, some (.lst (d2.map D.int)), some TD, some (.lst RD), some (.lst RD), some (.int (i : Nat)), some (.lst (rowS row)), x0] = .nx [some S, some (.lst (d2.map D.int)), some TD, some (.lst RD), some (.lst RD), some (.int (i : Nat)), some (.lst (rowS row)), x] := fun i hi x0 => by
    obtain ⟨ρ', h1, x, rfl⟩ := forF_inv (set := hName 7) (body := lp_law_3) (I := fun ρ => ∃ x, ρ = [some S, some (.lst (d2.map D.int)), some TD, some (.lst RD), some (.lst RD), some (.int (i : Nat)), some (.lst (rowS row)), x]) (lessL.map fun r => .lst (rowS r)) [some S, some (.lst (d2.map D.int)), some TD, some (.lst RD), some (.lst RD), some (.int (i : Nat)), some (.lst (rowS row)), x0] (fun d hd ρ hI => by
      obtain ⟨r, hr, rfl⟩ := List.mem_map.mp hd
      obtain ⟨x, rfl⟩ := hI
      obtain ⟨q1, q2⟩ := less_menu r hr
      refine ⟨_, rfl, ?_⟩
      simp only [List.set_cons_succ, List.set_cons_zero]
      have a1 := held_is_ok (tb i) (wf_tb hi) (nmO i) r (fun c hc => .inl (q2 c hc)) q1
      have a2 := ix_RD hi
      have a3 := ix_TD hi
      refine ⟨[some S, some (.lst (d2.map D.int)), some TD, some (.lst RD), some (.lst RD), some (.int (i : Nat)), some (.lst (rowS row)), some (.lst (rowS r))], .inl ?_, _, rfl⟩
      unfold lp_law_3
      repeat' (first | ((with_reducible apply L3.ca_mk (m := m__law_held_is)); exact a1) | (with_reducible exact a2) | (with_reducible exact a3) | (with_reducible exact L3.v_c) | (with_reducible apply L3.v_var) | ((with_reducible apply L3.at_mk); exact rfl) | ((with_reducible apply L3.bt_mk); exact rfl) | (with_reducible exact L3.v_aN) | (with_reducible apply L3.st_z) | (with_reducible apply L3.st_s) | (with_reducible apply L3.fl_n) | (with_reducible apply L3.fl_d) | (with_reducible apply L3.fl_o) | (with_reducible apply L3.uf_n) | (with_reducible apply L3.uf_d) | (with_reducible apply L3.uf_o) | (with_reducible apply L3.v_aC) | (with_reducible apply L3.v_f2) | (with_reducible apply L3.v_f1) | (with_reducible apply L3.v_fL) | (with_reducible apply L3.z_seq) | (with_reducible apply L3.z_nx) | (with_reducible apply L3.z_set) | (with_reducible apply L3.z_drop) | (with_reducible apply L3.z_ret) | (with_reducible apply L3.z_retO) | (with_reducible apply L3.z_if) | (with_reducible apply L3.v_ite_t) | (with_reducible apply L3.v_ite_f) | (with_reducible apply L3.t_B) | (with_reducible apply L3.t_V) | (with_reducible apply L3.t_N) | (with_reducible apply L3.t_A) | (with_reducible apply L3.t_O) | (with_reducible apply L3.v_if) | (with_reducible apply L3.v_and) | (with_reducible apply L3.v_or) | (with_reducible apply L3.z_asg) | (with_reducible apply L3.z_par) | (with_reducible apply L3.z_for) | (with_reducible apply L3.v_mut) | (with_reducible apply L3.v_ixO) | (with_reducible apply L3.v_f1O) | (with_reducible apply L3.v_f2O) | (with_reducible apply L3.v_isiO) | (with_reducible apply L3.i_r1) | (with_reducible apply L3.i_r2) | (with_reducible apply L3.v_call) | (with_reducible apply L3.v_meth) | (with_reducible apply L3.v_callI) | (with_reducible apply L3.v_make) | (with_reducible apply L3.fg_name) | (with_reducible apply L3.fg_nil) | (with_reducible apply L3.fg_cons) | (with_reducible apply L3.v_bm) | (with_reducible exact L3.z_rt) | (with_reducible exact L3.z_n) | (with_reducible exact L3.z_ok) | (with_reducible exact L3.tr_bl) | (with_reducible exact L3.bn_t) | (with_reducible exact L3.bn_f) | (with_reducible exact L3.o_add) | (with_reducible exact L3.o_sub) | (with_reducible exact L3.o_int) | (with_reducible exact L3.o_lenl) | (with_reducible exact L3.o_lenk) | (with_reducible exact L3.o_lent) | (with_reducible exact L3.o_tuple_l) | (with_reducible exact L3.o_tuple_t) | (with_reducible exact L3.o_list_t) | (with_reducible exact L3.o_list_l) | (with_reducible exact L3.o_reverse) | (with_reducible exact L3.o_clear) | (with_reducible exact L3.o_ix0) | (with_reducible exact L3.o_ix1) | (with_reducible exact L3.o_lx0) | (with_reducible exact L3.o_isn) | (with_reducible exact L3.o_isnI) | (with_reducible exact L3.o_neg) | ((with_reducible apply L3.o_lt_t); omega) | ((with_reducible apply L3.o_lt_f); omega) | ((with_reducible apply L3.o_le_t); omega) | ((with_reducible apply L3.o_le_f); omega) | ((with_reducible apply L3.o_gt_t); omega) | ((with_reducible apply L3.o_gt_f); omega) | ((with_reducible apply L3.o_ge_t); omega) | ((with_reducible apply L3.o_ge_f); omega) | ((with_reducible apply L3.o_eq_t); omega) | ((with_reducible apply L3.o_eq_f); omega) | ((with_reducible apply L3.o_ne_t); omega) | ((with_reducible apply L3.o_ne_f); omega) | ((with_reducible apply L3.o_eqs_t); exact rfl) | ((with_reducible apply L3.o_eqs_f); decide) | ((with_reducible apply L3.o_nes_f); exact rfl) | ((with_reducible apply L3.o_nes_t); decide) | ((with_reducible apply L3.o_mul1); omega) | ((with_reducible apply L3.o_mul2); omega) | ((with_reducible apply L3.o_mod); omega) | ((with_reducible apply L3.o_fdiv); omega) | ((with_reducible apply L3.inW_of'); omega) | ((with_reducible apply L3.o_fld); exact rfl) | ((with_reducible apply L3.fg_tup); (first | exact rfl | skip)) | ((with_reducible apply L3.o_append); first | assumption | (simp only [List.length_map] at *; omega)) | ((with_reducible apply L3.o_tup); exact le_size (by simp)) | ((with_reducible apply L3.o_lst); exact le_size (by simp)))) ⟨x0, rfl⟩
    exact ⟨x, h1⟩
  obtain ⟨ρ2, h2, k2, x2, rfl⟩ := forF_inv (set := hName 5) (body := lp_law_2) (I := fun ρ => ∃ k x, ρ = [some S, some (.lst (d2.map D.int)), some TD, some (.lst RD), some (.lst RD), k, some (.lst (rowS row)), x]) (rngD 0 5) [some S, some (.lst (d2.map D.int)), some TD, some (.lst RD), some (.lst RD), k1, some (.lst (rowS row)), none] (fun d hd ρ hI => by
    obtain ⟨i, hi⟩ := List.mem_iff_getElem?.mp hd
    obtain ⟨hi5, rfl⟩ := rngD_at hi
    obtain ⟨k, x, rfl⟩ := hI
    refine ⟨_, rfl, ?_⟩
    simp only [List.set_cons_succ, List.set_cons_zero, Int.zero_add]
    have a1 := held_is_ok (tb i) (wf_tb hi5) (nmO i) row hm hl60
    have a2 := ix_RD hi5
    have a3 := ix_TD hi5
    have a4 := less_ok
    obtain ⟨x', a5⟩ := inner i hi5 x
    refine ⟨[some S, some (.lst (d2.map D.int)), some TD, some (.lst RD), some (.lst RD), some (.int (i : Nat)), some (.lst (rowS row)), x'], .inl ?_, _, _, rfl⟩
    unfold lp_law_2
    repeat' (first | ((with_reducible apply L3.ca_mk (m := m__law_held_is)); exact a1) | ((with_reducible apply L3.ca_mk (m := m__law_lesser)); exact a4) | (with_reducible exact a2) | (with_reducible exact a3) | (with_reducible apply L3.i_sl) | ((with_reducible apply L3.lp_mk); exact a5) | (with_reducible exact L3.v_c) | (with_reducible apply L3.v_var) | ((with_reducible apply L3.at_mk); exact rfl) | ((with_reducible apply L3.bt_mk); exact rfl) | (with_reducible exact L3.v_aN) | (with_reducible apply L3.st_z) | (with_reducible apply L3.st_s) | (with_reducible apply L3.fl_n) | (with_reducible apply L3.fl_d) | (with_reducible apply L3.fl_o) | (with_reducible apply L3.uf_n) | (with_reducible apply L3.uf_d) | (with_reducible apply L3.uf_o) | (with_reducible apply L3.v_aC) | (with_reducible apply L3.v_f2) | (with_reducible apply L3.v_f1) | (with_reducible apply L3.v_fL) | (with_reducible apply L3.z_seq) | (with_reducible apply L3.z_nx) | (with_reducible apply L3.z_set) | (with_reducible apply L3.z_drop) | (with_reducible apply L3.z_ret) | (with_reducible apply L3.z_retO) | (with_reducible apply L3.z_if) | (with_reducible apply L3.v_ite_t) | (with_reducible apply L3.v_ite_f) | (with_reducible apply L3.t_B) | (with_reducible apply L3.t_V) | (with_reducible apply L3.t_N) | (with_reducible apply L3.t_A) | (with_reducible apply L3.t_O) | (with_reducible apply L3.v_if) | (with_reducible apply L3.v_and) | (with_reducible apply L3.v_or) | (with_reducible apply L3.z_asg) | (with_reducible apply L3.z_par) | (with_reducible apply L3.z_for) | (with_reducible apply L3.v_mut) | (with_reducible apply L3.v_ixO) | (with_reducible apply L3.v_f1O) | (with_reducible apply L3.v_f2O) | (with_reducible apply L3.v_isiO) | (with_reducible apply L3.i_r1) | (with_reducible apply L3.i_r2) | (with_reducible apply L3.v_call) | (with_reducible apply L3.v_meth) | (with_reducible apply L3.v_callI) | (with_reducible apply L3.v_make) | (with_reducible apply L3.fg_name) | (with_reducible apply L3.fg_nil) | (with_reducible apply L3.fg_cons) | (with_reducible apply L3.v_bm) | (with_reducible exact L3.z_rt) | (with_reducible exact L3.z_n) | (with_reducible exact L3.z_ok) | (with_reducible exact L3.tr_bl) | (with_reducible exact L3.bn_t) | (with_reducible exact L3.bn_f) | (with_reducible exact L3.o_add) | (with_reducible exact L3.o_sub) | (with_reducible exact L3.o_int) | (with_reducible exact L3.o_lenl) | (with_reducible exact L3.o_lenk) | (with_reducible exact L3.o_lent) | (with_reducible exact L3.o_tuple_l) | (with_reducible exact L3.o_tuple_t) | (with_reducible exact L3.o_list_t) | (with_reducible exact L3.o_list_l) | (with_reducible exact L3.o_reverse) | (with_reducible exact L3.o_clear) | (with_reducible exact L3.o_ix0) | (with_reducible exact L3.o_ix1) | (with_reducible exact L3.o_lx0) | (with_reducible exact L3.o_isn) | (with_reducible exact L3.o_isnI) | (with_reducible exact L3.o_neg) | ((with_reducible apply L3.o_lt_t); omega) | ((with_reducible apply L3.o_lt_f); omega) | ((with_reducible apply L3.o_le_t); omega) | ((with_reducible apply L3.o_le_f); omega) | ((with_reducible apply L3.o_gt_t); omega) | ((with_reducible apply L3.o_gt_f); omega) | ((with_reducible apply L3.o_ge_t); omega) | ((with_reducible apply L3.o_ge_f); omega) | ((with_reducible apply L3.o_eq_t); omega) | ((with_reducible apply L3.o_eq_f); omega) | ((with_reducible apply L3.o_ne_t); omega) | ((with_reducible apply L3.o_ne_f); omega) | ((with_reducible apply L3.o_eqs_t); exact rfl) | ((with_reducible apply L3.o_eqs_f); decide) | ((with_reducible apply L3.o_nes_f); exact rfl) | ((with_reducible apply L3.o_nes_t); decide) | ((with_reducible apply L3.o_mul1); omega) | ((with_reducible apply L3.o_mul2); omega) | ((with_reducible apply L3.o_mod); omega) | ((with_reducible apply L3.o_fdiv); omega) | ((with_reducible apply L3.inW_of'); omega) | ((with_reducible apply L3.o_fld); exact rfl) | ((with_reducible apply L3.fg_tup); (first | exact rfl | skip)) | ((with_reducible apply L3.o_append); first | assumption | (simp only [List.length_map] at *; omega)) | ((with_reducible apply L3.o_tup); exact le_size (by simp)) | ((with_reducible apply L3.o_lst); exact le_size (by simp)))) ⟨k1, none, rfl⟩
  obtain ⟨d3, g3⟩ := ex_ok d2 n2
  have b1 := tables_ok
  have b2 := told_ok
  have b3 := pairs_ok
  have b4 : dLen [.lst RD] = some (.int 5) := rfl
  have b5 := isi_l RD
  refine ⟨_, m_rt (ρ := [some S, some (.lst (d3.map D.int)), some TD, some (.lst []), some (.lst RD), k2, some (.lst (rowS row)), x2]) ?_⟩
  unfold bd_law
  simp only [List.getElem?_cons_zero, List.getElem?_cons_succ, List.set_cons_zero, List.set_cons_succ, List.map_cons, List.map_nil, List.replicate, List.cons_append, List.nil_append]
  repeat' (first | ((with_reducible apply L3.ca_mk (m := m__law_draws)); exact g1) | ((with_reducible apply L3.ca_mk (m := m__law_tables)); exact b1) | ((with_reducible apply L3.ca_mk (m := m_told_readers)); exact b2) | ((with_reducible apply L3.ca_mk (m := m_by_table)); exact r0_ok) | ((with_reducible apply L3.ca_mk (m := m_through)); exact r1_ok) | ((with_reducible apply L3.ca_mk (m := m_both_ways)); exact r2_ok) | ((with_reducible apply L3.ca_mk (m := m_careful)); exact r3_ok) | ((with_reducible apply L3.ca_mk (m := m_adopting)); exact r4_ok) | ((with_reducible apply L3.ca_mk (m := m__law_pairs_part)); exact b3) | ((with_reducible apply L3.ca_mk (m := m__law_drawn_row)); exact g2) | ((with_reducible apply L3.ca_mk (m := m__law_exchanged)); exact g3) | (with_reducible exact b4) | (with_reducible exact b5) | ((with_reducible apply L3.lp_mk (body := lp_law_1)); exact h1) | ((with_reducible apply L3.lp_mk (body := lp_law_2)); exact h2) | (with_reducible exact L3.v_c) | (with_reducible apply L3.v_var) | ((with_reducible apply L3.at_mk); exact rfl) | ((with_reducible apply L3.bt_mk); exact rfl) | (with_reducible exact L3.v_aN) | (with_reducible apply L3.st_z) | (with_reducible apply L3.st_s) | (with_reducible apply L3.fl_n) | (with_reducible apply L3.fl_d) | (with_reducible apply L3.fl_o) | (with_reducible apply L3.uf_n) | (with_reducible apply L3.uf_d) | (with_reducible apply L3.uf_o) | (with_reducible apply L3.v_aC) | (with_reducible apply L3.v_f2) | (with_reducible apply L3.v_f1) | (with_reducible apply L3.v_fL) | (with_reducible apply L3.z_seq) | (with_reducible apply L3.z_nx) | (with_reducible apply L3.z_set) | (with_reducible apply L3.z_drop) | (with_reducible apply L3.z_ret) | (with_reducible apply L3.z_retO) | (with_reducible apply L3.z_if) | (with_reducible apply L3.v_ite_t) | (with_reducible apply L3.v_ite_f) | (with_reducible apply L3.t_B) | (with_reducible apply L3.t_V) | (with_reducible apply L3.t_N) | (with_reducible apply L3.t_A) | (with_reducible apply L3.t_O) | (with_reducible apply L3.v_if) | (with_reducible apply L3.v_and) | (with_reducible apply L3.v_or) | (with_reducible apply L3.z_asg) | (with_reducible apply L3.z_par) | (with_reducible apply L3.z_for) | (with_reducible apply L3.v_mut) | (with_reducible apply L3.v_ixO) | (with_reducible apply L3.v_f1O) | (with_reducible apply L3.v_f2O) | (with_reducible apply L3.v_isiO) | (with_reducible apply L3.i_r1) | (with_reducible apply L3.i_r2) | (with_reducible apply L3.v_call) | (with_reducible apply L3.v_meth) | (with_reducible apply L3.v_callI) | (with_reducible apply L3.v_make) | (with_reducible apply L3.fg_name) | (with_reducible apply L3.fg_nil) | (with_reducible apply L3.fg_cons) | (with_reducible apply L3.v_bm) | (with_reducible exact L3.z_rt) | (with_reducible exact L3.z_n) | (with_reducible exact L3.z_ok) | (with_reducible exact L3.tr_bl) | (with_reducible exact L3.bn_t) | (with_reducible exact L3.bn_f) | (with_reducible exact L3.o_add) | (with_reducible exact L3.o_sub) | (with_reducible exact L3.o_int) | (with_reducible exact L3.o_lenl) | (with_reducible exact L3.o_lenk) | (with_reducible exact L3.o_lent) | (with_reducible exact L3.o_tuple_l) | (with_reducible exact L3.o_tuple_t) | (with_reducible exact L3.o_list_t) | (with_reducible exact L3.o_list_l) | (with_reducible exact L3.o_reverse) | (with_reducible exact L3.o_clear) | (with_reducible exact L3.o_ix0) | (with_reducible exact L3.o_ix1) | (with_reducible exact L3.o_lx0) | (with_reducible exact L3.o_isn) | (with_reducible exact L3.o_isnI) | (with_reducible exact L3.o_neg) | ((with_reducible apply L3.o_lt_t); omega) | ((with_reducible apply L3.o_lt_f); omega) | ((with_reducible apply L3.o_le_t); omega) | ((with_reducible apply L3.o_le_f); omega) | ((with_reducible apply L3.o_gt_t); omega) | ((with_reducible apply L3.o_gt_f); omega) | ((with_reducible apply L3.o_ge_t); omega) | ((with_reducible apply L3.o_ge_f); omega) | ((with_reducible apply L3.o_eq_t); omega) | ((with_reducible apply L3.o_eq_f); omega) | ((with_reducible apply L3.o_ne_t); omega) | ((with_reducible apply L3.o_ne_f); omega) | ((with_reducible apply L3.o_eqs_t); exact rfl) | ((with_reducible apply L3.o_eqs_f); decide) | ((with_reducible apply L3.o_nes_f); exact rfl) | ((with_reducible apply L3.o_nes_t); decide) | ((with_reducible apply L3.o_mul1); omega) | ((with_reducible apply L3.o_mul2); omega) | ((with_reducible apply L3.o_mod); omega) | ((with_reducible apply L3.o_fdiv); omega) | ((with_reducible apply L3.inW_of'); omega) | ((with_reducible apply L3.o_fld); exact rfl) | ((with_reducible apply L3.fg_tup); (first | exact rfl | skip)) | ((with_reducible apply L3.o_append); first | assumption | (simp only [List.length_map] at *; omega)) | ((with_reducible apply L3.o_tup); exact le_size (by simp)) | ((with_reducible apply L3.o_lst); exact le_size (by simp)))
end Law

namespace Law
open PySem PySem.Spec PyProof.Rows L2 L3
abbrev R : PySem.W.OpenRow := PySem.W.OpenLaw.row PySem.Challenge.rw_writtenbehind_k09_told_readers_part
def names : List Str := (["_wall", "__name__", "BehindError", "BadValue", "TooMany", "is_int", "check_int", "rows_in", "MOST_LETTERS", "LINES_OF", "check_letter", "check_row"] : List Str) ++ (["lines_in", "MOST_STATES", "ORDER", "TAKING", "_readers_states", "_readers_fair", "_readers_takes", "held_after", "Reader", "along", "BY_TABLE", "THROUGH"] : List Str) ++ (["BOTH_WAYS", "_toldreaders_entries", "by_table", "through", "both_ways", "careful", "adopting", "told_readers", "with_entry", "_law_draws", "_law_take", "_law_int"] : List Str) ++ (["_law_letters", "_law_walk", "_law_tables", "_law_names", "_law_parting", "_law_lesser", "_law_reader_is", "_law_held_is", "_law_pairs_part", "_law_exchanged", "_law_drawn_row"] : List Str)
abbrev hkDepth : Nat := 5
def exF (K : PySem.W.Frag) : Bool := fx.all fun f => f.ok K
abbrev hk : PySem.W.Hook := L3.hookY hkDepth fa fn ts exF
def ob (s : PySem.W.SharedT) : He.AlX := L3.obsY hkDepth fa fn ts exF (HandSHeadRun.getT s)
theorem ob_eq (s : PySem.W.SharedT) : ob s = hk.obs s.abs := L3.obsY_eq (HandSHeadRun.getT_eq s)
theorem run_f (w : World) : HandSHeadRun.RunEq R (PySem.W.view R.prog [52]) hk ob 20000 names (w.withFollow "special-get-raises" false) := by
  intro os
  kernel_rfl
theorem run_t (w : World) : HandSHeadRun.RunEq R (PySem.W.view R.prog [52]) hk ob 20000 names (w.withFollow "special-get-raises" true) := by
  intro os
  kernel_rfl
theorem run (w : World) : HandSHeadRun.RunEq R (PySem.W.view R.prog [52]) hk ob 20000 names w :=
  PySem.W.byRow2 "special-get-raises" (P := fun w => HandSHeadRun.RunEq R (PySem.W.view R.prog [52]) hk ob 20000 names w) run_f run_t w
theorem facts {l : PySem.W.OpenLaw} {w : World} {K : PySem.W.Frag} {h : Heap} {mg : Str → Option Value} {f : Addr} (hlaw : ∀ ns : List Int, ns.length ≤ 63 → ∃ ρ, m_law [.lsk (ns.map D.int)] = .ok (.bl true) ρ) (X : K.In h) (G : h.Ns mainGlobals mg) (hfa : mg ("law" : Str) = some (.ref f)) (c : He.SaysX fa fn ts [] exF w h K) :
    ∃ (fd : FuncData) (sp : Sp), (∀ (s : Shared) (u : Value), BindsTo s fd ⟨[u], []⟩ [("script", u)]) ∧
        (∀ (H : Hp) (a : Addr) (ns : List Int), ns.length ≤ 63 → Only H → SqL K H a (ns.map V.int) → sp [.ref a] H (fun v _ => v = .bl true) fun _ _ _ => False) ∧
        ∀ base : Heap, K.In base → base.Ns mainGlobals mg → FnOk l.prog w K mg base (L2.CX l.prog w) 8 f fd ["script"] sp := by
  have T : Tx fa fn ts fx w K mg := ⟨h, X, G, c⟩
  have e := hfa.symm.trans (T.glo 54)
  cases e
  refine ⟨_, _, fun s u => FunD.bindsA (ps := ["script"]) (T.fun_ 36 (d := dd_law)) (fun _ _ _ _ _ _ us hl => match us, hl with | [_], _ => rfl) s [u] rfl, fun H a ns hl _ hS => ?_, fun base _ _ => ok_law T⟩
  obtain ⟨ρ, h⟩ := hlaw ns hl
  exact sp_law h hS
end Law
open PySem PySem.W PySem.Calls PyProof.Rows
theorem PySem.Challenge.cw_writtenbehind_k09_told_readers_part_holds : PySem.Challenge.rw_writtenbehind_k09_told_readers_part.Holds := by
  w_on; o_law
  refine HandSHeadRun.head_any (r := OpenLaw.row PySem.Challenge.rw_writtenbehind_k09_told_readers_part) (q := view (OpenLaw.row PySem.Challenge.rw_writtenbehind_k09_told_readers_part).prog [52]) (H := Law.hk) (ob := Law.ob) (M := 20000) (loose := Law.names) (d := HandSHeadRun.topDef (OpenLaw.row PySem.Challenge.rw_writtenbehind_k09_told_readers_part).prog 52) (kwd := []) Law.ob_eq
    (by kernel_rfl) (fun s => by kernel_rfl) Law.run (by kernel_rfl) (by kernel_rfl) (by kernel_rfl) (by rfl) (by first | assumption | decide +kernel) (by decide +kernel) ⟨rfl, rfl, rfl, rfl, rfl, by decide +kernel⟩ ?hw ?hc
  case hw => w_witness2
  case hc =>
    refine L3.walk_W (l := PySem.Challenge.rw_writtenbehind_k09_told_readers_part) (n := 63) (k := 8) (x := "script") (CX := fun w => L2.CX (PySem.Challenge.rw_writtenbehind_k09_told_readers_part).prog w) rfl (by decide) (by kernel_rfl) ⟨rfl, by decide, by decide⟩ ?F (fun _ _ _ _ _ z => L3.cx_no z)
    intro w mg fa h Y G hmg0
    obtain ⟨K, KX, c⟩ := Y
    have hmg : mg ("law" : PySem.Str) = some (.ref fa) := by
      have e : (HandSHeadRun.topDef (OpenLaw.row PySem.Challenge.rw_writtenbehind_k09_told_readers_part).prog 52).name = ("law" : PySem.Str) := by kernel_rfl
      rw [← e]
      exact hmg0
    obtain ⟨fd, sp, hb, hsp, hF⟩ := Law.facts (l := PySem.Challenge.rw_writtenbehind_k09_told_readers_part) Law.law_true KX G hmg c
    exact ⟨K, fd, sp, KX, hb, hsp, hF⟩

