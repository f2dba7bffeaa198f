import PyProof.Rows.All
import Wide.All
import OpenK.AllK
import Wide.FinOn
import HandS.ForMost
import HandS.TupAny
import HandS.Wide
import HandS.WideMore
import HandS.Deep
import HandS.Flow
import HandS.Style
import HandS.IsInst
import HandS.SortInts
import HandS.SetFor
import HandS.Walk
import HandS.Rev
import HandS.Zip
import HandS.Small
import PySem.Challenge.RW_sumwright_k38_states_of_rules
set_option Elab.async false
set_option linter.all false
set_option maxRecDepth 100000
set_option maxHeartbeats 4000000
namespace Vl
open PySem PySem.Spec PyProof.Rows L2

/-! ### plain values -/
inductive D where
  | non | bl (b : Bool) | int (i : Int) | str (x : Str)
  | tup (xs : List D) | lst (xs : List D)
  | dK (kvs : List (Key × D)) | dT (kvs : List (List Key × D))
  | obj (k : Nat) | scr (xs : List D) | ty (n : String)

structure G where
  Fz : Addr → Prop
  io : List Addr

def RdF (g : G) (H : Hp) (a : Addr) (u : HO) : Prop := (H a = some u ∧ g.Fz a) ∨ ∃ o, H a = some (.frz o u)
theorem RdF.rd {g : G} {H : Hp} {a : Addr} {u : HO} (h : RdF g H a u) : Rd H a u := by
  rcases h with ⟨h, _⟩ | h
  · exact .inl h
  · exact .inr h
/-- a list of the module -/
def KL (K : PySem.W.Frag) (a : Addr) (xs : List V) : Prop :=
  ∃ (o : Obj) (its : Array Value) (n : Nat), K.lookup a = some o ∧ o.cls = .type "list" ∧ o.dict = none ∧ o.data = .seq its n ∧ its.size ≤ sizeLine ∧ Vals xs its.toList
theorem KL.sq {K : PySem.W.Frag} {H : Hp} {a : Addr} {xs : List V} (h : KL K a xs) : SqL K H a xs := .inr h
/-- a tuple: made by the call, or of the module -/
def Tp (K : PySem.W.Frag) (H : Hp) (a : Addr) (xs : List V) : Prop :=
  H a = some (.tup xs) ∨ ∃ (o : Obj) (its : Array Value) (n : Nat), K.lookup a = some o ∧ o.cls = .type "tuple" ∧ o.data = .seq its n ∧ its.size ≤ sizeLine ∧ Vals xs its.toList
theorem Tp.sq {K : PySem.W.Frag} {H : Hp} {a : Addr} {xs : List V} (h : Tp K H a xs) : SqT K H a xs := h.imp .inl id
theorem Tp.of {K : PySem.W.Frag} {H : Hp} {a : Addr} {xs : List V} (h : H a = some (.tup xs)) : Tp K H a xs := .inl h
section
variable (K : PySem.W.Frag) (g : G) (H : Hp)
mutual
def Is : V → D → Prop
  | v, .non => v = .non
  | v, .bl b => v = .bl b
  | v, .int i => v = .int i
  | v, .str x => v = .str x
  | v, .tup ds => ∃ a vs, v = .ref a ∧ Tp K H a vs ∧ IsAll vs ds
  | v, .lst ds => ∃ a vs, v = .ref a ∧ (H a = some (.lst vs) ∧ g.Fz a) ∧ IsAll vs ds
  | v, .dK es => ∃ a kvs, v = .ref a ∧ RdF g H a (.dK kvs) ∧ IsK kvs es
  | v, .dT es => ∃ a kvs, v = .ref a ∧ RdF g H a (.dT kvs) ∧ IsT kvs es
  | v, .obj k => ∃ a, v = .ref a ∧ g.io[k]? = some a
  | v, .scr ds => ∃ a vs, v = .ref a ∧ (KL K a vs ∨ ∃ o, H a = some (.frz o (.lst vs))) ∧ IsAll vs ds
  | v, .ty n => v = .ty n
def IsAll : List V → List D → Prop
  | vs, [] => vs = []
  | vs, d :: ds => ∃ v r, vs = v :: r ∧ Is v d ∧ IsAll r ds
def IsK : List (Key × V) → List (Key × D) → Prop
  | vs, [] => vs = []
  | vs, (k, d) :: ds => ∃ v r, vs = (k, v) :: r ∧ Is v d ∧ IsK r ds
def IsT : List (List Key × V) → List (List Key × D) → Prop
  | vs, [] => vs = []
  | vs, (k, d) :: ds => ∃ v r, vs = (k, v) :: r ∧ Is v d ∧ IsT r ds
end
end

/-- what stays -/
structure Mono (g : G) (H : Hp) (g' : G) (H' : Hp) : Prop where
  ft : ∀ a u, H a = some u → g.Fz a → H' a = some u ∧ g'.Fz a
  tp : ∀ a xs, H a = some (.tup xs) → H' a = some (.tup xs)
  fr : ∀ a o u, H a = some (.frz o u) → H' a = some (.frz o u)
  io : ∀ (k : Nat) (a : Addr), g.io[k]? = some a → g'.io[k]? = some a
theorem Mono.rd {g g' : G} {H H' : Hp} (m : Mono g H g' H') (a : Addr) (u : HO) (h : RdF g H a u) : RdF g' H' a u := by
  rcases h with ⟨h, f⟩ | ⟨o, h⟩
  · exact .inl (m.ft a u h f)
  · exact .inr ⟨o, m.fr a o u h⟩
theorem Tp.mono {K : PySem.W.Frag} {g g' : G} {H H' : Hp} (m : Mono g H g' H') {a : Addr} {vs : List V} (h : Tp K H a vs) : Tp K H' a vs := h.imp (m.tp _ _) id
section
variable {K : PySem.W.Frag} {g g' : G} {H H' : Hp}
mutual
theorem Is.mono (m : Mono g H g' H') : ∀ (d : D) (v : V), Is K g H v d → Is K g' H' v d
  | .non, v, h => by simpa only [Is] using h
  | .bl _, v, h => by simpa only [Is] using h
  | .int _, v, h => by simpa only [Is] using h
  | .str _, v, h => by simpa only [Is] using h
  | .tup ds, v, h => by
    simp only [Is] at h ⊢
    obtain ⟨a, vs, e, h1, h2⟩ := h
    exact ⟨a, vs, e, Tp.mono m h1, IsAll.mono m ds vs h2⟩
  | .lst ds, v, h => by
    simp only [Is] at h ⊢
    obtain ⟨a, vs, e, h1, h2⟩ := h
    exact ⟨a, vs, e, m.ft _ _ h1.1 h1.2, IsAll.mono m ds vs h2⟩
  | .dK ds, v, h => by
    simp only [Is] at h ⊢
    obtain ⟨a, vs, e, h1, h2⟩ := h
    exact ⟨a, vs, e, m.rd _ _ h1, IsK.mono m ds vs h2⟩
  | .dT ds, v, h => by
    simp only [Is] at h ⊢
    obtain ⟨a, vs, e, h1, h2⟩ := h
    exact ⟨a, vs, e, m.rd _ _ h1, IsT.mono m ds vs h2⟩
  | .obj k, v, h => by
    simp only [Is] at h ⊢
    obtain ⟨a, e, h1⟩ := h
    exact ⟨a, e, m.io _ _ h1⟩
  | .scr ds, v, h => by
    simp only [Is] at h ⊢
    obtain ⟨a, vs, e, h1, h2⟩ := h
    exact ⟨a, vs, e, h1.imp id fun ⟨o, h⟩ => ⟨o, m.fr _ _ _ h⟩, IsAll.mono m ds vs h2⟩
  | .ty _, v, h => by simpa only [Is] using h
theorem IsAll.mono (m : Mono g H g' H') : ∀ (ds : List D) (vs : List V), IsAll K g H vs ds → IsAll K g' H' vs ds
  | [], vs, h => by simpa only [IsAll] using h
  | d :: ds, vs, h => by
    simp only [IsAll] at h ⊢
    obtain ⟨v, r, e, h1, h2⟩ := h
    exact ⟨v, r, e, Is.mono m d v h1, IsAll.mono m ds r h2⟩
theorem IsK.mono (m : Mono g H g' H') : ∀ (ds : List (Key × D)) (vs : List (Key × V)), IsK K g H vs ds → IsK K g' H' vs ds
  | [], vs, h => by simpa only [IsK] using h
  | (k, d) :: ds, vs, h => by
    simp only [IsK] at h ⊢
    obtain ⟨v, r, e, h1, h2⟩ := h
    exact ⟨v, r, e, Is.mono m d v h1, IsK.mono m ds r h2⟩
theorem IsT.mono (m : Mono g H g' H') : ∀ (ds : List (List Key × D)) (vs : List (List Key × V)), IsT K g H vs ds → IsT K g' H' vs ds
  | [], vs, h => by simpa only [IsT] using h
  | (k, d) :: ds, vs, h => by
    simp only [IsT] at h ⊢
    obtain ⟨v, r, e, h1, h2⟩ := h
    exact ⟨v, r, e, Is.mono m d v h1, IsT.mono m ds r h2⟩
end
end

/-- an object that nobody reads by value: its own contents -/
def Top (K : PySem.W.Frag) (g : G) (H : Hp) (a : Addr) : D → Prop
  | .lst ds => ∃ vs, H a = some (.lst vs) ∧ IsAll K g H vs ds
  | .dK es => ∃ kvs, H a = some (.dK kvs) ∧ IsK K g H kvs es
  | .dT es => ∃ kvs, H a = some (.dT kvs) ∧ IsT K g H kvs es
  | _ => False
theorem Top.mut {K : PySem.W.Frag} {g : G} {H : Hp} {a : Addr} {d : D} (h : Top K g H a d) : Mut (H a) := by
  cases d <;> simp only [Top] at h <;> first | exact h.elim | (obtain ⟨_, e, _⟩ := h; rw [e]; trivial)
theorem Top.move {K : PySem.W.Frag} {g g' : G} {H H' : Hp} {a : Addr} {d : D} (m : Mono g H g' H') (e : H' a = H a) (h : Top K g H a d) : Top K g' H' a d := by
  cases d <;> simp only [Top] at h ⊢ <;> first | exact h.elim | skip
  · obtain ⟨vs, h1, h2⟩ := h; exact ⟨vs, e.trans h1, IsAll.mono m _ _ h2⟩
  · obtain ⟨vs, h1, h2⟩ := h; exact ⟨vs, e.trans h1, IsK.mono m _ _ h2⟩
  · obtain ⟨vs, h1, h2⟩ := h; exact ⟨vs, e.trans h1, IsT.mono m _ _ h2⟩

inductive Sl where
  | shr (d : D) | own (d : D)
structure S where
  ρ : List (Option Sl)
  sg : List D

def SlOk (K : PySem.W.Frag) (g : G) (H : Hp) (v : V) : Sl → Prop
  | .shr d => Is K g H v d
  | .own d => ∃ a, v = .ref a ∧ ¬ g.Fz a ∧ a ∉ g.io ∧ Top K g H a d

/-- against the entry of the def -/
structure Base (b : G × Hp) (g : G) (H : Hp) : Prop where
  hp : ∀ a o, b.2 a = some o → a ∉ b.1.io → H a = some o
  fz : ∀ a, b.1.Fz a → g.Fz a
  nf : ∀ a, g.Fz a → b.1.Fz a ∨ b.2 a = none
  io : ∃ more, g.io = b.1.io ++ more ∧ ∀ a ∈ more, b.2 a = none

structure Glo (K : PySem.W.Frag) (b : G × Hp) (g : G) (H : Hp) (sg : List D) : Prop where
  ob : Paired (fun a d => Top K g H a d) g.io sg
  nd : g.io.Nodup
  nz : ∀ a ∈ g.io, ¬ g.Fz a
  dm : ∀ a, g.Fz a → ∃ o, H a = some o
  bs : Base b g H

structure Rep (K : PySem.W.Frag) (b : G × Hp) (g : G) (H : Hp) (σ : L2.St) (s : S) : Prop where
  gl : Glo K b g H s.sg
  ln : s.ρ.length = σ.length
  sl : ∀ (i : Nat) z, s.ρ[i]? = some (some z) → ∃ v, σ[i]? = some (some v) ∧ SlOk K g H v z
  ap : ∀ (i j : Nat) a d d', s.ρ[i]? = some (some (.own d)) → s.ρ[j]? = some (some (.own d')) → σ[i]? = some (some (.ref a)) → σ[j]? = some (some (.ref a)) → i = j
  on : ∀ (i : Nat) d a, s.ρ[i]? = some (some (.own d)) → σ[i]? = some (some (.ref a)) → b.2 a = none

/-- the addresses that slots own -/
def OwnA (σ : L2.St) (s : S) (a : Addr) : Prop := ∃ (i : Nat) (d : D), s.ρ[i]? = some (some (.own d)) ∧ σ[i]? = some (some (.ref a))
/-- no slot owns more -/
def Sub (s' s : S) : Prop := ∀ (i : Nat) (d : D), s'.ρ[i]? = some (some (.own d)) → s.ρ[i]? = some (some (.own d))
theorem Sub.refl (s : S) : Sub s s := fun _ _ h => h
theorem Sub.trans {s s' s'' : S} (h : Sub s'' s') (h' : Sub s' s) : Sub s'' s := fun i d e => h' i d (h i d e)
theorem OwnA.sub {σ : L2.St} {s s' : S} {a : Addr} (h : Sub s' s) (o : OwnA σ s' a) : OwnA σ s a := let ⟨i, d, e1, e2⟩ := o; ⟨i, d, h i d e1, e2⟩

structure Ext (P : Addr → Prop) (g : G) (H : Hp) (g' : G) (H' : Hp) : Prop where
  hp : ∀ a o, H a = some o → a ∉ g.io → H' a = some o
  dn : ∀ a, H' a = none → H a = none
  fz : ∀ a, g.Fz a → g'.Fz a
  nf : ∀ a, g'.Fz a → g.Fz a ∨ H a = none ∨ P a
  io : ∃ more, g'.io = g.io ++ more ∧ ∀ a ∈ more, H a = none
theorem Ext.refl {P : Addr → Prop} {g : G} {H : Hp} : Ext P g H g H := ⟨fun _ _ h _ => h, fun _ h => h, fun _ h => h, fun _ h => .inl h, [], by simp, by simp⟩
theorem Ext.weak {P P' : Addr → Prop} {g g' : G} {H H' : Hp} (h : Ext P g H g' H') (hp : ∀ a, P a → P' a) : Ext P' g H g' H' :=
  ⟨h.hp, h.dn, h.fz, fun a f => (h.nf a f).imp id fun q => q.imp id (hp a), h.io⟩
theorem Ext.trans {P P' : Addr → Prop} {g g1 g2 : G} {H H1 H2 : Hp} (x : Ext P g H g1 H1) (y : Ext P' g1 H1 g2 H2) (hP : ∀ a, P' a → P a) : Ext P g H g2 H2 := by
  obtain ⟨m1, e1, n1⟩ := x.io
  obtain ⟨m2, e2, n2⟩ := y.io
  have back : ∀ a, a ∉ g.io → H a ≠ none → a ∉ g1.io := fun a h1 h2 h3 => by
    rw [e1] at h3
    rcases List.mem_append.mp h3 with h3 | h3
    · exact h1 h3
    · exact h2 (n1 a h3)
  refine ⟨fun a o h hi => y.hp a o (x.hp a o h hi) (back a hi (by rw [h]; simp)), fun a h => x.dn a (y.dn a h), fun a h => y.fz a (x.fz a h), fun a h => ?_, m1 ++ m2, by rw [e2, e1, List.append_assoc], fun a ha => ?_⟩
  · rcases y.nf a h with q | q | q
    · exact x.nf a q
    · exact .inr (.inl (x.dn a q))
    · exact .inr (.inr (hP a q))
  · rcases List.mem_append.mp ha with q | q
    · exact n1 a q
    · exact x.dn a (n2 a q)
/-- what is read by value stays readable -/
theorem Ext.mono {P : Addr → Prop} {g g' : G} {H H' : Hp} (x : Ext P g H g' H') (nz : ∀ a ∈ g.io, ¬ g.Fz a) (mu : ∀ a ∈ g.io, Mut (H a)) : Mono g H g' H' := by
  have fr : ∀ a o u, H a = some (.frz o u) → H' a = some (.frz o u) := fun a o u h => x.hp a _ h fun hi => by
    have := mu a hi
    rw [h] at this
    exact this
  refine ⟨fun a u h f => ⟨x.hp a u h fun hi => nz a hi f, x.fz a f⟩, fun a xs h => x.hp a _ h fun hi => by have := mu a hi; rw [h] at this; exact this, fr, fun k a h => ?_⟩
  obtain ⟨m, e, _⟩ := x.io
  rw [e, List.getElem?_append_left (by
    obtain ⟨hl, _⟩ := List.getElem?_eq_some_iff.mp h
    exact hl)]
  exact h
theorem pair_top {K : PySem.W.Frag} {g : G} {H : Hp} : ∀ {l : List Addr} {sg : List D}, Paired (fun a d => Top K g H a d) l sg → ∀ a ∈ l, Mut (H a)
  | _, _, .nil, a, h => nomatch h
  | _, _, .cons r t, a, h => by
    rcases List.mem_cons.mp h with e | h
    · rw [e]; exact r.mut
    · exact pair_top t a h
theorem Glo.mut {K : PySem.W.Frag} {b : G × Hp} {g : G} {H : Hp} {sg : List D} (w : Glo K b g H sg) : ∀ a ∈ g.io, Mut (H a) := pair_top w.ob
theorem Glo.mono {K : PySem.W.Frag} {b : G × Hp} {g g' : G} {H H' : Hp} {sg : List D} {P : Addr → Prop} (w : Glo K b g H sg) (x : Ext P g H g' H') : Mono g H g' H' := x.mono w.nz w.mut
/-- what is left of a new object -/
theorem Ext.laid {P : Addr → Prop} {g : G} {H : Hp} {p : Addr} {o : HO} (h : H p = none) : Ext P g H g (upd H p o) :=
  ⟨fun a o' e _ => by rw [upd_ne (ne_of_none e h)]; exact e, fun a e => by
    by_cases q : a = p
    · rw [q, upd_same] at e; cases e
    · rw [upd_ne q] at e; exact e, fun _ h => h, fun _ h => .inl h, [], by simp, by simp⟩
theorem Ext.froze {P : Addr → Prop} {g : G} {H : Hp} {p : Addr} (hp : P p) : Ext P g H ⟨fun a => g.Fz a ∨ a = p, g.io⟩ H :=
  ⟨fun _ _ h _ => h, fun _ h => h, fun _ h => .inl h, fun a h => h.elim .inl fun e => .inr (.inr (e ▸ hp)), [], by simp, by simp⟩
theorem Paired.imp {α β : Type} {F G' : α → β → Prop} (f : ∀ a b, F a b → G' a b) : ∀ {l₁ : List α} {l₂ : List β}, Paired F l₁ l₂ → Paired G' l₁ l₂
  | _, _, .nil => .nil
  | _, _, .cons r t => .cons (f _ _ r) (Paired.imp f t)
theorem Paired.impM {α β : Type} {F G' : α → β → Prop} : ∀ {l₁ : List α} {l₂ : List β}, (∀ a ∈ l₁, ∀ b, F a b → G' a b) → Paired F l₁ l₂ → Paired G' l₁ l₂
  | _, _, _, .nil => .nil
  | _, _, f, .cons r t => .cons (f _ (by simp) _ r) (Paired.impM (fun a h b => f a (List.mem_cons_of_mem _ h) b) t)

section
variable {K : PySem.W.Frag} {b : G × Hp} {g g' : G} {H H' : Hp} {sg : List D} {σ : L2.St} {s : S} {p : Addr} {o : HO}
/-- a new object that nobody names -/
theorem Glo.laid (w : Glo K b g H sg) (h : H p = none) : Glo K b g (upd H p o) sg := by
  have m := w.mono (P := fun _ => False) (Ext.laid (o := o) h)
  have ne : ∀ {a : Addr} {u : HO}, H a = some u → upd H p o a = some u := fun {a u} e => by rw [upd_ne (ne_of_none e h)]; exact e
  have h1 : ∀ a d, Top K g H a d → Top K g (upd H p o) a d := fun a d t => t.move m (upd_ne fun e => by
    have mu := t.mut
    rw [e, h] at mu
    exact mu)
  refine ⟨Paired.imp h1 w.ob, w.nd, w.nz, fun a f => ?_, ⟨fun a u e hi => ne (w.bs.hp a u e hi), w.bs.fz, w.bs.nf, w.bs.io⟩⟩
  obtain ⟨u, e⟩ := w.dm a f
  exact ⟨u, ne e⟩
theorem SlOk.ext {P : Addr → Prop} {v : V} {z : Sl} (w : Glo K b g H sg) (x : Ext P g H g' H') (hP : ∀ a d, z = .own d → v = .ref a → ¬ P a) (h : SlOk K g H v z) : SlOk K g' H' v z := by
  have m := w.mono x
  cases z with
  | shr d => exact Is.mono m d v h
  | own d =>
    obtain ⟨a, e, nf, ni, t⟩ := h
    have mu := t.mut
    have hn : H a ≠ none := fun q => by rw [q] at mu; exact mu
    have ea : H' a = H a := by
      cases q : H a with
      | none => exact absurd q hn
      | some u => exact x.hp a u q ni
    refine ⟨a, e, fun q => ?_, fun q => ?_, t.move m ea⟩
    · rcases x.nf a q with q | q | q
      · exact nf q
      · exact hn q
      · exact hP a d rfl e q
    · obtain ⟨more, em, hm⟩ := x.io
      rw [em] at q
      rcases List.mem_append.mp q with q | q
      · exact ni q
      · exact hn (hm a q)
theorem Rep.laid (r : Rep K b g H σ s) (h : H p = none) : Rep K b g (upd H p o) σ s :=
  ⟨r.gl.laid h, r.ln, fun i z e => let ⟨v, e', k⟩ := r.sl i z e; ⟨v, e', k.ext (P := fun _ => False) r.gl (Ext.laid h) fun _ _ _ _ q => q⟩, r.ap, r.on⟩
/-- a new object becomes readable for all -/
theorem Glo.froze (w : Glo K b g H sg) (ho : ∃ u, H p = some u) (ni : p ∉ g.io) (hb : b.1.Fz p ∨ b.2 p = none) : Glo K b ⟨fun a => g.Fz a ∨ a = p, g.io⟩ H sg := by
  have m : Mono g H ⟨fun a => g.Fz a ∨ a = p, g.io⟩ H := w.mono (P := fun a => a = p) (Ext.froze rfl)
  refine ⟨Paired.imp (fun a d t => t.move m rfl) w.ob, w.nd, fun a hi f => ?_, fun a f => ?_, ⟨w.bs.hp, fun a f => .inl (w.bs.fz a f), fun a f => ?_, w.bs.io⟩⟩
  · rcases f with f | f
    · exact w.nz a hi f
    · exact ni (f ▸ hi)
  · rcases f with f | f
    · exact w.dm a f
    · exact f ▸ ho
  · rcases f with f | f
    · exact w.bs.nf a f
    · exact f ▸ hb
theorem Rep.froze (r : Rep K b g H σ s) (ho : ∃ u, H p = some u) (ni : p ∉ g.io) (hb : b.1.Fz p ∨ b.2 p = none) (no : ¬ OwnA σ s p) : Rep K b ⟨fun a => g.Fz a ∨ a = p, g.io⟩ H σ s :=
  ⟨r.gl.froze ho ni hb, r.ln, fun i z e => by
    obtain ⟨v, e', k⟩ := r.sl i z e
    refine ⟨v, e', k.ext (P := fun a => a = p) r.gl (Ext.froze rfl) fun a d q1 q2 q3 => no ⟨i, d, ?_, ?_⟩⟩
    · rw [e, q1]
    · rw [e', q2, q3], r.ap, r.on⟩
end
end Vl
namespace Vl
open PySem PySem.Spec PyProof.Rows L2

/-! ### what an expression gives -/
abbrev ME := S → Option (D × S)
inductive Kd where
  | val | bor | fre
def Bor (K : PySem.W.Frag) (g : G) (H : Hp) (v : V) : D → Prop
  | .lst ds => ∃ a vs, v = .ref a ∧ (H a = some (.lst vs) ∧ a ∉ g.io) ∧ IsAll K g H vs ds
  | .dK es => ∃ a kvs, v = .ref a ∧ (Rd H a (.dK kvs) ∧ a ∉ g.io) ∧ IsK K g H kvs es
  | .dT es => ∃ a kvs, v = .ref a ∧ (Rd H a (.dT kvs) ∧ a ∉ g.io) ∧ IsT K g H kvs es
  | d => Is K g H v d
def Fre (H0 : Hp) (K : PySem.W.Frag) (g : G) (H : Hp) (v : V) : D → Prop
  | .lst ds => ∃ a, v = .ref a ∧ H0 a = none ∧ ¬ g.Fz a ∧ a ∉ g.io ∧ Top K g H a (.lst ds)
  | .dK ds => ∃ a, v = .ref a ∧ H0 a = none ∧ ¬ g.Fz a ∧ a ∉ g.io ∧ Top K g H a (.dK ds)
  | .dT ds => ∃ a, v = .ref a ∧ H0 a = none ∧ ¬ g.Fz a ∧ a ∉ g.io ∧ Top K g H a (.dT ds)
  | d => Is K g H v d
def IsR (κ : Kd) (H0 : Hp) (K : PySem.W.Frag) (g : G) (H : Hp) (v : V) (d : D) : Prop :=
  match κ with
  | .val => Is K g H v d
  | .bor => Bor K g H v d
  | .fre => Fre H0 K g H v d
theorem RdF.noio {K : PySem.W.Frag} {b : G × Hp} {g : G} {H : Hp} {sg : List D} {a : Addr} {u : HO} (w : Glo K b g H sg) (h : RdF g H a u) : a ∉ g.io := fun hi => by
  rcases h with ⟨_, f⟩ | ⟨o, h⟩
  · exact w.nz a hi f
  · have := w.mut a hi
    rw [h] at this
    exact this
theorem Bor.of {K : PySem.W.Frag} {b : G × Hp} {g : G} {H : Hp} {sg : List D} (w : Glo K b g H sg) {d : D} {v : V} (h : Is K g H v d) : Bor K g H v d := by
  cases d <;> first | exact h | skip
  · simp only [Is] at h
    obtain ⟨a, vs, e, r, q⟩ := h
    exact ⟨a, vs, e, ⟨r.1, fun hi => w.nz a hi r.2⟩, q⟩
  · simp only [Is] at h
    obtain ⟨a, vs, e, r, q⟩ := h
    exact ⟨a, vs, e, ⟨r.rd, r.noio w⟩, q⟩
  · simp only [Is] at h
    obtain ⟨a, vs, e, r, q⟩ := h
    exact ⟨a, vs, e, ⟨r.rd, r.noio w⟩, q⟩
theorem Bor.ofFre {H0 : Hp} {K : PySem.W.Frag} {g : G} {H : Hp} {d : D} {v : V} (h : Fre H0 K g H v d) : Bor K g H v d := by
  cases d <;> first | exact h | skip
  · obtain ⟨a, e, _, nf, ni, vs, h1, h2⟩ := h
    exact ⟨a, vs, e, ⟨h1, ni⟩, h2⟩
  · obtain ⟨a, e, _, nf, ni, vs, h1, h2⟩ := h
    exact ⟨a, vs, e, ⟨.inl h1, ni⟩, h2⟩
  · obtain ⟨a, e, _, nf, ni, vs, h1, h2⟩ := h
    exact ⟨a, vs, e, ⟨.inl h1, ni⟩, h2⟩
theorem Ext.ioN {P : Addr → Prop} {g g' : G} {H H' : Hp} (x : Ext P g H g' H') {a : Addr} (hn : H a ≠ none) (ni : a ∉ g.io) : a ∉ g'.io := fun q => by
  obtain ⟨more, em, hm⟩ := x.io
  rw [em] at q
  rcases List.mem_append.mp q with q | q
  · exact ni q
  · exact hn (hm a q)
theorem Rd.ext {P : Addr → Prop} {g g' : G} {H H' : Hp} (x : Ext P g H g' H') {a : Addr} {u : HO} (h : Rd H a u) (ni : a ∉ g.io) : Rd H' a u ∧ a ∉ g'.io := by
  rcases h with h | ⟨o, h⟩
  · exact ⟨.inl (x.hp a _ h ni), x.ioN (by rw [h]; simp) ni⟩
  · exact ⟨.inr ⟨o, x.hp a _ h ni⟩, x.ioN (by rw [h]; simp) ni⟩
theorem Bor.ext {P : Addr → Prop} {K : PySem.W.Frag} {b : G × Hp} {g g' : G} {H H' : Hp} {sg : List D} (w : Glo K b g H sg) (x : Ext P g H g' H') {d : D} {v : V} (h : Bor K g H v d) : Bor K g' H' v d := by
  have m := w.mono x
  cases d <;> first | exact Is.mono m _ _ h | skip
  · obtain ⟨a, vs, e, r, q⟩ := h
    exact ⟨a, vs, e, ⟨x.hp a _ r.1 r.2, x.ioN (by rw [r.1]; simp) r.2⟩, IsAll.mono m _ _ q⟩
  · obtain ⟨a, vs, e, r, q⟩ := h
    exact ⟨a, vs, e, Rd.ext x r.1 r.2, IsK.mono m _ _ q⟩
  · obtain ⟨a, vs, e, r, q⟩ := h
    exact ⟨a, vs, e, Rd.ext x r.1 r.2, IsT.mono m _ _ q⟩

def tK (K : PySem.W.Frag) (κ : Kd) (m : ME) : TE := fun σ H Q => ∃ b g s, Rep K b g H σ s ∧ ∃ d s', m s = some (d, s') ∧
  ∀ g' v H', Rep K b g' H' σ s' → Sub s' s → Ext (OwnA σ s) g H g' H' → IsR κ H K g' H' v d → Q v H'
/-- an argument list, all by value or all lent -/
abbrev MA := S → Option (List D × S)
def BorAll (K : PySem.W.Frag) (g : G) (H : Hp) : List V → List D → Prop
  | vs, [] => vs = []
  | vs, d :: ds => ∃ v r, vs = v :: r ∧ Bor K g H v d ∧ BorAll K g H r ds
def IsRA (κ : Kd) (K : PySem.W.Frag) (g : G) (H : Hp) (vs : List V) (ds : List D) : Prop :=
  match κ with
  | .val => IsAll K g H vs ds
  | _ => BorAll K g H vs ds
def tA (K : PySem.W.Frag) (κ : Kd) (m : MA) : TA := fun σ H Q => ∃ b g s, Rep K b g H σ s ∧ ∃ ds s', m s = some (ds, s') ∧
  ∀ g' vs H', Rep K b g' H' σ s' → Sub s' s → Ext (OwnA σ s) g H g' H' → IsRA κ K g' H' vs ds → Q vs H'
abbrev MT := S → Option (Bool × S)
def tT (K : PySem.W.Frag) (m : MT) : TT := fun σ H Q => ∃ b g s, Rep K b g H σ s ∧ ∃ c s', m s = some (c, s') ∧
  ∀ g' H', Rep K b g' H' σ s' → Sub s' s → Ext (OwnA σ s) g H g' H' → Q c H'

section
variable {X : Cx} {e : Expr}
theorem peImp {t t' : TE} (h : PE X e t) (f : ∀ σ H Q, t' σ H Q → t σ H Q) : PE X e t' := ⟨fun pins s σ H Q I q => h.run pins s σ H Q I (f σ H Q q)⟩
theorem ptImp {t t' : TT} (h : PT X e t) (f : ∀ σ H Q, t' σ H Q → t σ H Q) : PT X e t' := ⟨fun pins s σ H Q I q => h.run pins s σ H Q I (f σ H Q q)⟩
theorem pwImp {t t' : TT} (h : PW X e t) (f : ∀ σ H Q, t' σ H Q → t σ H Q) : PW X e t' := ⟨fun w pins s σ H Q I q => h.run w pins s σ H Q I (f σ H Q q)⟩
theorem paImp {es : List Expr} {t t' : TA} (h : PA X es t) (f : ∀ σ H Q, t' σ H Q → t σ H Q) : PA X es t' := ⟨fun p pins s σ H Q I q => h.run p pins s σ H Q I (f σ H Q q)⟩
theorem psImp {st : Stmt} {t t' : TS} (h : PS X st t) (f : ∀ D σ H, t' D σ H → t D σ H) : PS X st t' := ⟨fun pins s σ H D I q => h.run pins s σ H D I (f D σ H q)⟩
theorem pssImp {st : List Stmt} {t t' : TS} (h : PSs X st t) (f : ∀ D σ H, t' D σ H → t D σ H) : PSs X st t' := ⟨fun pins s σ H D I q => h.run pins s σ H D I (f D σ H q)⟩

theorem toBor {m : ME} (h : PE X e (tK X.K .val m)) : PE X e (tK X.K .bor m) := peImp h fun σ H Q q => by
  obtain ⟨b, g, s, r, d, s', em, k⟩ := q
  exact ⟨b, g, s, r, d, s', em, fun g' v H' r' sb x i => k g' v H' r' sb x (Bor.of r'.gl i)⟩
theorem toBorF {m : ME} (h : PE X e (tK X.K .fre m)) : PE X e (tK X.K .bor m) := peImp h fun σ H Q q => by
  obtain ⟨b, g, s, r, d, s', em, k⟩ := q
  exact ⟨b, g, s, r, d, s', em, fun g' v H' r' sb x i => k g' v H' r' sb x (Bor.ofFre i)⟩
end
/-- a slot's own address is there already -/
theorem OwnA.there {K : PySem.W.Frag} {b : G × Hp} {g : G} {H : Hp} {σ : L2.St} {s : S} {a : Addr} (r : Rep K b g H σ s) (o : OwnA σ s a) : H a ≠ none := by
  obtain ⟨i, d, e1, e2⟩ := o
  obtain ⟨v, e3, a', ev, _, _, t⟩ := r.sl i _ e1
  rw [e2] at e3
  cases e3
  cases ev
  have mu := t.mut
  intro q
  rw [q] at mu
  exact mu
/-- the new object of an expression is given to all -/
theorem Fre.freeze {K : PySem.W.Frag} {b : G × Hp} {g g' : G} {H H' : Hp} {σ : L2.St} {s s' : S} {d : D} {v : V} (r : Rep K b g H σ s) (r' : Rep K b g' H' σ s') (sb : Sub s' s) (x : Ext (OwnA σ s) g H g' H')
    (h : Fre H K g' H' v d) : ∃ g2, Rep K b g2 H' σ s' ∧ Ext (OwnA σ s) g H g2 H' ∧ Is K g2 H' v d := by
  have go : ∀ a, H a = none → ¬ g'.Fz a → a ∉ g'.io → (∃ u, H' a = some u) → (Rep K b ⟨fun c => g'.Fz c ∨ c = a, g'.io⟩ H' σ s' ∧ Ext (OwnA σ s) g H ⟨fun c => g'.Fz c ∨ c = a, g'.io⟩ H') ∧ Mono g' H' ⟨fun c => g'.Fz c ∨ c = a, g'.io⟩ H' := fun a h1 h2 h3 h4 => by
    refine ⟨⟨r'.froze h4 h3 (.inr ?_) fun o => ?_, x.hp, x.dn, fun c f => .inl (x.fz c f), fun c f => ?_, x.io⟩, r'.gl.mono (P := fun c => c = a) (Ext.froze rfl)⟩
    · cases q : b.2 a with
      | none => rfl
      | some u =>
        by_cases hi : a ∈ b.1.io
        · obtain ⟨more, em, _⟩ := r.gl.bs.io
          have : a ∈ g.io := by rw [em]; exact List.mem_append_left _ hi
          have mu := r.gl.mut a this
          rw [h1] at mu
          exact mu.elim
        · rw [r.gl.bs.hp a u q hi] at h1
          cases h1
    · exact (o.sub sb).there r h1
    · rcases f with f | f
      · exact x.nf c f
      · exact .inr (.inl (f ▸ h1))
  cases d <;> first | exact ⟨g', r', x, h⟩ | skip
  · obtain ⟨a, e, h0, nf, ni, vs, h1, h2⟩ := h
    obtain ⟨⟨q1, q2⟩, m⟩ := go a h0 nf ni ⟨_, h1⟩
    exact ⟨_, q1, q2, by simp only [Is]; exact ⟨a, vs, e, ⟨h1, .inr rfl⟩, IsAll.mono m _ _ h2⟩⟩
  · obtain ⟨a, e, h0, nf, ni, vs, h1, h2⟩ := h
    obtain ⟨⟨q1, q2⟩, m⟩ := go a h0 nf ni ⟨_, h1⟩
    exact ⟨_, q1, q2, by simp only [Is]; exact ⟨a, vs, e, .inl ⟨h1, .inr rfl⟩, IsK.mono m _ _ h2⟩⟩
  · obtain ⟨a, e, h0, nf, ni, vs, h1, h2⟩ := h
    obtain ⟨⟨q1, q2⟩, m⟩ := go a h0 nf ni ⟨_, h1⟩
    exact ⟨_, q1, q2, by simp only [Is]; exact ⟨a, vs, e, .inl ⟨h1, .inr rfl⟩, IsT.mono m _ _ h2⟩⟩
section
variable {X : Cx} {e : Expr}
theorem toVal {m : ME} (h : PE X e (tK X.K .fre m)) : PE X e (tK X.K .val m) := peImp h fun σ H Q q => by
  obtain ⟨b, g, s, r, d, s', em, k⟩ := q
  refine ⟨b, g, s, r, d, s', em, fun g' v H' r' sb x i => ?_⟩
  obtain ⟨g2, r2, x2, i2⟩ := Fre.freeze r r' sb x i
  exact k g2 v H' r2 sb x2 i2

/-! ### names, constants -/
def mName (i : Nat) : ME := fun s => match s.ρ[i]? with
  | some (some (.shr d)) => some (d, s)
  | some (some (.own d)) => some (d, ⟨s.ρ.set i (some (.shr d)), s.sg⟩)
  | _ => none
def mLend (i : Nat) : ME := fun s => match s.ρ[i]? with
  | some (some (.shr d)) => some (d, s)
  | some (some (.own d)) => some (d, s)
  | _ => none
def mC (d : D) : ME := fun s => some (d, s)
theorem Rep.toShr {K : PySem.W.Frag} {b : G × Hp} {g : G} {H : Hp} {σ : L2.St} {s : S} {i : Nat} {d : D} {a : Addr} (r : Rep K b g H σ s) (e : s.ρ[i]? = some (some (.own d))) (ea : σ[i]? = some (some (.ref a))) :
    ∃ g', Rep K b g' H σ ⟨s.ρ.set i (some (.shr d)), s.sg⟩ ∧ Ext (OwnA σ s) g H g' H ∧ Is K g' H (.ref a) d ∧ Sub ⟨s.ρ.set i (some (.shr d)), s.sg⟩ s := by
  obtain ⟨v, ev, a', ev', nf, ni, t⟩ := r.sl i _ e
  rw [ea] at ev
  cases ev
  cases ev'
  have own : OwnA σ s a := ⟨i, d, e, ea⟩
  have hx : Ext (OwnA σ s) g H ⟨fun c => g.Fz c ∨ c = a, g.io⟩ H := Ext.froze own
  have hm := r.gl.mono hx
  obtain ⟨hl, _⟩ := List.getElem?_eq_some_iff.mp e
  have there : ∃ u, H a = some u := by
    cases q : H a with
    | none => exact absurd q (own.there r)
    | some u => exact ⟨u, rfl⟩
  have hs : Is K ⟨fun c => g.Fz c ∨ c = a, g.io⟩ H (.ref a) d := by
    cases d <;> simp only [Top] at t <;> first | exact t.elim | skip
    · obtain ⟨vs, h1, h2⟩ := t
      simp only [Is]
      exact ⟨a, vs, rfl, ⟨h1, .inr rfl⟩, IsAll.mono hm _ _ h2⟩
    · obtain ⟨vs, h1, h2⟩ := t
      simp only [Is]
      exact ⟨a, vs, rfl, .inl ⟨h1, .inr rfl⟩, IsK.mono hm _ _ h2⟩
    · obtain ⟨vs, h1, h2⟩ := t
      simp only [Is]
      exact ⟨a, vs, rfl, .inl ⟨h1, .inr rfl⟩, IsT.mono hm _ _ h2⟩
  have sb : Sub ⟨s.ρ.set i (some (.shr d)), s.sg⟩ s := fun j d' h => by
    by_cases hj : i = j
    · subst hj
      rw [show (s.ρ.set i (some (.shr d)))[i]? = some (some (.shr d)) from List.getElem?_set_self hl] at h
      cases h
    · rw [show (s.ρ.set i (some (.shr d)))[j]? = s.ρ[j]? from List.getElem?_set_ne hj] at h
      exact h
  have same : ∀ j z, (s.ρ.set i (some (.shr d)))[j]? = some (some z) → (i = j ∧ z = .shr d) ∨ (i ≠ j ∧ s.ρ[j]? = some (some z)) := fun j z h => by
    by_cases hj : i = j
    · subst hj
      rw [List.getElem?_set_self hl] at h
      cases h
      exact .inl ⟨rfl, rfl⟩
    · rw [List.getElem?_set_ne hj] at h
      exact .inr ⟨hj, h⟩
  refine ⟨_, ⟨r.gl.froze there ni (.inr (r.on i d a e ea)), by rw [← r.ln]; exact List.length_set, fun j z h => ?_, fun j k c d1 d2 h1 h2 => r.ap j k c d1 d2 (sb j d1 h1) (sb k d2 h2), fun j d' c h => r.on j d' c (sb j d' h)⟩, hx, hs, sb⟩
  rcases same j z h with ⟨rfl, rfl⟩ | ⟨hj, h⟩
  · exact ⟨_, ea, hs⟩
  · obtain ⟨v, e', k⟩ := r.sl j z h
    refine ⟨v, e', k.ext r.gl (P := fun c => c = a) (Ext.froze rfl) fun c d' q1 q2 q3 => hj ?_⟩
    subst q1
    subst q2
    subst q3
    exact r.ap i j _ d d' e h ea e'
theorem ve_name (i : Nat) {x : Str} {pos : Pos} (h : PE X (.Name x pos) (tVar i)) : PE X (.Name x pos) (tK X.K .val (mName i)) := peImp h fun σ H Q q => by
  obtain ⟨b, g, s, r, d, s', em, k⟩ := q
  unfold mName at em
  split at em
  · rename_i d' e
    cases em
    obtain ⟨v, ev, iv⟩ := r.sl i _ e
    exact ⟨v, ev, k g v H r (Sub.refl _) Ext.refl iv⟩
  · rename_i d' e
    cases em
    obtain ⟨v, ev, a, rfl, _⟩ := r.sl i _ e
    obtain ⟨g', r', x', i', sb⟩ := r.toShr e ev
    exact ⟨_, ev, k g' _ H r' sb x' i'⟩
  · cases em
theorem vb_name (i : Nat) {x : Str} {pos : Pos} (h : PE X (.Name x pos) (tVar i)) : PE X (.Name x pos) (tK X.K .bor (mLend i)) := peImp h fun σ H Q q => by
  obtain ⟨b, g, s, r, d, s', em, k⟩ := q
  unfold mLend at em
  split at em
  · rename_i d' e
    cases em
    obtain ⟨v, ev, iv⟩ := r.sl i _ e
    exact ⟨v, ev, k g v H r (Sub.refl _) Ext.refl (Bor.of r.gl iv)⟩
  · rename_i d' e
    cases em
    obtain ⟨v, ev, a, rfl, nf, ni, t⟩ := r.sl i _ e
    refine ⟨_, ev, k g _ H r (Sub.refl _) Ext.refl ?_⟩
    cases d <;> simp only [Top] at t <;> first | exact t.elim | skip
    · obtain ⟨vs, h1, h2⟩ := t; exact ⟨a, vs, rfl, ⟨h1, ni⟩, h2⟩
    · obtain ⟨vs, h1, h2⟩ := t; exact ⟨a, vs, rfl, ⟨.inl h1, ni⟩, h2⟩
    · obtain ⟨vs, h1, h2⟩ := t; exact ⟨a, vs, rfl, ⟨.inl h1, ni⟩, h2⟩
  · cases em
theorem ve_const {d : D} {v : V} {e : Expr} (h : PE X e (tC v)) (hd : ∀ K g H, Is K g H v d) : PE X e (tK X.K .val (mC d)) := peImp h fun σ H Q q => by
  obtain ⟨b, g, s, r, d', s', em, k⟩ := q
  cases em
  exact k g v H r (Sub.refl _) Ext.refl (hd _ _ _)
theorem ve_int {i : Int} {j pos} : PE X (.Constant (.int i) j pos) (tK X.K .val (mC (.int i))) := ve_const pe_int fun _ _ _ => by simp only [Is]
theorem ve_bl {i : Bool} {j pos} : PE X (.Constant (.bool i) j pos) (tK X.K .val (mC (.bl i))) := ve_const pe_bl fun _ _ _ => by simp only [Is]
theorem ve_non {j pos} : PE X (.Constant .none j pos) (tK X.K .val (mC .non)) := ve_const pe_non fun _ _ _ => by simp only [Is]
theorem ve_str {i : Str} {j pos} : PE X (.Constant (.str i) j pos) (tK X.K .val (mC (.str i))) := ve_const pe_str fun _ _ _ => by simp only [Is]
end
end Vl
namespace Vl
open PySem PySem.Spec PyProof.Rows L2

/-! ### lists of values -/
section
variable {K : PySem.W.Frag} {g : G} {H : Hp}
theorem IsAll.length : ∀ {ds : List D} {vs : List V}, IsAll K g H vs ds → vs.length = ds.length
  | [], vs, h => by simp only [IsAll] at h; rw [h]; rfl
  | d :: ds, vs, h => by
    simp only [IsAll] at h
    obtain ⟨v, r, rfl, _, h2⟩ := h
    simp only [List.length_cons, IsAll.length h2]
theorem IsAll.append : ∀ {ds es : List D} {vs us : List V}, IsAll K g H vs ds → IsAll K g H us es → IsAll K g H (vs ++ us) (ds ++ es)
  | [], es, vs, us, h, h' => by simp only [IsAll] at h; subst h; exact h'
  | d :: ds, es, vs, us, h, h' => by
    simp only [IsAll] at h
    obtain ⟨v, r, rfl, h1, h2⟩ := h
    simp only [List.cons_append, IsAll]
    exact ⟨v, r ++ us, rfl, h1, IsAll.append h2 h'⟩
theorem IsAll.get : ∀ {ds : List D} {vs : List V} {i : Nat} {d : D}, IsAll K g H vs ds → ds[i]? = some d → ∃ v, vs[i]? = some v ∧ Is K g H v d
  | [], vs, i, d, h, e => by simp at e
  | d' :: ds, vs, 0, d, h, e => by
    simp only [IsAll] at h
    obtain ⟨v, r, rfl, h1, h2⟩ := h
    simp at e
    subst e
    exact ⟨v, rfl, h1⟩
  | d' :: ds, vs, i + 1, d, h, e => by
    simp only [IsAll] at h
    obtain ⟨v, r, rfl, h1, h2⟩ := h
    exact IsAll.get (i := i) h2 (by simpa using e)
theorem IsAll.take : ∀ {ds : List D} {vs : List V} (n : Nat), IsAll K g H vs ds → IsAll K g H (vs.take n) (ds.take n)
  | _, _, 0, _ => by simp [IsAll]
  | [], vs, n + 1, h => by simp only [IsAll] at h; subst h; simp [IsAll]
  | d :: ds, vs, n + 1, h => by
    simp only [IsAll] at h
    obtain ⟨v, r, rfl, h1, h2⟩ := h
    simp only [List.take_succ_cons, IsAll]
    exact ⟨v, _, rfl, h1, IsAll.take n h2⟩
theorem IsAll.drop : ∀ {ds : List D} {vs : List V} (n : Nat), IsAll K g H vs ds → IsAll K g H (vs.drop n) (ds.drop n)
  | _, _, 0, h => h
  | [], vs, n + 1, h => by simp only [IsAll] at h; subst h; simp [IsAll]
  | d :: ds, vs, n + 1, h => by
    simp only [IsAll] at h
    obtain ⟨v, r, rfl, h1, h2⟩ := h
    exact IsAll.drop n h2
theorem IsAll.set : ∀ {ds : List D} {vs : List V} {d : D} {v : V} (n : Nat), IsAll K g H vs ds → Is K g H v d → IsAll K g H (vs.set n v) (ds.set n d)
  | [], vs, d, v, n, h, _ => by simp only [IsAll] at h; subst h; simp [IsAll]
  | d' :: ds, vs, d, v, 0, h, h' => by
    simp only [IsAll] at h
    obtain ⟨v', r, rfl, h1, h2⟩ := h
    simp only [List.set_cons_zero, IsAll]
    exact ⟨v, r, rfl, h', h2⟩
  | d' :: ds, vs, d, v, n + 1, h, h' => by
    simp only [IsAll] at h
    obtain ⟨v', r, rfl, h1, h2⟩ := h
    simp only [List.set_cons_succ, IsAll]
    exact ⟨v', _, rfl, h1, IsAll.set n h2 h'⟩
theorem IsAll.one {d : D} {v : V} (h : Is K g H v d) : IsAll K g H [v] [d] := by
  simp only [IsAll]
  exact ⟨v, [], rfl, h, rfl⟩
theorem IsAll.rev : ∀ {ds : List D} {vs : List V}, IsAll K g H vs ds → IsAll K g H vs.reverse ds.reverse
  | [], vs, h => by simp only [IsAll] at h; subst h; simp [IsAll]
  | d :: ds, vs, h => by
    simp only [IsAll] at h
    obtain ⟨v, r, rfl, h1, h2⟩ := h
    rw [List.reverse_cons, List.reverse_cons]
    exact IsAll.append (IsAll.rev h2) (IsAll.one h1)
theorem IsAll.rep {ds : List D} {vs : List V} (h : IsAll K g H vs ds) : ∀ n : Nat, IsAll K g H (List.replicate n vs).flatten (List.replicate n ds).flatten
  | 0 => by simp [IsAll]
  | n + 1 => by
    simp only [List.replicate_succ, List.flatten_cons]
    exact IsAll.append h (IsAll.rep h n)
theorem IsAll.ints : ∀ {ns : List Int} {vs : List V}, IsAll K g H vs (ns.map D.int) → vs = ns.map V.int
  | [], vs, h => by simpa only [List.map_nil, IsAll] using h
  | n :: ns, vs, h => by
    simp only [List.map_cons, IsAll, Is] at h
    obtain ⟨v, r, rfl, rfl, h2⟩ := h
    rw [IsAll.ints h2]
    rfl
end
/-- the item of a place of any sign -/
def atD (xs : List D) (i : Int) : Option D := (ixN xs.length i).bind fun j => xs[j]?
theorem IsAll.at {K : PySem.W.Frag} {g : G} {H : Hp} {ds : List D} {vs : List V} {i : Int} {d : D} (h : IsAll K g H vs ds) (e : atD ds i = some d) : ∃ v, atI vs i = some v ∧ Is K g H v d := by
  unfold atD at e
  obtain ⟨j, e1, e2⟩ := Option.bind_eq_some_iff.mp e
  obtain ⟨v, h1, h2⟩ := h.get e2
  refine ⟨v, ?_, h2⟩
  unfold atI
  rw [h.length, e1]
  exact h1

/-! ### what an object gives is looked up where it is asked -/
def der (sg : List D) : D → D
  | .obj k => sg.getD k .non
  | d => d
/-- readable here and now -/
def Now (K : PySem.W.Frag) (g : G) (H : Hp) (v : V) : D → Prop
  | .lst ds => ∃ a vs, v = .ref a ∧ H a = some (.lst vs) ∧ IsAll K g H vs ds
  | .dK es => ∃ a kvs, v = .ref a ∧ Rd H a (.dK kvs) ∧ IsK K g H kvs es
  | .dT es => ∃ a kvs, v = .ref a ∧ Rd H a (.dT kvs) ∧ IsT K g H kvs es
  | .obj _ => False
  | d => Is K g H v d
theorem pair_get {α β : Type} {F : α → β → Prop} : ∀ {l : List α} {r : List β} {k : Nat} {a : α}, Paired F l r → l[k]? = some a → ∃ b, r[k]? = some b ∧ F a b
  | _, _, _, _, .nil, e => by simp at e
  | _, _, 0, _, .cons h _, e => by simp at e; subst e; exact ⟨_, rfl, h⟩
  | _, _, k + 1, _, .cons _ t, e => pair_get (k := k) t (by simpa using e)
theorem Bor.now {K : PySem.W.Frag} {b : G × Hp} {g : G} {H : Hp} {sg : List D} (w : Glo K b g H sg) {d : D} {v : V} (h : Bor K g H v d) : Now K g H v (der sg d) := by
  cases d <;> first | exact h | skip
  · obtain ⟨a, vs, e, h1, h2⟩ := h; exact ⟨a, vs, e, h1.1, h2⟩
  · obtain ⟨a, vs, e, h1, h2⟩ := h; exact ⟨a, vs, e, h1.1, h2⟩
  · obtain ⟨a, vs, e, h1, h2⟩ := h; exact ⟨a, vs, e, h1.1, h2⟩
  · rename_i k
    have h : Is K g H v (.obj k) := h
    simp only [Is] at h
    obtain ⟨a, rfl, e⟩ := h
    obtain ⟨d, ed, t⟩ := pair_get w.ob e
    show Now K g H (.ref a) (sg.getD k .non)
    rw [List.getD_eq_getElem?_getD, ed, Option.getD_some]
    cases d <;> simp only [Top] at t <;> first | exact t.elim | skip
    · obtain ⟨vs, h1, h2⟩ := t; exact ⟨a, vs, rfl, h1, h2⟩
    · obtain ⟨vs, h1, h2⟩ := t; exact ⟨a, vs, rfl, .inl h1, h2⟩
    · obtain ⟨vs, h1, h2⟩ := t; exact ⟨a, vs, rfl, .inl h1, h2⟩

/-! ### what follows an operation: the heap as it was, or one new object -/
def Res (K : PySem.W.Frag) (κ : Kd) (g : G) (H : Hp) (z : D) (Q : VK) : Prop :=
  ∀ v H', (H' = H ∨ ∃ p o, H p = none ∧ H' = upd H p o) → IsR κ H K g H' v z → Q v H'
theorem Glo.new {K : PySem.W.Frag} {b : G × Hp} {g : G} {H : Hp} {sg : List D} {p : Addr} (w : Glo K b g H sg) (h : H p = none) : ¬ g.Fz p ∧ p ∉ g.io := by
  refine ⟨fun f => ?_, fun hi => ?_⟩
  · obtain ⟨o, e⟩ := w.dm p f
    rw [h] at e
    cases e
  · have mu := w.mut p hi
    rw [h] at mu
    exact mu
section
variable {K : PySem.W.Frag} {b : G × Hp} {g : G} {H : Hp} {sg : List D} {Q : VK}
theorem Res.here {κ : Kd} {z : D} {v : V} (r : Res K κ g H z Q) (i : IsR κ H K g H v z) : Q v H := r v H (.inl rfl) i
theorem Res.lst {zs : List D} {vs : List V} (w : Glo K b g H sg) (r : Res K .fre g H (.lst zs) Q) (i : IsAll K g H vs zs) : ∀ p, H p = none → Q (.ref p) (upd H p (.lst vs)) := fun p hp => by
  obtain ⟨n1, n2⟩ := w.new hp
  exact r _ _ (.inr ⟨p, _, hp, rfl⟩) ⟨p, rfl, hp, n1, n2, vs, upd_same, IsAll.mono (w.mono (P := fun _ => False) (Ext.laid hp)) _ _ i⟩
theorem Res.tupF {zs : List D} {vs : List V} (w : Glo K b g H sg) (r : Res K .fre g H (.tup zs) Q) (i : IsAll K g H vs zs) : ∀ p, H p = none → Q (.ref p) (upd H p (.tup vs)) := fun p hp =>
  r _ _ (.inr ⟨p, _, hp, rfl⟩) (show Is K g (upd H p (.tup vs)) (.ref p) (.tup zs) by
    simp only [Is]
    exact ⟨p, vs, rfl, Tp.of upd_same, IsAll.mono (w.mono (P := fun _ => False) (Ext.laid hp)) _ _ i⟩)
theorem Res.tup {zs : List D} {vs : List V} (w : Glo K b g H sg) (r : Res K .val g H (.tup zs) Q) (i : IsAll K g H vs zs) : ∀ p, H p = none → Q (.ref p) (upd H p (.tup vs)) := fun p hp =>
  r _ _ (.inr ⟨p, _, hp, rfl⟩) (show Is K g (upd H p (.tup vs)) (.ref p) (.tup zs) by
    simp only [Is]
    exact ⟨p, vs, rfl, Tp.of upd_same, IsAll.mono (w.mono (P := fun _ => False) (Ext.laid hp)) _ _ i⟩)
end
/-- behind the operands: what is wanted of the whole gives what is wanted of the operation -/
theorem Rep.res {K : PySem.W.Frag} {κ : Kd} {b : G × Hp} {g g1 : G} {H H1 : Hp} {σ : L2.St} {s s1 : S} {z : D} {Q : VK} (r1 : Rep K b g1 H1 σ s1) (sb : Sub s1 s) (x : Ext (OwnA σ s) g H g1 H1)
    (k : ∀ g' v H', Rep K b g' H' σ s1 → Sub s1 s → Ext (OwnA σ s) g H g' H' → IsR κ H K g' H' v z → Q v H') (dn : ∀ a, H1 a = none → H a = none) : Res K κ g1 H1 z Q := fun v H' hH i => by
  have i' : IsR κ H K g1 H' v z := by
    cases κ with
    | val => exact i
    | bor => exact i
    | fre =>
      cases z <;> first | exact i | skip
      · obtain ⟨a, e, h0, h1⟩ := i; exact ⟨a, e, dn a h0, h1⟩
      · obtain ⟨a, e, h0, h1⟩ := i; exact ⟨a, e, dn a h0, h1⟩
      · obtain ⟨a, e, h0, h1⟩ := i; exact ⟨a, e, dn a h0, h1⟩
  rcases hH with rfl | ⟨p, o, hp, rfl⟩
  · exact k g1 v _ r1 sb x i'
  · exact k g1 v _ (r1.laid hp) sb (x.trans (Ext.laid (P := fun _ => False) hp) fun _ h => h.elim) i'

/-! ### operations of one and two operands -/
abbrev F1 := List D → D → Option D
abbrev F2 := List D → D → D → Option D
def m1 (f : F1) (ma : ME) : ME := fun s => (ma s).bind fun (d, s1) => (f s1.sg d).bind fun z => some (z, s1)
def m2 (f : F2) (ma mb : ME) : ME := fun s => (ma s).bind fun (d, s1) => (mb s1).bind fun (e, s2) => (f s2.sg d e).bind fun z => some (z, s2)
structure OpD (X : Cx) (op : Value → Value → Sem Value) (f : F2) (κ : Kd) : Prop where
  run : ∃ r, OpR X op r ∧ ∀ b g H sg x y d e z Q, Glo X.K b g H sg → Bor X.K g H x d → Bor X.K g H y e → f sg d e = some z → Res X.K κ g H z Q → r x y H Q
theorem tK2 {K : PySem.W.Frag} {κ : Kd} {f : F2} {r : R2} {ma mb : ME} (hr : ∀ b g H sg x y d e z Q, Glo K b g H sg → Bor K g H x d → Bor K g H y e → f sg d e = some z → Res K κ g H z Q → r x y H Q)
    (σ : L2.St) (H : Hp) (Q : VK) (q : tK K κ (m2 f ma mb) σ H Q) : tOp r (tK K .bor ma) (tK K .bor mb) σ H Q := by
  obtain ⟨b, g, s, R, z, s', em, k⟩ := q
  unfold m2 at em
  obtain ⟨⟨d, s1⟩, e1, em⟩ := Option.bind_eq_some_iff.mp em
  obtain ⟨⟨e, s2⟩, e2, em⟩ := Option.bind_eq_some_iff.mp em
  obtain ⟨z', e3, em⟩ := Option.bind_eq_some_iff.mp em
  cases em
  refine ⟨b, g, s, R, d, s1, e1, fun g1 v1 H1 R1 sb1 x1 i1 => ⟨b, g1, s1, R1, e, s', e2, fun g2 v2 H2 R2 sb2 x2 i2 => ?_⟩⟩
  have i1' : Bor K g2 H2 v1 d := Bor.ext R1.gl x2 i1
  have x12 : Ext (OwnA σ s) g H g2 H2 := x1.trans x2 fun a o => o.sub sb1
  exact hr b g2 H2 s'.sg v1 v2 d e z Q R2.gl i1' i2 e3 (R2.res (sb2.trans sb1) x12 k x12.dn)
section
variable {X : Cx} {a b : Expr} {ma mb : ME} {pos : Pos} {κ : Kd} {f : F2}
theorem ve_bin {op : Operator} (o : OpD X (binaryOp op) f κ) (ha : PE X a (tK X.K .bor ma)) (hb : PE X b (tK X.K .bor mb)) : PE X (.BinOp a op b pos) (tK X.K κ (m2 f ma mb)) := by
  obtain ⟨r, ho, hr⟩ := o.run
  exact peImp (pe_op ho ha hb) (tK2 hr)
theorem ve_cmp {op : CmpOp} (o : OpD X (compareOp op) f κ) (ha : PE X a (tK X.K .bor ma)) (hb : PE X b (tK X.K .bor mb)) (hm : behindInMarks op b = false := by rfl) : PE X (.Compare a [op] [b] pos) (tK X.K κ (m2 f ma mb)) := by
  obtain ⟨r, ho, hr⟩ := o.run
  exact peImp (pe_cmpR ho ha hb hm) (tK2 hr)
end
theorem tK1 {K : PySem.W.Frag} {κ : Kd} {f : F1} {r : V → Hp → VK → Prop} {ma : ME} (hr : ∀ b g H sg x d z Q, Glo K b g H sg → Bor K g H x d → f sg d = some z → Res K κ g H z Q → r x H Q)
    (σ : L2.St) (H : Hp) (Q : VK) (q : tK K κ (m1 f ma) σ H Q) : tUn r (tK K .bor ma) σ H Q := by
  obtain ⟨b, g, s, R, z, s', em, k⟩ := q
  unfold m1 at em
  obtain ⟨⟨d, s1⟩, e1, em⟩ := Option.bind_eq_some_iff.mp em
  obtain ⟨z', e3, em⟩ := Option.bind_eq_some_iff.mp em
  cases em
  refine ⟨b, g, s, R, d, s', e1, fun g1 v1 H1 R1 sb1 x1 i1 => ?_⟩
  exact hr b g1 H1 s'.sg v1 d z Q R1.gl i1 e3 (R1.res sb1 x1 k x1.dn)

/-! ### the operators -/
def fAdd : F2 := fun _ d e => match d, e with
  | .int i, .int j => some (.int (i + j))
  | .lst xs, .lst ys => if xs.length + ys.length ≤ sizeLine then some (.lst (xs ++ ys)) else none
  | .tup xs, .tup ys => if xs.length + ys.length ≤ sizeLine then some (.tup (xs ++ ys)) else none
  | _, _ => none
def fSub : F2 := fun _ d e => match d, e with
  | .int i, .int j => some (.int (i - j))
  | _, _ => none
/-- the sizes of ints that may be multiplied -/
def mulOk (i j : Int) : Bool := decide (i.natAbs < 2 ^ 64) || decide (j.natAbs < 2 ^ 64) || decide (i.natAbs.log2 + j.natAbs.log2 < 1000000)
def fMul : F2 := fun _ d e => match d, e with
  | .int i, .int j => if mulOk i j then some (.int (i * j)) else none
  | .lst xs, .int k => if -(2 ^ 63) ≤ k ∧ k < 2 ^ 63 ∧ xs.length * k.toNat ≤ sizeLine then some (.lst (List.replicate k.toNat xs).flatten) else none
  | _, _ => none
def divOk (j : Int) : Bool := decide (0 < j) && decide (j.natAbs.log2 < 9000)
def fDiv : F2 := fun _ d e => match d, e with
  | .int i, .int j => if divOk j then some (.int (i / j)) else none
  | _, _ => none
def fMod : F2 := fun _ d e => match d, e with
  | .int i, .int j => if 0 < j then some (.int (i % j)) else none
  | _, _ => none
def fPow : F2 := fun _ d e => match d, e with
  | .int i, .int j => if 0 ≤ j ∧ j ≤ 1000 ∧ i.natAbs < 2 ^ 64 then some (.int (i ^ j.toNat)) else none
  | _, _ => none
def fNeg : F1 := fun _ d => match d with
  | .int i => some (.int (-i))
  | _ => none
section
variable {X : Cx}
theorem isInt {K : PySem.W.Frag} {g : G} {H : Hp} {v : V} {i : Int} (h : Bor K g H v (.int i)) : v = .int i := by
  have h : Is K g H v (.int i) := h
  simpa only [Is] using h
theorem od_int {op : Value → Value → Sem Value} {C : Int → Int → Prop} {h : Int → Int → Int} {f : F2} (hr : OpR X op (rI C fun i j => .int (h i j)))
    (hf : ∀ sg d e z, f sg d e = some z → ∃ i j, d = .int i ∧ e = .int j ∧ C i j ∧ z = .int (h i j)) : OpD X op f .val := ⟨_, hr, fun b g H sg x y d e z Q w hx hy ef r => by
  obtain ⟨i, j, rfl, rfl, hc, rfl⟩ := hf sg d e z ef
  exact ⟨i, j, isInt hx, isInt hy, hc, r.here (by show Is _ _ _ _ _; simp only [Is])⟩⟩
theorem od_add : OpD X (binaryOp .Add) fAdd .fre := ⟨_, OpR.or op_add (OpR.or op_cat op_catA), fun b g H sg x y d e z Q w hx hy ef r => by
  unfold fAdd at ef
  split at ef
  · cases ef
    exact .inl ⟨_, _, isInt hx, isInt hy, r.here (by show Is _ _ _ _ _; simp only [Is])⟩
  · rename_i xs ys
    split at ef
    · rename_i hl
      cases ef
      obtain ⟨p, vs, rfl, ⟨hp, _⟩, iv⟩ := hx
      obtain ⟨q, us, rfl, ⟨hq, _⟩, iu⟩ := hy
      exact .inr (.inl ⟨p, q, vs, us, rfl, rfl, hp, hq, by rw [iv.length, iu.length]; exact hl, Res.lst w r (iv.append iu)⟩)
    · cases ef
  · rename_i xs ys
    split at ef
    · rename_i hl
      cases ef
      have hx' : Is X.K g H x (.tup xs) := hx
      have hy' : Is X.K g H y (.tup ys) := hy
      simp only [Is] at hx' hy'
      obtain ⟨p, vs, rfl, hp, iv⟩ := hx'
      obtain ⟨q, us, rfl, hq, iu⟩ := hy'
      refine .inr (.inr ⟨p, q, vs, us, rfl, rfl, hp.sq, hq.sq, by rw [iv.length, iu.length]; exact hl, fun e => ?_, fun _ e => ?_, fun _ _ => Res.tupF w r (iv.append iu)⟩)
      · have e' : xs = [] := List.eq_nil_of_length_eq_zero (by rw [← iv.length, e]; rfl)
        subst e'
        exact r.here hy
      · have e' : ys = [] := List.eq_nil_of_length_eq_zero (by rw [← iu.length, e]; rfl)
        subst e'
        rw [List.append_nil] at r
        exact r.here hx
    · cases ef
  · cases ef⟩
theorem od_sub : OpD X (binaryOp .Sub) fSub .val := ⟨_, op_sub, fun b g H sg x y d e z Q w hx hy ef r => by
  unfold fSub at ef
  split at ef
  · cases ef
    exact ⟨_, _, isInt hx, isInt hy, r.here (by show Is _ _ _ _ _; simp only [Is])⟩
  · cases ef⟩
theorem od_mul : OpD X (binaryOp .Mult) fMul .fre := ⟨_, OpR.or (OpR.or op_mul op_mulW) op_rep, fun b g H sg x y d e z Q w hx hy ef r => by
  unfold fMul at ef
  split at ef
  · rename_i i j
    split at ef
    · rename_i hm
      cases ef
      have q : Q (.int (i * j)) H := r.here (by show Is _ _ _ _ _; simp only [Is])
      unfold mulOk at hm
      simp only [Bool.or_eq_true, decide_eq_true_eq] at hm
      rcases hm with (hm | hm) | hm
      · exact .inl (.inl ⟨i, j, isInt hx, isInt hy, .inl (by omega), q⟩)
      · exact .inl (.inl ⟨i, j, isInt hx, isInt hy, .inr (by omega), q⟩)
      · exact .inl (.inr ⟨i, j, isInt hx, isInt hy, hm, q⟩)
    · cases ef
  · rename_i xs k
    split at ef
    · rename_i hl
      cases ef
      obtain ⟨p, vs, rfl, ⟨hp, _⟩, iv⟩ := hx
      exact .inr ⟨p, k, vs, rfl, isInt hy, hp, hl.1, hl.2.1, by rw [iv.length]; exact hl.2.2, Res.lst w r (iv.rep _)⟩
    · cases ef
  · cases ef⟩
theorem od_div : OpD X (binaryOp .FloorDiv) fDiv .val := od_int op_fdivW fun sg d e z ef => by
  unfold fDiv at ef
  split at ef
  · split at ef
    · rename_i hd
      cases ef
      unfold divOk at hd
      simp only [Bool.and_eq_true, decide_eq_true_eq] at hd
      exact ⟨_, _, rfl, rfl, hd, rfl⟩
    · cases ef
  · cases ef
theorem od_mod : OpD X (binaryOp .Mod) fMod .val := od_int op_mod fun sg d e z ef => by
  unfold fMod at ef
  split at ef
  · split at ef
    · rename_i hd
      cases ef
      exact ⟨_, _, rfl, rfl, hd, rfl⟩
    · cases ef
  · cases ef
theorem od_pow : OpD X (binaryOp .Pow) fPow .val := od_int op_pow fun sg d e z ef => by
  unfold fPow at ef
  split at ef
  · split at ef
    · rename_i hd
      cases ef
      exact ⟨_, _, rfl, rfl, ⟨hd.1, by omega, hd.2.2⟩, rfl⟩
    · cases ef
  · cases ef
theorem ve_neg {a : Expr} {ma : ME} {pos : Pos} (ha : PE X a (tK X.K .bor ma)) : PE X (.UnaryOp .USub a pos) (tK X.K .val (m1 fNeg ma)) := peImp (pe_un un_neg ha) (tK1 fun b g H sg x d z Q w hx ef r => by
  unfold fNeg at ef
  split at ef
  · cases ef
    exact ⟨_, isInt hx, r.here (by show Is _ _ _ _ _; simp only [Is])⟩
  · cases ef)

/-! ### comparisons -/
def cmpI (p : Int → Int → Bool) : F2 := fun _ d e => match d, e with
  | .int i, .int j => some (.bl (p i j))
  | _, _ => none
theorem od_cmpI {op : CmpOp} {p : Int → Int → Bool} (h : OpR X (compareOp op) (rI0 fun i j => .bl (p i j))) : OpD X (compareOp op) (cmpI p) .val := ⟨_, h, fun b g H sg x y d e z Q w hx hy ef r => by
  unfold cmpI at ef
  split at ef
  · cases ef
    exact ⟨_, _, isInt hx, isInt hy, r.here (by show Is _ _ _ _ _; simp only [Is])⟩
  · cases ef⟩
def pLt (i j : Int) : Bool := decide (i < j)
def pLe (i j : Int) : Bool := decide (i ≤ j)
def pGt (i j : Int) : Bool := decide (j < i)
def pGe (i j : Int) : Bool := decide (j ≤ i)
theorem od_lt : OpD X (compareOp .Lt) (cmpI pLt) .val := od_cmpI op_lt
theorem od_le : OpD X (compareOp .LtE) (cmpI pLe) .val := od_cmpI op_le
theorem od_gt : OpD X (compareOp .Gt) (cmpI pGt) .val := od_cmpI op_gt
theorem od_ge : OpD X (compareOp .GtE) (cmpI pGe) .val := od_cmpI op_ge
end
mutual
def D.py : D → PyData
  | .non => .none
  | .bl b => .bool b
  | .int i => .int i
  | .str x => .str x
  | .tup xs => .tuple (pys xs)
  | .lst xs => .list (pys xs)
  | .scr xs => .list (pys xs)
  | .dK _ => .none
  | .dT _ => .none
  | .obj _ => .none
  | .ty _ => .none
def pys : List D → List PyData
  | [] => []
  | d :: ds => d.py :: pys ds
end
mutual
/-- plain data, nested at most n deep -/
def D.pl : Nat → D → Bool
  | _, .non => true
  | _, .bl _ => true
  | _, .int _ => true
  | _, .str x => (PyData.str x).canLay0
  | n + 1, .tup xs => pls n xs
  | n + 1, .lst xs => pls n xs
  | n + 1, .scr xs => pls n xs
  | _, _ => false
def pls : Nat → List D → Bool
  | _, [] => true
  | n, d :: ds => D.pl n d && pls n ds
end
end Vl
namespace Vl
open PySem PySem.Spec PyProof.Rows L2

/-! ### plain data as the library reads them -/
mutual
theorem D.pl_lay : ∀ (n : Nat) (d : D), D.pl n d = true → d.py.canLay0 = true ∧ d.py.depth ≤ n
  | n, .non, _ => by cases n <;> simp [D.py, PyData.canLay0, PyData.depth]
  | n, .bl _, _ => by cases n <;> simp [D.py, PyData.canLay0, PyData.depth]
  | n, .int _, _ => by cases n <;> simp [D.py, PyData.canLay0, PyData.depth]
  | n, .str x, h => by
    have h' : (PyData.str x).canLay0 = true := by cases n <;> simpa only [D.pl] using h
    simp only [D.py, PyData.depth]
    exact ⟨h', Nat.zero_le _⟩
  | 0, .tup _, h => by simp [D.pl] at h
  | 0, .lst _, h => by simp [D.pl] at h
  | 0, .scr _, h => by simp [D.pl] at h
  | n + 1, .tup xs, h => by
    simp only [D.pl] at h
    have := pls_lay n xs h
    simp only [D.py, PyData.canLay0, PyData.depth]
    exact ⟨this.1, by omega⟩
  | n + 1, .lst xs, h => by
    simp only [D.pl] at h
    have := pls_lay n xs h
    simp only [D.py, PyData.canLay0, PyData.depth]
    exact ⟨this.1, by omega⟩
  | n + 1, .scr xs, h => by
    simp only [D.pl] at h
    have := pls_lay n xs h
    simp only [D.py, PyData.canLay0, PyData.depth]
    exact ⟨this.1, by omega⟩
  | n, .dK _, h => by cases n <;> simp [D.pl] at h
  | n, .dT _, h => by cases n <;> simp [D.pl] at h
  | n, .obj _, h => by cases n <;> simp [D.pl] at h
  | n, .ty _, h => by cases n <;> simp [D.pl] at h
theorem pls_lay : ∀ (n : Nat) (ds : List D), pls n ds = true → PyData.canLayAll0 (pys ds) = true ∧ PyData.depthAll (pys ds) ≤ n
  | n, [], _ => by simp [pys, PyData.canLayAll0, PyData.depthAll]
  | n, d :: ds, h => by
    simp only [pls, Bool.and_eq_true] at h
    have h1 := D.pl_lay n d h.1
    have h2 := pls_lay n ds h.2
    simp only [pys, PyData.canLayAll0, PyData.depthAll, h1.1, h2.1, Bool.and_self, true_and]
    omega
end
section
variable {K : PySem.W.Frag} {g : G} {H : Hp}
mutual
theorem Is.dp : ∀ (n : Nat) (d : D) (v : V), D.pl n d = true → Is K g H v d → Dp K H v d.py
  | n, .non, v, _, h => by simp only [Is] at h; subst h; simp only [D.py]; exact .non
  | n, .bl _, v, _, h => by simp only [Is] at h; subst h; simp only [D.py]; exact .bl _
  | n, .int _, v, _, h => by simp only [Is] at h; subst h; simp only [D.py]; exact .int _
  | n, .str x, v, _, h => by simp only [Is] at h; subst h; simp only [D.py]; exact .str _
  | 0, .tup _, v, h, _ => by simp [D.pl] at h
  | 0, .lst _, v, h, _ => by simp [D.pl] at h
  | 0, .scr _, v, h, _ => by simp [D.pl] at h
  | n + 1, .tup xs, v, h, i => by
    simp only [D.pl] at h
    simp only [Is] at i
    obtain ⟨a, vs, rfl, h1, h2⟩ := i
    simp only [D.py]
    exact .tup h1.sq (IsAll.dp n xs vs h h2)
  | n + 1, .lst xs, v, h, i => by
    simp only [D.pl] at h
    simp only [Is] at i
    obtain ⟨a, vs, rfl, h1, h2⟩ := i
    simp only [D.py]
    exact .lst (SqL.of h1.1) (IsAll.dp n xs vs h h2)
  | n + 1, .scr xs, v, h, i => by
    simp only [D.pl] at h
    simp only [Is] at i
    obtain ⟨a, vs, rfl, h1, h2⟩ := i
    simp only [D.py]
    refine .lst ?_ (IsAll.dp n xs vs h h2)
    rcases h1 with h1 | ⟨o, h1⟩
    · exact h1.sq
    · exact .inl (.inr ⟨o, h1⟩)
  | n, .dK _, v, h, _ => by cases n <;> simp [D.pl] at h
  | n, .dT _, v, h, _ => by cases n <;> simp [D.pl] at h
  | n, .obj _, v, h, _ => by cases n <;> simp [D.pl] at h
  | n, .ty _, v, h, _ => by cases n <;> simp [D.pl] at h
theorem IsAll.dp : ∀ (n : Nat) (ds : List D) (vs : List V), pls n ds = true → IsAll K g H vs ds → DpAll K H vs (pys ds)
  | n, [], vs, _, h => by simp only [IsAll] at h; subst h; simp only [pys]; exact .nil
  | n, d :: ds, vs, h, i => by
    simp only [pls, Bool.and_eq_true] at h
    simp only [IsAll] at i
    obtain ⟨v, r, rfl, h1, h2⟩ := i
    simp only [pys]
    exact .cons (Is.dp n d v h.1 h1) (IsAll.dp n ds r h.2 h2)
end
theorem Now.dp {n : Nat} : ∀ {d : D} {v : V}, D.pl n d = true → Now K g H v d → Dp K H v d.py
  | .non, v, h, i => Is.dp (g := g) n .non v h i
  | .bl b, v, h, i => Is.dp (g := g) n (.bl b) v h i
  | .int b, v, h, i => Is.dp (g := g) n (.int b) v h i
  | .str b, v, h, i => Is.dp (g := g) n (.str b) v h i
  | .tup b, v, h, i => Is.dp (g := g) n (.tup b) v h i
  | .scr b, v, h, i => Is.dp (g := g) n (.scr b) v h i
  | .ty b, v, h, i => Is.dp (g := g) n (.ty b) v h i
  | .lst xs, v, h, i => by
    obtain ⟨a, vs, rfl, h1, h2⟩ := i
    cases n with
    | zero => simp [D.pl] at h
    | succ n =>
      simp only [D.pl] at h
      simp only [D.py]
      exact .lst (SqL.of h1) (IsAll.dp n _ vs h h2)
  | .dK _, v, h, _ => by cases n <;> simp [D.pl] at h
  | .dT _, v, h, _ => by cases n <;> simp [D.pl] at h
  | .obj _, v, h, _ => by cases n <;> simp [D.pl] at h
theorem shaped_of {d : D} {n : Nat} (h : D.pl n d = true) (hn : n ≤ 64) : SeqAt.shaped d.py = true := by
  obtain ⟨h1, h2⟩ := D.pl_lay n d h
  show (d.py.canLay0 && decide (d.py.depth ≤ 64)) = true
  rw [h1, Bool.true_and]
  exact decide_eq_true (by omega)
end
def eqD (d e : D) : Bool := PyData.eqv d.py e.py
def fEq : F2 := fun sg d e => if D.pl 50 (der sg d) && D.pl 50 (der sg e) then some (.bl (eqD (der sg d) (der sg e))) else none
def fNe : F2 := fun sg d e => if D.pl 50 (der sg d) && D.pl 50 (der sg e) then some (.bl (!eqD (der sg d) (der sg e))) else none
section
variable {X : Cx}
theorem isBl {K : PySem.W.Frag} {κ : Kd} {H0 : Hp} {g : G} {H : Hp} {b : Bool} : IsR κ H0 K g H (.bl b) (.bl b) := by
  cases κ <;> (show Is _ _ _ _ _; simp only [Is])
theorem isI {K : PySem.W.Frag} {κ : Kd} {H0 : Hp} {g : G} {H : Hp} {b : Int} : IsR κ H0 K g H (.int b) (.int b) := by
  cases κ <;> (show Is _ _ _ _ _; simp only [Is])
theorem isNon {K : PySem.W.Frag} {κ : Kd} {H0 : Hp} {g : G} {H : Hp} : IsR κ H0 K g H .non .non := by
  cases κ <;> (show Is _ _ _ _ _; simp only [Is])
theorem od_eq (hu : X.A.units + 64 < cLine) : OpD X (compareOp .Eq) fEq .val := ⟨_, op_eqD hu, fun b g H sg x y d e z Q w hx hy ef r => by
  unfold fEq at ef
  split at ef
  · rename_i h
    simp only [Bool.and_eq_true] at h
    cases ef
    exact ⟨_, _, Now.dp h.1 (hx.now w), Now.dp h.2 (hy.now w), shaped_of h.1 (by decide), shaped_of h.2 (by decide), r.here isBl⟩
  · cases ef⟩
theorem od_ne (hu : X.A.units + 64 < cLine) : OpD X (compareOp .NotEq) fNe .val := ⟨_, op_neD hu, fun b g H sg x y d e z Q w hx hy ef r => by
  unfold fNe at ef
  split at ef
  · rename_i h
    simp only [Bool.and_eq_true] at h
    cases ef
    exact ⟨_, _, Now.dp h.1 (hx.now w), Now.dp h.2 (hy.now w), shaped_of h.1 (by decide), shaped_of h.2 (by decide), r.here isBl⟩
  · cases ef⟩
end
/-! ### x in a list, a tuple -/
def flatD : D → Bool
  | .non => true
  | .bl _ => true
  | .int _ => true
  | .str _ => true
  | _ => false
def eqF : D → D → Bool
  | .non, .non => true
  | .bl a, .bl b => a == b
  | .bl a, .int b => (if a then 1 else 0) == b
  | .int a, .bl b => a == (if b then 1 else 0)
  | .int a, .int b => a == b
  | .str a, .str b => a == b
  | _, _ => false
def inD (d : D) (e : D) : Option Bool := match e with
  | .lst es => if D.pl 50 d && pls 50 es then some (es.any fun z => eqD z d) else none
  | .scr es => if D.pl 50 d && pls 50 es then some (es.any fun z => eqD z d) else none
  | .tup es => if flatD d && es.all flatD then some (es.any fun z => eqF z d) else none
  | _ => none
def fInS (neg : Bool) : F2 := fun sg d e => (inD (der sg d) (der sg e)).map fun b => .bl (if neg then !b else b)
section
variable {K : PySem.W.Frag} {g : G} {H : Hp}
theorem flat_v {d : D} {v : V} (h : flatD d = true) (i : Is K g H v d) : flatV v = true := by
  cases d <;> first | (simp [flatD] at h; done) | (simp only [Is] at i; subst i; rfl)
theorem flat_now {d : D} {v : V} (h : flatD d = true) (i : Now K g H v d) : Is K g H v d := by
  cases d <;> first | exact i | (simp [flatD] at h; done)
theorem eq_v {d e : D} {v u : V} (h : flatD d = true) (h' : flatD e = true) (i : Is K g H v d) (j : Is K g H u e) : eqV v u = eqF d e := by
  cases d <;> first | (simp [flatD] at h; done) | skip
  all_goals cases e <;> first | (simp [flatD] at h'; done) | skip
  all_goals (simp only [Is] at i j; subst i; subst j; rfl)
theorem any_v {d : D} {v : V} (h' : flatD d = true) (j : Is K g H v d) : ∀ {es : List D} {vs : List V}, es.all flatD = true → IsAll K g H vs es → vs.all flatV = true ∧ inV v vs = es.any fun z => eqF z d
  | [], vs, _, i => by simp only [IsAll] at i; subst i; exact ⟨rfl, rfl⟩
  | e :: es, vs, h, i => by
    simp only [List.all_cons, Bool.and_eq_true] at h
    simp only [IsAll] at i
    obtain ⟨u, r, rfl, i1, i2⟩ := i
    obtain ⟨q1, q2⟩ := any_v h' j h.2 i2
    refine ⟨by simp only [List.all_cons, flat_v h.1 i1, q1, Bool.and_self], ?_⟩
    show ((u :: r).any fun y => eqV y v) = _
    rw [List.any_cons, List.any_cons, eq_v h.1 h' i1 j]
    show (_ || inV v r) = _
    rw [q2]
theorem pys_any (d : D) : ∀ es : List D, (pys es).any (fun z => PyData.eqv z d.py) = es.any fun z => eqD z d
  | [] => rfl
  | e :: es => by simp only [pys, List.any_cons, pys_any d es]; rfl
end
section
variable {X : Cx}
theorem od_inS (hu : X.A.units + 65 < cLine) : OpD X (compareOp .In) (fInS false) .val := ⟨_, OpR.or (op_inD hu) op_in_seq, fun b g H sg x y d e z Q w hx hy ef r => by
  unfold fInS at ef
  obtain ⟨c, ec, ez⟩ := Option.map_eq_some_iff.mp ef
  subst ez
  have hx' := hx.now w
  have hy' := hy.now w
  generalize der sg d = d' at ec hx'
  generalize der sg e = e' at ec hy'
  have q : Q (.bl c) H := r.here isBl
  have deep : ∀ es, D.pl 50 d' = true → pls 50 es = true → D.pl 51 e' = true → e'.py = .list (pys es) → c = (es.any fun z => eqD z d') → (rInD X.K x y H Q ∨ rIn X.K false x y H Q) := fun es h1 h2 h3 he hc => by
    have hp := Now.dp h3 hy'
    have hs := shaped_of h3 (by decide)
    rw [he] at hp hs
    refine .inl ⟨_, pys es, Now.dp h1 hx', hp, shaped_of h1 (by decide), hs, ?_⟩
    rw [pys_any, ← hc]
    exact q
  unfold inD at ec
  split at ec
  · rename_i es
    split at ec
    · rename_i h
      simp only [Bool.and_eq_true] at h
      exact deep es h.1 h.2 (by simpa only [D.pl] using h.2) rfl (Option.some.inj ec).symm
    · cases ec
  · rename_i es
    split at ec
    · rename_i h
      simp only [Bool.and_eq_true] at h
      exact deep es h.1 h.2 (by simpa only [D.pl] using h.2) rfl (Option.some.inj ec).symm
    · cases ec
  · rename_i es
    split at ec
    · rename_i h
      simp only [Bool.and_eq_true] at h
      have hy'' : Is X.K g H y (.tup es) := hy'
      simp only [Is] at hy''
      obtain ⟨p, vs, rfl, hp, iv⟩ := hy''
      obtain ⟨q1, q2⟩ := any_v h.1 (flat_now h.1 hx') h.2 iv
      refine .inr ⟨p, vs, rfl, .inr hp.sq, flat_v h.1 (flat_now h.1 hx'), q1, ?_⟩
      rw [if_neg Bool.false_ne_true, q2, Option.some.inj ec]
      exact q
    · cases ec
  · cases ec⟩
theorem od_notInS (hu : X.A.units + 65 < cLine) : OpD X (compareOp .NotIn) (fInS true) .val := ⟨_, OpR.or (op_notInD hu) op_notIn_seq, fun b g H sg x y d e z Q w hx hy ef r => by
  unfold fInS at ef
  obtain ⟨c, ec, ez⟩ := Option.map_eq_some_iff.mp ef
  subst ez
  have hx' := hx.now w
  have hy' := hy.now w
  generalize der sg d = d' at ec hx'
  generalize der sg e = e' at ec hy'
  have q : Q (.bl !c) H := r.here isBl
  have deep : ∀ es, D.pl 50 d' = true → pls 50 es = true → D.pl 51 e' = true → e'.py = .list (pys es) → c = (es.any fun z => eqD z d') → (rNotInD X.K x y H Q ∨ rIn X.K true x y H Q) := fun es h1 h2 h3 he hc => by
    have hp := Now.dp h3 hy'
    have hs := shaped_of h3 (by decide)
    rw [he] at hp hs
    refine .inl ⟨_, pys es, Now.dp h1 hx', hp, shaped_of h1 (by decide), hs, ?_⟩
    rw [pys_any, ← hc]
    exact q
  unfold inD at ec
  split at ec
  · rename_i es
    split at ec
    · rename_i h
      simp only [Bool.and_eq_true] at h
      exact deep es h.1 h.2 (by simpa only [D.pl] using h.2) rfl (Option.some.inj ec).symm
    · cases ec
  · rename_i es
    split at ec
    · rename_i h
      simp only [Bool.and_eq_true] at h
      exact deep es h.1 h.2 (by simpa only [D.pl] using h.2) rfl (Option.some.inj ec).symm
    · cases ec
  · rename_i es
    split at ec
    · rename_i h
      simp only [Bool.and_eq_true] at h
      have hy'' : Is X.K g H y (.tup es) := hy'
      simp only [Is] at hy''
      obtain ⟨p, vs, rfl, hp, iv⟩ := hy''
      obtain ⟨q1, q2⟩ := any_v h.1 (flat_now h.1 hx') h.2 iv
      refine .inr ⟨p, vs, rfl, .inr hp.sq, flat_v h.1 (flat_now h.1 hx'), q1, ?_⟩
      rw [if_pos rfl, q2, Option.some.inj ec]
      exact q
    · cases ec
  · cases ec⟩
/-- x is None -/
def fIsN (neg : Bool) : F1 := fun _ d => match d with
  | .non => some (.bl (!neg))
  | .obj _ => none
  | _ => some (.bl neg)
theorem is_non {K : PySem.W.Frag} {g : G} {H : Hp} {v : V} {d : D} (h : Bor K g H v d) : d ≠ .non → v ≠ .non := fun hd e => by
  subst e
  cases d <;> first | exact hd rfl | (have h : Is K g H .non _ := h; simp only [Is] at h; first | (cases h; done) | (obtain ⟨_, _, h, _⟩ := h; cases h; done) | (obtain ⟨_, h, _⟩ := h; cases h; done)) | (obtain ⟨_, _, h, _⟩ := h; cases h; done)
theorem tKN {K : PySem.W.Frag} {neg : Bool} {ma : ME} (σ : L2.St) (H : Hp) (Q : VK) (q : tK K .val (m1 (fIsN neg) ma) σ H Q) :
    tK K .bor ma σ H fun x H1 => Q (.bl (if neg then !decide (x = .non) else decide (x = .non))) H1 := by
  have := tK1 (K := K) (κ := .val) (f := fIsN neg) (r := fun x H Q => Q (.bl (if neg then !decide (x = .non) else decide (x = .non))) H) (ma := ma) (fun b g H sg x d z Q w hx ef r => by
    by_cases hd : d = .non
    · subst hd
      have hx' : x = .non := by
        have h : Is K g H x .non := hx
        simpa only [Is] using h
      subst hx'
      cases ef
      cases neg <;> exact r.here isBl
    · have hv := is_non hx hd
      have e1 : z = .bl neg := by
        unfold fIsN at ef
        split at ef
        · exact absurd rfl hd
        · cases ef
        · exact (Option.some.inj ef).symm
      subst e1
      rw [decide_eq_false hv]
      cases neg <;> exact r.here isBl) σ H Q q
  exact this
theorem ve_isN {a : Expr} {ma : ME} {j pos pos'} (ha : PE X a (tK X.K .bor ma)) : PE X (.Compare a [.Is] [.Constant .none j pos'] pos) (tK X.K .val (m1 (fIsN false) ma)) :=
  peImp (pe_cmp (pc_isN ha)) fun σ H Q q => by
    have := tKN σ H Q q
    simp only [Bool.false_eq_true, if_false] at this
    exact this
theorem ve_notN {a : Expr} {ma : ME} {j pos pos'} (ha : PE X a (tK X.K .bor ma)) : PE X (.Compare a [.IsNot] [.Constant .none j pos'] pos) (tK X.K .val (m1 (fIsN true) ma)) :=
  peImp (pe_cmp (pc_notN ha)) fun σ H Q q => by
    have := tKN σ H Q q
    simp only [if_true] at this
    exact this

/-! ### subscripts, slices -/
def fIx : F2 := fun sg d e => match der sg d, e with
  | .lst xs, .int i => atD xs i
  | .scr xs, .int i => atD xs i
  | .tup xs, .int i => atD xs i
  | _, _ => none
theorem ve_ix {a i : Expr} {ma mi : ME} {pos : Pos} (ha : PE X a (tK X.K .bor ma)) (hi : PE X i (tK X.K .bor mi)) (hs : PlainIx i) : PE X (.Subscript a i pos) (tK X.K .val (m2 fIx ma mi)) :=
  peImp (pe_ix (IxR.or ix_list ix_tup) ha hi hs) (tK2 fun b g H sg x y d e z Q w hx hy ef r => by
    unfold fIx at ef
    have hx' := hx.now w
    split at ef
    · rename_i xs i ed
      rw [ed] at hx'
      obtain ⟨p, vs, rfl, hp, iv⟩ := hx'
      obtain ⟨v, e1, iz⟩ := iv.at ef
      exact .inl ⟨p, vs, i, v, rfl, isInt hy, SqL.of hp, e1, r.here iz⟩
    · rename_i xs i ed
      rw [ed] at hx'
      have hx' : Is X.K g H x (.scr xs) := hx'
      simp only [Is] at hx'
      obtain ⟨p, vs, rfl, hp, iv⟩ := hx'
      obtain ⟨v, e1, iz⟩ := iv.at ef
      refine .inl ⟨p, vs, i, v, rfl, isInt hy, ?_, e1, r.here iz⟩
      rcases hp with hp | ⟨o, hp⟩
      · exact hp.sq
      · exact .inl (.inr ⟨o, hp⟩)
    · rename_i xs i ed
      rw [ed] at hx'
      have hx' : Is X.K g H x (.tup xs) := hx'
      simp only [Is] at hx'
      obtain ⟨p, vs, rfl, hp, iv⟩ := hx'
      obtain ⟨v, e1, iz⟩ := iv.at ef
      exact .inr ⟨p, vs, i, v, rfl, isInt hy, hp.sq, e1, r.here iz⟩
    · cases ef)
def cutD (xs : List D) (lo hi : Option Int) : List D := (xs.drop (HT.sIx xs.length 0 lo)).take (HT.sIx xs.length xs.length hi - HT.sIx xs.length 0 lo)
theorem IsAll.cut {K : PySem.W.Frag} {g : G} {H : Hp} {ds : List D} {vs : List V} (lo hi : Option Int) (h : IsAll K g H vs ds) : IsAll K g H (cutV vs lo hi) (cutD ds lo hi) := by
  unfold cutV cutD
  rw [h.length]
  exact (h.drop _).take _
/-- a bound -/
abbrev MO := S → Option (Option Int × S)
def tO (K : PySem.W.Frag) (m : MO) : TO := fun σ H Q => ∃ b g s, Rep K b g H σ s ∧ ∃ c s', m s = some (c, s') ∧
  ∀ g' H', Rep K b g' H' σ s' → Sub s' s → Ext (OwnA σ s) g H g' H' → Q c H'
def mO0 : MO := fun s => some (none, s)
def mO1 (m : ME) : MO := fun s => (m s).bind fun (d, s1) => match d with
  | .int i => some (some i, s1)
  | _ => none
theorem poImp {e : Option Expr} {t t' : TO} (h : PO X e t) (f : ∀ σ H Q, t' σ H Q → t σ H Q) : PO X e t' := ⟨fun pins s σ H Q I q => h.run pins s σ H Q I (f σ H Q q)⟩
theorem vo_none : PO X none (tO X.K mO0) := poImp po_none fun σ H Q q => by
  obtain ⟨b, g, s, r, c, s', em, k⟩ := q
  cases em
  exact k g H r (Sub.refl _) Ext.refl
theorem vo_some {e : Expr} {m : ME} (h : PE X e (tK X.K .bor m)) : PO X (some e) (tO X.K (mO1 m)) := poImp (po_some h) fun σ H Q q => by
  obtain ⟨b, g, s, r, c, s', em, k⟩ := q
  unfold mO1 at em
  obtain ⟨⟨d, s1⟩, e1, em⟩ := Option.bind_eq_some_iff.mp em
  cases d <;> first | (cases em; done) | skip
  rename_i i
  cases em
  exact ⟨b, g, s, r, _, _, e1, fun g1 v1 H1 R1 sb1 x1 i1 => ⟨i, isInt (K := X.K) (g := g1) (H := H1) i1, k g1 H1 R1 sb1 x1⟩⟩
def fSl (d : D) (lo hi : Option Int) : Option D := match d with
  | .lst xs => some (.lst (cutD xs lo hi))
  | .scr xs => some (.lst (cutD xs lo hi))
  | .tup xs => some (.tup (cutD xs lo hi))
  | _ => none
def mSl (ma : ME) (ml mh : MO) : ME := fun s => (ma s).bind fun (d, s1) => (ml s1).bind fun (lo, s2) => (mh s2).bind fun (hi, s3) => (fSl (der s3.sg d) lo hi).bind fun z => some (z, s3)
theorem cut_all {xs : List D} {lo hi : Option Int} (h : HT.sIx xs.length 0 lo = 0 ∧ HT.sIx xs.length xs.length hi = xs.length) : cutD xs lo hi = xs := by
  unfold cutD
  rw [h.1, h.2, List.drop_zero, Nat.sub_zero, List.take_length]
theorem ve_slice {a : Expr} {lo hi : Option Expr} {ma : ME} {ml mh : MO} {p2 pos : Pos} (ha : PE X a (tK X.K .bor ma)) (hl : PO X lo (tO X.K ml)) (hh : PO X hi (tO X.K mh)) : PE X (.Subscript a (.Slice lo hi none p2) pos) (tK X.K .fre (mSl ma ml mh)) :=
  peImp (pe_slice (SlR.or sl_list sl_tupA) ha hl hh) fun σ H Q q => by
    obtain ⟨b, g, s, R, z, s', em, k⟩ := q
    unfold mSl at em
    obtain ⟨⟨d, s1⟩, e1, em⟩ := Option.bind_eq_some_iff.mp em
    obtain ⟨⟨lo, s2⟩, e2, em⟩ := Option.bind_eq_some_iff.mp em
    obtain ⟨⟨hi, s3⟩, e3, em⟩ := Option.bind_eq_some_iff.mp em
    obtain ⟨z', e4, em⟩ := Option.bind_eq_some_iff.mp em
    cases em
    refine ⟨b, g, s, R, d, s1, e1, fun g1 v1 H1 R1 sb1 x1 i1 => ⟨b, g1, s1, R1, lo, s2, e2, fun g2 H2 R2 sb2 x2 => ⟨b, g2, s2, R2, hi, s', e3, fun g3 H3 R3 sb3 x3 => ?_⟩⟩⟩
    have i2 : Bor X.K g2 H2 v1 d := Bor.ext R1.gl x2 i1
    have i3 : Bor X.K g3 H3 v1 d := Bor.ext R2.gl x3 i2
    have x13 : Ext (OwnA σ s) g H g3 H3 := (x1.trans x2 fun a o => o.sub sb1).trans x3 fun a o => (o.sub sb2).sub sb1
    have r := R3.res (sb3.trans (sb2.trans sb1)) x13 k x13.dn
    have nw := i3.now R3.gl
    clear em
    generalize der s'.sg d = d' at e4 nw
    cases d' <;> first | (cases e4; done) | skip
    · rename_i xs
      cases e4
      have nw' : Is X.K g3 H3 v1 (.tup xs) := nw
      have nw : Is X.K g3 H3 v1 (.tup xs) := nw
      simp only [Is] at nw
      obtain ⟨p, vs, rfl, hp, iv⟩ := nw
      refine .inr ⟨p, vs, rfl, hp.sq, fun hw => ?_, fun _ => Res.tupF R3.gl r (iv.cut lo hi)⟩
      rw [iv.length] at hw
      rw [cut_all hw] at r
      exact r.here nw'
    · cases e4
      obtain ⟨p, vs, rfl, hp, iv⟩ := nw
      exact .inl ⟨p, vs, rfl, SqL.of hp, Res.lst R3.gl r (iv.cut lo hi)⟩
    · cases e4
      have nw : Is X.K g3 H3 v1 (.scr _) := nw
      simp only [Is] at nw
      obtain ⟨p, vs, rfl, hp, iv⟩ := nw
      refine .inl ⟨p, vs, rfl, ?_, Res.lst R3.gl r (iv.cut lo hi)⟩
      rcases hp with hp | ⟨o, hp⟩
      · exact hp.sq
      · exact .inl (.inr ⟨o, hp⟩)
end
end Vl
namespace Vl
open PySem PySem.Spec PyProof.Rows L2

/-! ### truth, tests -/
def truth : D → Option Bool
  | .non => some false
  | .bl b => some b
  | .int i => some (i != 0)
  | .lst xs => some (!xs.isEmpty)
  | .scr xs => some (!xs.isEmpty)
  | .tup xs => some (!xs.isEmpty)
  | _ => none
/-- a test by truth -/
def mTr (m : ME) : MT := fun s => (m s).bind fun (d, s1) => (truth (der s1.sg d)).bind fun c => some (c, s1)
/-- a test that is a bool -/
def mB (m : ME) : MT := fun s => (m s).bind fun (d, s1) => match d with
  | .bl c => some (c, s1)
  | _ => none
theorem empty_len {α β : Type} {xs : List α} {ys : List β} (h : xs.length = ys.length) : xs.isEmpty = ys.isEmpty := by
  cases xs <;> cases ys <;> first | rfl | (simp at h)
theorem truth_v {K : PySem.W.Frag} {g : G} {H : Hp} {d : D} {v : V} {c : Bool} (e : truth d = some c) (h : Now K g H v d) : TruV K v H c := by
  cases d <;> first | (cases e; done) | skip
  · have h : Is K g H v .non := h
    simp only [Is] at h
    subst h
    cases e
    rfl
  · rename_i b
    have h : Is K g H v (.bl b) := h
    simp only [Is] at h
    subst h
    cases e
    rfl
  · rename_i b
    have h : Is K g H v (.int b) := h
    simp only [Is] at h
    subst h
    cases e
    rfl
  · rename_i b
    have h : Is K g H v (.tup b) := h
    simp only [Is] at h
    obtain ⟨a, vs, rfl, h1, h2⟩ := h
    cases e
    exact .inr (.inl ⟨vs, h1.sq, by rw [empty_len h2.length]⟩)
  · rename_i b
    obtain ⟨a, vs, rfl, h1, h2⟩ := h
    cases e
    exact .inl ⟨vs, SqL.of h1, by rw [empty_len h2.length]⟩
  · rename_i b
    have h : Is K g H v (.scr b) := h
    simp only [Is] at h
    obtain ⟨a, vs, rfl, h1, h2⟩ := h
    cases e
    refine .inl ⟨vs, ?_, by rw [empty_len h2.length]⟩
    rcases h1 with h1 | ⟨o, h1⟩
    · exact h1.sq
    · exact .inl (.inr ⟨o, h1⟩)
section
variable {X : Cx} {e a b c : Expr} {pos : Pos}
theorem vt_truth {m : ME} (h : PE X e (tK X.K .bor m)) (he : ∀ whole, isTrue e X.env whole = (do let v ← whole; standAt e.pos; holding [v] (truthy v)) := by intro _; rfl) : PT X e (tT X.K (mTr m)) :=
  ptImp (pt_truth h he) fun σ H Q q => by
    obtain ⟨b, g, s, R, c, s', em, k⟩ := q
    unfold mTr at em
    obtain ⟨⟨d, s1⟩, e1, em⟩ := Option.bind_eq_some_iff.mp em
    obtain ⟨c', e2, em⟩ := Option.bind_eq_some_iff.mp em
    cases em
    exact ⟨b, g, s, R, d, s', e1, fun g1 v1 H1 R1 sb1 x1 i1 => ⟨c, truth_v e2 (Bor.now R1.gl i1), k g1 H1 R1 sb1 x1⟩⟩
theorem isB {K : PySem.W.Frag} {κ : Kd} {H0 : Hp} {g : G} {H : Hp} {v : V} {c : Bool} (h : IsR κ H0 K g H v (.bl c)) : v = .bl c := by
  cases κ <;> (have h : Is K g H v (.bl c) := h; simpa only [Is] using h)
theorem tB_of {κ : Kd} {m : ME} {t : TE} {K : PySem.W.Frag} (ht : ∀ σ H Q, tK K κ m σ H Q → t σ H Q) (σ : L2.St) (H : Hp) (Q : Bool → Hp → Prop) (q : tT K (mB m) σ H Q) : t σ H fun x H' => ∃ k, x = .bl k ∧ Q k H' := by
  obtain ⟨b, g, s, R, c, s', em, k⟩ := q
  unfold mB at em
  obtain ⟨⟨d, s1⟩, e1, em⟩ := Option.bind_eq_some_iff.mp em
  cases d <;> first | (cases em; done) | skip
  cases em
  exact ht σ H _ ⟨b, g, s, R, _, s', e1, fun g1 v1 H1 R1 sb1 x1 i1 => ⟨c, isB i1, k g1 H1 R1 sb1 x1⟩⟩
theorem vt_cmp {f : F2} {κ : Kd} {ma mb : ME} {op : CmpOp} (o : OpD X (compareOp op) f κ) (ha : PE X a (tK X.K .bor ma)) (hb : PE X b (tK X.K .bor mb)) (hm : behindInMarks op b = false := by rfl) : PT X (.Compare a [op] [b] pos) (tT X.K (mB (m2 f ma mb))) := by
  obtain ⟨r, ho, hr⟩ := o.run
  exact ptImp (pt_cmpR ho ha hb hm) (tB_of (tK2 hr))
theorem vt_isN {m : ME} {j pos'} (ha : PE X a (tK X.K .bor m)) : PT X (.Compare a [.Is] [.Constant .none j pos'] pos) (tT X.K (mB (m1 (fIsN false) m))) :=
  ptImp (pt_cmp (pc_isN ha)) (tB_of (t := tIsN (tK X.K .bor m)) fun σ H Q q => by
    have := tKN σ H Q q
    simp only [Bool.false_eq_true, if_false] at this
    exact this)
theorem vt_notN {m : ME} {j pos'} (ha : PE X a (tK X.K .bor m)) : PT X (.Compare a [.IsNot] [.Constant .none j pos'] pos) (tT X.K (mB (m1 (fIsN true) m))) :=
  ptImp (pt_cmp (pc_notN ha)) (tB_of (t := tNotN (tK X.K .bor m)) fun σ H Q q => by
    have := tKN σ H Q q
    simp only [if_true] at this
    exact this)
def mtNot (m : MT) : MT := fun s => (m s).bind fun (c, s1) => some (!c, s1)
theorem vt_not {m : MT} (ha : PT X a (tT X.K m)) : PT X (.UnaryOp .Not a pos) (tT X.K (mtNot m)) := ptImp (pt_not ha) fun σ H Q q => by
  obtain ⟨b, g, s, R, c, s', em, k⟩ := q
  unfold mtNot at em
  obtain ⟨⟨d, s1⟩, e1, em⟩ := Option.bind_eq_some_iff.mp em
  cases em
  exact ⟨b, g, s, R, d, s', e1, fun g1 H1 R1 sb1 x1 => k g1 H1 R1 sb1 x1⟩
def mtAnd (ma mb : MT) : MT := fun s => (ma s).bind fun (c, s1) => if c then mb s1 else some (false, s1)
def mtOr (ma mb : MT) : MT := fun s => (ma s).bind fun (c, s1) => if c then some (true, s1) else mb s1
theorem vw_one {op : BoolOp} {m : MT} (h : PT X a (tT X.K m)) : PW X (.BoolOp op [a] pos) (tT X.K m) := by
  cases op
  · exact pw_and1 h
  · exact pw_or1 h
theorem vw_and {rest : List Expr} {ma mb : MT} (ha : PT X a (tT X.K ma)) (hb : PW X (.BoolOp .And (b :: rest) pos) (tT X.K mb)) : PW X (.BoolOp .And (a :: b :: rest) pos) (tT X.K (mtAnd ma mb)) :=
  pwImp (pw_and ha hb) fun σ H Q q => by
    obtain ⟨b, g, s, R, c, s', em, k⟩ := q
    unfold mtAnd at em
    obtain ⟨⟨c, s1⟩, e0, e1⟩ := Option.bind_eq_some_iff.mp em
    refine ⟨b, g, s, R, c, s1, e0, fun g1 H1 R1 sb1 x1 => ?_⟩
    cases c with
    | true => exact ⟨b, g1, s1, R1, _, s', e1, fun g2 H2 R2 sb2 x2 => k g2 H2 R2 (sb2.trans sb1) (x1.trans x2 fun a o => o.sub sb1)⟩
    | false => cases e1; exact k g1 H1 R1 sb1 x1
theorem vw_or {rest : List Expr} {ma mb : MT} (ha : PT X a (tT X.K ma)) (hb : PW X (.BoolOp .Or (b :: rest) pos) (tT X.K mb)) : PW X (.BoolOp .Or (a :: b :: rest) pos) (tT X.K (mtOr ma mb)) :=
  pwImp (pw_or ha hb) fun σ H Q q => by
    obtain ⟨b, g, s, R, c, s', em, k⟩ := q
    unfold mtOr at em
    obtain ⟨⟨c, s1⟩, e0, e1⟩ := Option.bind_eq_some_iff.mp em
    refine ⟨b, g, s, R, c, s1, e0, fun g1 H1 R1 sb1 x1 => ?_⟩
    cases c with
    | false => exact ⟨b, g1, s1, R1, _, s', e1, fun g2 H2 R2 sb2 x2 => k g2 H2 R2 (sb2.trans sb1) (x1.trans x2 fun a o => o.sub sb1)⟩
    | true => cases e1; exact k g1 H1 R1 sb1 x1

/-! ### and, or, not as values; a if c else b -/
def mAnd (ma mb : ME) : ME := fun s => (ma s).bind fun (d, s1) => match d with
  | .bl true => mb s1
  | .bl false => some (.bl false, s1)
  | _ => none
def mOr (ma mb : ME) : ME := fun s => (ma s).bind fun (d, s1) => match d with
  | .bl false => mb s1
  | .bl true => some (.bl true, s1)
  | _ => none
def mNot (m : ME) : ME := fun s => (m s).bind fun (d, s1) => match d with
  | .bl c => some (.bl (!c), s1)
  | _ => none
theorem ve_one {op : BoolOp} {m : ME} (h : PE X a (tK X.K .val m)) : PE X (.BoolOp op [a] pos) (tK X.K .val m) := pe_one h
theorem ve_and {rest : List Expr} {ma mb : ME} (ha : PE X a (tK X.K .val ma)) (hb : PE X (.BoolOp .And (b :: rest) pos) (tK X.K .val mb)) : PE X (.BoolOp .And (a :: b :: rest) pos) (tK X.K .val (mAnd ma mb)) :=
  peImp (pe_and ha hb) fun σ H Q q => by
    obtain ⟨b, g, s, R, z, s', em, k⟩ := q
    unfold mAnd at em
    obtain ⟨⟨d, s1⟩, e1, em⟩ := Option.bind_eq_some_iff.mp em
    cases d <;> first | (cases em; done) | skip
    rename_i c
    refine ⟨b, g, s, R, _, s1, e1, fun g1 v1 H1 R1 sb1 x1 i1 => ⟨c, isB i1, ?_⟩⟩
    cases c with
    | true => exact ⟨b, g1, s1, R1, _, s', em, fun g2 v2 H2 R2 sb2 x2 i2 => k g2 v2 H2 R2 (sb2.trans sb1) (x1.trans x2 fun a o => o.sub sb1) i2⟩
    | false => cases em; exact k g1 _ H1 R1 sb1 x1 isBl
theorem ve_or {rest : List Expr} {ma mb : ME} (ha : PE X a (tK X.K .val ma)) (hb : PE X (.BoolOp .Or (b :: rest) pos) (tK X.K .val mb)) : PE X (.BoolOp .Or (a :: b :: rest) pos) (tK X.K .val (mOr ma mb)) :=
  peImp (pe_or ha hb) fun σ H Q q => by
    obtain ⟨b, g, s, R, z, s', em, k⟩ := q
    unfold mOr at em
    obtain ⟨⟨d, s1⟩, e1, em⟩ := Option.bind_eq_some_iff.mp em
    cases d <;> first | (cases em; done) | skip
    rename_i c
    refine ⟨b, g, s, R, _, s1, e1, fun g1 v1 H1 R1 sb1 x1 i1 => ⟨c, isB i1, ?_⟩⟩
    cases c with
    | false => exact ⟨b, g1, s1, R1, _, s', em, fun g2 v2 H2 R2 sb2 x2 i2 => k g2 v2 H2 R2 (sb2.trans sb1) (x1.trans x2 fun a o => o.sub sb1) i2⟩
    | true => cases em; exact k g1 _ H1 R1 sb1 x1 isBl
theorem ve_not {m : ME} (ha : PE X a (tK X.K .val m)) : PE X (.UnaryOp .Not a pos) (tK X.K .val (mNot m)) := peImp (pe_not ha) fun σ H Q q => by
  obtain ⟨b, g, s, R, z, s', em, k⟩ := q
  unfold mNot at em
  obtain ⟨⟨d, s1⟩, e1, em⟩ := Option.bind_eq_some_iff.mp em
  cases d <;> first | (cases em; done) | skip
  rename_i c
  cases em
  exact ⟨b, g, s, R, _, s', e1, fun g1 v1 H1 R1 sb1 x1 i1 => ⟨c, isB i1, k g1 _ H1 R1 sb1 x1 isBl⟩⟩
def mIf (mc : MT) (ma mb : ME) : ME := fun s => (mc s).bind fun (c, s1) => if c then ma s1 else mb s1
theorem fre_dn {P : Addr → Prop} {κ : Kd} {K : PySem.W.Frag} {g g1 g2 : G} {H H1 H2 : Hp} {v : V} {d : D} (x : Ext P g H g1 H1) (i : IsR κ H1 K g2 H2 v d) : IsR κ H K g2 H2 v d := by
  cases κ with
  | val => exact i
  | bor => exact i
  | fre =>
    cases d <;> first | exact i | skip
    · obtain ⟨a, e, h0, h1⟩ := i; exact ⟨a, e, x.dn a h0, h1⟩
    · obtain ⟨a, e, h0, h1⟩ := i; exact ⟨a, e, x.dn a h0, h1⟩
    · obtain ⟨a, e, h0, h1⟩ := i; exact ⟨a, e, x.dn a h0, h1⟩
theorem ve_if {κ : Kd} {mc : MT} {ma mb : ME} (hc : PT X c (tT X.K mc)) (ha : PE X a (tK X.K κ ma)) (hb : PE X b (tK X.K κ mb)) : PE X (.IfExp c a b pos) (tK X.K κ (mIf mc ma mb)) :=
  peImp (pe_ifExp hc ha hb) fun σ H Q q => by
    obtain ⟨b, g, s, R, z, s', em, k⟩ := q
    unfold mIf at em
    obtain ⟨⟨c, s1⟩, e0, e1⟩ := Option.bind_eq_some_iff.mp em
    refine ⟨b, g, s, R, c, s1, e0, fun g1 H1 R1 sb1 x1 => ?_⟩
    cases c with
    | true => exact ⟨b, g1, s1, R1, _, s', e1, fun g2 v2 H2 R2 sb2 x2 i2 => k g2 v2 H2 R2 (sb2.trans sb1) (x1.trans x2 fun a o => o.sub sb1) (fre_dn x1 i2)⟩
    | false => exact ⟨b, g1, s1, R1, _, s', e1, fun g2 v2 H2 R2 sb2 x2 i2 => k g2 v2 H2 R2 (sb2.trans sb1) (x1.trans x2 fun a o => o.sub sb1) (fre_dn x1 i2)⟩

/-! ### chains of ints -/
def mCh (p p' : Int → Int → Bool) (ma mb mc : ME) : ME := fun s => (ma s).bind fun (d, s1) => (mb s1).bind fun (e, s2) => match d, e with
  | .int i, .int j => if p i j then (mc s2).bind fun (f, s3) => match f with
    | .int l => some (.bl (p' j l), s3)
    | _ => none else some (.bl false, s2)
  | _, _ => none
theorem tCh {K : PySem.W.Frag} {p p' : Int → Int → Bool} {ma mb mc : ME} (σ : L2.St) (H : Hp) (Q : VK) (q : tK K .val (mCh p p' ma mb mc) σ H Q) :
    tChain (rI0 fun i j => .bl (p i j)) (rI0 fun i j => .bl (p' i j)) (tK K .bor ma) (tK K .bor mb) (tK K .bor mc) σ H Q := by
  obtain ⟨b, g, s, R, z, s', em, k⟩ := q
  unfold mCh at em
  obtain ⟨⟨d, s1⟩, e1, em⟩ := Option.bind_eq_some_iff.mp em
  obtain ⟨⟨e, s2⟩, e2, em⟩ := Option.bind_eq_some_iff.mp em
  obtain ⟨i, rfl⟩ : ∃ i, d = .int i := by cases d <;> first | exact ⟨_, rfl⟩ | (cases em; done)
  obtain ⟨j, rfl⟩ : ∃ i, e = .int i := by cases e <;> first | exact ⟨_, rfl⟩ | (cases em; done)
  refine ⟨b, g, s, R, _, s1, e1, fun g1 v1 H1 R1 sb1 x1 i1 => ⟨b, g1, s1, R1, _, s2, e2, fun g2 v2 H2 R2 sb2 x2 i2 => ⟨i, j, isInt (K := K) (g := g1) (H := H1) i1, isInt (K := K) (g := g2) (H := H2) i2, p i j, rfl, ?_⟩⟩⟩
  have x12 : Ext (OwnA σ s) g H g2 H2 := x1.trans x2 fun a o => o.sub sb1
  by_cases hp : p i j = true
  · rw [if_pos hp]
    simp only [hp, if_true] at em
    obtain ⟨⟨f, s3⟩, e3, em⟩ := Option.bind_eq_some_iff.mp em
    obtain ⟨l, rfl⟩ : ∃ i, f = .int i := by cases f <;> first | exact ⟨_, rfl⟩ | (cases em; done)
    cases em
    refine ⟨b, g2, s2, R2, _, s3, e3, fun g3 v3 H3 R3 sb3 x3 i3 => ⟨j, l, isInt (K := K) (g := g2) (H := H2) i2, isInt (K := K) (g := g3) (H := H3) i3, ?_⟩⟩
    exact k g3 _ H3 R3 (sb3.trans (sb2.trans sb1)) (x12.trans x3 fun a o => (o.sub sb2).sub sb1) isBl
  · rw [if_neg hp]
    simp only [hp] at em
    cases em
    exact k g2 _ H2 R2 (sb2.trans sb1) x12 isBl
/-- how an order of ints is compared -/
structure CmpI (X : Cx) (op : CmpOp) (p : Int → Int → Bool) : Prop where
  run : OpR X (compareOp op) (rI0 fun i j => .bl (p i j))
theorem ci_lt : CmpI X .Lt pLt := ⟨op_lt⟩
theorem ci_le : CmpI X .LtE pLe := ⟨op_le⟩
theorem ci_gt : CmpI X .Gt pGt := ⟨op_gt⟩
theorem ci_ge : CmpI X .GtE pGe := ⟨op_ge⟩
theorem ve_chain {op op' : CmpOp} {p p' : Int → Int → Bool} {ma mb mc : ME} (o : CmpI X op p) (o' : CmpI X op' p') (ha : PE X a (tK X.K .bor ma)) (hb : PE X b (tK X.K .bor mb)) (hc : PE X c (tK X.K .bor mc))
    (hm : lastMarks [op, op'] [b, c] = false := by with_unfolding_all rfl) : PE X (.Compare a [op, op'] [b, c] pos) (tK X.K .val (mCh p p' ma mb mc)) := peImp (pe_chain o.run o'.run ha hb hc hm) tCh
theorem vt_chain {op op' : CmpOp} {p p' : Int → Int → Bool} {ma mb mc : ME} (o : CmpI X op p) (o' : CmpI X op' p') (ha : PE X a (tK X.K .bor ma)) (hb : PE X b (tK X.K .bor mb)) (hc : PE X c (tK X.K .bor mc))
    (hm : lastMarks [op, op'] [b, c] = false := by with_unfolding_all rfl) : PT X (.Compare a [op, op'] [b, c] pos) (tT X.K (mB (mCh p p' ma mb mc))) := ptImp (pt_chain o.run o'.run ha hb hc hm) (tB_of tCh)

/-! ### arguments, displays -/
def mNil : MA := fun s => some ([], s)
def mCons (m : ME) (r : MA) : MA := fun s => (m s).bind fun (d, s1) => (r s1).bind fun (ds, s2) => some (d :: ds, s2)
def argKd : Kd → Kd
  | .val => .val
  | _ => .bor
theorem va_nil {κ : Kd} : PA X [] (tA X.K κ mNil) := paImp pa_nil fun σ H Q q => by
  obtain ⟨b, g, s, R, z, s', em, k⟩ := q
  cases em
  exact k g [] H R (Sub.refl _) Ext.refl (by cases κ <;> first | (show IsAll _ _ _ _ _; simp only [IsAll]) | (show BorAll _ _ _ _ _; simp only [BorAll]))
theorem va_cons {es : List Expr} {κ : Kd} {m : ME} {r : MA} (h : PE X e (tK X.K (argKd κ) m)) (hr : PA X es (tA X.K κ r)) (hs : starEach (e :: es) X.env = (false, eval e X.env) :: starEach es X.env := by rfl) : PA X (e :: es) (tA X.K κ (mCons m r)) :=
  paImp (pa_cons h hr hs) fun σ H Q q => by
    obtain ⟨b, g, s, R, z, s', em, k⟩ := q
    unfold mCons at em
    obtain ⟨⟨d, s1⟩, e1, em⟩ := Option.bind_eq_some_iff.mp em
    obtain ⟨⟨ds, s2⟩, e2, em⟩ := Option.bind_eq_some_iff.mp em
    cases em
    refine ⟨b, g, s, R, d, s1, e1, fun g1 v1 H1 R1 sb1 x1 i1 => ⟨b, g1, s1, R1, ds, s', e2, fun g2 vs H2 R2 sb2 x2 i2 => ?_⟩⟩
    refine k g2 _ H2 R2 (sb2.trans sb1) (x1.trans x2 fun a o => o.sub sb1) ?_
    cases κ with
    | val => show IsAll _ _ _ _ _; simp only [IsAll]; exact ⟨v1, vs, rfl, Is.mono (R1.gl.mono x2) _ _ i1, i2⟩
    | bor => show BorAll _ _ _ _ _; simp only [BorAll]; exact ⟨v1, vs, rfl, Bor.ext R1.gl x2 i1, i2⟩
    | fre => show BorAll _ _ _ _ _; simp only [BorAll]; exact ⟨v1, vs, rfl, Bor.ext R1.gl x2 i1, i2⟩
def mTup (m : MA) : ME := fun s => (m s).bind fun (ds, s1) => if ds.length ≤ sizeLine then some (.tup ds, s1) else none
def mLst (m : MA) : ME := fun s => (m s).bind fun (ds, s1) => if ds.length ≤ sizeLine then some (.lst ds, s1) else none
theorem ve_tup {es : List Expr} {x1} {m : MA} (h : PA X es (tA X.K .val m)) : PE X (.Tuple es x1 pos) (tK X.K .val (mTup m)) := peImp (pe_tup h) fun σ H Q q => by
  obtain ⟨b, g, s, R, z, s', em, k⟩ := q
  unfold mTup at em
  obtain ⟨⟨ds, s1⟩, e1, em⟩ := Option.bind_eq_some_iff.mp em
  by_cases hl : ds.length ≤ sizeLine
  · simp only [hl, if_true] at em
    cases em
    refine ⟨b, g, s, R, ds, s', e1, fun g1 vs H1 R1 sb1 x1 i1 => ⟨by rw [IsAll.length (K := X.K) (g := g1) (H := H1) i1]; exact hl, ?_⟩⟩
    exact Res.tup R1.gl (R1.res sb1 x1 k x1.dn) i1
  · simp only [hl] at em
    cases em
theorem ve_lst {es : List Expr} {m : MA} (h : PA X es (tA X.K .val m)) : PE X (.List es pos) (tK X.K .fre (mLst m)) := peImp (pe_lst h) fun σ H Q q => by
  obtain ⟨b, g, s, R, z, s', em, k⟩ := q
  unfold mLst at em
  obtain ⟨⟨ds, s1⟩, e1, em⟩ := Option.bind_eq_some_iff.mp em
  by_cases hl : ds.length ≤ sizeLine
  · simp only [hl, if_true] at em
    cases em
    refine ⟨b, g, s, R, ds, s', e1, fun g1 vs H1 R1 sb1 x1 i1 => ⟨by rw [IsAll.length (K := X.K) (g := g1) (H := H1) i1]; exact hl, ?_⟩⟩
    exact Res.lst R1.gl (R1.res sb1 x1 k x1.dn) i1
  · simp only [hl] at em
    cases em

/-! ### built-ins by values -/
abbrev FC := List D → List D → Option D
structure CalD (X : Cx) (f : Value) (fd : FC) (κ : Kd) : Prop where
  run : ∃ r, CallR X f r ∧ ∀ b g H sg xs ds z Q, Glo X.K b g H sg → BorAll X.K g H xs ds → fd sg ds = some z → Res X.K κ g H z Q → r xs H Q
def mCall (f : FC) (ma : MA) : ME := fun s => (ma s).bind fun (ds, s1) => (f s1.sg ds).bind fun z => some (z, s1)
theorem tCal {K : PySem.W.Frag} {κ : Kd} {f : FC} {r : List V → Hp → VK → Prop} {ma : MA} (hr : ∀ b g H sg xs ds z Q, Glo K b g H sg → BorAll K g H xs ds → f sg ds = some z → Res K κ g H z Q → r xs H Q)
    (σ : L2.St) (H : Hp) (Q : VK) (q : tK K κ (mCall f ma) σ H Q) : tCB r (tA K .bor ma) σ H Q := by
  obtain ⟨b, g, s, R, z, s', em, k⟩ := q
  unfold mCall at em
  obtain ⟨⟨ds, s1⟩, e1, em⟩ := Option.bind_eq_some_iff.mp em
  obtain ⟨z', e2, em⟩ := Option.bind_eq_some_iff.mp em
  cases em
  exact ⟨b, g, s, R, ds, s', e1, fun g1 vs H1 R1 sb1 x1 i1 => hr b g1 H1 s'.sg vs ds z Q R1.gl i1 e2 (R1.res sb1 x1 k x1.dn)⟩
theorem ve_callB {es : List Expr} {id : String} {x : Str} {p : Pos} {κ : Kd} {f : FC} {ma : MA} (o : CalD X (.builtin id) f κ) (hg : Gl X x) (hm : X.mg x = none) (hv : bootBuiltins x = some (.builtin id)) (ha : PA X (e :: es) (tA X.K .bor ma)) (hn : x ≠ "__name__" := by decide)
    (hdb : (x == ("__debug__" : Str)) = false := by decide) (he : starEach (e :: es) X.env = (false, eval e X.env) :: starEach es X.env := by rfl) (hpl : (backTo pos (starEach es X.env)).any (·.1) = false := by rfl) :
    PE X (.Call (.Name x p) (e :: es) [] pos) (tK X.K κ (mCall f ma)) := by
  obtain ⟨r, hc, hr⟩ := o.run
  exact peImp (pe_callB hc hg hm hv ha hn hdb he hpl) (tCal hr)
theorem ve_callT {es : List Expr} {T : String} {x : Str} {p : Pos} {κ : Kd} {f : FC} {ma : MA} (o : CalD X (.type T) f κ) (hg : Gl X x) (hm : X.mg x = none) (hv : bootBuiltins x = some (.type T)) (ha : PA X (e :: es) (tA X.K .bor ma)) (hn : x ≠ "__name__" := by decide)
    (hdb : (x == ("__debug__" : Str)) = false := by decide) (he : starEach (e :: es) X.env = (false, eval e X.env) :: starEach es X.env := by rfl) (hpl : (backTo pos (starEach es X.env)).any (·.1) = false := by rfl) :
    PE X (.Call (.Name x p) (e :: es) [] pos) (tK X.K κ (mCall f ma)) := by
  obtain ⟨r, hc, hr⟩ := o.run
  exact peImp (pe_callTy hc hg hm hv ha hn hdb he hpl) (tCal hr)
theorem ve_ty {T : String} {x : Str} {p : Pos} (hg : Gl X x) (hm : X.mg x = none) (hv : bootBuiltins x = some (.type T)) (hn : x ≠ "__name__" := by decide) (hd : (x == ("__debug__" : Str)) = false := by decide) : PE X (.Name x p) (tK X.K .val (mC (.ty T))) :=
  ve_const (pe_bltn (v := .ty T) hg hm hv rfl hn hd) fun _ _ _ => by simp only [Is]
end

/-! ### defs -/
/-- what a def computes: its arguments, the objects; its value, the objects -/
abbrev CT := List D → List D → Option (D × List D)
def spOf (K : PySem.W.Frag) (n : Nat) (F : CT) : Sp := fun vs H Q _ => vs.length = n ∧ ∃ b g sg ds, Glo K b g H sg ∧ IsAll K g H vs ds ∧ ∃ d sg', F ds sg = some (d, sg') ∧
  ∀ g' v H', Glo K b g' H' sg' → Ext (fun _ => False) g H g' H' → Is K g' H' v d → Q v H'
def mFn (F : CT) (ma : MA) : ME := fun s => (ma s).bind fun (ds, s1) => (F ds s1.sg).bind fun (d, sg) => some (d, ⟨s1.ρ, sg⟩)
/-- the slots behind a call -/
theorem Rep.after {K : PySem.W.Frag} {b : G × Hp} {g g' : G} {H H' : Hp} {σ : L2.St} {s : S} {sg : List D} (r : Rep K b g H σ s) (w : Glo K b g' H' sg) (x : Ext (fun _ => False) g H g' H') : Rep K b g' H' σ ⟨s.ρ, sg⟩ :=
  ⟨w, r.ln, fun i z e => let ⟨v, e', k⟩ := r.sl i z e; ⟨v, e', k.ext r.gl x fun _ _ _ _ q => q⟩, r.ap, r.on⟩
section
variable {X : Cx} {e : Expr} {pos : Pos}
theorem tFn {K : PySem.W.Frag} {n : Nat} {F : CT} {ma : MA} (hn : ∀ s ds s', ma s = some (ds, s') → ds.length = n) (E : XK) (σ : L2.St) (H : Hp) (Q : VK) (q : tK K .val (mFn F ma) σ H Q) : tCall (spOf K n F) [] E (tA K .val ma) σ H Q := by
  obtain ⟨b, g, s, R, z, s', em, k⟩ := q
  unfold mFn at em
  obtain ⟨⟨ds, s1⟩, e1, em⟩ := Option.bind_eq_some_iff.mp em
  obtain ⟨⟨d, sg⟩, e2, em⟩ := Option.bind_eq_some_iff.mp em
  cases em
  refine ⟨b, g, s, R, ds, s1, e1, fun g1 vs H1 R1 sb1 x1 i1 => ?_⟩
  show spOf K n F (vs ++ []) H1 Q E
  rw [List.append_nil]
  have il : IsAll K g1 H1 vs ds := i1
  refine ⟨by rw [il.length]; exact hn s ds s1 e1, b, g1, s1.sg, ds, R1.gl, i1, z, sg, e2, fun g2 v H2 w2 x2 i2 => ?_⟩
  exact k g2 v H2 (R1.after w2 x2) (fun i d h => sb1 i d h) (x1.trans x2 fun _ h => h.elim) i2
/-- how many arguments are written -/
structure Len (n : Nat) (ma : MA) : Prop where
  run : ∀ s ds s', ma s = some (ds, s') → ds.length = n
theorem len_nil : Len 0 mNil := ⟨fun s ds s' e => by cases e; rfl⟩
theorem len_cons {n : Nat} {m : ME} {r : MA} (h : Len n r) : Len (n + 1) (mCons m r) := ⟨fun s ds s' e => by
  unfold mCons at e
  obtain ⟨⟨d, s1⟩, e1, e⟩ := Option.bind_eq_some_iff.mp e
  obtain ⟨⟨ds, s2⟩, e2, e⟩ := Option.bind_eq_some_iff.mp e
  cases e
  rw [List.length_cons, h.run _ _ _ e2]⟩
theorem ve_fn {es : List Expr} {x : Str} {p : Pos} {k n : Nat} {f : Addr} {fd : FuncData} {ps : List Str} {F : CT} {ma : MA} (O : FnOk X.prog X.w X.K X.mg X.base CX0 k f fd ps (spOf X.K n F)) (hr : Room k X.A) (hg : Gl X x) (hm : X.mg x = some (.ref f))
    (hk : PySem.W.keepIn X.K (.ref f) = true) (hb : Binds X.K fd ps []) (hl : Len n ma) (ha : PA X (e :: es) (tA X.K .val ma)) (hdb : (x == ("__debug__" : Str)) = false := by decide)
    (he : starEach (e :: es) X.env = (false, eval e X.env) :: starEach es X.env := by rfl) (hpl : (backTo pos (starEach es X.env)).any (·.1) = false := by rfl) : PE X (.Call (.Name x p) (e :: es) [] pos) (tK X.K .val (mFn F ma)) :=
  peImp (pe_call O hr hg hm hk hb .nil pass0 ha hdb he hpl) (tFn hl.run E0)
theorem ve_fn0 {x : Str} {p : Pos} {k : Nat} {f : Addr} {fd : FuncData} {ps : List Str} {F : CT} (O : FnOk X.prog X.w X.K X.mg X.base CX0 k f fd ps (spOf X.K 0 F)) (hr : Room k X.A) (hg : Gl X x) (hm : X.mg x = some (.ref f))
    (hk : PySem.W.keepIn X.K (.ref f) = true) (hb : Binds X.K fd ps []) (hdb : (x == ("__debug__" : Str)) = false := by decide) : PE X (.Call (.Name x p) [] [] pos) (tK X.K .val (mFn F mNil)) :=
  peImp (pe_call0 O hr hg hm hk hb .nil pass0 hdb) fun σ H Q q => by
    have h := tFn (n := 0) len_nil.run E0 σ H Q q
    obtain ⟨b, g, s, R, ds, s', em, k⟩ := h
    cases em
    exact k g [] H R (Sub.refl _) Ext.refl (by show IsAll _ _ _ _ _; simp only [IsAll])
end
end Vl
namespace Vl
open PySem PySem.Spec PyProof.Rows L2

/-! ### statements -/
inductive Fl where
  | nx | bk | ct | rt (d : D)
abbrev MS := S → Option (Fl × S)
/-- what is wanted behind a statement that ends so -/
def Beh (K : PySem.W.Frag) (b : G × Hp) (g : G) (H : Hp) (E : Ends) (f : Fl) (s' : S) : Prop := match f with
  | .nx => ∀ g' σ' H', Rep K b g' H' σ' s' → Mono g H g' H' → E.nx σ' H'
  | .bk => ∀ g' σ' H', Rep K b g' H' σ' s' → Mono g H g' H' → E.bk σ' H'
  | .ct => ∀ g' σ' H', Rep K b g' H' σ' s' → Mono g H g' H' → E.ct σ' H'
  | .rt d => ∀ g' v H', Glo K b g' H' s'.sg → Mono g H g' H' → Is K g' H' v d → E.rt v H'
def tS (K : PySem.W.Frag) (m : MS) : TS := fun E σ H => ∃ b g s, Rep K b g H σ s ∧ ∃ f s', m s = some (f, s') ∧ Beh K b g H E f s'
theorem Mono.refl {g : G} {H : Hp} : Mono g H g H := ⟨fun _ _ h f => ⟨h, f⟩, fun _ _ h => h, fun _ _ _ h => h, fun _ _ h => h⟩
theorem Mono.trans {g g1 g2 : G} {H H1 H2 : Hp} (x : Mono g H g1 H1) (y : Mono g1 H1 g2 H2) : Mono g H g2 H2 :=
  ⟨fun a u h f => let ⟨q1, q2⟩ := x.ft a u h f; y.ft a u q1 q2, fun a xs h => y.tp a xs (x.tp a xs h), fun a o u h => y.fr a o u (x.fr a o u h), fun k a h => y.io k a (x.io k a h)⟩
theorem Beh.after {K : PySem.W.Frag} {b : G × Hp} {g g1 : G} {H H1 : Hp} {E : Ends} {f : Fl} {s' : S} (h : Beh K b g H E f s') (m : Mono g H g1 H1) : Beh K b g1 H1 E f s' := by
  cases f with
  | nx => exact fun g' σ' H' r m' => h g' σ' H' r (m.trans m')
  | bk => exact fun g' σ' H' r m' => h g' σ' H' r (m.trans m')
  | ct => exact fun g' σ' H' r m' => h g' σ' H' r (m.trans m')
  | rt d => exact fun g' v H' r m' => h g' v H' r (m.trans m')
def mSeq (m1 m2 : MS) : MS := fun s => (m1 s).bind fun (f, s1) => match f with
  | .nx => m2 s1
  | f => some (f, s1)
def mNx : MS := fun s => some (.nx, s)
section
variable {X : Cx} {st : Stmt} {rest : List Stmt} {pos : Pos}
theorem vs_nil : PSs X [] (tS X.K mNx) := pssImp pss_nil fun E σ H q => by
  obtain ⟨b, g, s, R, f, s', em, k⟩ := q
  cases em
  exact k g σ H R Mono.refl
theorem vs_one {m : MS} (h : PS X st (tS X.K m)) : PSs X [st] (tS X.K m) := pss_one h
theorem vs_cons {m1 m2 : MS} (h1 : PS X st (tS X.K m1)) (h2 : PSs X rest (tS X.K m2)) : PSs X (st :: rest) (tS X.K (mSeq m1 m2)) := pssImp (pss_cons h1 h2) fun E σ H q => by
  obtain ⟨b, g, s, R, f, s', em, k⟩ := q
  unfold mSeq at em
  obtain ⟨⟨f1, s1⟩, e1, em⟩ := Option.bind_eq_some_iff.mp em
  refine ⟨b, g, s, R, f1, s1, e1, ?_⟩
  cases f1 with
  | nx => exact fun g' σ' H' R' m' => ⟨b, g', s1, R', f, s', em, k.after m'⟩
  | bk => cases em; exact k
  | ct => cases em; exact k
  | rt d => cases em; exact k
theorem vs_pass : PS X (.Pass pos) (tS X.K mNx) := psImp ps_pass fun E σ H q => by
  obtain ⟨b, g, s, R, f, s', em, k⟩ := q
  cases em
  exact k g σ H R Mono.refl
def mBk : MS := fun s => some (.bk, s)
def mCt : MS := fun s => some (.ct, s)
theorem vs_break : PS X (.Break pos) (tS X.K mBk) := psImp ps_break fun E σ H q => by
  obtain ⟨b, g, s, R, f, s', em, k⟩ := q
  cases em
  exact k g σ H R Mono.refl
theorem vs_continue : PS X (.Continue pos) (tS X.K mCt) := psImp ps_continue fun E σ H q => by
  obtain ⟨b, g, s, R, f, s', em, k⟩ := q
  cases em
  exact k g σ H R Mono.refl
theorem Rep.mono {K : PySem.W.Frag} {b : G × Hp} {g g' : G} {H H' : Hp} {σ : L2.St} {s : S} {P : Addr → Prop} (r : Rep K b g H σ s) (x : Ext P g H g' H') : Mono g H g' H' := r.gl.mono x
def mRet (m : ME) : MS := fun s => (m s).bind fun (d, s1) => some (.rt d, s1)
theorem vs_ret {e : Expr} {m : ME} (h : PE X e (tK X.K .val m)) : PS X (.Return (some e) pos) (tS X.K (mRet m)) := psImp (ps_ret h) fun E σ H q => by
  obtain ⟨b, g, s, R, f, s', em, k⟩ := q
  unfold mRet at em
  obtain ⟨⟨d, s1⟩, e1, em⟩ := Option.bind_eq_some_iff.mp em
  cases em
  exact ⟨b, g, s, R, d, s', e1, fun g1 v H1 R1 sb1 x1 i1 => k g1 v H1 R1.gl (R.mono x1) i1⟩
def mRetN : MS := fun s => some (.rt .non, s)
theorem vs_retN : PS X (.Return none pos) (tS X.K mRetN) := psImp ps_retN fun E σ H q => by
  obtain ⟨b, g, s, R, f, s', em, k⟩ := q
  cases em
  exact k g .non H R.gl Mono.refl (by simp only [Is])
def mDrop (m : ME) : MS := fun s => (m s).bind fun (d, s1) => some (.nx, s1)
theorem vs_expr {e : Expr} {m : ME} (h : PE X e (tK X.K .bor m)) (hs : swapsWith e none pos.line X.env = pure false := by rfl) : PS X (.Expr e pos) (tS X.K (mDrop m)) := psImp (ps_expr h hs) fun E σ H q => by
  obtain ⟨b, g, s, R, f, s', em, k⟩ := q
  unfold mDrop at em
  obtain ⟨⟨d, s1⟩, e1, em⟩ := Option.bind_eq_some_iff.mp em
  cases em
  exact ⟨b, g, s, R, d, s', e1, fun g1 v H1 R1 sb1 x1 i1 => k g1 σ H1 R1 (R.mono x1)⟩
def mIfS (mc : MT) (ma mb : MS) : MS := fun s => (mc s).bind fun (c, s1) => if c then ma s1 else mb s1
theorem vs_if {c : Expr} {a b : List Stmt} {mc : MT} {ma mb : MS} (hc : PT X c (tT X.K mc)) (ha : PSs X a (tS X.K ma)) (hb : PSs X b (tS X.K mb)) : PS X (.If c a b pos) (tS X.K (mIfS mc ma mb)) := psImp (ps_if hc ha hb) fun E σ H q => by
  obtain ⟨b, g, s, R, f, s', em, k⟩ := q
  unfold mIfS at em
  obtain ⟨⟨c, s1⟩, e0, e1⟩ := Option.bind_eq_some_iff.mp em
  refine ⟨b, g, s, R, c, s1, e0, fun g1 H1 R1 sb1 x1 => ?_⟩
  cases c with
  | true => exact ⟨b, g1, s1, R1, f, s', e1, k.after (R.mono x1)⟩
  | false => exact ⟨b, g1, s1, R1, f, s', e1, k.after (R.mono x1)⟩
end

/-! ### stores into slots -/
def setS (s : S) (i : Nat) (z : Sl) : S := ⟨s.ρ.set i (some z), s.sg⟩
theorem Rep.put {K : PySem.W.Frag} {b : G × Hp} {g : G} {H : Hp} {σ : L2.St} {s : S} {i : Nat} {v : V} {z : Sl} (r : Rep K b g H σ s) (h : SlOk K g H v z)
    (hn : ∀ d a, z = .own d → v = .ref a → b.2 a = none ∧ ¬ OwnA σ s a) : Rep K b g H (σ.set i (some v)) (setS s i z) := by
  have at_ : ∀ j w, (s.ρ.set i (some z))[j]? = some (some w) → (j = i ∧ w = z ∧ (σ.set i (some v))[j]? = some (some v)) ∨ (j ≠ i ∧ s.ρ[j]? = some (some w) ∧ (σ.set i (some v))[j]? = σ[j]?) := fun j w e => by
    by_cases hj : i = j
    · subst hj
      have hl : i < s.ρ.length := by
        obtain ⟨h1, _⟩ := List.getElem?_eq_some_iff.mp e
        simpa using h1
      rw [List.getElem?_set_self hl] at e
      cases e
      exact .inl ⟨rfl, rfl, List.getElem?_set_self (by rw [← r.ln]; exact hl)⟩
    · rw [List.getElem?_set_ne hj] at e
      exact .inr ⟨fun q => hj q.symm, e, List.getElem?_set_ne hj⟩
  refine ⟨r.gl, by show (s.ρ.set i _).length = (σ.set i _).length; rw [List.length_set, List.length_set]; exact r.ln, fun j w e => ?_, fun j k a d d' e1 e2 e3 e4 => ?_, fun j d a e1 e2 => ?_⟩
  · rcases at_ j w e with ⟨_, rfl, q⟩ | ⟨_, e, q⟩
    · exact ⟨v, q, h⟩
    · rw [q]
      exact r.sl j w e
  · rcases at_ j _ e1 with ⟨hj, q1, q2⟩ | ⟨hj, e1', q2⟩
    · rcases at_ k _ e2 with ⟨hk, _, _⟩ | ⟨hk, e2', q4⟩
      · rw [hj, hk]
      · rw [q2] at e3
        cases e3
        rw [q4] at e4
        exact ((hn d a q1.symm rfl).2 ⟨k, d', e2', e4⟩).elim
    · rcases at_ k _ e2 with ⟨hk, q3, q4⟩ | ⟨hk, e2', q4⟩
      · rw [q4] at e4
        cases e4
        rw [q2] at e3
        exact ((hn d' a q3.symm rfl).2 ⟨j, d, e1', e3⟩).elim
      · rw [q2] at e3
        rw [q4] at e4
        exact r.ap j k a d d' e1' e2' e3 e4
  · rcases at_ j _ e1 with ⟨rfl, q1, q2⟩ | ⟨hj, e1, q2⟩
    · rw [q2] at e2
      cases e2
      exact (hn d a q1.symm rfl).1
    · rw [q2] at e2
      exact r.on j d a e1 e2
/-- a value that is the def's own where it is a new object -/
def ownD (d : D) : Sl := match d with
  | .lst _ => .own d
  | .dK _ => .own d
  | .dT _ => .own d
  | d => .shr d
def mSet (i : Nat) (m : ME) : MS := fun s => (m s).bind fun (d, s1) => some (.nx, setS s1 i (.shr d))
def mSetF (i : Nat) (m : ME) : MS := fun s => (m s).bind fun (d, s1) => some (.nx, setS s1 i (ownD d))
theorem Rep.dom {K : PySem.W.Frag} {b : G × Hp} {g : G} {H : Hp} {σ : L2.St} {s : S} {a : Addr} (r : Rep K b g H σ s) (h : H a = none) : b.2 a = none := by
  cases q : b.2 a with
  | none => rfl
  | some u =>
    by_cases hi : a ∈ b.1.io
    · obtain ⟨more, em, _⟩ := r.gl.bs.io
      have : a ∈ g.io := by rw [em]; exact List.mem_append_left _ hi
      have mu := r.gl.mut a this
      rw [h] at mu
      exact mu.elim
    · rw [r.gl.bs.hp a u q hi] at h
      cases h
theorem Rep.putF {K : PySem.W.Frag} {b : G × Hp} {g g' : G} {H H' : Hp} {σ : L2.St} {s s' : S} {i : Nat} {v : V} {d : D} (r : Rep K b g H σ s) (r' : Rep K b g' H' σ s') (sb : Sub s' s) (h : Fre H K g' H' v d) : Rep K b g' H' (σ.set i (some v)) (setS s' i (ownD d)) := by
  cases d <;> first | exact r'.put (z := .shr _) h (fun _ _ e _ => nomatch e) | skip
  · obtain ⟨a, rfl, h0, nf, ni, t⟩ := h
    exact r'.put (z := .own _) ⟨a, rfl, nf, ni, t⟩ fun _ _ _ q => by cases q; exact ⟨r.dom h0, fun o => (o.sub sb).there r h0⟩
  · obtain ⟨a, rfl, h0, nf, ni, t⟩ := h
    exact r'.put (z := .own _) ⟨a, rfl, nf, ni, t⟩ fun _ _ _ q => by cases q; exact ⟨r.dom h0, fun o => (o.sub sb).there r h0⟩
  · obtain ⟨a, rfl, h0, nf, ni, t⟩ := h
    exact r'.put (z := .own _) ⟨a, rfl, nf, ni, t⟩ fun _ _ _ q => by cases q; exact ⟨r.dom h0, fun o => (o.sub sb).there r h0⟩
/-- what is wanted of a store of a value -/
theorem tSet {K : PySem.W.Frag} {i : Nat} {m : ME} (E : Ends) (σ : L2.St) (H : Hp) (q : tS K (mSet i m) E σ H) : tAsg (tK K .val m) (gName i) E σ H := by
  obtain ⟨b, g, s, R, f, s', em, k⟩ := q
  unfold mSet at em
  obtain ⟨⟨d, s1⟩, e1, em⟩ := Option.bind_eq_some_iff.mp em
  cases em
  exact ⟨b, g, s, R, d, s1, e1, fun g1 v H1 R1 sb1 x1 i1 => k g1 _ H1 (R1.put (z := .shr d) i1 fun _ _ e _ => nomatch e) (R.mono x1)⟩
theorem tSetF {K : PySem.W.Frag} {i : Nat} {m : ME} (E : Ends) (σ : L2.St) (H : Hp) (q : tS K (mSetF i m) E σ H) : tAsg (tK K .fre m) (gName i) E σ H := by
  obtain ⟨b, g, s, R, f, s', em, k⟩ := q
  unfold mSetF at em
  obtain ⟨⟨d, s1⟩, e1, em⟩ := Option.bind_eq_some_iff.mp em
  cases em
  exact ⟨b, g, s, R, d, s1, e1, fun g1 v H1 R1 sb1 x1 i1 => k g1 _ H1 (R.putF R1 sb1 i1) (R.mono x1)⟩
section
variable {X : Cx} {pos pos' : Pos} {e : Expr}
theorem vs_set {i : Nat} {x : Str} {m : ME} (hN : X.N.Nodup) (hi : X.N[i]? = some x) (hx : Loc X.env.scope x) (he : PE X e (tK X.K .val m)) (hs : swapsWith e (some (.Name x pos')) pos.line X.env = pure false := by rfl)
    (hf : X.fn x = true ∨ X.env.scope.names.lookup x = some .local := by first | exact .inl rfl | exact .inr rfl | assumption) : PS X (.Assign [.Name x pos'] e pos) (tS X.K (mSet i m)) := psImp (ps_set hN hi hx he hs hf) tSet
theorem vs_setF {i : Nat} {x : Str} {m : ME} (hN : X.N.Nodup) (hi : X.N[i]? = some x) (hx : Loc X.env.scope x) (he : PE X e (tK X.K .fre m)) (hs : swapsWith e (some (.Name x pos')) pos.line X.env = pure false := by rfl)
    (hf : X.fn x = true ∨ X.env.scope.names.lookup x = some .local := by first | exact .inl rfl | exact .inr rfl | assumption) : PS X (.Assign [.Name x pos'] e pos) (tS X.K (mSetF i m)) := psImp (ps_set hN hi hx he hs hf) tSetF
end

/-! ### targets -/
abbrev MG := D → S → Option S
/-- only these slots are stored -/
def Tch (ts : List Nat) (σ σ' : L2.St) : Prop := σ'.length = σ.length ∧ ∀ j, j ∉ ts → σ'[j]? = σ[j]?
theorem Tch.refl (ts : List Nat) (σ : L2.St) : Tch ts σ σ := ⟨rfl, fun _ _ => rfl⟩
theorem Tch.set (i : Nat) (v : Option V) (σ : L2.St) : Tch [i] σ (σ.set i v) := ⟨List.length_set, fun j h => List.getElem?_set_ne (fun e => h (by simp [e]))⟩
theorem Tch.trans {t u : List Nat} {σ σ1 σ2 : L2.St} (h : Tch t σ σ1) (h' : Tch u σ1 σ2) : Tch (t ++ u) σ σ2 :=
  ⟨h'.1.trans h.1, fun j hj => (h'.2 j fun q => hj (List.mem_append_right _ q)).trans (h.2 j fun q => hj (List.mem_append_left _ q))⟩
def tG (K : PySem.W.Frag) (ts : List Nat) (m : MG) : TG := fun v σ H Q => ∃ b g s d, Rep K b g H σ s ∧ Is K g H v d ∧ ∃ s', m d s = some s' ∧ ∀ σ', Rep K b g H σ' s' → Sub s' s → Tch ts σ σ' → Q σ' H
abbrev MGs := List D → S → Option S
def tGs (K : PySem.W.Frag) (ts : List Nat) (m : MGs) : TGs := fun vs σ H Q => ∃ b g s ds, Rep K b g H σ s ∧ IsAll K g H vs ds ∧ ∃ s', m ds s = some s' ∧ ∀ σ', Rep K b g H σ' s' → Sub s' s → Tch ts σ σ' → Q σ' H
theorem Sub.set (s : S) (i : Nat) (d : D) : Sub (setS s i (.shr d)) s := fun j w h => by
  by_cases hj : i = j
  · subst hj
    by_cases hl : i < s.ρ.length
    · rw [show (setS s i (.shr d)).ρ[i]? = some (some (.shr d)) from List.getElem?_set_self hl] at h
      cases h
    · rw [show (setS s i (.shr d)).ρ = s.ρ from List.set_eq_of_length_le (by omega)] at h
      exact h
  · rw [show (setS s i (.shr d)).ρ[j]? = s.ρ[j]? from List.getElem?_set_ne hj] at h
    exact h
def gN (i : Nat) : MG := fun d s => some (setS s i (.shr d))
def gNil0 : MGs := fun ds s => match ds with
  | [] => some s
  | _ => none
def gCons0 (m : MG) (r : MGs) : MGs := fun ds s => match ds with
  | d :: ds => (m d s).bind fun s1 => r ds s1
  | [] => none
def gT (m : MGs) : MG := fun d s => match d with
  | .tup ds => m ds s
  | _ => none
section
variable {X : Cx} {pos : Pos} {e : Expr} {es : List Expr}
theorem pgImp {t t' : TG} (h : PG X e t) (f : ∀ v σ H Q, t' v σ H Q → t v σ H Q) : PG X e t' := ⟨fun pins s σ H v u Q I r q => h.run pins s σ H v u Q I r (f v σ H Q q)⟩
theorem pgsImp {t t' : TGs} (h : PGs X es t) (f : ∀ v σ H Q, t' v σ H Q → t v σ H Q) : PGs X es t' := ⟨fun pins s σ H v u Q I r q => h.run pins s σ H v u Q I r (f v σ H Q q)⟩
theorem vg_name {i : Nat} {x : Str} (hN : X.N.Nodup) (hi : X.N[i]? = some x) (hx : Loc X.env.scope x) (hf : X.fn x = true ∨ X.env.scope.names.lookup x = some .local := by first | exact .inl rfl | exact .inr rfl | assumption) : PG X (.Name x pos) (tG X.K [i] (gN i)) :=
  pgImp (pg_name hN hi hx hf) fun v σ H Q q => by
    obtain ⟨b, g, s, d, R, i1, s', em, k⟩ := q
    cases em
    exact k _ (R.put (z := .shr d) i1 fun _ _ e _ => nomatch e) (Sub.set s i d) (Tch.set i _ σ)
theorem vgs_nil : PGs X [] (tGs X.K [] gNil0) := pgsImp pgs_nil fun vs σ H Q q => by
  obtain ⟨b, g, s, ds, R, i1, s', em, k⟩ := q
  cases ds with
  | nil =>
    simp only [IsAll] at i1
    cases em
    exact ⟨i1, k σ R (Sub.refl _) (Tch.refl _ _)⟩
  | cons d ds => cases em
theorem vgs_cons {m : MG} {r : MGs} {ts us : List Nat} (h1 : PG X e (tG X.K ts m)) (h2 : PGs X es (tGs X.K us r)) (hs : (assignEach (e :: es) X.env).map (·.2) = assign e X.env :: (assignEach es X.env).map (·.2) := by rfl) : PGs X (e :: es) (tGs X.K (ts ++ us) (gCons0 m r)) :=
  pgsImp (pgs_cons h1 h2 hs) fun vs σ H Q q => by
    obtain ⟨b, g, s, ds, R, i1, s', em, k⟩ := q
    cases ds with
    | nil => cases em
    | cons d ds =>
      simp only [IsAll] at i1
      obtain ⟨v, rr, rfl, i1, i2⟩ := i1
      obtain ⟨s1, e1, e2⟩ := Option.bind_eq_some_iff.mp em
      exact ⟨v, rr, rfl, b, g, s, d, R, i1, s1, e1, fun σ1 R1 sb1 t1 => ⟨b, g, s1, ds, R1, i2, s', e2, fun σ2 R2 sb2 t2 => k σ2 R2 (sb2.trans sb1) (t1.trans t2)⟩⟩
theorem vg_tup {k0 : Nat} {m : MGs} {n : Nat} {ts : List Nat} (hc : X.calm = true) (h : PGs X es (tGs X.K ts m)) (hl : ∀ ds s s', m ds s = some s' → ds.length = n) (hn : (assignEach es X.env).length = n := by rfl) (hst : (assignEach es X.env).findIdx? (·.1) = none := by rfl) :
    PG X (.Tuple es k0 pos) (tG X.K ts (gT m)) := pgImp (pg_tup hc h hn hst) fun v σ H Q q => by
  obtain ⟨b, g, s, d, R, i1, s', em, k⟩ := q
  cases d <;> first | (cases em; done) | skip
  rename_i ds
  have em : m ds s = some s' := em
  simp only [Is] at i1
  obtain ⟨a, vs, rfl, h1, h2⟩ := i1
  exact ⟨a, vs, rfl, h1.sq, by rw [h2.length]; exact hl ds s s' em, b, g, s, ds, R, h2, s', em, k⟩
theorem gl_nil : ∀ ds s s', gNil0 ds s = some s' → ds.length = 0 := fun ds s s' e => by cases ds with
  | nil => rfl
  | cons _ _ => cases e
theorem gl_cons {m : MG} {r : MGs} {n : Nat} (h : ∀ ds s s', r ds s = some s' → ds.length = n) : ∀ ds s s', gCons0 m r ds s = some s' → ds.length = n + 1 := fun ds s s' e => by
  cases ds with
  | nil => cases e
  | cons d ds =>
    obtain ⟨s1, e1, e2⟩ := Option.bind_eq_some_iff.mp e
    rw [List.length_cons, h ds s1 s' e2]
def mAsg (m : ME) (t : MG) : MS := fun s => (m s).bind fun (d, s1) => (t d s1).bind fun s2 => some (.nx, s2)
theorem vs_asg {tg : Expr} {m : ME} {t : MG} {ts : List Nat} (he : PE X e (tK X.K .val m)) (hg : PG X tg (tG X.K ts t)) (hs : swapsWithSole [tg] e pos.line X.env = pure false := by rfl) (hw : swappedStores [tg] e X.env = pure none := by rfl)
    (h1 : (assignEach [tg] X.env).map (·.2) = [assign tg X.env] := by rfl) : PS X (.Assign [tg] e pos) (tS X.K (mAsg m t)) := psImp (ps_asg he hg hs hw h1) fun E σ H q => by
  obtain ⟨b, g, s, R, f, s', em, k⟩ := q
  unfold mAsg at em
  obtain ⟨⟨d, s1⟩, e1, em⟩ := Option.bind_eq_some_iff.mp em
  obtain ⟨s2, e2, em⟩ := Option.bind_eq_some_iff.mp em
  cases em
  exact ⟨b, g, s, R, d, s1, e1, fun g1 v H1 R1 sb1 x1 i1 => ⟨b, g1, s1, d, R1, i1, s', e2, fun σ' R' _ _ => k g1 σ' H1 R' (R.mono x1)⟩⟩
/-- a, b = x, y -/
def mPar (i j : Nat) (ma : MA) : MS := fun s => (ma s).bind fun (ds, s1) => match ds with
  | [d, e] => some (.nx, setS (setS s1 i (.shr d)) j (.shr e))
  | _ => none
theorem vs_par {i j : Nat} {x y : Str} {a b : Expr} {ma : MA} {px py pt : Pos} {kt k2 pt2} (hc : X.calm = true) (hN : X.N.Nodup) (hi : X.N[i]? = some x) (hj : X.N[j]? = some y) (hij : i ≠ j)
    (hx : X.env.scope.names.lookup x = some .local) (hy : X.env.scope.names.lookup y = some .local) (ha : PA X [a, b] (tA X.K .val ma))
    (hw : swappedStores [.Tuple [.Name x px, .Name y py] kt pt] (.Tuple [a, b] k2 pt2) X.env = pure (some [x, y]))
    (hs : swapsWithSole [.Tuple [.Name x px, .Name y py] kt pt] (.Tuple [a, b] k2 pt2) pos.line X.env = pure false := by rfl) :
    PS X (.Assign [.Tuple [.Name x px, .Name y py] kt pt] (.Tuple [a, b] k2 pt2) pos) (tS X.K (mPar i j ma)) := psImp (ps_par hc hN hi hj hij hx hy ha hw hs) fun E σ H q => by
  obtain ⟨b, g, s, R, f, s', em, k⟩ := q
  unfold mPar at em
  obtain ⟨⟨ds, s1⟩, e1, em⟩ := Option.bind_eq_some_iff.mp em
  match ds, e1, em with
  | [d, e], e1, em =>
    cases em
    refine ⟨b, g, s, R, _, s1, e1, fun g1 vs H1 R1 sb1 x1 i1 => ?_⟩
    have i1 : IsAll X.K g1 H1 vs [d, e] := i1
    simp only [IsAll] at i1
    obtain ⟨v, r, rfl, iv, w', r', rfl, iw, rfl⟩ := i1
    exact ⟨v, w', rfl, k g1 _ H1 ((R1.put (i := i) (z := .shr d) iv fun _ _ e _ => nomatch e).put (i := j) (z := .shr e) iw fun _ _ e _ => nomatch e) (R.mono x1)⟩
def mPar3 (i j l : Nat) (ma : MA) : MS := fun s => (ma s).bind fun (ds, s1) => match ds with
  | [d, e, f] => some (.nx, setS (setS (setS s1 i (.shr d)) j (.shr e)) l (.shr f))
  | _ => none
theorem vs_par3 {i j l : Nat} {x y z : Str} {a b c : Expr} {ma : MA} {px py pz pt : Pos} {kt k2 pt2} (hc : X.calm = true) (hN : X.N.Nodup) (hi : X.N[i]? = some x) (hj : X.N[j]? = some y) (hl : X.N[l]? = some z) (hij : i ≠ j) (hil : i ≠ l) (hjl : j ≠ l)
    (hx : X.env.scope.names.lookup x = some .local) (hy : X.env.scope.names.lookup y = some .local) (hz : X.env.scope.names.lookup z = some .local) (ha : PA X [a, b, c] (tA X.K .val ma))
    (hw : swappedStores [.Tuple [.Name x px, .Name y py, .Name z pz] kt pt] (.Tuple [a, b, c] k2 pt2) X.env = pure (some [x, y, z]))
    (hs : swapsWithSole [.Tuple [.Name x px, .Name y py, .Name z pz] kt pt] (.Tuple [a, b, c] k2 pt2) pos.line X.env = pure false := by rfl) :
    PS X (.Assign [.Tuple [.Name x px, .Name y py, .Name z pz] kt pt] (.Tuple [a, b, c] k2 pt2) pos) (tS X.K (mPar3 i j l ma)) := psImp (ps_par3 hc hN hi hj hl hij hil hjl hx hy hz ha hw hs) fun E σ H q => by
  obtain ⟨b, g, s, R, f, s', em, k⟩ := q
  unfold mPar3 at em
  obtain ⟨⟨ds, s1⟩, e1, em⟩ := Option.bind_eq_some_iff.mp em
  match ds, e1, em with
  | [d, e, f], e1, em =>
    cases em
    refine ⟨b, g, s, R, _, s1, e1, fun g1 vs H1 R1 sb1 x1 i1 => ?_⟩
    have i1 : IsAll X.K g1 H1 vs [d, e, f] := i1
    simp only [IsAll] at i1
    obtain ⟨v, r, rfl, iv, w', r', rfl, iw, u, r'', rfl, iu, rfl⟩ := i1
    exact ⟨v, w', u, rfl, k g1 _ H1 (((R1.put (i := i) (z := .shr d) iv fun _ _ e _ => nomatch e).put (i := j) (z := .shr e) iw fun _ _ e _ => nomatch e).put (i := l) (z := .shr f) iu fun _ _ e _ => nomatch e) (R.mono x1)⟩
end

/-! ### loops -/
def loopW (mc : MT) (mb : MS) : Nat → MS
  | 0, _ => none
  | n + 1, s => (mc s).bind fun (c, s1) => if c then (mb s1).bind fun (f, s2) => match f with
    | .nx => loopW mc mb n s2
    | .ct => loopW mc mb n s2
    | .bk => some (.nx, s2)
    | .rt d => some (.rt d, s2) else some (.nx, s1)
theorem loopW_flow {mc : MT} {mb : MS} : ∀ (n : Nat) {s s' : S} {f : Fl}, loopW mc mb n s = some (f, s') → f = .nx ∨ ∃ d, f = .rt d
  | 0, _, _, _, h => by cases h
  | n + 1, s, s', f, h => by
    unfold loopW at h
    obtain ⟨⟨c, s1⟩, e1, h⟩ := Option.bind_eq_some_iff.mp h
    cases c with
    | false => cases h; exact .inl rfl
    | true =>
      obtain ⟨⟨f1, s2⟩, e2, h⟩ := Option.bind_eq_some_iff.mp h
      cases f1 with
      | nx => exact loopW_flow n h
      | ct => exact loopW_flow n h
      | bk => cases h; exact .inl rfl
      | rt d => cases h; exact .inr ⟨d, rfl⟩
/-- a loop leaves by its end or by a return: the ways out of the loop around do not matter -/
theorem Beh.ends {K : PySem.W.Frag} {b : G × Hp} {g : G} {H : Hp} {E E' : Ends} {f : Fl} {s' : S} (hf : f = .nx ∨ ∃ d, f = .rt d) (h : Beh K b g H E f s') (h1 : E'.nx = E.nx) (h2 : E'.rt = E.rt) : Beh K b g H E' f s' := by
  rcases hf with rfl | ⟨d, rfl⟩
  · exact fun g' σ' H' r m' => by rw [h1]; exact h g' σ' H' r m'
  · exact fun g' v H' r m' i => by rw [h2]; exact h g' v H' r m' i
section
variable {X : Cx} {pos : Pos}
theorem vs_while {c : Expr} {body : List Stmt} {mc : MT} {mb : MS} (n : Nat) (hp : PassesOwn (model X.prog X.w) X.A X.env X.xe) (hc : PT X c (tT X.K mc)) (hb : PSs X body (tS X.K mb)) : PS X (.While c body [] pos) (tS X.K (loopW mc mb n)) :=
  psImp (ps_while hp hc hb) fun E σ H q => by
    obtain ⟨b, g, s, R, f, s', em, k⟩ := q
    have hf := loopW_flow n em
    refine ⟨fun m σ1 H1 => ∃ g1 s1, Rep X.K b g1 H1 σ1 s1 ∧ Mono g H g1 H1 ∧ loopW mc mb m s1 = some (f, s'), ⟨n, g, s, R, Mono.refl, em⟩, ?_⟩
    rintro m σ1 H1 ⟨g1, s1, R1, m1, e1⟩
    cases m with
    | zero => cases e1
    | succ m =>
      unfold loopW at e1
      obtain ⟨⟨c, s2⟩, e2, e1⟩ := Option.bind_eq_some_iff.mp e1
      refine ⟨b, g1, s1, R1, c, s2, e2, fun g2 H2 R2 sb2 x2 => ?_⟩
      have m2 := m1.trans (R1.mono x2)
      cases c with
      | false =>
        cases e1
        exact k g2 σ1 H2 R2 m2
      | true =>
        obtain ⟨⟨f1, s3⟩, e3, e1⟩ := Option.bind_eq_some_iff.mp e1
        refine ⟨fun σ4 H4 => ∃ g4 s4, Rep X.K b g4 H4 σ4 s4 ∧ Mono g H g4 H4 ∧ loopW mc mb m s4 = some (f, s'), fun σ4 H4 h => ⟨m, Nat.lt_succ_self m, h⟩, ?_⟩
        refine ⟨b, g2, s2, R2, f1, s3, e3, ?_⟩
        cases f1 with
        | nx => exact fun g4 σ4 H4 R4 m4 => ⟨g4, s3, R4, m2.trans m4, e1⟩
        | ct => exact fun g4 σ4 H4 R4 m4 => ⟨g4, s3, R4, m2.trans m4, e1⟩
        | bk => cases e1; exact fun g4 σ4 H4 R4 m4 => k g4 σ4 H4 R4 (m2.trans m4)
        | rt d => cases e1; exact fun g4 v H4 R4 m4 i => k g4 v H4 R4 (m2.trans m4) i
end
/-- the items of a walk, one by one -/
def loopF (mg : MG) (mb : MS) : List D → MS
  | [], s => some (.nx, s)
  | d :: ds, s => (mg d s).bind fun s1 => (mb s1).bind fun (f, s2) => match f with
    | .nx => loopF mg mb ds s2
    | .ct => loopF mg mb ds s2
    | .bk => some (.nx, s2)
    | .rt d => some (.rt d, s2)
theorem loopF_flow {mg : MG} {mb : MS} : ∀ (ds : List D) {s s' : S} {f : Fl}, loopF mg mb ds s = some (f, s') → f = .nx ∨ ∃ d, f = .rt d
  | [], _, _, _, h => by cases h; exact .inl rfl
  | d :: ds, s, s', f, h => by
    unfold loopF at h
    obtain ⟨s1, e1, h⟩ := Option.bind_eq_some_iff.mp h
    obtain ⟨⟨f1, s2⟩, e2, h⟩ := Option.bind_eq_some_iff.mp h
    cases f1 with
    | nx => exact loopF_flow ds h
    | ct => exact loopF_flow ds h
    | bk => cases h; exact .inl rfl
    | rt d => cases h; exact .inr ⟨d, rfl⟩
end Vl
namespace Vl
open PySem PySem.Spec PyProof.Rows L2

/-! ### walks -/
def Wk (K : PySem.W.Frag) (b : G × Hp) (g0 : G) (H0 : Hp) (J : It) (ds : List D) : Prop :=
  ∃ (Gd : Hp → Prop) (Y : Nat → Hp → V → Hp → Prop), Walk J ds.length Gd Y ∧ (∀ g H, Mono g0 H0 g H → Gd H) ∧
    ∀ (i : Nat) g H x H' sg, i < ds.length → Glo K b g H sg → Mono g0 H0 g H → Y i H x H' → (H' = H ∨ ∃ p o, H p = none ∧ H' = upd H p o) ∧ ∃ d, ds[i]? = some d ∧ Is K g H' x d
abbrev MI := S → Option (List D × S)
def tI (K : PySem.W.Frag) (m : MI) : TI := fun σ H R => ∃ b g s, Rep K b g H σ s ∧ ∃ ds s', m s = some (ds, s') ∧
  ∀ J g' H', Rep K b g' H' σ s' → Sub s' s → Ext (OwnA σ s) g H g' H' → Wk K b g' H' J ds → R J H'
theorem piImp {X : Cx} {tg e : Expr} {t t' : TI} (h : PI X tg e t) (f : ∀ σ H R, t' σ H R → t σ H R) : PI X tg e t' := ⟨fun pins s σ H R I q => h.run pins s σ H R I (f σ H R q)⟩
theorem piOr {X : Cx} {tg e : Expr} {t t' : TI} (h : PI X tg e t) (h' : PI X tg e t') : PI X tg e (fun σ H R => t σ H R ∨ t' σ H R) :=
  ⟨fun pins s σ H R I q => q.elim (h.run pins s σ H R I) (h'.run pins s σ H R I)⟩
/-- a list, a tuple item by item -/
def mItems (m : ME) : MI := fun s => (m s).bind fun (d, s1) => match d with
  | .lst ds => some (ds, s1)
  | .scr ds => some (ds, s1)
  | .tup ds => some (ds, s1)
  | _ => none
section
variable {K : PySem.W.Frag} {b : G × Hp} {g : G} {H : Hp} {a : Addr} {vs : List V} {ds : List D}
theorem wk_lst (h : H a = some (.lst vs)) (f : g.Fz a) (i : IsAll K g H vs ds) : Wk K b g H (Itl K a) ds := by
  refine ⟨_, _, (by rw [← i.length]; exact walk_list (xs := vs)), fun g' H' m => SqL.of (m.ft a _ h f).1, fun j g' H' x H2 sg hl _ m y => ?_⟩
  obtain ⟨rfl, e⟩ := y
  refine ⟨.inl rfl, ?_⟩
  obtain ⟨v, e', iv⟩ := i.get (List.getElem?_eq_getElem hl)
  rw [e] at e'
  cases e'
  exact ⟨_, List.getElem?_eq_getElem hl, Is.mono m _ _ iv⟩
theorem wk_scr (h : KL K a vs ∨ ∃ o, H a = some (.frz o (.lst vs))) (i : IsAll K g H vs ds) : Wk K b g H (Itl K a) ds := by
  refine ⟨_, _, (by rw [← i.length]; exact walk_list (xs := vs)), fun g' H' m => ?_, fun j g' H' x H2 sg hl _ m y => ?_⟩
  · rcases h with h | ⟨o, h⟩
    · exact h.sq
    · exact .inl (.inr ⟨o, m.fr _ _ _ h⟩)
  obtain ⟨rfl, e⟩ := y
  refine ⟨.inl rfl, ?_⟩
  obtain ⟨v, e', iv⟩ := i.get (List.getElem?_eq_getElem hl)
  rw [e] at e'
  cases e'
  exact ⟨_, List.getElem?_eq_getElem hl, Is.mono m _ _ iv⟩
theorem wk_tup (h : Tp K H a vs) (i : IsAll K g H vs ds) : Wk K b g H (Itt K a) ds := by
  refine ⟨_, _, (by rw [← i.length]; exact walk_tup (xs := vs)), fun g' H' m => (Tp.mono m h).sq, fun j g' H' x H2 sg hl _ m y => ?_⟩
  obtain ⟨rfl, e⟩ := y
  refine ⟨.inl rfl, ?_⟩
  obtain ⟨v, e', iv⟩ := i.get (List.getElem?_eq_getElem hl)
  rw [e] at e'
  cases e'
  exact ⟨_, List.getElem?_eq_getElem hl, Is.mono m _ _ iv⟩
def rangeD (lo c : Int) (n : Nat) : List D := (List.range n).map fun i => .int (lo + (i : Nat) * c)
theorem wk_rangeC {lo c : Int} {n : Nat} : Wk K b g H (Itc lo c n) (rangeD lo c n) := by
  refine ⟨_, _, (by unfold rangeD; rw [List.length_map, List.length_range]; exact walk_rangeC), fun _ _ _ => trivial, fun j g' H' x H2 sg hl _ m y => ?_⟩
  obtain ⟨rfl, rfl⟩ := y
  unfold rangeD at hl
  rw [List.length_map, List.length_range] at hl
  refine ⟨.inl rfl, .int (lo + (j : Nat) * c), ?_, by simp only [Is]⟩
  unfold rangeD
  rw [List.getElem?_map, List.getElem?_range hl]
  rfl
end

section
variable {X : Cx} {tg e : Expr} {pos p : Pos}
theorem vi_seq {m : ME} (he : PE X e (tK X.K .val m)) : PI X tg e (tI X.K (mItems m)) := piImp (piOr (pi_list he) (pi_tup he)) fun σ H R q => by
  obtain ⟨b, g, s, Rp, ds, s', em, k⟩ := q
  unfold mItems at em
  obtain ⟨⟨d, s1⟩, e1, em⟩ := Option.bind_eq_some_iff.mp em
  cases d <;> first | (cases em; done) | skip
  · cases em
    refine .inr ⟨b, g, s, Rp, _, s', e1, fun g1 v H1 R1 sb1 x1 i1 => ?_⟩
    have i2 : Is X.K g1 H1 v (.tup ds) := i1
    simp only [Is] at i2
    obtain ⟨a, vs, rfl, h1, h2⟩ := i2
    exact ⟨a, rfl, ⟨vs, h1.sq⟩, k _ g1 H1 R1 sb1 x1 (wk_tup h1 h2)⟩
  · cases em
    refine .inl ⟨b, g, s, Rp, _, s', e1, fun g1 v H1 R1 sb1 x1 i1 => ?_⟩
    have i2 : Is X.K g1 H1 v (.lst ds) := i1
    simp only [Is] at i2
    obtain ⟨a, vs, rfl, h1, h2⟩ := i2
    exact ⟨a, rfl, ⟨vs, SqL.of h1.1⟩, k _ g1 H1 R1 sb1 x1 (wk_lst h1.1 h1.2 h2)⟩
  · cases em
    refine .inl ⟨b, g, s, Rp, _, s', e1, fun g1 v H1 R1 sb1 x1 i1 => ?_⟩
    have i2 : Is X.K g1 H1 v (.scr ds) := i1
    simp only [Is] at i2
    obtain ⟨a, vs, rfl, h1, h2⟩ := i2
    refine ⟨a, rfl, ⟨vs, ?_⟩, k _ g1 H1 R1 sb1 x1 (wk_scr h1 h2)⟩
    rcases h1 with h1 | ⟨o, h1⟩
    · exact h1.sq
    · exact .inl (.inr ⟨o, h1⟩)
def inR : Int → Bool
  | .ofNat n => Nat.ble n 4611686018427387903
  | .negSucc n => Nat.ble n 4611686018427387903
theorem inR_of {i : Int} (h : inR i = true) : -(2 ^ 62) ≤ i ∧ i < 2 ^ 62 := by
  cases i with
  | ofNat n =>
    have := Nat.le_of_ble_eq_true h
    simp only [Int.ofNat_eq_natCast]
    omega
  | negSucc n =>
    have := Nat.le_of_ble_eq_true h
    rw [Int.negSucc_eq]
    omega
def mRange1 (ma : MA) : MI := fun s => (ma s).bind fun (ds, s1) => match ds with
  | [.int j] => if inR j then some (rangeD 0 1 j.toNat, s1) else none
  | _ => none
def mRange2 (ma : MA) : MI := fun s => (ma s).bind fun (ds, s1) => match ds with
  | [.int i, .int j] => if inR i && inR j then some (rangeD i 1 (j - i).toNat, s1) else none
  | _ => none
/-- how many steps a range has -/
def stepsD (i j c : Int) : Nat := if 0 < c then ((j - i + c - 1) / c).toNat else ((i - j + (-c) - 1) / (-c)).toNat
def mRange3 (ma : MA) : MI := fun s => (ma s).bind fun (ds, s1) => match ds with
  | [.int i, .int j, .int c] => if inR i && inR j && (decide (c = -1)) then some (rangeD i (-1) (i - j).toNat, s1) else none
  | _ => none
theorem IsAll.int1 {K : PySem.W.Frag} {g : G} {H : Hp} {vs : List V} {i : Int} (h : BorAll K g H vs [.int i]) : vs = [.int i] := by
  simp only [BorAll] at h
  obtain ⟨v, r, rfl, h1, rfl⟩ := h
  rw [isInt h1]
theorem IsAll.int2 {K : PySem.W.Frag} {g : G} {H : Hp} {vs : List V} {i j : Int} (h : BorAll K g H vs [.int i, .int j]) : vs = [.int i, .int j] := by
  simp only [BorAll] at h
  obtain ⟨v, r, rfl, h1, v', r', rfl, h2, rfl⟩ := h
  rw [isInt h1, isInt h2]
theorem IsAll.int3 {K : PySem.W.Frag} {g : G} {H : Hp} {vs : List V} {i j c : Int} (h : BorAll K g H vs [.int i, .int j, .int c]) : vs = [.int i, .int j, .int c] := by
  simp only [BorAll] at h
  obtain ⟨v, r, rfl, h1, v', r', rfl, h2, v'', r'', rfl, h3, rfl⟩ := h
  rw [isInt h1, isInt h2, isInt h3]
theorem wk_range {K : PySem.W.Frag} {b : G × Hp} {g : G} {H : Hp} {lo : Int} {n : Nat} : Wk K b g H (Itr lo n) (rangeD lo 1 n) := by
  refine ⟨_, _, (by unfold rangeD; rw [List.length_map, List.length_range]; exact walk_range), fun _ _ _ => trivial, fun j g' H' x H2 sg hl _ m y => ?_⟩
  obtain ⟨rfl, rfl⟩ := y
  unfold rangeD at hl
  rw [List.length_map, List.length_range] at hl
  refine ⟨.inl rfl, .int (lo + (j : Nat)), ?_, by simp only [Is]⟩
  unfold rangeD
  rw [List.getElem?_map, List.getElem?_range hl]
  simp
theorem vi_range1 {a : Expr} {ma : MA} (hg : Gl X "range") (hm : X.mg "range" = none) (ha : PA X [a] (tA X.K .bor ma)) (hs : starEach [a] X.env = [(false, eval a X.env)] := by rfl) : PI X tg (.Call (.Name "range" p) [a] [] pos) (tI X.K (mRange1 ma)) :=
  piImp (pi_range1 hg hm ha hs) fun σ H R q => by
    obtain ⟨b, g, s, Rp, ds, s', em, k⟩ := q
    unfold mRange1 at em
    obtain ⟨⟨d, s1⟩, e1, em⟩ := Option.bind_eq_some_iff.mp em
    match d, e1, em with
    | [.int j], e1, em =>
      by_cases h : inR j = true
      · simp only [h, if_true] at em
        cases em
        refine ⟨b, g, s, Rp, _, s', e1, fun g1 v H1 R1 sb1 x1 i1 => ?_⟩
        exact ⟨j, IsAll.int1 i1, (inR_of h).1, (inR_of h).2, k _ g1 H1 R1 sb1 x1 wk_range⟩
      · simp only [h] at em
        cases em
theorem vi_range2 {a c : Expr} {ma : MA} (hg : Gl X "range") (hm : X.mg "range" = none) (ha : PA X [a, c] (tA X.K .bor ma)) (hs : starEach [a, c] X.env = [(false, eval a X.env), (false, eval c X.env)] := by rfl) (hs2 : starEach [c] X.env = [(false, eval c X.env)] := by rfl) :
    PI X tg (.Call (.Name "range" p) [a, c] [] pos) (tI X.K (mRange2 ma)) :=
  piImp (pi_range2 hg hm ha hs hs2) fun σ H R q => by
    obtain ⟨b, g, s, Rp, ds, s', em, k⟩ := q
    unfold mRange2 at em
    obtain ⟨⟨d, s1⟩, e1, em⟩ := Option.bind_eq_some_iff.mp em
    match d, e1, em with
    | [.int i, .int j], e1, em =>
      by_cases h : (inR i && inR j) = true
      · simp only [h, if_true] at em
        cases em
        simp only [Bool.and_eq_true] at h
        refine ⟨b, g, s, Rp, _, s', e1, fun g1 v H1 R1 sb1 x1 i1 => ?_⟩
        exact ⟨i, j, IsAll.int2 i1, ⟨(inR_of h.1).1, (inR_of h.1).2, (inR_of h.2).1, (inR_of h.2).2⟩, k _ g1 H1 R1 sb1 x1 wk_range⟩
      · simp only [h] at em
        cases em
theorem vi_range3 {a c f : Expr} {ma : MA} (hg : Gl X "range") (hm : X.mg "range" = none) (ha : PA X [a, c, f] (tA X.K .bor ma)) (hs : starEach [a, c, f] X.env = (false, eval a X.env) :: starEach [c, f] X.env := by rfl) (hpl : (backTo pos (starEach [c, f] X.env)).any (·.1) = false := by rfl) :
    PI X tg (.Call (.Name "range" p) [a, c, f] [] pos) (tI X.K (mRange3 ma)) :=
  piImp (pi_range3 hg hm ha hs hpl) fun σ H R q => by
    obtain ⟨b, g, s, Rp, ds, s', em, k⟩ := q
    unfold mRange3 at em
    obtain ⟨⟨d, s1⟩, e1, em⟩ := Option.bind_eq_some_iff.mp em
    match d, e1, em with
    | [.int i, .int j, .int c], e1, em =>
      by_cases h : (inR i && inR j && decide (c = -1)) = true
      · simp only [h, if_true] at em
        cases em
        simp only [Bool.and_eq_true, decide_eq_true_eq] at h
        obtain ⟨⟨h1, h2⟩, h3⟩ := h
        subst h3
        refine ⟨b, g, s, Rp, _, s', e1, fun g1 v H1 R1 sb1 x1 i1 => ?_⟩
        exact ⟨i, j, -1, _, IsAll.int3 i1, RgC.neg (inR_of h1).1 (inR_of h1).2 (inR_of h2).1 (inR_of h2).2, k _ g1 H1 R1 sb1 x1 wk_rangeC⟩
      · simp only [h] at em
        cases em

/-! ### for -/
def mFor (mi : MI) (mg : MG) (mb : MS) : MS := fun s => (mi s).bind fun (ds, s1) => loopF mg mb ds s1
theorem drop_at {ds : List D} {i : Nat} {d : D} (h : ds[i]? = some d) : ds.drop i = d :: ds.drop (i + 1) := by
  obtain ⟨hl, e⟩ := List.getElem?_eq_some_iff.mp h
  rw [List.drop_eq_getElem_cons hl, e]
theorem vs_for {iter : Expr} {body : List Stmt} {mi : MI} {mg : MG} {mb : MS} (hp : PassesOwn (model X.prog X.w) X.A X.env X.xe) (hc : X.calm = true) {ts : List Nat} (hi : PI X tg iter (tI X.K mi)) (hg : PG X tg (tG X.K ts mg)) (hb : PSs X body (tS X.K mb))
    (hs : ∀ x, foldedSetIterable iter X.env x = pure x := by intro _; rfl) : PS X (.For tg iter body [] pos) (tS X.K (mFor mi mg mb)) := psImp (ps_for hp hc hi hg hb hs) fun E σ H q => by
  obtain ⟨b, g, s, R, f, s', em, k⟩ := q
  unfold mFor at em
  obtain ⟨⟨ds, s1⟩, e1, em⟩ := Option.bind_eq_some_iff.mp em
  refine ⟨b, g, s, R, ds, s1, e1, fun J g1 H1 R1 sb1 x1 wk => ?_⟩
  obtain ⟨Gd, Y, w, hG, hY⟩ := wk
  have m01 := R.mono x1
  refine for_it w (fun i σ2 H2 => ∃ g2 s2, Rep X.K b g2 H2 σ2 s2 ∧ Mono g1 H1 g2 H2 ∧ loopF mg mb (ds.drop i) s2 = some (f, s')) ⟨g1, s1, R1, Mono.refl, em⟩ ?_ ?_ ?_
  · rintro i σ2 H2 hl ⟨g2, s2, R2, m2, e2⟩
    exact hG g2 H2 m2
  · rintro i x σ2 H2 H3 hl ⟨g2, s2, R2, m2, e2⟩ y
    obtain ⟨hH, d, ed, iv⟩ := hY i g2 H2 x H3 s2.sg hl R2.gl m2 y
    rw [drop_at ed] at e2
    unfold loopF at e2
    obtain ⟨s3, e3, e2⟩ := Option.bind_eq_some_iff.mp e2
    obtain ⟨⟨f1, s4⟩, e4, e2⟩ := Option.bind_eq_some_iff.mp e2
    have R3 : Rep X.K b g2 H3 σ2 s2 ∧ Mono g2 H2 g2 H3 := by
      rcases hH with rfl | ⟨p, o, hp, rfl⟩
      · exact ⟨R2, Mono.refl⟩
      · exact ⟨R2.laid hp, R2.mono (P := fun _ => False) (Ext.laid hp)⟩
    refine ⟨b, g2, s2, d, R3.1, iv, s3, e3, fun σ4 R4 _ _ => ⟨b, g2, s3, R4, f1, s4, e4, ?_⟩⟩
    have m3 := m2.trans R3.2
    cases f1 with
    | nx => exact fun g5 σ5 H5 R5 m5 => ⟨g5, s4, R5, m3.trans m5, e2⟩
    | ct => exact fun g5 σ5 H5 R5 m5 => ⟨g5, s4, R5, m3.trans m5, e2⟩
    | bk => cases e2; exact fun g5 σ5 H5 R5 m5 => k g5 σ5 H5 R5 (m01.trans (m3.trans m5))
    | rt d => cases e2; exact fun g5 v H5 R5 m5 i => k g5 v H5 R5 (m01.trans (m3.trans m5)) i
  · rintro σ2 H2 ⟨g2, s2, R2, m2, e2⟩
    rw [List.drop_length] at e2
    cases e2
    exact k g2 σ2 H2 R2 (m01.trans m2)
end

/-! ### changes of a slot's own object, of an object -/
section
variable {K : PySem.W.Frag} {b : G × Hp} {g : G} {H : Hp} {sg : List D} {σ : L2.St} {s : S} {a : Addr} {o : HO}
theorem Mono.poke (nf : ¬ g.Fz a) (mu : Mut (H a)) : Mono g H g (upd H a o) := by
  have ne : ∀ c u, H c = some u → ¬ Mut (some u) → upd H a o c = some u := fun c u h nm => by
    exact (upd_ne (show c ≠ a from fun e => by rw [← e, h] at mu; exact nm mu)).trans h
  exact ⟨fun c u h f => ⟨(upd_ne (show c ≠ a from fun e => nf (e ▸ f))).trans h, f⟩, fun c xs h => ne c _ h fun z => z, fun c ob u h => ne c _ h fun z => z, fun _ _ h => h⟩
theorem Glo.poke (w : Glo K b g H sg) (nf : ¬ g.Fz a) (ni : a ∉ g.io) (mu : Mut (H a)) (hb : b.2 a = none) : Glo K b g (upd H a o) sg := by
  have m : Mono g H g (upd H a o) := Mono.poke nf mu
  refine ⟨Paired.impM (fun c hc d t => t.move m (upd_ne fun e => ni (e ▸ hc))) w.ob, w.nd, w.nz, fun c f => ?_, ⟨fun c u e hi => ?_, w.bs.fz, w.bs.nf, w.bs.io⟩⟩
  · obtain ⟨u, e⟩ := w.dm c f
    exact ⟨u, (upd_ne (show c ≠ a from fun q => nf (q ▸ f))).trans e⟩
  · exact (upd_ne (show c ≠ a from fun q => by rw [q, hb] at e; cases e)).trans (w.bs.hp c u e hi)
/-- an object that no slot owns is changed -/
theorem Rep.poke (r : Rep K b g H σ s) (nf : ¬ g.Fz a) (ni : a ∉ g.io) (mu : Mut (H a)) (hb : b.2 a = none) (no : ¬ OwnA σ s a) : Rep K b g (upd H a o) σ s := by
  have m : Mono g H g (upd H a o) := Mono.poke nf mu
  refine ⟨r.gl.poke nf ni mu hb, r.ln, fun i z e => ?_, r.ap, r.on⟩
  obtain ⟨v, ev, k⟩ := r.sl i z e
  refine ⟨v, ev, ?_⟩
  cases z with
  | shr d => exact Is.mono m d v k
  | own d =>
    obtain ⟨c, rfl, n1, n2, t⟩ := k
    exact ⟨c, rfl, n1, n2, t.move m (upd_ne fun e' => no (e' ▸ ⟨i, d, e, ev⟩))⟩
/-- the slot's own object is changed -/
theorem Rep.own {i : Nat} {d d' : D} (r : Rep K b g H σ s) (e : s.ρ[i]? = some (some (.own d))) (ea : σ[i]? = some (some (.ref a))) (t : Top K g (upd H a o) a d') : Rep K b g (upd H a o) σ (setS s i (.own d')) ∧ Mono g H g (upd H a o) := by
  obtain ⟨v, ev, a', e2, nf, ni, t0⟩ := r.sl i _ e
  rw [ea] at ev
  cases ev
  cases e2
  have mu := t0.mut
  have m : Mono g H g (upd H a o) := Mono.poke nf mu
  obtain ⟨hl, _⟩ := List.getElem?_eq_some_iff.mp e
  have at_ : ∀ j w, (s.ρ.set i (some (.own d')))[j]? = some (some w) → (j = i ∧ w = .own d') ∨ (j ≠ i ∧ s.ρ[j]? = some (some w)) := fun j w h => by
    by_cases hj : i = j
    · subst hj
      rw [List.getElem?_set_self hl] at h
      cases h
      exact .inl ⟨rfl, rfl⟩
    · rw [List.getElem?_set_ne hj] at h
      exact .inr ⟨fun q => hj q.symm, h⟩
  have back : ∀ (j : Nat) (w : D), (s.ρ.set i (some (.own d')))[j]? = some (some (Sl.own w)) → ∃ w' : D, s.ρ[j]? = some (some (Sl.own w')) := fun j w h => by
    rcases at_ j _ h with ⟨rfl, _⟩ | ⟨_, h⟩
    · exact ⟨d, e⟩
    · exact ⟨w, h⟩
  refine ⟨⟨r.gl.poke nf ni mu (r.on i d a e ea), by show (s.ρ.set i _).length = _; rw [List.length_set]; exact r.ln, fun j z h => ?_, fun j k c d1 d2 h1 h2 => ?_, fun j w c h => ?_⟩, m⟩
  · rcases at_ j z h with ⟨rfl, rfl⟩ | ⟨hj, h⟩
    · exact ⟨_, ea, a, rfl, nf, ni, t⟩
    · obtain ⟨v, ev, k⟩ := r.sl j z h
      refine ⟨v, ev, ?_⟩
      cases z with
      | shr d => exact Is.mono m d v k
      | own w =>
        obtain ⟨c, rfl, n1, n2, t⟩ := k
        exact ⟨c, rfl, n1, n2, t.move m (upd_ne fun e' => hj (r.ap j i a w d h e (e' ▸ ev) ea))⟩
  · obtain ⟨w1, q1⟩ := back j d1 h1
    obtain ⟨w2, q2⟩ := back k d2 h2
    exact r.ap j k c w1 w2 q1 q2
  · obtain ⟨w', q⟩ := back j w h
    exact r.on j w' c q
theorem pair_set {α β : Type} {F : α → β → Prop} : ∀ {l : List α} {r : List β} {k : Nat} {a : α} {b' : β}, Paired F l r → l[k]? = some a → F a b' → Paired F l (r.set k b')
  | _, _, _, _, _, .nil, e, _ => by simp at e
  | _, _, 0, _, _, .cons h t, e, f => by simp at e; subst e; exact .cons f t
  | _, _, k + 1, _, _, .cons h t, e, f => .cons h (pair_set (k := k) t (by simpa using e) f)
/-- an object is changed -/
theorem Glo.obj {k : Nat} {d' : D} (w : Glo K b g H sg) (ea : g.io[k]? = some a) (mu' : ∃ q, o = q ∧ Mut (some q)) (t : Top K g (upd H a o) a d') : Glo K b g (upd H a o) (sg.set k d') ∧ Mono g H g (upd H a o) := by
  have hi : a ∈ g.io := List.mem_of_getElem? ea
  have nf := w.nz a hi
  have mu := w.mut a hi
  have m : Mono g H g (upd H a o) := Mono.poke nf mu
  obtain ⟨d0, e0, t0⟩ := pair_get w.ob ea
  have nd := w.nd
  refine ⟨⟨?_, w.nd, w.nz, fun c f => ?_, ⟨fun c u e hi' => ?_, w.bs.fz, w.bs.nf, w.bs.io⟩⟩, m⟩
  · have step : Paired (fun c d => Top K g (upd H a o) c d ∨ c = a) g.io sg := Paired.imp (fun c d q => by
      by_cases hc : c = a
      · exact .inr hc
      · exact .inl (q.move m (upd_ne hc))) w.ob
    have step2 := pair_set (b' := d') step ea (.inl t)
    clear step
    have fin : ∀ {l : List Addr} {r : List D} {k : Nat}, l.Nodup → l[k]? = some a → Paired (fun c d => Top K g (upd H a o) c d ∨ c = a) l (r.set k d') → k < r.length → Paired (fun c d => Top K g (upd H a o) c d) l (r.set k d') := by
      intro l
      induction l with
      | nil => intro r k _ e _ _; simp at e
      | cons x l ih =>
        intro r k nd e q hk
        cases r with
        | nil => simp at hk
        | cons y r =>
          cases k with
          | zero =>
            simp at e
            subst e
            rw [List.set_cons_zero] at q ⊢
            cases q with
            | cons h tl => exact .cons t (Paired.impM (fun c hc b' z => z.elim id fun z => ((List.nodup_cons.mp nd).1 (z ▸ hc)).elim) tl)
          | succ k =>
            have e : l[k]? = some a := by simpa using e
            rw [List.set_cons_succ] at q ⊢
            cases q with
            | cons h tl =>
              have hx : x ≠ a := fun z => (List.nodup_cons.mp nd).1 (z ▸ List.mem_of_getElem? e)
              exact .cons (h.elim id fun z => absurd z hx) (ih (List.nodup_cons.mp nd).2 e tl (by simpa using hk))
    exact fin nd ea step2 (List.getElem?_eq_some_iff.mp e0).1
  · obtain ⟨u, e⟩ := w.dm c f
    exact ⟨u, (upd_ne (show c ≠ a from fun q => nf (q ▸ f))).trans e⟩
  · by_cases hc : c = a
    · subst hc
      obtain ⟨more, em, hm⟩ := w.bs.io
      rw [em] at hi
      rcases List.mem_append.mp hi with q | q
      · exact absurd q hi'
      · rw [hm c q] at e
        cases e
    · rw [upd_ne hc]
      exact w.bs.hp c u e hi'
end
end Vl
namespace Vl
open PySem PySem.Spec PyProof.Rows L2

/-! ### what a slot lets change -/
def recv (s : S) (i : Nat) : Option D := match s.ρ[i]? with
  | some (some (.own d)) => some d
  | some (some (.shr (.obj k))) => s.sg[k]?
  | _ => none
def putAt (s : S) (i : Nat) (d : D) : S := match s.ρ[i]? with
  | some (some (.shr (.obj k))) => ⟨s.ρ, s.sg.set k d⟩
  | _ => setS s i (.own d)
section
variable {K : PySem.W.Frag} {b : G × Hp} {g : G} {H : Hp} {σ : L2.St} {s : S} {i : Nat} {d : D}
/-- where it stands -/
theorem recv_at (r : Rep K b g H σ s) (e : recv s i = some d) : ∃ a, σ[i]? = some (some (.ref a)) ∧ Top K g H a d ∧
    ∀ d' o, Mut (some o) → (Mono g H g (upd H a o) → Top K g (upd H a o) a d') → Rep K b g (upd H a o) σ (putAt s i d') ∧ Mono g H g (upd H a o) := by
  unfold recv at e
  split at e
  · rename_i d0 eq
    cases e
    obtain ⟨v, ev, a, rfl, nf, ni, t⟩ := r.sl i _ eq
    refine ⟨a, ev, t, fun d' o _ t' => ?_⟩
    have hp : putAt s i d' = setS s i (.own d') := by
      unfold putAt
      rw [eq]
    rw [hp]
    exact r.own eq ev (t' (Mono.poke nf t.mut))
  · rename_i k eq
    obtain ⟨v, ev, iv⟩ := r.sl i _ eq
    have iv : Is K g H v (.obj k) := iv
    simp only [Is] at iv
    obtain ⟨a, rfl, ea⟩ := iv
    obtain ⟨d0, e0, t⟩ := pair_get r.gl.ob ea
    rw [e0] at e
    cases e
    refine ⟨a, ev, t, fun d' o mo t' => ?_⟩
    have hp : putAt s i d' = ⟨s.ρ, s.sg.set k d'⟩ := by
      unfold putAt
      rw [eq]
    rw [hp]
    have hi : a ∈ g.io := List.mem_of_getElem? ea
    obtain ⟨w, m⟩ := r.gl.obj (o := o) ea ⟨o, rfl, mo⟩ (t' (Mono.poke (r.gl.nz a hi) (r.gl.mut a hi)))
    refine ⟨⟨w, r.ln, fun j z h => ?_, r.ap, r.on⟩, m⟩
    obtain ⟨v, ev', q⟩ := r.sl j z h
    refine ⟨v, ev', ?_⟩
    cases z with
    | shr d => exact Is.mono m d v q
    | own d =>
      obtain ⟨c, rfl, n1, n2, t⟩ := q
      exact ⟨c, rfl, n1, n2, t.move m (upd_ne fun e' => n2 (e' ▸ hi))⟩
  · cases e
end
theorem psOr {X : Cx} {st : Stmt} {t t' : TS} (h : PS X st t) (h' : PS X st t') : PS X st (fun E σ H => t E σ H ∨ t' E σ H) :=
  ⟨fun pins s σ H E I q => q.elim (h.run pins s σ H E I) (h'.run pins s σ H E I)⟩

/-! ### xs.append(e), xs.pop(), xs.pop(i), xs.remove(e) -/
def isL : D → Bool
  | .lst _ => true
  | _ => false
abbrev EF := List D → D → Option (D × D)
/-- a method that changes a list that a slot holds -/
def mMeth (f : EF) (i : Nat) (ma : MA) : ME := fun s => (recv s i).bind fun d0 => if isL d0 then (ma s).bind fun (ds, s1) => (recv s1 i).bind fun d => (f ds d).bind fun (d', r) => some (r, putAt s1 i d') else none
def mMethS (f : EF) (i : Nat) (ma : MA) : MS := fun s => (mMeth f i ma s).bind fun (_, s1) => some (.nx, s1)
structure MetD (X : Cx) (id : String) (f : EF) : Prop where
  run : ∃ r, MtR X id r ∧ ∀ g H a d ds vs d' z Q, Top X.K g H a d → IsAll X.K g H vs ds → f ds d = some (d', z) →
    (∀ v o, Mut (some o) → (Mono g H g (upd H a o) → Top X.K g (upd H a o) a d') → Q v (upd H a o)) → r (.ref a) vs H Q
theorem tMeth' {K : PySem.W.Frag} {f : EF} {r : V → List V → Hp → VK → Prop} {i : Nat} {ma : MA} (hr : ∀ g H a d ds vs d' z Q, Top K g H a d → IsAll K g H vs ds → f ds d = some (d', z) →
    (∀ v o, Mut (some o) → (Mono g H g (upd H a o) → Top K g (upd H a o) a d') → Q v (upd H a o)) → r (.ref a) vs H Q) (E : Ends) (σ : L2.St) (H : Hp) (q : tS K (mMethS f i ma) E σ H) :
    tDrop (tBM K "list" r (tVar i) (tA K .val ma)) E σ H := by
  obtain ⟨b, g, s, R, fl, s', em, k⟩ := q
  unfold mMethS mMeth at em
  obtain ⟨⟨z, s3⟩, em, em'⟩ := Option.bind_eq_some_iff.mp em
  cases em'
  obtain ⟨d0, e0, em⟩ := Option.bind_eq_some_iff.mp em
  by_cases hl : isL d0 = true
  · simp only [hl, if_true] at em
    obtain ⟨⟨ds, s1⟩, e1, em⟩ := Option.bind_eq_some_iff.mp em
    obtain ⟨d, e2, em⟩ := Option.bind_eq_some_iff.mp em
    obtain ⟨⟨d', r'⟩, e3, em⟩ := Option.bind_eq_some_iff.mp em
    cases em
    obtain ⟨a, ea, t, _⟩ := recv_at R e0
    refine ⟨_, ea, ?_, b, g, s, R, ds, s1, e1, fun g1 vs H1 R1 sb1 x1 i1 => ?_⟩
    · cases d0 <;> first | (cases hl; done) | skip
      obtain ⟨xs, hx, _⟩ := t
      exact .inl ⟨rfl, xs, SqL.of hx⟩
    · obtain ⟨a', ea', t', hput⟩ := recv_at R1 e2
      rw [ea] at ea'
      cases ea'
      refine hr g1 H1 a d ds vs d' _ _ t' i1 e3 fun v o mo ht => ?_
      obtain ⟨R4, m4⟩ := hput d' o mo ht
      exact k g1 σ _ R4 ((R.mono x1).trans m4)
  · simp only [hl] at em
    cases em
theorem tMeth0 {K : PySem.W.Frag} {f : EF} {r : V → List V → Hp → VK → Prop} {i : Nat} (hr : ∀ g H a d ds vs d' z Q, Top K g H a d → IsAll K g H vs ds → f ds d = some (d', z) →
    (∀ v o, Mut (some o) → (Mono g H g (upd H a o) → Top K g (upd H a o) a d') → Q v (upd H a o)) → r (.ref a) vs H Q) (E : Ends) (σ : L2.St) (H : Hp) (q : tS K (mMethS f i mNil) E σ H) :
    tDrop (tBM0 K "list" r (tVar i)) E σ H := by
  obtain ⟨x, ex, ty, q⟩ := tMeth' hr E σ H q
  refine ⟨x, ex, ty, ?_⟩
  obtain ⟨b, g, s, R, ds, s', em, k⟩ := q
  cases em
  exact k g [] H R (Sub.refl _) Ext.refl (by show IsAll _ _ _ _ _; simp only [IsAll])
section
variable {X : Cx} {e : Expr} {es : List Expr} {x name : Str} {p apos cpos pos : Pos} {id : String} {f : EF} {i : Nat} {ma : MA}
theorem vs_meth (o : MetD X id f) (pa : PlainAttrs "list") (slot : Slot "list" name id) (hty : typeOf (.builtin id) = pure (.type "method_descriptor")) (ho : PE X (.Name x p) (tVar i)) (ha : PA X (e :: es) (tA X.K .val ma))
    (hbase : attributeBase (.Name x p) name X.env (eval (.Name x p) X.env) = eval (.Name x p) X.env := by rfl)
    (hfew : ((backTo cpos (starEach (e :: es) X.env)).all (fun x => !x.1) && (backToKw cpos (keywordEach [] X.env)).all (fun x => x.1.isSome)
      && decide ((e :: es).length + ([] : List Keyword).length + (if ([] : List Keyword).isEmpty then 0 else 1) < 30)) = true := by rfl)
    (hline : (apos.endLine == cpos.line) = true := by rfl) (hs : starEach (e :: es) X.env = (false, eval e X.env) :: starEach es X.env := by rfl) (hplain : (backTo cpos (starEach es X.env)).any (·.1) = false := by rfl)
    (hw : swapsWith (.Call (.Attribute (.Name x p) name apos) (e :: es) [] cpos) none pos.line X.env = pure false := by rfl) :
    PS X (.Expr (.Call (.Attribute (.Name x p) name apos) (e :: es) [] cpos) pos) (tS X.K (mMethS f i ma)) := by
  obtain ⟨r, hm, hr⟩ := o.run
  exact psImp (ps_expr (pe_bm pa slot hty hm ho ha hbase hfew hline hs hplain) hw) (tMeth' hr)
theorem vs_meth0 (o : MetD X id f) (pa : PlainAttrs "list") (slot : Slot "list" name id) (hty : typeOf (.builtin id) = pure (.type "method_descriptor")) (ho : PE X (.Name x p) (tVar i))
    (hbase : attributeBase (.Name x p) name X.env (eval (.Name x p) X.env) = eval (.Name x p) X.env := by rfl) (hline : (apos.endLine == cpos.line) = true := by rfl)
    (hw : swapsWith (.Call (.Attribute (.Name x p) name apos) [] [] cpos) none pos.line X.env = pure false := by rfl) :
    PS X (.Expr (.Call (.Attribute (.Name x p) name apos) [] [] cpos) pos) (tS X.K (mMethS f i mNil)) := by
  obtain ⟨r, hm, hr⟩ := o.run
  exact psImp (ps_expr (pe_bm0 pa slot hty hm ho hbase hline) hw) (tMeth0 hr)
end

def eApp : EF := fun ds d => match ds, d with
  | [z], .lst xs => if xs.length < sizeLine then some (.lst (xs ++ [z]), .non) else none
  | _, _ => none
def ePop : EF := fun ds d => match ds, d with
  | [], .lst xs => (xs[xs.length - 1]?).bind fun z => some (.lst xs.dropLast, z)
  | _, _ => none
def ePop0 : EF := fun ds d => match ds, d with
  | [.int 0], .lst (z :: xs) => some (.lst xs, z)
  | _, _ => none
def eRem : EF := fun ds d => match ds, d with
  | [.int k], .lst xs => (xs.findIdx? fun z => match z with | .int n => n == k | _ => false).bind fun j => if (xs.all fun z => match z with | .int _ => true | _ => false) then some (.lst (xs.eraseIdx j), .non) else none
  | _, _ => none
theorem IsAll.single {K : PySem.W.Frag} {g : G} {H : Hp} {vs : List V} {z : D} (h : IsAll K g H vs [z]) : ∃ v, vs = [v] ∧ Is K g H v z := by
  simp only [IsAll] at h
  obtain ⟨v, r, rfl, h1, rfl⟩ := h
  exact ⟨v, rfl, h1⟩
theorem IsAll.dropLast {K : PySem.W.Frag} {g : G} {H : Hp} {ds : List D} {vs : List V} (h : IsAll K g H vs ds) : IsAll K g H vs.dropLast ds.dropLast := by
  rw [List.dropLast_eq_take, List.dropLast_eq_take, h.length]
  exact h.take _
theorem IsAll.erase {K : PySem.W.Frag} {g : G} {H : Hp} : ∀ {ds : List D} {vs : List V} (n : Nat), IsAll K g H vs ds → IsAll K g H (vs.eraseIdx n) (ds.eraseIdx n)
  | [], vs, n, h => by simp only [IsAll] at h; subst h; simp [IsAll]
  | d :: ds, vs, 0, h => by
    simp only [IsAll] at h
    obtain ⟨v, r, rfl, h1, h2⟩ := h
    exact h2
  | d :: ds, vs, n + 1, h => by
    simp only [IsAll] at h
    obtain ⟨v, r, rfl, h1, h2⟩ := h
    simp only [List.eraseIdx_cons_succ, IsAll]
    exact ⟨v, _, rfl, h1, IsAll.erase n h2⟩
theorem all_ints : ∀ {xs : List D}, (xs.all fun z => match z with | .int _ => true | _ => false) = true → ∃ ns : List Int, xs = ns.map D.int
  | [], _ => ⟨[], rfl⟩
  | x :: xs, h => by
    simp only [List.all_cons, Bool.and_eq_true] at h
    obtain ⟨ns, e⟩ := all_ints h.2
    cases x <;> first | (cases h.1; done) | skip
    rename_i i
    exact ⟨i :: ns, by rw [e]; rfl⟩
section
variable {X : Cx}
theorem md_append : MetD X "list.append" eApp := ⟨_, mt_append, fun g H a d ds vs d' z Q t i e k => by
  unfold eApp at e
  split at e
  · rename_i y xs
    split at e
    · rename_i hl
      cases e
      obtain ⟨us, hu, iu⟩ := t
      obtain ⟨v, rfl, iv⟩ := i.single
      exact ⟨a, us, v, rfl, rfl, hu, by rw [iu.length]; exact hl, k .non _ trivial fun m => ⟨_, upd_same, (IsAll.mono m _ _ iu).append (IsAll.one (Is.mono m _ _ iv))⟩⟩
    · cases e
  · cases e⟩
theorem md_pop : MetD X "list.pop" ePop := ⟨_, mt_pop, fun g H a d ds vs d' z Q t i e k => by
  unfold ePop at e
  split at e
  · rename_i xs
    obtain ⟨y, ey, e⟩ := Option.bind_eq_some_iff.mp e
    cases e
    obtain ⟨us, hu, iu⟩ := t
    simp only [IsAll] at i
    subst i
    obtain ⟨v, ev, iv⟩ := iu.get ey
    exact ⟨a, us, v, rfl, rfl, hu, by rw [iu.length]; exact ev, k v _ trivial fun m => ⟨_, upd_same, (IsAll.mono m _ _ iu).dropLast⟩⟩
  · cases e⟩
theorem md_pop0 : MetD X "list.pop" ePop0 := ⟨_, mt_popAt, fun g H a d ds vs d' z Q t i e k => by
  unfold ePop0 at e
  split at e
  · rename_i y xs
    cases e
    obtain ⟨us, hu, iu⟩ := t
    obtain ⟨v, rfl, iv⟩ := i.single
    simp only [Is] at iv
    subst iv
    have iu' := iu
    simp only [IsAll] at iu
    obtain ⟨v0, r, rfl, i0, i1⟩ := iu
    refine ⟨a, v0 :: r, 0, 0, v0, rfl, rfl, hu, by decide, by decide, ?_, rfl, k v0 _ trivial fun m => ⟨_, upd_same, IsAll.mono m _ _ i1⟩⟩
    rw [seqIndex_of (by decide) (by simp only [List.length_cons]; omega)]
    rfl
  · cases e⟩
theorem md_remove : MetD X "list.remove" eRem := ⟨_, mt_remove, fun g H a d ds vs d' z Q t i e k => by
  unfold eRem at e
  split at e
  · rename_i n xs
    obtain ⟨j, ej, e⟩ := Option.bind_eq_some_iff.mp e
    split at e
    · rename_i hall
      cases e
      obtain ⟨ns, rfl⟩ := all_ints hall
      obtain ⟨us, hu, iu⟩ := t
      obtain ⟨v, rfl, iv⟩ := i.single
      simp only [Is] at iv
      subst iv
      have eu := iu.ints
      subst eu
      rw [List.findIdx?_eq_some_iff_getElem] at ej
      obtain ⟨hj, h1, h2⟩ := ej
      rw [List.length_map] at hj
      rw [List.getElem_map] at h1
      have h1' : ns[j] = n := by simpa using h1
      refine ⟨a, ns, n, j, rfl, rfl, hu, by rw [List.getElem?_eq_getElem hj, h1'], fun m hm q => ?_, k .non _ trivial fun m => ⟨_, upd_same, ?_⟩⟩
      · have h3 := h2 m hm
        have hmn : m < ns.length := Nat.lt_trans hm hj
        rw [List.getElem_map] at h3
        rw [List.getElem?_eq_getElem hmn] at q
        have q' := Option.some.inj q
        simp [q'] at h3
      · have q := (IsAll.mono m _ _ iu).erase j
        rw [erase_mapI] at q
        exact q
    · cases e
  · cases e⟩

/-! ### xs[i] = e, xs[i] += e -/
def eSet (k : Int) (z : D) : D → Option D := fun d => match d with
  | .lst xs => (ixN xs.length k).bind fun j => some (.lst (xs.set j z))
  | _ => none
def mStore (i : Nat) (mi me : ME) : MS := fun s => (me s).bind fun (z, s1) => (recv s1 i).bind fun _ => (mi s1).bind fun (k, s2) => match k with
  | .int k => (recv s2 i).bind fun d => (eSet k z d).bind fun d' => some (.nx, putAt s2 i d')
  | _ => none
theorem tStoreL {K : PySem.W.Frag} {i : Nat} {mi me : ME} (E : Ends) (σ : L2.St) (H : Hp) (q : tS K (mStore i mi me) E σ H) : tAsg (tK K .val me) (gSub (tVar i) (tK K .bor mi) rSetL) E σ H := by
  obtain ⟨b, g, s, R, fl, s', em, k⟩ := q
  unfold mStore at em
  obtain ⟨⟨z, s1⟩, e1, em⟩ := Option.bind_eq_some_iff.mp em
  obtain ⟨d0, e0, em⟩ := Option.bind_eq_some_iff.mp em
  obtain ⟨⟨kk, s2⟩, e2, em⟩ := Option.bind_eq_some_iff.mp em
  obtain ⟨n, rfl⟩ : ∃ i, kk = .int i := by cases kk <;> first | exact ⟨_, rfl⟩ | (cases em; done)
  obtain ⟨d, e3, em⟩ := Option.bind_eq_some_iff.mp em
  obtain ⟨d', e4, em⟩ := Option.bind_eq_some_iff.mp em
  cases em
  refine ⟨b, g, s, R, z, s1, e1, fun g1 v H1 R1 sb1 x1 i1 => ?_⟩
  obtain ⟨a, ea, _, _⟩ := recv_at R1 e0
  refine ⟨_, ea, b, g1, s1, R1, _, s2, e2, fun g2 v2 H2 R2 sb2 x2 i2 => ?_⟩
  obtain ⟨a', ea', t, hput⟩ := recv_at R2 e3
  rw [ea] at ea'
  cases ea'
  unfold eSet at e4
  cases d <;> first | (cases e4; done) | skip
  rename_i xs
  obtain ⟨j, ej, e4⟩ := Option.bind_eq_some_iff.mp e4
  cases e4
  obtain ⟨us, hu, iu⟩ := t
  refine ⟨a, us, n, j, rfl, isInt (K := K) (g := g2) (H := H2) i2, hu, by rw [iu.length]; exact ej, ?_⟩
  obtain ⟨R4, m4⟩ := hput (.lst (xs.set j z)) (.lst (us.set j v)) trivial fun m => ⟨_, upd_same, (IsAll.mono m _ _ iu).set j (Is.mono m _ _ (Is.mono (R1.mono x2) _ _ i1))⟩
  exact k g2 σ _ R4 ((R.mono x1).trans ((R1.mono x2).trans m4))
end
section
variable {X : Cx} {o i0 e : Expr} {x : Str} {p pos pos' : Pos} {i : Nat} {mi me : ME}
theorem vs_store (ho : PE X (.Name x p) (tVar i)) (hi : PE X i0 (tK X.K .bor mi)) (he : PE X e (tK X.K .val me)) (hs : swapsWithSole [.Subscript (.Name x p) i0 pos'] e pos.line X.env = pure false := by rfl)
    (hw : swappedStores [.Subscript (.Name x p) i0 pos'] e X.env = pure none := by rfl) (h1 : (assignEach [.Subscript (.Name x p) i0 pos'] X.env).map (·.2) = [assign (.Subscript (.Name x p) i0 pos') X.env] := by rfl)
    (ha : ∀ v, assign (.Subscript (.Name x p) i0 pos') X.env v = (do
      let ov ← holding [v] (eval (.Name x p) X.env)
      let iv ← holding [v, ov] (eval i0 X.env)
      standAt pos'
      holding [v, ov, iv] (setItem ov iv v)
      release [v, ov, iv] []) := by intro _; rfl) : PS X (.Assign [.Subscript (.Name x p) i0 pos'] e pos) (tS X.K (mStore i mi me)) :=
  psImp (ps_asg he (pg_sub ho hi set_list ha) hs hw h1) tStoreL
/-- xs[i], of a list, not behind its end -/
theorem pget_list : PGet X (fun x y H Q => ∃ p xs j v, x = .ref p ∧ y = .int (j : Nat) ∧ SqL X.K H p xs ∧ xs[j]? = some v ∧ Q v H) := by
  intro pins s σ H o i ov iv Q I ro ri h
  obtain ⟨p, xs, j, v, rfl, rfl, hq, he, q⟩ := h
  cases ro
  obtain ⟨t, rfl⟩ := ri
  obtain ⟨its, r, pl, hz⟩ := I.list hq
  obtain ⟨w, ew, rw'⟩ := r.get he
  have hl := r.length
  have hn := line63
  have hj : j < xs.length := (List.getElem?_eq_some_iff.mp he).1
  exact wpAny_getItem_list pl.isList (Int.natCast_nonneg j) (by omega) (by rw [Int.toNat_natCast]; simpa using ew) ⟨v, H, I, rw', q⟩
def mAugS (f : F2) (i : Nat) (mi me : ME) : MS := fun s => (recv s i).bind fun _ => (mi s).bind fun (k, s1) => match k with
  | .int k => if 0 ≤ k then (recv s1 i).bind fun d => match d with
    | .lst xs => (xs[k.toNat]?).bind fun y => (me s1).bind fun (z, s2) => (f s2.sg y z).bind fun w => (recv s2 i).bind fun d => (eSet k w d).bind fun d' => some (.nx, putAt s2 i d')
    | _ => none else none
  | _ => none
def fAddI : F2 := fun _ d e => match d, e with
  | .int i, .int j => some (.int (i + j))
  | _, _ => none
def fSubI : F2 := fun _ d e => match d, e with
  | .int i, .int j => some (.int (i - j))
  | _, _ => none
structure IpD (X : Cx) (op : Operator) (f : F2) : Prop where
  run : ∃ r, PIp X op r ∧ ∀ g H sg x y d e z Q, Is X.K g H x d → Bor X.K g H y e → f sg d e = some z → (∀ v, Is X.K g H v z → Q v H) → r x y H Q
theorem id_add : IpD X .Add fAddI := ⟨_, ip_add, fun g H sg x y d e z Q hx hy ef k => by
  unfold fAddI at ef
  split at ef
  · cases ef
    simp only [Is] at hx
    exact ⟨_, _, hx, isInt hy, k _ (by simp only [Is])⟩
  · cases ef⟩
theorem id_sub : IpD X .Sub fSubI := ⟨_, ip_sub, fun g H sg x y d e z Q hx hy ef k => by
  unfold fSubI at ef
  split at ef
  · cases ef
    simp only [Is] at hx
    exact ⟨_, _, hx, isInt hy, k _ (by simp only [Is])⟩
  · cases ef⟩
theorem vs_augS {op : Operator} {f : F2} {tpos : Pos} (o : IpD X op f) (ho : PE X (.Name x p) (tVar i)) (hi : PE X i0 (tK X.K .bor mi)) (he : PE X e (tK X.K .bor me))
    (ha : ∀ ov iv new, augStore i0 ov iv new = (do holding [new, ov, iv] (setItem ov iv new); release [new, ov, iv] []; pure .next) := by intros; rfl) : PS X (.AugAssign (.Subscript (.Name x p) i0 tpos) op e pos) (tS X.K (mAugS f i mi me)) := by
  obtain ⟨r, hp, hr⟩ := o.run
  refine psImp (ps_augS ho hi pget_list he hp set_list ha) fun E σ H q => ?_
  obtain ⟨b, g, s, R, fl, s', em, k⟩ := q
  unfold mAugS at em
  obtain ⟨d0, e0, em⟩ := Option.bind_eq_some_iff.mp em
  obtain ⟨⟨kk, s1⟩, e1, em⟩ := Option.bind_eq_some_iff.mp em
  obtain ⟨n, rfl⟩ : ∃ i, kk = .int i := by cases kk <;> first | exact ⟨_, rfl⟩ | (cases em; done)
  by_cases hn : 0 ≤ n
  · simp only [hn, if_true] at em
    obtain ⟨d1, e2, em⟩ := Option.bind_eq_some_iff.mp em
    obtain ⟨xs, rfl⟩ : ∃ i, d1 = .lst i := by cases d1 <;> first | exact ⟨_, rfl⟩ | (cases em; done)
    obtain ⟨y, e3, em⟩ := Option.bind_eq_some_iff.mp em
    obtain ⟨⟨z, s2⟩, e4, em⟩ := Option.bind_eq_some_iff.mp em
    obtain ⟨w, e5, em⟩ := Option.bind_eq_some_iff.mp em
    obtain ⟨d2, e6, em⟩ := Option.bind_eq_some_iff.mp em
    obtain ⟨d', e7, em⟩ := Option.bind_eq_some_iff.mp em
    cases em
    obtain ⟨a, ea, _, _⟩ := recv_at R e0
    refine ⟨_, ea, b, g, s, R, _, s1, e1, fun g1 v1 H1 R1 sb1 x1 i1 => ?_⟩
    obtain ⟨a', ea', t1, _⟩ := recv_at R1 e2
    rw [ea] at ea'
    cases ea'
    obtain ⟨us, hu, iu⟩ := t1
    obtain ⟨u, eu, iy⟩ := iu.get e3
    refine ⟨a, us, n.toNat, u, rfl, by rw [isInt (K := X.K) (g := g1) (H := H1) i1, Int.toNat_of_nonneg hn], SqL.of hu, eu, b, g1, s1, R1, z, s2, e4, fun g2 v2 H2 R2 sb2 x2 i2 => ?_⟩
    refine hr g2 H2 s2.sg u v2 y z w _ (Is.mono (R1.mono x2) _ _ iy) i2 e5 fun v3 i3 => ?_
    obtain ⟨a', ea', t2, hput⟩ := recv_at R2 e6
    rw [ea] at ea'
    cases ea'
    unfold eSet at e7
    cases d2 <;> first | (cases e7; done) | skip
    rename_i ys
    obtain ⟨j, ej, e7⟩ := Option.bind_eq_some_iff.mp e7
    cases e7
    obtain ⟨ws, hw, iw⟩ := t2
    refine ⟨a, ws, n, j, rfl, isInt (K := X.K) (g := g1) (H := H1) i1, hw, by rw [iw.length]; exact ej, ?_⟩
    obtain ⟨R4, m4⟩ := hput (.lst (ys.set j w)) (.lst (ws.set j v3)) trivial fun m => ⟨_, upd_same, (IsAll.mono m _ _ iw).set j (Is.mono m _ _ i3)⟩
    exact k g2 σ _ R4 ((R.mono x1).trans ((R1.mono x2).trans m4))
  · simp only [hn] at em
    cases em
/-- name op= e -/
def mAug (f : F2) (i : Nat) (me : ME) : MS := fun s => match s.ρ[i]? with
  | some (some (.shr d)) => (me s).bind fun (e, s1) => (f s1.sg d e).bind fun z => some (.nx, setS s1 i (.shr z))
  | _ => none
theorem vs_aug {op : Operator} {f : F2} (o : IpD X op f) (hN : X.N.Nodup) (hi : X.N[i]? = some x) (hx : Loc X.env.scope x) (he : PE X e (tK X.K .bor me)) (hf : X.fn x = true ∨ X.env.scope.names.lookup x = some .local := by first | exact .inl rfl | exact .inr rfl | assumption) :
    PS X (.AugAssign (.Name x pos') op e pos) (tS X.K (mAug f i me)) := by
  obtain ⟨r, hp, hr⟩ := o.run
  refine psImp (ps_aug hN hi hx he hp hf) fun E σ H q => ?_
  obtain ⟨b, g, s, R, fl, s', em, k⟩ := q
  unfold mAug at em
  split at em
  · rename_i d ed
    obtain ⟨⟨z, s1⟩, e1, em⟩ := Option.bind_eq_some_iff.mp em
    obtain ⟨w, e2, em⟩ := Option.bind_eq_some_iff.mp em
    cases em
    obtain ⟨v, ev, iv⟩ := R.sl i _ ed
    refine ⟨v, ev, b, g, s, R, z, s1, e1, fun g1 v1 H1 R1 sb1 x1 i1 => ?_⟩
    refine hr g1 H1 s1.sg v v1 d z w _ (Is.mono (R.mono x1) _ _ iv) i1 e2 fun v2 i2 => ?_
    exact k g1 _ H1 (R1.put (z := .shr w) i2 fun _ _ e _ => nomatch e) (R.mono x1)
  · cases em
end

/-! ### defs -/
def initS (n : Nat) (ds sg : List D) : S := ⟨ds.map (fun d => some (.shr d)) ++ List.replicate (n - ds.length) none, sg⟩
/-- a def of n arguments and N names by its body -/
def runF (n N : Nat) (m : MS) : CT := fun ds sg => if ds.length = n then (m (initS N ds sg)).bind fun (f, s) => match f with
  | .nx => some (.non, s.sg)
  | .rt d => some (d, s.sg)
  | _ => none else none
theorem Base.self {g : G} {H : Hp} : Base (g, H) g H := ⟨fun _ _ h _ => h, fun _ h => h, fun _ h => .inl h, [], by simp, by simp⟩
theorem Base.trans {b : G × Hp} {g g' : G} {H H' : Hp} (x : Base b g H) (y : Base (g, H) g' H') (dn : ∀ a, H a = none → b.2 a = none) : Base b g' H' := by
  obtain ⟨m1, e1, n1⟩ := x.io
  obtain ⟨m2, e2, n2⟩ := y.io
  refine ⟨fun a o h hi => y.hp a o (x.hp a o h hi) ?_, fun a h => y.fz a (x.fz a h), fun a h => ?_, m1 ++ m2, by rw [e2, e1, List.append_assoc], fun a ha => ?_⟩
  · show a ∉ g.io
    rw [e1]
    intro q
    rcases List.mem_append.mp q with q | q
    · exact hi q
    · rw [n1 a q] at h
      cases h
  · rcases y.nf a h with q | q
    · exact x.nf a q
    · exact .inr (dn a q)
  · rcases List.mem_append.mp ha with q | q
    · exact n1 a q
    · exact dn a (n2 a q)
theorem Glo.dom {K : PySem.W.Frag} {b : G × Hp} {g : G} {H : Hp} {sg : List D} {a : Addr} (w : Glo K b g H sg) (h : H a = none) : b.2 a = none := by
  cases q : b.2 a with
  | none => rfl
  | some u =>
    by_cases hi : a ∈ b.1.io
    · obtain ⟨more, em, _⟩ := w.bs.io
      have : a ∈ g.io := by rw [em]; exact List.mem_append_left _ hi
      have mu := w.mut a this
      rw [h] at mu
      exact mu.elim
    · rw [w.bs.hp a u q hi] at h
      cases h
theorem Glo.out {K : PySem.W.Frag} {b : G × Hp} {g g' : G} {H H' : Hp} {sg sg' : List D} (w : Glo K b g H sg) (w' : Glo K (g, H) g' H' sg') : Glo K b g' H' sg' ∧ Ext (fun _ => False) g H g' H' := by
  refine ⟨⟨w'.ob, w'.nd, w'.nz, w'.dm, w.bs.trans w'.bs fun a h => w.dom h⟩, w'.bs.hp, fun a h => ?_, w'.bs.fz, fun a f => (w'.bs.nf a f).imp id .inl, w'.bs.io⟩
  exact w'.dom h
theorem Glo.self {K : PySem.W.Frag} {b : G × Hp} {g : G} {H : Hp} {sg : List D} (w : Glo K b g H sg) : Glo K (g, H) g H sg := ⟨w.ob, w.nd, w.nz, w.dm, Base.self⟩
theorem rep_start {K : PySem.W.Frag} {b : G × Hp} {g : G} {H : Hp} {sg : List D} {N : List Str} {vs : List V} {ds : List D} (w : Glo K b g H sg) (i : IsAll K g H vs ds) : Rep K (g, H) g H (L2.start N vs) (initS N.length ds sg) := by
  have hl := i.length
  have at_ : ∀ (j : Nat) z, (initS N.length ds sg).ρ[j]? = some (some z) → ∃ d, ds[j]? = some d ∧ z = .shr d := fun j z e => by
    unfold initS at e
    simp only at e
    by_cases hj : j < ds.length
    · rw [List.getElem?_append_left (by simpa using hj), List.getElem?_map] at e
      cases q : ds[j]? with
      | none => rw [q] at e; cases e
      | some d => rw [q] at e; cases e; exact ⟨d, rfl, rfl⟩
    · rw [List.getElem?_append_right (by simpa using hj), List.getElem?_replicate] at e
      split at e <;> cases e
  refine ⟨w.self, by unfold initS L2.start; simp [hl], fun j z e => ?_, fun j k a d d' e _ _ _ => ?_, fun j d a e _ => ?_⟩
  · obtain ⟨d, ed, rfl⟩ := at_ j z e
    obtain ⟨v, ev, iv⟩ := i.get ed
    refine ⟨v, ?_, iv⟩
    unfold L2.start
    have hj : j < vs.length := by
      rw [hl]
      exact (List.getElem?_eq_some_iff.mp ed).1
    rw [List.getElem?_append_left (by simpa using hj), List.getElem?_map, ev]
    rfl
  · obtain ⟨_, _, q⟩ := at_ j _ e
    cases q
  · obtain ⟨_, _, q⟩ := at_ j _ e
    cases q
theorem fn_ok {P : Program} {w : World} {K : PySem.W.Frag} {mg : Str → Option Value} {base : Heap} {x qual : Str} {st : Stmt} {f : Addr} {fd : FuncData} {N ps : List Str} {k : Nat} {m : MS} (F : Fun K x qual st f fd) (S : FnScope N ps (defScope st))
    (hbody : ∀ (cdv : Value) (A : Around) (outer : List Env) (s : Shared) (H : Hp) (E : XK), Room k (A.deeper (envOfC qual (defScope st) s.heap.objs.size f cdv)) →
      PSs (cxOf CX0 P w K mg base N qual (defScope st) f cdv A outer s H E).nox (defBody st) (tS K m)) : FnOk P w K mg base CX0 (k + 1) f fd ps (spOf K ps.length (runF ps.length N.length m)) := by
  refine F.ok S (fun vs H Q E h => h.1) (fun cdv A outer s H vs Q E hr h => ⟨_, hbody cdv A outer s H E hr, ?_⟩)
  obtain ⟨hl, b, g, sg, ds, gl, iv, d, sg', ef, kk⟩ := h
  unfold runF at ef
  split at ef
  · obtain ⟨⟨f, s1⟩, e1, ef⟩ := Option.bind_eq_some_iff.mp ef
    refine ⟨(g, H), g, _, rep_start gl iv, f, s1, e1, ?_⟩
    cases f with
    | nx =>
      cases ef
      intro g' σ' H' R' _
      obtain ⟨w1, x1⟩ := gl.out R'.gl
      exact kk g' .non H' w1 x1 (by simp only [Is])
    | rt d =>
      cases ef
      intro g' v H' W' _ i'
      obtain ⟨w1, x1⟩ := gl.out W'
      exact kk g' v H' w1 x1 i'
    | bk => cases ef
    | ct => cases ef
  · cases ef
end Vl
namespace PySem
section
variable {prog : Program} {w : World} {A : Around} {E : Value → Shared → Prop} {s : Shared} {l : Addr} {xs : Array (Int × Tok)}
theorem iter_intTup {Q : Value → Shared → Prop} (hl : s.heap.IsTuple l (intItems xs))
    (h : ∀ s₂ : Shared, s₂ = { s with heap := s.heap.push { cls := .type "tuple_iterator", data := .fields #[.ref l, .int 0 0] } } →
      (s₂.heap.IsTupleIter s.heap.objs.size l 0 ∧ s₂.heap.IsTuple l (intItems xs)) → (∀ b ∈ [s.heap.objs.size, l], b < s₂.heap.objs.size) → l ≠ s.heap.objs.size → Q (.ref s.heap.objs.size) s₂) :
    wpAny (model prog w) A (pyIter (.ref l)) Q E s := by
  have hlt : l < s.heap.objs.size := by obtain ⟨_, e, _⟩ := hl; exact Heap.lt_size e
  refine wpAny_pyIter_tuple hl (h _ rfl ⟨⟨_, Heap.get?_push_size _ rfl, rfl, rfl⟩, hl.push _⟩ (fun b hb => ?_) (Nat.ne_of_lt hlt))
  show b < (s.heap.push _).objs.size
  rw [Heap.size_push]
  rcases List.mem_cons.mp hb with rfl | hb
  · exact Nat.lt_succ_self _
  · rcases List.mem_cons.mp hb with rfl | hb
    · exact Nat.lt_succ_of_lt hlt
    · cases hb
theorem old_keptT {h' : Heap} (hk : ∀ b o, b ∉ [s.heap.objs.size] → (s.heap.push { cls := .type "tuple_iterator", data := .fields #[.ref l, .int 0 0] }).get? b = some o → h'.get? b = some o) :
    ∀ b o, s.heap.get? b = some o → h'.get? b = some o := fun b o e => by
  refine hk b o (fun hm => ?_) (Heap.get?_push_of_some _ e)
  rcases List.mem_cons.mp hm with e1 | hm
  · exact absurd (e1 ▸ Heap.lt_size e) (Nat.lt_irrefl _)
  · cases hm
theorem sum_intTup {Q : Value → Shared → Prop} (hh : A.handled = none) (hl : s.heap.IsTuple l (intItems xs))
    (h : ∀ h' tk t', (∀ b o, s.heap.get? b = some o → h'.get? b = some o) → Q (.int (preSum (numAt xs) xs.size) t') { s with heap := h', toks := tk }) :
    wpAny (model prog w) A (call (.builtin "sum") [.ref l]) Q E s := by
  refine call_sum_walkG (iter_intTup hl fun s₂ e st hfp hlI => ?_)
  subst e
  refine ⟨_, _, _, _, _, _, numAt xs, rfl, Walks.tuple (A := A.in1) hh _ l hlI (intItems xs), st, hfp, (fun _ _ => intItems_at), fun h' tk t' hk => ?_⟩
  have := h h' tk t' (old_keptT hk)
  simpa [intItems] using this
theorem max_intTup {Q : Value → Shared → Prop} (hh : A.handled = none) (hl : s.heap.IsTuple l (intItems xs)) (hne : 0 < xs.size)
    (h : ∀ v h' tk, (intItems xs)[argBest (fun i j => decide (numAt xs i > numAt xs j)) (xs.size - 1)]? = some v → (∀ b o, s.heap.get? b = some o → h'.get? b = some o) → Q v { s with heap := h', toks := tk }) :
    wpAny (model prog w) A (call (.builtin "max") [.ref l]) Q E s := by
  refine call_max_walk (iter_intTup hl fun s₂ e st hfp hlI => ?_)
  subst e
  refine ⟨_, _, _, _, _, _, _, rfl, Walks.tuple (A := A.in1) hh _ l hlI (intItems xs), st, hfp, by simpa [intItems] using hne, CmpOf.ints_gt (numAt xs) (fun _ _ => intItems_at), fun v h' tk hP hk => ?_⟩
  exact h v h' tk (by simpa [intItems] using hP) (old_keptT hk)
theorem min_intTup {Q : Value → Shared → Prop} (hh : A.handled = none) (hl : s.heap.IsTuple l (intItems xs)) (hne : 0 < xs.size)
    (h : ∀ v h' tk, (intItems xs)[argBest (fun i j => decide (numAt xs i < numAt xs j)) (xs.size - 1)]? = some v → (∀ b o, s.heap.get? b = some o → h'.get? b = some o) → Q v { s with heap := h', toks := tk }) :
    wpAny (model prog w) A (call (.builtin "min") [.ref l]) Q E s := by
  refine call_min_walk (iter_intTup hl fun s₂ e st hfp hlI => ?_)
  subst e
  refine ⟨_, _, _, _, _, _, _, rfl, Walks.tuple (A := A.in1) hh _ l hlI (intItems xs), st, hfp, by simpa [intItems] using hne, CmpOf.ints_lt (numAt xs) (fun _ _ => intItems_at), fun v h' tk hP hk => ?_⟩
  exact h v h' tk (by simpa [intItems] using hP) (old_keptT hk)
end
end PySem
namespace Vl
open PySem PySem.Spec PyProof.Rows L2
section
variable {X : Cx}
theorem cr_sumT (hc : X.calm = true) : CallR X (.builtin "sum") (fun vs H Q => ∃ (a : Addr) (ns : List Int), vs = [V.ref a] ∧ SqT X.K H a (ns.map V.int) ∧ Q (.int ns.sum) H) := by
  intro pins s σ H vs us Q I r h
  obtain ⟨a, ns, rfl, hs, q⟩ := h
  obtain ⟨its, rv, hl, _⟩ := I.tuple hs
  rw [Vals.ref1 r]
  have hi := rv.ints
  obtain ⟨xs, e⟩ := hi.allInts.items
  have hn : numsOf (intItems xs).toList = ns := by rw [← e]; exact hi.numsOf
  rw [nums_intItems] at hn
  rw [e] at hl
  refine PySem.sum_intTup (I.ok.hd hc) hl fun h' tk t' hk => ?_
  rw [preSum_eq, List.take_of_length_le (by simp), hn]
  exact ⟨.int _, H, I.kept hk, ⟨_, rfl⟩, q⟩
theorem cr_maxT (hc : X.calm = true) : CallR X (.builtin "max") (fun vs H Q => ∃ (a : Addr) (ns : List Int), vs = [V.ref a] ∧ SqT X.K H a (ns.map V.int) ∧ 0 < ns.length ∧ ∀ m, m ∈ ns → (∀ y, y ∈ ns → y ≤ m) → Q (.int m) H) := by
  intro pins s σ H vs us Q I r h
  obtain ⟨a, ns, rfl, hs, hne, q⟩ := h
  obtain ⟨its, rv, hl, _⟩ := I.tuple hs
  rw [Vals.ref1 r]
  have hi := rv.ints
  obtain ⟨xs, e⟩ := hi.allInts.items
  have hn : numsOf (intItems xs).toList = ns := by rw [← e]; exact hi.numsOf
  rw [nums_intItems] at hn
  subst hn
  rw [e] at hl
  have hsz : 0 < xs.size := by simpa using hne
  refine PySem.max_intTup (I.ok.hd hc) hl hsz fun v h' tk hv hk => ?_
  obtain ⟨t, rfl⟩ := intItems_at hv
  obtain ⟨h1, h2⟩ := argBest_gt (numAt xs) (xs.size - 1)
  refine ⟨.int _, H, I.kept hk, ⟨_, rfl⟩, q _ ?_ fun a ha => ?_⟩
  · rw [numAt_eq]; exact PySem.getD_mem (by rw [List.length_map, Array.length_toList]; omega)
  · obtain ⟨j, hj, rfl⟩ := mem_getD ha
    rw [List.length_map, Array.length_toList] at hj
    rw [← numAt_eq]; exact h2 j (by omega)
theorem cr_minT (hc : X.calm = true) : CallR X (.builtin "min") (fun vs H Q => ∃ (a : Addr) (ns : List Int), vs = [V.ref a] ∧ SqT X.K H a (ns.map V.int) ∧ 0 < ns.length ∧ ∀ m, m ∈ ns → (∀ y, y ∈ ns → m ≤ y) → Q (.int m) H) := by
  intro pins s σ H vs us Q I r h
  obtain ⟨a, ns, rfl, hs, hne, q⟩ := h
  obtain ⟨its, rv, hl, _⟩ := I.tuple hs
  rw [Vals.ref1 r]
  have hi := rv.ints
  obtain ⟨xs, e⟩ := hi.allInts.items
  have hn : numsOf (intItems xs).toList = ns := by rw [← e]; exact hi.numsOf
  rw [nums_intItems] at hn
  subst hn
  rw [e] at hl
  have hsz : 0 < xs.size := by simpa using hne
  refine PySem.min_intTup (I.ok.hd hc) hl hsz fun v h' tk hv hk => ?_
  obtain ⟨t, rfl⟩ := intItems_at hv
  obtain ⟨h1, h2⟩ := argBest_lt (numAt xs) (xs.size - 1)
  refine ⟨.int _, H, I.kept hk, ⟨_, rfl⟩, q _ ?_ fun a ha => ?_⟩
  · rw [numAt_eq]; exact PySem.getD_mem (by rw [List.length_map, Array.length_toList]; omega)
  · obtain ⟨j, hj, rfl⟩ := mem_getD ha
    rw [List.length_map, Array.length_toList] at hj
    rw [← numAt_eq]; exact h2 j (by omega)
end
/-! ### lists of ints as such -/
def intsD : List D → Option (List Int)
  | [] => some []
  | .int i :: ds => (intsD ds).map (i :: ·)
  | _ :: _ => none
theorem intsD_map : ∀ ns : List Int, intsD (ns.map D.int) = some ns
  | [] => rfl
  | n :: ns => by simp [intsD, intsD_map ns]
theorem intsD_of : ∀ {ds : List D} {ns : List Int}, intsD ds = some ns → ds = ns.map D.int
  | [], ns, h => by cases h; rfl
  | .int i :: ds, ns, h => by
    simp only [intsD, Option.map_eq_some_iff] at h
    obtain ⟨r, e, rfl⟩ := h
    rw [intsD_of e]
    rfl
  | .non :: _, _, h => by cases h
  | .bl _ :: _, _, h => by cases h
  | .str _ :: _, _, h => by cases h
  | .tup _ :: _, _, h => by cases h
  | .lst _ :: _, _, h => by cases h
  | .dK _ :: _, _, h => by cases h
  | .dT _ :: _, _, h => by cases h
  | .obj _ :: _, _, h => by cases h
  | .scr _ :: _, _, h => by cases h
  | .ty _ :: _, _, h => by cases h
def blsD : List D → Option (List Bool)
  | [] => some []
  | .bl i :: ds => (blsD ds).map (i :: ·)
  | _ :: _ => none
theorem blsD_map : ∀ ns : List Bool, blsD (ns.map D.bl) = some ns
  | [] => rfl
  | n :: ns => by simp [blsD, blsD_map ns]
theorem blsD_of : ∀ {ds : List D} {ns : List Bool}, blsD ds = some ns → ds = ns.map D.bl
  | [], ns, h => by cases h; rfl
  | .bl i :: ds, ns, h => by
    simp only [blsD, Option.map_eq_some_iff] at h
    obtain ⟨r, e, rfl⟩ := h
    rw [blsD_of e]
    rfl
  | .non :: _, _, h => by cases h
  | .int _ :: _, _, h => by cases h
  | .str _ :: _, _, h => by cases h
  | .tup _ :: _, _, h => by cases h
  | .lst _ :: _, _, h => by cases h
  | .dK _ :: _, _, h => by cases h
  | .dT _ :: _, _, h => by cases h
  | .obj _ :: _, _, h => by cases h
  | .scr _ :: _, _, h => by cases h
  | .ty _ :: _, _, h => by cases h
theorem IsAll.bls {K : PySem.W.Frag} {g : G} {H : Hp} : ∀ {ns : List Bool} {vs : List V}, IsAll K g H vs (ns.map D.bl) → vs = ns.map V.bl
  | [], vs, h => by simpa only [List.map_nil, IsAll] using h
  | n :: ns, vs, h => by
    simp only [List.map_cons, IsAll, Is] at h
    obtain ⟨v, r, rfl, rfl, h2⟩ := h
    rw [IsAll.bls h2]
    rfl
/-- a list or a tuple, its items -/
def seqD : D → Option (List D)
  | .lst xs => some xs
  | .scr xs => some xs
  | .tup xs => some xs
  | _ => none
section
variable {K : PySem.W.Frag} {g : G} {H : Hp}
theorem now_seq {d : D} {v : V} {xs : List D} (h : Now K g H v d) (e : seqD d = some xs) : ∃ a vs, v = .ref a ∧ (SqL K H a vs ∨ SqT K H a vs) ∧ IsAll K g H vs xs := by
  cases d <;> first | (cases e; done) | skip
  · cases e
    have h : Is K g H v (.tup xs) := h
    simp only [Is] at h
    obtain ⟨a, vs, rfl, h1, h2⟩ := h
    exact ⟨a, vs, rfl, .inr h1.sq, h2⟩
  · cases e
    obtain ⟨a, vs, rfl, h1, h2⟩ := h
    exact ⟨a, vs, rfl, .inl (SqL.of h1), h2⟩
  · cases e
    have h : Is K g H v (.scr xs) := h
    simp only [Is] at h
    obtain ⟨a, vs, rfl, h1, h2⟩ := h
    refine ⟨a, vs, rfl, .inl ?_, h2⟩
    rcases h1 with h1 | ⟨o, h1⟩
    · exact h1.sq
    · exact .inl (.inr ⟨o, h1⟩)
theorem bor1 {vs : List V} {d : D} (h : BorAll K g H vs [d]) : ∃ v, vs = [v] ∧ Bor K g H v d := by
  simp only [BorAll] at h
  obtain ⟨v, r, rfl, h1, rfl⟩ := h
  exact ⟨v, rfl, h1⟩
theorem bor2 {vs : List V} {d e : D} (h : BorAll K g H vs [d, e]) : ∃ v u, vs = [v, u] ∧ Bor K g H v d ∧ Bor K g H u e := by
  simp only [BorAll] at h
  obtain ⟨v, r, rfl, h1, v', r', rfl, h2, rfl⟩ := h
  exact ⟨v, v', rfl, h1, h2⟩
end
/-! ### the built-ins -/
def fLen : FC := fun sg ds => match ds with
  | [d] => (seqD (der sg d)).map fun xs => .int xs.length
  | _ => none
def fInt : FC := fun _ ds => match ds with
  | [.int i] => some (.int i)
  | [.bl b] => some (.int (if b then 1 else 0))
  | _ => none
def fAbs : FC := fun _ ds => match ds with
  | [.int i] => some (.int (if i < 0 then -i else i))
  | _ => none
def maxL : List Int → Int
  | [] => 0
  | [x] => x
  | x :: y :: r => let m := maxL (y :: r); if m > x then m else x
def minL : List Int → Int
  | [] => 0
  | [x] => x
  | x :: y :: r => let m := minL (y :: r); if m < x then m else x
theorem maxL_mem : ∀ (xs : List Int), xs ≠ [] → maxL xs ∈ xs ∧ ∀ y ∈ xs, y ≤ maxL xs
  | [], h => absurd rfl h
  | [x], _ => by simp [maxL]
  | x :: y :: r, _ => by
    have ih := maxL_mem (y :: r) (by simp)
    simp only [maxL]
    split
    · rename_i h
      refine ⟨List.mem_cons_of_mem _ ih.1, fun z hz => ?_⟩
      rcases List.mem_cons.mp hz with rfl | hz
      · omega
      · exact ih.2 z hz
    · rename_i h
      refine ⟨List.mem_cons_self, fun z hz => ?_⟩
      rcases List.mem_cons.mp hz with rfl | hz
      · omega
      · have := ih.2 z hz
        omega
theorem minL_mem : ∀ (xs : List Int), xs ≠ [] → minL xs ∈ xs ∧ ∀ y ∈ xs, minL xs ≤ y
  | [], h => absurd rfl h
  | [x], _ => by simp [minL]
  | x :: y :: r, _ => by
    have ih := minL_mem (y :: r) (by simp)
    simp only [minL]
    split
    · rename_i h
      refine ⟨List.mem_cons_of_mem _ ih.1, fun z hz => ?_⟩
      rcases List.mem_cons.mp hz with rfl | hz
      · omega
      · exact ih.2 z hz
    · rename_i h
      refine ⟨List.mem_cons_self, fun z hz => ?_⟩
      rcases List.mem_cons.mp hz with rfl | hz
      · omega
      · have := ih.2 z hz
        omega
def fMax : FC := fun sg ds => match ds with
  | [.int i, .int j] => some (.int (if j > i then j else i))
  | [d] => (seqD (der sg d)).bind fun xs => (intsD xs).bind fun ns => if ns ≠ [] then some (.int (maxL ns)) else none
  | _ => none
def fMin : FC := fun sg ds => match ds with
  | [.int i, .int j] => some (.int (if j < i then j else i))
  | [d] => (seqD (der sg d)).bind fun xs => (intsD xs).bind fun ns => if ns ≠ [] then some (.int (minL ns)) else none
  | _ => none
def fSum : FC := fun sg ds => match ds with
  | [d] => (seqD (der sg d)).bind fun xs => (intsD xs).bind fun ns => some (.int ns.sum)
  | _ => none
def fAll : FC := fun sg ds => match ds with
  | [.lst xs] => (blsD xs).bind fun bs => some (.bl (bs.all id))
  | _ => none
def fAny : FC := fun sg ds => match ds with
  | [.lst xs] => (blsD xs).bind fun bs => some (.bl (bs.any id))
  | _ => none
def fTuple : FC := fun _ ds => match ds with
  | [.lst xs] => some (.tup xs)
  | [.tup xs] => some (.tup xs)
  | _ => none
def fList : FC := fun _ ds => match ds with
  | [.lst xs] => some (.lst xs)
  | [.tup xs] => some (.lst xs)
  | [.scr xs] => some (.lst xs)
  | _ => none
section
variable {X : Cx}
theorem cd_len : CalD X (.builtin "len") fLen .val := ⟨_, call_len_seq, fun b g H sg xs ds z Q w h e r => by
  unfold fLen at e
  split at e
  · rename_i d
    obtain ⟨ys, e1, e⟩ := Option.map_eq_some_iff.mp e
    subst e
    obtain ⟨v, rfl, hv⟩ := bor1 h
    obtain ⟨a, vs, rfl, hs, iv⟩ := now_seq (hv.now w) e1
    exact ⟨a, vs, rfl, hs, by rw [iv.length]; exact r.here isI⟩
  · cases e⟩
theorem cd_int : CalD X (.type "int") fInt .val := ⟨_, call_int1, fun b g H sg xs ds z Q w h e r => by
  unfold fInt at e
  split at e
  · cases e
    obtain ⟨v, rfl, hv⟩ := bor1 h
    exact .inl ⟨_, by rw [isInt hv], r.here isI⟩
  · cases e
    obtain ⟨v, rfl, hv⟩ := bor1 h
    have hv : Is X.K g H v (.bl _) := hv
    simp only [Is] at hv
    subst hv
    exact .inr ⟨_, rfl, r.here isI⟩
  · cases e⟩
theorem cd_abs : CalD X (.builtin "abs") fAbs .val := ⟨_, call_abs, fun b g H sg xs ds z Q w h e r => by
  unfold fAbs at e
  split at e
  · cases e
    obtain ⟨v, rfl, hv⟩ := bor1 h
    exact ⟨_, by rw [isInt hv], r.here isI⟩
  · cases e⟩
theorem cd_max (hc : X.calm = true) : CalD X (.builtin "max") fMax .val := ⟨_, CallR.or (call_max2 hc) (CallR.or (cr_max hc) (cr_maxT hc)), fun b g H sg xs ds z Q w h e r => by
  unfold fMax at e
  split at e
  · cases e
    obtain ⟨v, u, rfl, hv, hu⟩ := bor2 h
    exact .inl ⟨_, _, by rw [isInt hv, isInt hu], r.here isI⟩
  · obtain ⟨ys, e1, e⟩ := Option.bind_eq_some_iff.mp e
    obtain ⟨ns, e2, e⟩ := Option.bind_eq_some_iff.mp e
    split at e
    · rename_i hne
      cases e
      obtain ⟨v, rfl, hv⟩ := bor1 h
      obtain ⟨a, vs, rfl, hs, iv⟩ := now_seq (hv.now w) e1
      rw [intsD_of e2] at iv
      have ev := iv.ints
      subst ev
      have hl : 0 < ns.length := List.length_pos_iff.mpr hne
      have fin : ∀ m, m ∈ ns → (∀ y, y ∈ ns → y ≤ m) → Q (.int m) H := fun m h1 h2 => by
        have h3 := maxL_mem ns hne
        have e : m = maxL ns := Int.le_antisymm (h3.2 m h1) (h2 _ h3.1)
        rw [e]
        exact r.here isI
      rcases hs with hs | hs
      · exact .inr (.inl ⟨a, ns, rfl, hs, hl, fin⟩)
      · exact .inr (.inr ⟨a, ns, rfl, hs, hl, fin⟩)
    · cases e
  · cases e⟩
theorem cd_min (hc : X.calm = true) : CalD X (.builtin "min") fMin .val := ⟨_, CallR.or (call_min2 hc) (CallR.or (cr_min hc) (cr_minT hc)), fun b g H sg xs ds z Q w h e r => by
  unfold fMin at e
  split at e
  · cases e
    obtain ⟨v, u, rfl, hv, hu⟩ := bor2 h
    exact .inl ⟨_, _, by rw [isInt hv, isInt hu], r.here isI⟩
  · obtain ⟨ys, e1, e⟩ := Option.bind_eq_some_iff.mp e
    obtain ⟨ns, e2, e⟩ := Option.bind_eq_some_iff.mp e
    split at e
    · rename_i hne
      cases e
      obtain ⟨v, rfl, hv⟩ := bor1 h
      obtain ⟨a, vs, rfl, hs, iv⟩ := now_seq (hv.now w) e1
      rw [intsD_of e2] at iv
      have ev := iv.ints
      subst ev
      have hl : 0 < ns.length := List.length_pos_iff.mpr hne
      have fin : ∀ m, m ∈ ns → (∀ y, y ∈ ns → m ≤ y) → Q (.int m) H := fun m h1 h2 => by
        have h3 := minL_mem ns hne
        have e : m = minL ns := Int.le_antisymm (h2 _ h3.1) (h3.2 m h1)
        rw [e]
        exact r.here isI
      rcases hs with hs | hs
      · exact .inr (.inl ⟨a, ns, rfl, hs, hl, fin⟩)
      · exact .inr (.inr ⟨a, ns, rfl, hs, hl, fin⟩)
    · cases e
  · cases e⟩
theorem cd_sum (hc : X.calm = true) : CalD X (.builtin "sum") fSum .val := ⟨_, CallR.or (cr_sum hc) (cr_sumT hc), fun b g H sg xs ds z Q w h e r => by
  unfold fSum at e
  split at e
  · obtain ⟨ys, e1, e⟩ := Option.bind_eq_some_iff.mp e
    obtain ⟨ns, e2, e⟩ := Option.bind_eq_some_iff.mp e
    cases e
    obtain ⟨v, rfl, hv⟩ := bor1 h
    obtain ⟨a, vs, rfl, hs, iv⟩ := now_seq (hv.now w) e1
    rw [intsD_of e2] at iv
    have ev := iv.ints
    subst ev
    rcases hs with hs | hs
    · exact .inl ⟨a, ns, rfl, hs, r.here isI⟩
    · exact .inr ⟨a, ns, rfl, hs, r.here isI⟩
  · cases e⟩
theorem cd_all (hc : X.calm = true) : CalD X (.builtin "all") fAll .val := ⟨_, cr_all hc, fun b g H sg xs ds z Q w h e r => by
  unfold fAll at e
  split at e
  · obtain ⟨bs, e1, e⟩ := Option.bind_eq_some_iff.mp e
    cases e
    obtain ⟨v, rfl, hv⟩ := bor1 h
    obtain ⟨a, vs, rfl, ⟨hs, _⟩, iv⟩ := hv
    rw [blsD_of e1] at iv
    have ev := iv.bls
    subst ev
    exact ⟨a, bs, rfl, SqL.of hs, r.here isBl⟩
  · cases e⟩
theorem cd_any (hc : X.calm = true) : CalD X (.builtin "any") fAny .val := ⟨_, cr_any hc, fun b g H sg xs ds z Q w h e r => by
  unfold fAny at e
  split at e
  · obtain ⟨bs, e1, e⟩ := Option.bind_eq_some_iff.mp e
    cases e
    obtain ⟨v, rfl, hv⟩ := bor1 h
    obtain ⟨a, vs, rfl, ⟨hs, _⟩, iv⟩ := hv
    rw [blsD_of e1] at iv
    have ev := iv.bls
    subst ev
    exact ⟨a, bs, rfl, SqL.of hs, r.here isBl⟩
  · cases e⟩
theorem cd_tuple : CalD X (.type "tuple") fTuple .val := ⟨_, call_tuple_of, fun b g H sg xs ds z Q w h e r => by
  unfold fTuple at e
  split at e
  · cases e
    obtain ⟨v, rfl, hv⟩ := bor1 h
    obtain ⟨a, vs, rfl, ⟨hs, _⟩, iv⟩ := hv
    exact ⟨a, vs, rfl, .inl ⟨SqL.of hs, Res.tup w r iv⟩⟩
  · cases e
    obtain ⟨v, rfl, hv⟩ := bor1 h
    have hv' : Is X.K g H v (.tup _) := hv
    have hv : Is X.K g H v (.tup _) := hv
    simp only [Is] at hv
    obtain ⟨a, vs, rfl, hs, iv⟩ := hv
    exact ⟨a, vs, rfl, .inr ⟨hs.sq, r.here hv'⟩⟩
  · cases e⟩
theorem cd_list : CalD X (.type "list") fList .fre := ⟨_, call_list_of, fun b g H sg xs ds z Q w h e r => by
  have go : ∀ d ys, ds = [d] → seqD (der sg d) = some ys → z = .lst ys → ∃ p zs, xs = [.ref p] ∧ (SqL X.K H p zs ∨ SqT X.K H p zs) ∧ ∀ l, H l = none → Q (.ref l) (upd H l (.lst zs)) := fun d ys e1 e2 e3 => by
    subst e1
    subst e3
    obtain ⟨v, rfl, hv⟩ := bor1 h
    obtain ⟨a, vs, rfl, hs, iv⟩ := now_seq (hv.now w) e2
    exact ⟨a, vs, rfl, hs, Res.lst w r iv⟩
  unfold fList at e
  split at e
  · cases e; exact go _ _ rfl rfl rfl
  · cases e; exact go _ _ rfl rfl rfl
  · cases e; exact go _ _ rfl rfl rfl
  · cases e⟩
end
/-! ### isinstance -/
def tyOf : D → Option String
  | .non => some "NoneType"
  | .bl _ => some "bool"
  | .int _ => some "int"
  | .str _ => some "str"
  | .tup _ => some "tuple"
  | .lst _ => some "list"
  | _ => none
def subTy (a b : String) : Option Bool :=
  if ["NoneType", "bool", "int", "str", "tuple", "list"].contains a && ["bool", "int", "str", "tuple", "list"].contains b then some (a == b || (a == "bool" && b == "int")) else none
def fIsi : FC := fun _ ds => match ds with
  | [d, .ty T] => (tyOf d).bind fun a => (subTy a T).map .bl
  | [d, .tup [.ty T, .ty U]] => (tyOf d).bind fun a => (subTy a T).bind fun p => (subTy a U).map fun q => .bl (p || q)
  | _ => none
theorem sub_kit {K : PySem.W.Frag} {a b : String} {r : Bool} (h : subTy a b = some r) : PySem.W.kitOne K (.type a) (.type b) = some r := by
  refine kit_ty ?_
  unfold subTy at h
  split at h
  · rename_i hc
    simp only [Bool.and_eq_true, List.contains_iff_mem] at hc
    obtain ⟨h1, h2⟩ := hc
    have e := Option.some.inj h
    subst e
    clear h
    simp only [List.mem_cons, List.not_mem_nil, or_false] at h1 h2
    rcases h1 with rfl | rfl | rfl | rfl | rfl | rfl <;> rcases h2 with rfl | rfl | rfl | rfl | rfl <;> decide +kernel
  · cases h
theorem ty_x {K : PySem.W.Frag} {g : G} {H : Hp} {d : D} {v : V} {a : String} (h : Bor K g H v d) (e : tyOf d = some a) : TyX K H v (.type a) := by
  cases d <;> first | (cases e; done) | skip
  · have h : Is K g H v .non := h
    simp only [Is] at h
    subst h
    cases e
    exact .base .non
  · have h : Is K g H v (.bl _) := h
    simp only [Is] at h
    subst h
    cases e
    exact .base (.bl _)
  · have h : Is K g H v (.int _) := h
    simp only [Is] at h
    subst h
    cases e
    exact .base (.int _)
  · have h : Is K g H v (.str _) := h
    simp only [Is] at h
    subst h
    cases e
    exact .base (.str _)
  · have h : Is K g H v (.tup _) := h
    simp only [Is] at h
    obtain ⟨p, vs, rfl, h1, _⟩ := h
    cases e
    rcases h1 with h1 | ⟨o, its, n, h1, h2, _⟩
    · exact .base (.tup h1)
    · exact .kTuple h1 h2
  · obtain ⟨p, vs, rfl, ⟨h1, _⟩, _⟩ := h
    cases e
    exact .base (.lst h1)
section
variable {X : Cx}
theorem cd_isi : CalD X (.builtin "isinstance") fIsi .val := ⟨_, CallR.or call_isi (CallR.or call_isiT call_isiK), fun b g H sg xs ds z Q w h e r => by
  unfold fIsi at e
  split at e
  · rename_i d T
    obtain ⟨a, e1, e⟩ := Option.bind_eq_some_iff.mp e
    obtain ⟨c, e2, e⟩ := Option.map_eq_some_iff.mp e
    subst e
    obtain ⟨v, u, rfl, hv, hu⟩ := bor2 h
    have hu : Is X.K g H u (.ty T) := hu
    simp only [Is] at hu
    subst hu
    exact .inl ⟨v, .ty T, _, _, c, rfl, .ty T, ty_x hv e1, sub_kit e2, r.here isBl⟩
  · rename_i d T U
    obtain ⟨a, e1, e⟩ := Option.bind_eq_some_iff.mp e
    obtain ⟨p, e2, e⟩ := Option.bind_eq_some_iff.mp e
    obtain ⟨q, e3, e⟩ := Option.map_eq_some_iff.mp e
    subst e
    obtain ⟨v, u, rfl, hv, hu⟩ := bor2 h
    have hu : Is X.K g H u (.tup [.ty T, .ty U]) := hu
    simp only [Is, IsAll] at hu
    obtain ⟨tp, vs, rfl, ht, v1, r1, rfl, rfl, v2, r2, rfl, rfl, rfl⟩ := hu
    have any : PySem.W.kitAny X.K (.type a) [.type T, .type U] = some (p || q) := by
      refine kitAny_cons (sub_kit e2) (fun hp => ?_) (fun hp => by rw [hp]; rfl)
      subst hp
      refine kitAny_cons (sub_kit e3) (fun hq => ?_) (fun hq => by rw [hq]; rfl)
      subst hq
      rfl
    rcases ht with ht | ⟨o, its, n, hk, hc, hd, _, rv⟩
    · exact .inr (.inl ⟨v, tp, _, _, _, _, rfl, ht, .cons (.ty T) (.cons (.ty U) .nil), ty_x hv e1, any, r.here isBl⟩)
    · obtain ⟨oc, od, odt, osl⟩ := o
      simp only at hc hd
      subst hc hd
      have ei : its.toList = [.type T, .type U] := ClsV.all (.cons (.ty T) (.cons (.ty U) .nil)) rv
      have ei2 : its = [Value.type T, Value.type U].toArray := by rw [← ei]
      subst ei2
      exact .inr (.inr ⟨v, tp, _, _, _, _, _, _, rfl, hk, ty_x hv e1, any, r.here isBl⟩)
  · cases e⟩
end
end Vl
namespace Vl
open PySem PySem.Spec PyProof.Rows L2

/-! ### comprehensions -/
def wipeR : List Nat → List (Option Sl) → List (Option Sl)
  | [], ρ => ρ
  | v :: vs, ρ => (wipeR vs ρ).set v none
def backR (ρ0 : List (Option Sl)) : List Nat → List (Option Sl) → List (Option Sl)
  | [], ρ => ρ
  | v :: vs, ρ => (backR ρ0 vs ρ).set v (ρ0.getD v none)
def wipeS (vs : List Nat) (s : S) : S := ⟨wipeR vs s.ρ, s.sg⟩
theorem wipeR_length (ρ : List (Option Sl)) : ∀ vs : List Nat, (wipeR vs ρ).length = ρ.length
  | [] => rfl
  | v :: vs => by unfold wipeR; rw [List.length_set, wipeR_length ρ vs]
theorem backR_length (ρ0 ρ : List (Option Sl)) : ∀ vs : List Nat, (backR ρ0 vs ρ).length = ρ.length
  | [] => rfl
  | v :: vs => by unfold backR; rw [List.length_set, backR_length ρ0 ρ vs]
theorem wipeR_some {ρ : List (Option Sl)} {i : Nat} {z : Sl} : ∀ {vs : List Nat}, (wipeR vs ρ)[i]? = some (some z) → ρ[i]? = some (some z) ∧ i ∉ vs
  | [], h => ⟨h, by simp⟩
  | v :: vs, h => by
    unfold wipeR at h
    by_cases hi : v = i
    · subst hi
      by_cases hv : v < (wipeR vs ρ).length
      · rw [List.getElem?_set_self hv] at h; cases h
      · rw [List.getElem?_eq_none (by simpa using hv)] at h; cases h
    · rw [List.getElem?_set_ne hi] at h
      obtain ⟨h1, h2⟩ := wipeR_some h
      exact ⟨h1, by simp only [List.mem_cons, not_or]; exact ⟨fun e => hi e.symm, h2⟩⟩
theorem wipeR_out {ρ : List (Option Sl)} {i : Nat} : ∀ {vs : List Nat}, i ∉ vs → (wipeR vs ρ)[i]? = ρ[i]?
  | [], _ => rfl
  | v :: vs, h => by
    unfold wipeR
    rw [List.getElem?_set_ne (fun e => h (by rw [e]; exact List.mem_cons_self))]
    exact wipeR_out fun m => h (List.mem_cons_of_mem _ m)
theorem wipe_some' {σ : L2.St} {i : Nat} {v : V} {vs : List Nat} (h : i ∉ vs) (e : σ[i]? = some (some v)) : (wipe σ vs)[i]? = some (some v) := by rw [wipe_out h]; exact e
theorem backR_some {ρ0 ρ : List (Option Sl)} {i : Nat} {z : Sl} : ∀ {vs : List Nat}, (backR ρ0 vs ρ)[i]? = some (some z) → (i ∉ vs ∧ ρ[i]? = some (some z)) ∨ (i ∈ vs ∧ ρ0[i]? = some (some z))
  | [], h => .inl ⟨by simp, h⟩
  | v :: vs, h => by
    unfold backR at h
    by_cases hi : v = i
    · subst hi
      by_cases hv : v < (backR ρ0 vs ρ).length
      · rw [List.getElem?_set_self hv] at h
        refine .inr ⟨List.mem_cons_self, ?_⟩
        have h := Option.some.inj h
        rw [List.getD_eq_getElem?_getD] at h
        cases q : ρ0[v]? with
        | none => rw [q] at h; cases h
        | some w => rw [q] at h; rw [show w = some z from h]
      · rw [List.getElem?_eq_none (by simpa using hv)] at h; cases h
    · rw [List.getElem?_set_ne hi] at h
      rcases backR_some h with ⟨h1, h2⟩ | ⟨h1, h2⟩
      · exact .inl ⟨by simp only [List.mem_cons, not_or]; exact ⟨fun e => hi e.symm, h1⟩, h2⟩
      · exact .inr ⟨List.mem_cons_of_mem _ h1, h2⟩
/-- slots that the block stores are forgotten alike -/
theorem wipe_ext {σ σ' : L2.St} {ts vs : List Nat} (t : Tch ts σ σ') (h : ∀ i ∈ ts, i ∈ vs) : wipe σ' vs = wipe σ vs := by
  have at_ : ∀ (σ : L2.St) (vs : List Nat) (i : Nat), i ∈ vs → (wipe σ vs)[i]? = if i < σ.length then some none else none := by
    intro σ vs
    induction vs with
    | nil => intro i h; cases h
    | cons v vs ih =>
      intro i hi
      unfold wipe
      by_cases e : v = i
      · subst e
        by_cases hl : v < σ.length
        · rw [if_pos hl, List.getElem?_set_self (by rw [wipe_length]; exact hl)]
        · rw [if_neg hl, List.getElem?_eq_none (by rw [List.length_set, wipe_length]; omega)]
      · rw [List.getElem?_set_ne e]
        exact ih i ((List.mem_cons.mp hi).resolve_left fun q => e q.symm)
  refine List.ext_getElem? fun i => ?_
  by_cases hi : i ∈ vs
  · rw [at_ σ' vs i hi, at_ σ vs i hi, t.1]
  · rw [wipe_out hi, wipe_out hi]
    exact t.2 i fun q => hi (h i q)
theorem wipe_wipe (σ : L2.St) (vs : List Nat) : wipe (wipe σ vs) vs = wipe σ vs := by
  refine wipe_ext (ts := vs) ⟨wipe_length σ vs, fun j h => wipe_out h⟩ fun i h => h

def tP (X : Cx) (ifs : List Expr) (m : MT) : Prop := PTs X ifs (tT X.K m)
def mtYes : MT := fun s => some (true, s)
theorem vp_nil {X : Cx} : PTs X [] (tT X.K mtYes) := ⟨fun pins s σ H Q I q => pts_nil.run pins s σ H Q I (by
  obtain ⟨b, g, s, R, c, s', em, k⟩ := q
  cases em
  exact k g H R (Sub.refl _) Ext.refl)⟩
theorem vp_one {X : Cx} {c : Expr} {m : MT} (h : PT X c (tT X.K m)) : PTs X [c] (tT X.K m) := pts_one h

def loopC (vs : List Nat) (mg : MG) (mt : MT) (me : ME) : List D → S → List D → Option (List D × S)
  | [], s, acc => some (acc, s)
  | d :: ds, s, acc => (mg d (wipeS vs s)).bind fun s1 => (mt s1).bind fun (c, s2) => if c then (me s2).bind fun (z, s3) => if acc.length < sizeLine then loopC vs mg mt me ds s3 (acc ++ [z]) else none else loopC vs mg mt me ds s2 acc
def mLc (vs : List Nat) (mi : MI) (mg : MG) (mt : MT) (me : ME) : ME := fun s => (mi s).bind fun (ds, s1) => (loopC vs mg mt me ds s1 []).bind fun (acc, s2) => some (.lst acc, ⟨backR s1.ρ vs s2.ρ, s2.sg⟩)

section
variable {K : PySem.W.Frag} {b : G × Hp} {g : G} {H : Hp} {σ σ' : L2.St} {s s1 : S} {vs : List Nat}
theorem Rep.wipe (r : Rep K b g H σ' s) (e : L2.wipe σ' vs = L2.wipe σ vs) : Rep K b g H (L2.wipe σ vs) (wipeS vs s) := by
  rw [← e]
  refine ⟨r.gl, by show (wipeR vs s.ρ).length = _; rw [wipeR_length, wipe_length]; exact r.ln, fun i z h => ?_, fun i j a d d' h1 h2 h3 h4 => ?_, fun i d a h1 h2 => ?_⟩
  · obtain ⟨h1, h2⟩ := wipeR_some h
    obtain ⟨v, ev, k⟩ := r.sl i z h1
    exact ⟨v, wipe_some' h2 ev, k⟩
  · exact r.ap i j a d d' (wipeR_some h1).1 (wipeR_some h2).1 (wipe_some h3).1 (wipe_some h4).1
  · exact r.on i d a (wipeR_some h1).1 (wipe_some h2).1
/-- what a block may still change of the slots: those outside it -/
def OwnX (vs : List Nat) (σ : L2.St) (s : S) (a : Addr) : Prop := ∃ (i : Nat) (d : D), i ∉ vs ∧ s.ρ[i]? = some (some (.own d)) ∧ σ[i]? = some (some (.ref a))
def SubX (vs : List Nat) (s s1 : S) : Prop := ∀ (i : Nat) (d : D), i ∉ vs → s.ρ[i]? = some (some (.own d)) → s1.ρ[i]? = some (some (.own d))
/-- what holds between two turns -/
structure Turn (K : PySem.W.Frag) (b : G × Hp) (σ : L2.St) (vs : List Nat) (L : Addr) (s1 : S) (g1 : G) (H1 : Hp) (g : G) (H : Hp) (s : S) (acc : List D) : Prop where
  rep : Rep K b g H (L2.wipe σ vs) (wipeS vs s)
  sub : SubX vs s s1
  ext : Ext (OwnX vs σ s1) g1 H1 g H
  at_ : ∃ us, H L = some (.lst us) ∧ IsAll K g H us acc
  nf : ¬ g.Fz L
  ni : L ∉ g.io
theorem Ext.poke {P : Addr → Prop} {g g' : G} {H H' : Hp} {a : Addr} {o : HO} (x : Ext P g H g' H') (hn : H a = none) : Ext P g H g' (upd H' a o) :=
  ⟨fun c u e hi => (upd_ne (ne_of_none e hn)).trans (x.hp c u e hi), fun c e => by
    by_cases q : c = a
    · rw [q, upd_same] at e; cases e
    · rw [upd_ne q] at e; exact x.dn c e, x.fz, x.nf, x.io⟩
/-- behind the walk's value: back in the def -/
theorem Turn.out {L : Addr} {g1 g : G} {H1 H : Hp} {s1 s : S} {acc : List D} (r1 : Rep K b g1 H1 σ s1) (t : Turn K b σ vs L s1 g1 H1 g H s acc) : Rep K b g H σ ⟨backR s1.ρ vs s.ρ, s.sg⟩ := by
  have nx : ∀ (i : Nat) d a, i ∈ vs → s1.ρ[i]? = some (some (.own d)) → σ[i]? = some (some (.ref a)) → ¬ OwnX vs σ s1 a := fun i d a hi e ea o => by
    obtain ⟨j, d', hj, e', ea'⟩ := o
    exact hj (r1.ap i j a d d' e e' ea ea' ▸ hi)
  have own : ∀ (i : Nat) d, (backR s1.ρ vs s.ρ)[i]? = some (some (.own d)) → s1.ρ[i]? = some (some (.own d)) := fun i d e => by
    rcases backR_some e with ⟨h1, h2⟩ | ⟨h1, h2⟩
    · exact t.sub i d h1 h2
    · exact h2
  refine ⟨t.rep.gl, ?_, fun i z e => ?_, fun i j a d d' h1 h2 => r1.ap i j a d d' (own i d h1) (own j d' h2), fun i d a h => r1.on i d a (own i d h)⟩
  · have := t.rep.ln
    show (backR s1.ρ vs s.ρ).length = _
    rw [backR_length]
    rw [wipe_length] at this
    rw [← this]
    exact (wipeR_length s.ρ vs).symm
  · rcases backR_some e with ⟨h1, h2⟩ | ⟨h1, h2⟩
    · obtain ⟨v, ev, k⟩ := t.rep.sl i z (by show (wipeR vs s.ρ)[i]? = _; rw [wipeR_out h1]; exact h2)
      exact ⟨v, (wipe_some ev).1, k⟩
    · obtain ⟨v, ev, k⟩ := r1.sl i z h2
      exact ⟨v, ev, k.ext r1.gl t.ext fun a d q1 q2 => nx i d a h1 (q1 ▸ h2) (q2 ▸ ev)⟩
theorem Turn.start {L : Addr} (r1 : Rep K b g H σ s1) (hn : H L = none) : Turn K b σ vs L s1 g H g (upd H L (.lst [])) s1 [] := by
  obtain ⟨n1, n2⟩ := r1.gl.new hn
  exact ⟨(r1.laid hn).wipe rfl, fun _ _ _ h => h, Ext.laid hn, ⟨[], upd_same, by simp only [IsAll]⟩, n1, n2⟩
/-- a part of a turn that leaves the new list alone -/
theorem Turn.step {L : Addr} {g1 g g' : G} {H1 H H' : Hp} {s1 s s2 s' : S} {σ2 : L2.St} {acc : List D} (r1 : Rep K b g1 H1 σ s1) (hn : H1 L = none) (t : Turn K b σ vs L s1 g1 H1 g H s acc) (ew : L2.wipe σ2 vs = L2.wipe σ vs)
    (sb2 : Sub s2 (wipeS vs s)) (R' : Rep K b g' H' σ2 s') (sb : Sub s' s2) (x : Ext (OwnA σ2 s2) g H g' H') : Turn K b σ vs L s1 g1 H1 g' H' s' acc := by
  have own2 : ∀ (i : Nat) d, s2.ρ[i]? = some (some (.own d)) → i ∉ vs ∧ s.ρ[i]? = some (some (.own d)) := fun i d e => (wipeR_some (sb2 i d e)).symm
  have hP : ∀ a, OwnA σ2 s2 a → OwnX vs σ s1 a := fun a ⟨i, d, e, ea⟩ => by
    obtain ⟨h1, h2⟩ := own2 i d e
    refine ⟨i, d, h1, t.sub i d h1 h2, ?_⟩
    have q : (L2.wipe σ2 vs)[i]? = some (some (.ref a)) := wipe_some' h1 ea
    rw [ew] at q
    exact (wipe_some q).1
  have hL : ¬ OwnA σ2 s2 L := fun o => by
    obtain ⟨i, d, _, e, ea⟩ := hP L o
    obtain ⟨v, ev, a, rfl, _, _, tt⟩ := r1.sl i _ e
    rw [ea] at ev
    cases ev
    have mu := tt.mut
    rw [hn] at mu
    exact mu
  obtain ⟨us, hu, iu⟩ := t.at_
  refine ⟨R'.wipe ew, fun i d hi e => t.sub i d hi (own2 i d (sb i d e)).2, t.ext.trans x hP, ⟨us, x.hp L _ hu t.ni, IsAll.mono (t.rep.gl.mono x) _ _ iu⟩, fun f => ?_, x.ioN (by rw [hu]; simp) t.ni⟩
  rcases x.nf L f with q | q | q
  · exact t.nf q
  · rw [hu] at q; cases q
  · exact hL q
/-- the turn's value is put behind the new list -/
theorem Turn.add {L : Addr} {g1 g : G} {H1 H : Hp} {s1 s : S} {acc : List D} {v : V} {z : D} (r1 : Rep K b g1 H1 σ s1) (hn : H1 L = none) (t : Turn K b σ vs L s1 g1 H1 g H s acc) (iv : Is K g H v z) {us : List V} (hu : H L = some (.lst us)) :
    Turn K b σ vs L s1 g1 H1 g (upd H L (.lst (us ++ [v]))) s (acc ++ [z]) := by
  obtain ⟨us', hu', iu⟩ := t.at_
  rw [hu] at hu'
  cases hu'
  have mu : Mut (H L) := by rw [hu]; trivial
  have m : Mono g H g (upd H L (.lst (us ++ [v]))) := Mono.poke t.nf mu
  refine ⟨t.rep.poke t.nf t.ni mu (r1.dom hn) fun o => ?_, t.sub, t.ext.poke hn, ⟨_, upd_same, (IsAll.mono m _ _ iu).append (IsAll.one (Is.mono m _ _ iv))⟩, t.nf, t.ni⟩
  obtain ⟨i, d, e, ea⟩ := o
  obtain ⟨h2, h1⟩ := wipeR_some (show (wipeR vs s.ρ)[i]? = some (some (.own d)) from e)
  have e1 := t.sub i d h1 h2
  have ea1 := (wipe_some ea).1
  obtain ⟨v', ev, a, rfl, _, _, tt⟩ := r1.sl i _ e1
  rw [ea1] at ev
  cases ev
  have mu' := tt.mut
  rw [hn] at mu'
  exact mu'
end
theorem tLcV {K : PySem.W.Frag} {vs ts : List Nat} {mi : MI} {mg : MG} {mt : MT} {me : ME} (hts : ∀ i ∈ ts, i ∈ vs) (σ : L2.St) (H : Hp) (Q : VK) (q : tK K .fre (mLc vs mi mg mt me) σ H Q) : tLc (tI K mi) (tG K ts mg) (tT K mt) (tK K .val me) vs σ H Q := by
  obtain ⟨b, g, s, R, z, s', em, k⟩ := q
  unfold mLc at em
  obtain ⟨⟨ds, s1⟩, e1, em⟩ := Option.bind_eq_some_iff.mp em
  obtain ⟨⟨accE, s2⟩, e2, em⟩ := Option.bind_eq_some_iff.mp em
  cases em
  refine ⟨b, g, s, R, ds, s1, e1, fun J g1 H1 R1 sb1 x1 wk L hL => ?_⟩
  obtain ⟨Gd, Y, w, hG, hY⟩ := wk
  refine lc_it w (fun i H2 => ∃ g2 s3 acc, Turn K b σ vs L s1 g1 H1 g2 H2 s3 acc ∧ loopC vs mg mt me (ds.drop i) s3 acc = some (accE, s2)) ⟨g1, s1, [], Turn.start R1 hL, e2⟩ ?_ ?_ ?_
  · rintro i H2 hl ⟨g2, s3, acc, t, e3⟩
    exact hG g2 H2 (R1.mono t.ext)
  · rintro i x H2 H3 hl ⟨g2, s3, acc, t, e3⟩ y
    obtain ⟨hH, d, ed, iv⟩ := hY i g2 H2 x H3 (wipeS vs s3).sg hl t.rep.gl (R1.mono t.ext) y
    rw [drop_at ed] at e3
    unfold loopC at e3
    obtain ⟨s4, e4, e3⟩ := Option.bind_eq_some_iff.mp e3
    obtain ⟨⟨c, s5⟩, e5, e3⟩ := Option.bind_eq_some_iff.mp e3
    have t3 : Turn K b σ vs L s1 g1 H1 g2 H3 s3 acc := by
      rcases hH with rfl | ⟨p, o, hp, rfl⟩
      · exact t
      · have q := t.step (s2 := wipeS vs s3) (s' := wipeS vs s3) (σ2 := L2.wipe σ vs) R1 hL (wipe_wipe σ vs) (Sub.refl _) (t.rep.laid (o := o) hp) (Sub.refl _) (Ext.laid hp)
        exact ⟨t.rep.laid hp, t.sub, q.ext, q.at_, q.nf, q.ni⟩
    refine ⟨b, g2, wipeS vs s3, d, t3.rep, iv, s4, e4, fun σ4 R4 sb4 tch => ?_⟩
    have ew : L2.wipe σ4 vs = L2.wipe σ vs := (wipe_ext tch hts).trans (wipe_wipe σ vs)
    refine ⟨ew, b, g2, s4, R4, c, s5, e5, fun g5 H5 R5 sb5 x5 => ?_⟩
    have t5 := t3.step R1 hL ew sb4 R5 sb5 x5
    cases c with
    | false => exact ⟨g5, s5, acc, t5, e3⟩
    | true =>
      obtain ⟨⟨zz, s6⟩, e6, e3⟩ := Option.bind_eq_some_iff.mp e3
      refine ⟨b, g5, s5, R5, zz, s6, e6, fun g6 v6 H6 R6 sb6 x6 i6 => ?_⟩
      have x56 : Ext (OwnA σ4 s4) g2 H3 g6 H6 := x5.trans x6 fun a o => o.sub sb5
      have t6 := t3.step R1 hL ew sb4 R6 (sb6.trans sb5) x56
      obtain ⟨us, hu, iu⟩ := t6.at_
      by_cases hlen : acc.length < sizeLine
      · simp only [hlen, if_true] at e3
        exact ⟨us, hu, by rw [iu.length]; exact hlen, g6, s6, acc ++ [zz], t6.add R1 hL i6 hu, e3⟩
      · simp only [hlen] at e3
        cases e3
  · rintro H2 ⟨g2, s3, acc, t, e3⟩
    rw [List.drop_length] at e3
    cases e3
    obtain ⟨us, hu, iu⟩ := t.at_
    refine k g2 (.ref L) H2 (t.out R1) (fun i d e => ?_) (x1.trans t.ext fun a ⟨i, d, _, e, ea⟩ => ⟨i, d, sb1 i d e, ea⟩) ⟨L, rfl, x1.dn L hL, t.nf, t.ni, us, hu, iu⟩
    rcases backR_some e with ⟨h1, h2⟩ | ⟨h1, h2⟩
    · exact sb1 i d (t.sub i d h1 h2)
    · exact sb1 i d h2
section
variable {X : Cx}
theorem ve_lc {elt tg iter : Expr} {ifs : List Expr} {scope : Scope} {own : List (Str × Nat)} {pos : Pos} {mi : MI} {mg : MG} {mt : MT} {me : ME} {ts : List Nat} (hc : X.calm = true) (hN : X.N.Nodup) (hi : PI X tg iter (tI X.K mi)) (ok : BlkOk X.N X.env.scope scope own)
    (hts : ∀ i ∈ ts, i ∈ own.map (·.2))
    (hg : ∀ (s : Shared) (H : Hp) (C : Addr) (cl : List (Str × Addr)) (fp : List Addr), PG (X.blk s H scope (compEnvC scope cl C X.env) fp) tg (tG X.K ts mg))
    (ht : ∀ (s : Shared) (H : Hp) (C : Addr) (cl : List (Str × Addr)) (fp : List Addr), PTs (X.blk s H scope (compEnvC scope cl C X.env) fp) ifs (tT X.K mt))
    (he : ∀ (s : Shared) (H : Hp) (C : Addr) (cl : List (Str × Addr)) (fp : List Addr), PE (X.blk s H scope (compEnvC scope cl C X.env) fp) elt (tK X.K .val me)) (hs : ∀ x, foldedSetIterable iter X.env x = pure x := by intro _; rfl) :
    PE X (.ListComp elt [⟨tg, iter, ifs, 0⟩] scope pos) (tK X.K .fre (mLc (own.map (·.2)) mi mg mt me)) := peImp (pe_lc hc hN hi ok hg ht he hs) (tLcV hts)
theorem vs_setLc {i : Nat} {y : Str} {py : Pos} {elt tg iter : Expr} {ifs : List Expr} {scope : Scope} {own : List (Str × Nat)} {pos spos : Pos} {mi : MI} {mg : MG} {mt : MT} {me : ME} {ts : List Nat} (hc : X.calm = true) (hN : X.N.Nodup) (hy : X.N[i]? = some y) (hyl : X.env.scope.names.lookup y = some .local)
    (hsw : swapsWith (.ListComp elt [⟨tg, iter, ifs, 0⟩] scope pos) (some (.Name y py)) spos.line X.env = pure true) (hi : PI X tg iter (tI X.K mi)) (ok : BlkOk X.N X.env.scope scope own)
    (hts : ∀ i ∈ ts, i ∈ own.map (·.2))
    (hg : ∀ (s : Shared) (H : Hp) (C : Addr) (cl : List (Str × Addr)) (fp : List Addr), PG (X.blk s H scope (compEnvC scope cl C X.env) fp) tg (tG X.K ts mg))
    (ht : ∀ (s : Shared) (H : Hp) (C : Addr) (cl : List (Str × Addr)) (fp : List Addr), PTs (X.blk s H scope (compEnvC scope cl C X.env) fp) ifs (tT X.K mt))
    (he : ∀ (s : Shared) (H : Hp) (C : Addr) (cl : List (Str × Addr)) (fp : List Addr), PE (X.blk s H scope (compEnvC scope cl C X.env) fp) elt (tK X.K .val me)) (hs : ∀ x, foldedSetIterable iter X.env x = pure x := by intro _; rfl) :
    PS X (.Assign [.Name y py] (.ListComp elt [⟨tg, iter, ifs, 0⟩] scope pos) spos) (tS X.K (mSetF i (mLc (own.map (·.2)) mi mg mt me))) := psImp (ps_setLc hc hN hy hyl hsw hi ok hg ht he hs) fun E σ H q => tLcV hts σ H _ (tSetF E σ H q)
end
end Vl
namespace Vl
open PySem PySem.Spec PyProof.Rows L2

/-! ### comprehensions of two clauses -/
def loopD (vs : List Nat) (mg : MG) (mt : MT) (mi1 : MI) (vs1 : List Nat) (mg1 : MG) (mt1 : MT) (me : ME) : List D → S → List D → Option (List D × S)
  | [], s, acc => some (acc, s)
  | d :: ds, s, acc => (mg d (wipeS vs s)).bind fun s1 => (mt s1).bind fun (c, s2) => if c then (mi1 s2).bind fun (ds1, s3) => (loopC vs1 mg1 mt1 me ds1 s3 acc).bind fun (acc', s4) => loopD vs mg mt mi1 vs1 mg1 mt1 me ds s4 acc'
    else loopD vs mg mt mi1 vs1 mg1 mt1 me ds s2 acc
def mLc2 (vs : List Nat) (mi : MI) (mg : MG) (mt : MT) (mi1 : MI) (vs1 : List Nat) (mg1 : MG) (mt1 : MT) (me : ME) : ME := fun s => (mi s).bind fun (ds, s1) => (loopD vs mg mt mi1 vs1 mg1 mt1 me ds s1 []).bind fun (acc, s2) => some (.lst acc, ⟨backR s1.ρ vs s2.ρ, s2.sg⟩)
def hide (H : Hp) (L : Addr) : Hp := fun a => if a = L then none else H a
theorem hide_at {H : Hp} {L : Addr} : hide H L L = none := by unfold hide; rw [if_pos rfl]
theorem hide_ne {H : Hp} {L a : Addr} (h : a ≠ L) : hide H L a = H a := by unfold hide; rw [if_neg h]
section
variable {K : PySem.W.Frag} {b : G × Hp} {g g' : G} {H H' : Hp} {σ : L2.St} {s : S} {L : Addr}
theorem Mono.hide (nf : ¬ g.Fz L) (mu : Mut (H L)) : Mono g H g (Vl.hide H L) := by
  have ne : ∀ c u, H c = some u → ¬ Mut (some u) → Vl.hide H L c = some u := fun c u h nm => (hide_ne (fun e => by rw [← e, h] at mu; exact nm mu)).trans h
  exact ⟨fun c u h f => ⟨(hide_ne (show c ≠ L from fun e => nf (e ▸ f))).trans h, f⟩, fun c xs h => ne c _ h fun z => z, fun c ob u h => ne c _ h fun z => z, fun _ _ h => h⟩
theorem Rep.hide (r : Rep K b g H σ s) (nf : ¬ g.Fz L) (ni : L ∉ g.io) (mu : Mut (H L)) (hb : b.2 L = none) (no : ¬ OwnA σ s L) : Rep K b g (Vl.hide H L) σ s := by
  have m : Mono g H g (Vl.hide H L) := Mono.hide nf mu
  refine ⟨⟨Paired.impM (fun c hc d t => t.move m (hide_ne fun e => ni (e ▸ hc))) r.gl.ob, r.gl.nd, r.gl.nz, fun c f => ?_, ⟨fun c u e hi => ?_, r.gl.bs.fz, r.gl.bs.nf, r.gl.bs.io⟩⟩, r.ln, fun i z e => ?_, r.ap, r.on⟩
  · obtain ⟨u, e⟩ := r.gl.dm c f
    exact ⟨u, (hide_ne (show c ≠ L from fun q => nf (q ▸ f))).trans e⟩
  · exact (hide_ne (show c ≠ L from fun q => by rw [q, hb] at e; cases e)).trans (r.gl.bs.hp c u e hi)
  · obtain ⟨v, ev, k⟩ := r.sl i z e
    refine ⟨v, ev, ?_⟩
    cases z with
    | shr d => exact Is.mono m d v k
    | own d =>
      obtain ⟨c, rfl, n1, n2, t⟩ := k
      exact ⟨c, rfl, n1, n2, t.move m (hide_ne fun e' => no (e' ▸ ⟨i, d, e, ev⟩))⟩
theorem Ext.hide {P : Addr → Prop} (x : Ext P g H g' H') (hn : H L = none) : Ext P g H g' (Vl.hide H' L) :=
  ⟨fun c u e hi => (hide_ne (ne_of_none e hn)).trans (x.hp c u e hi), fun c e => by
    by_cases q : c = L
    · rw [q]; exact hn
    · rw [hide_ne q] at e; exact x.dn c e, x.fz, x.nf, x.io⟩
theorem Ext.unhide {P : Addr → Prop} : Ext P g (Vl.hide H L) g H :=
  ⟨fun c u e _ => by
    by_cases q : c = L
    · rw [q, hide_at] at e; cases e
    · rw [hide_ne q] at e; exact e, fun c e => by
    by_cases q : c = L
    · rw [q, hide_at]
    · rw [hide_ne q]; exact e, fun _ h => h, fun _ h => .inl h, [], by simp, by simp⟩
end
/-- a walk's turns in a comprehension, from any start to any end -/
theorem lc_gen {J : It} {n : Nat} {Gd : Hp → Prop} {Y : Nat → Hp → V → Hp → Prop} (w : Walk J n Gd Y) {g : TG} {body : L2.St → Hp → (Hp → Prop) → Prop} {vs : List Nat} {σ : L2.St} {H1 : Hp} {Qd : Hp → Prop} (Pv : Nat → Hp → Prop) (h0 : Pv 0 H1) (hG : ∀ i H, i ≤ n → Pv i H → Gd H)
    (hs : ∀ i x H H', i < n → Pv i H → Y i H x H' → g x (wipe σ vs) H' fun σ2 H2 => wipe σ2 vs = wipe σ vs ∧ body σ2 H2 (Pv (i + 1))) (hd : ∀ H, Pv n H → Qd H) :
    ∃ W : Nat → Nat → Hp → Prop, (∃ m, W 0 m H1) ∧ ∀ i m H, W i m H →
      (J.stop i H ∧ Qd H) ∨ (J.go i H ∧ ∃ Nx : Hp → Prop, (∀ H', Nx H' → ∃ m', m' < m ∧ W (i + 1) m' H') ∧ ∀ x H', J.yld i H x H' → g x (wipe σ vs) H' fun σ2 H2 => wipe σ2 vs = wipe σ vs ∧ body σ2 H2 Nx) := by
  refine ⟨fun i m H => m = n - i ∧ i ≤ n ∧ Pv i H, ⟨n, by simp, Nat.zero_le _, h0⟩, ?_⟩
  rintro i m H ⟨rfl, hi, p⟩
  have q := hG i H hi p
  by_cases hlt : i < n
  · exact .inr ⟨w.goes i H hlt q, Pv (i + 1), fun H' p' => ⟨n - (i + 1), by omega, rfl, hlt, p'⟩, fun x H' y => hs i x H H' hlt p (w.yields i H x H' hlt q y)⟩
  · have e : i = n := by omega
    subst e
    exact .inl ⟨w.stops H q, hd H p⟩
theorem wipeS_wipeS {vs vs1 : List Nat} (h : ∀ i ∈ vs1, i ∈ vs) (s : S) : wipeS vs (wipeS vs1 s) = wipeS vs s := by
  have at_ : ∀ (ρ : List (Option Sl)) (vs : List Nat) (i : Nat), i ∈ vs → (wipeR vs ρ)[i]? = if i < ρ.length then some none else none := by
    intro ρ vs
    induction vs with
    | nil => intro i h; cases h
    | cons v vs ih =>
      intro i hi
      unfold wipeR
      by_cases e : v = i
      · subst e
        by_cases hl : v < ρ.length
        · rw [if_pos hl, List.getElem?_set_self (by rw [wipeR_length]; exact hl)]
        · rw [if_neg hl, List.getElem?_eq_none (by rw [List.length_set, wipeR_length]; omega)]
      · rw [List.getElem?_set_ne e]
        exact ih i ((List.mem_cons.mp hi).resolve_left fun q => e q.symm)
  unfold wipeS
  simp only [S.mk.injEq, and_true]
  refine List.ext_getElem? fun i => ?_
  by_cases hi : i ∈ vs
  · rw [at_ _ vs i hi, at_ _ vs i hi, wipeR_length]
  · rw [wipeR_out hi, wipeR_out hi, wipeR_out fun q => hi (h i q)]
section
variable {K : PySem.W.Frag} {b : G × Hp} {σ σ2 : L2.St} {vs vs1 : List Nat} {L : Addr} {g1 g3 g : G} {H1 H3 H : Hp} {s1 s3 s : S} {acc acc' : List D}
/-- what the new list's address is, from the base's side -/
theorem Turn.notOwn (r1 : Rep K b g1 H1 σ s1) (hn : H1 L = none) (t : Turn K b σ vs L s1 g1 H1 g3 H3 s3 acc) {s2 : S} (ew : L2.wipe σ2 vs = L2.wipe σ vs) (own2 : ∀ (i : Nat) d, s2.ρ[i]? = some (some (.own d)) → i ∉ vs ∧ s3.ρ[i]? = some (some (.own d))) : ¬ OwnA σ2 s2 L := fun o => by
  obtain ⟨i, d, e, ea⟩ := o
  obtain ⟨h1, h2⟩ := own2 i d e
  have q : (L2.wipe σ2 vs)[i]? = some (some (.ref L)) := wipe_some' h1 ea
  rw [ew] at q
  obtain ⟨v, ev, a, rfl, _, _, tt⟩ := r1.sl i _ (t.sub i d h1 h2)
  rw [(wipe_some q).1] at ev
  cases ev
  have mu := tt.mut
  rw [hn] at mu
  exact mu
/-- the second clause's loop begins -/
theorem Turn.down (r1 : Rep K b g1 H1 σ s1) (hn : H1 L = none) (t : Turn K b σ vs L s1 g1 H1 g3 H3 s3 acc) (ew : L2.wipe σ2 vs = L2.wipe σ vs) (R : Rep K b g3 H3 σ2 s3)
    (own2 : ∀ (i : Nat) d, s3.ρ[i]? = some (some (.own d)) → i ∉ vs) : Rep K b g3 (Vl.hide H3 L) σ2 s3 ∧ Turn K b σ2 vs1 L s3 g3 (Vl.hide H3 L) g3 H3 s3 acc := by
  obtain ⟨us, hu, iu⟩ := t.at_
  have mu : Mut (H3 L) := by rw [hu]; trivial
  exact ⟨R.hide t.nf t.ni mu (r1.dom hn) (t.notOwn r1 hn ew fun i d e => ⟨own2 i d e, e⟩), R.wipe rfl, fun _ _ _ h => h, Ext.unhide, ⟨us, hu, iu⟩, t.nf, t.ni⟩
/-- it ends -/
theorem Turn.up (r1 : Rep K b g1 H1 σ s1) (hn : H1 L = none) (hv : ∀ i ∈ vs1, i ∈ vs) (t : Turn K b σ vs L s1 g1 H1 g3 H3 s3 acc) (ew : L2.wipe σ2 vs = L2.wipe σ vs) (own2 : ∀ (i : Nat) d, s3.ρ[i]? = some (some (.own d)) → i ∉ vs)
    (t' : Turn K b σ2 vs1 L s3 g3 (Vl.hide H3 L) g H s acc') : Turn K b σ vs L s1 g1 H1 g H s acc' := by
  have ww : L2.wipe (L2.wipe σ2 vs1) vs = L2.wipe σ vs := by
    rw [← ew]
    exact wipe_ext (ts := vs1) ⟨wipe_length σ2 vs1, fun j h => wipe_out h⟩ hv
  refine ⟨?_, fun i d hi e => ?_, (t.ext.hide hn).trans t'.ext fun a o => ?_, t'.at_, t'.nf, t'.ni⟩
  · have q := t'.rep.wipe ww
    rw [wipeS_wipeS hv] at q
    exact q
  · have hi1 : i ∉ vs1 := fun q => hi (hv i q)
    exact t.sub i d hi (t'.sub i d hi1 e)
  · obtain ⟨i, d, hi, e, ea⟩ := o
    have hi' := own2 i d e
    have q : (L2.wipe σ2 vs)[i]? = some (some (.ref a)) := wipe_some' hi' ea
    rw [ew] at q
    exact ⟨i, d, hi', t.sub i d hi' e, (wipe_some q).1⟩
end
/-- one loop of a comprehension, from a turn to the walk's end -/
theorem turn_loop {K : PySem.W.Frag} {b : G × Hp} {vs ts : List Nat} {mg : MG} {mt : MT} {me : ME} {σ : L2.St} {L : Addr} {s1 s0 s2 : S} {g1 g0 : G} {H1 H0 : Hp} {acc0 accE : List D} {ds : List D} {J : It} {Qd : Hp → Prop} (hts : ∀ i ∈ ts, i ∈ vs) (r1 : Rep K b g1 H1 σ s1) (hL : H1 L = none)
    (wk : Wk K b g1 H1 J ds) (t0 : Turn K b σ vs L s1 g1 H1 g0 H0 s0 acc0) (e0 : loopC vs mg mt me ds s0 acc0 = some (accE, s2)) (hd : ∀ g H, Turn K b σ vs L s1 g1 H1 g H s2 accE → Qd H) :
    ∃ W : Nat → Nat → Hp → Prop, (∃ m, W 0 m H0) ∧ ∀ i m H, W i m H →
      (J.stop i H ∧ Qd H) ∨ (J.go i H ∧ ∃ Nx : Hp → Prop, (∀ H', Nx H' → ∃ m', m' < m ∧ W (i + 1) m' H') ∧ ∀ x H', J.yld i H x H' → tG K ts mg x (wipe σ vs) H' fun σ2 H2 => wipe σ2 vs = wipe σ vs ∧ tT K mt σ2 H2 fun b H3 =>
        if b = true then tK K .val me σ2 H3 fun y H4 => ∃ acc, H4 L = some (.lst acc) ∧ acc.length < sizeLine ∧ Nx (upd H4 L (.lst (acc ++ [y]))) else Nx H3) := by
  obtain ⟨Gd, Y, w, hG, hY⟩ := wk
  refine lc_gen w (body := fun σ2 H2 Nx => tT K mt σ2 H2 fun b H3 => if b = true then tK K .val me σ2 H3 fun y H4 => ∃ acc, H4 L = some (.lst acc) ∧ acc.length < sizeLine ∧ Nx (upd H4 L (.lst (acc ++ [y]))) else Nx H3)
    (fun i H2 => ∃ g2 s3 acc, Turn K b σ vs L s1 g1 H1 g2 H2 s3 acc ∧ loopC vs mg mt me (ds.drop i) s3 acc = some (accE, s2)) ⟨g0, s0, acc0, t0, e0⟩ ?_ ?_ ?_
  · rintro i H2 hl ⟨g2, s3, acc, t, e3⟩
    exact hG g2 H2 (r1.mono t.ext)
  · rintro i x H2 H3 hl ⟨g2, s3, acc, t, e3⟩ y
    obtain ⟨hH, d, ed, iv⟩ := hY i g2 H2 x H3 (wipeS vs s3).sg hl t.rep.gl (r1.mono t.ext) y
    rw [drop_at ed] at e3
    unfold loopC at e3
    obtain ⟨s4, e4, e3⟩ := Option.bind_eq_some_iff.mp e3
    obtain ⟨⟨c, s5⟩, e5, e3⟩ := Option.bind_eq_some_iff.mp e3
    have t3 : Turn K b σ vs L s1 g1 H1 g2 H3 s3 acc := by
      rcases hH with rfl | ⟨p, o, hp, rfl⟩
      · exact t
      · have q := t.step (s2 := wipeS vs s3) (s' := wipeS vs s3) (σ2 := L2.wipe σ vs) r1 hL (wipe_wipe σ vs) (Sub.refl _) (t.rep.laid (o := o) hp) (Sub.refl _) (Ext.laid hp)
        exact ⟨t.rep.laid hp, t.sub, q.ext, q.at_, q.nf, q.ni⟩
    refine ⟨b, g2, wipeS vs s3, d, t3.rep, iv, s4, e4, fun σ4 R4 sb4 tch => ?_⟩
    have ew : L2.wipe σ4 vs = L2.wipe σ vs := (wipe_ext tch hts).trans (wipe_wipe σ vs)
    refine ⟨ew, b, g2, s4, R4, c, s5, e5, fun g5 H5 R5 sb5 x5 => ?_⟩
    have t5 := t3.step r1 hL ew sb4 R5 sb5 x5
    cases c with
    | false => exact ⟨g5, s5, acc, t5, e3⟩
    | true =>
      obtain ⟨⟨zz, s6⟩, e6, e3⟩ := Option.bind_eq_some_iff.mp e3
      refine ⟨b, g5, s5, R5, zz, s6, e6, fun g6 v6 H6 R6 sb6 x6 i6 => ?_⟩
      have x56 : Ext (OwnA σ4 s4) g2 H3 g6 H6 := x5.trans x6 fun a o => o.sub sb5
      have t6 := t3.step r1 hL ew sb4 R6 (sb6.trans sb5) x56
      obtain ⟨us, hu, iu⟩ := t6.at_
      by_cases hlen : acc.length < sizeLine
      · simp only [hlen, if_true] at e3
        exact ⟨us, hu, by rw [iu.length]; exact hlen, g6, s6, acc ++ [zz], t6.add r1 hL i6 hu, e3⟩
      · simp only [hlen] at e3
        cases e3
  · rintro H2 ⟨g2, s3, acc, t, e3⟩
    rw [List.drop_length] at e3
    cases e3
    exact hd g2 H2 t
theorem tLcV2 {K : PySem.W.Frag} {vs ts vs1 ts1 : List Nat} {mi mi1 : MI} {mg mg1 : MG} {mt mt1 : MT} {me : ME} (hts : ∀ i ∈ ts, i ∈ vs) (hts1 : ∀ i ∈ ts1, i ∈ vs1) (hv : ∀ i ∈ vs1, i ∈ vs) (σ : L2.St) (H : Hp) (Q : VK) (q : tK K .fre (mLc2 vs mi mg mt mi1 vs1 mg1 mt1 me) σ H Q) :
    tLc2 (tI K mi) (tG K ts mg) (tT K mt) (tI K mi1) (tG K ts1 mg1) (tT K mt1) (tK K .val me) vs vs1 σ H Q := by
  obtain ⟨b, g, s, R, z, s', em, k⟩ := q
  unfold mLc2 at em
  obtain ⟨⟨ds, s1⟩, e1, em⟩ := Option.bind_eq_some_iff.mp em
  obtain ⟨⟨accE, s2⟩, e2, em⟩ := Option.bind_eq_some_iff.mp em
  cases em
  refine ⟨b, g, s, R, ds, s1, e1, fun J g1 H1 R1 sb1 x1 wk L hL => ?_⟩
  obtain ⟨Gd, Y, w, hG, hY⟩ := wk
  refine lc_gen w (body := fun σ2 H2 Nx => tT K mt σ2 H2 fun b H3 =>
    if b = true then tI K mi1 σ2 H3 fun J1 H4 => ∃ W1 : Nat → Nat → Hp → Prop, (∃ m, W1 0 m H4) ∧ ∀ j k H, W1 j k H →
      (J1.stop j H ∧ Nx H) ∨ (J1.go j H ∧ ∃ Nx1 : Hp → Prop, (∀ H', Nx1 H' → ∃ k', k' < k ∧ W1 (j + 1) k' H') ∧ ∀ x H', J1.yld j H x H' → tG K ts1 mg1 x (wipe σ2 vs1) H' fun σ3 H5 => wipe σ3 vs1 = wipe σ2 vs1 ∧ tT K mt1 σ3 H5 fun b H6 =>
        if b = true then tK K .val me σ3 H6 fun y H7 => ∃ acc, H7 L = some (.lst acc) ∧ acc.length < sizeLine ∧ Nx1 (upd H7 L (.lst (acc ++ [y]))) else Nx1 H6)
    else Nx H3) (fun i H2 => ∃ g2 s3 acc, Turn K b σ vs L s1 g1 H1 g2 H2 s3 acc ∧ loopD vs mg mt mi1 vs1 mg1 mt1 me (ds.drop i) s3 acc = some (accE, s2)) ⟨g1, s1, [], Turn.start R1 hL, e2⟩ ?_ ?_ ?_
  · rintro i H2 hl ⟨g2, s3, acc, t, e3⟩
    exact hG g2 H2 (R1.mono t.ext)
  · rintro i x H2 H3 hl ⟨g2, s3, acc, t, e3⟩ y
    obtain ⟨hH, d, ed, iv⟩ := hY i g2 H2 x H3 (wipeS vs s3).sg hl t.rep.gl (R1.mono t.ext) y
    rw [drop_at ed] at e3
    unfold loopD at e3
    obtain ⟨s4, e4, e3⟩ := Option.bind_eq_some_iff.mp e3
    obtain ⟨⟨c, s5⟩, e5, e3⟩ := Option.bind_eq_some_iff.mp e3
    have t3 : Turn K b σ vs L s1 g1 H1 g2 H3 s3 acc := by
      rcases hH with rfl | ⟨p, o, hp, rfl⟩
      · exact t
      · have q := t.step (s2 := wipeS vs s3) (s' := wipeS vs s3) (σ2 := L2.wipe σ vs) R1 hL (wipe_wipe σ vs) (Sub.refl _) (t.rep.laid (o := o) hp) (Sub.refl _) (Ext.laid hp)
        exact ⟨t.rep.laid hp, t.sub, q.ext, q.at_, q.nf, q.ni⟩
    refine ⟨b, g2, wipeS vs s3, d, t3.rep, iv, s4, e4, fun σ4 R4 sb4 tch => ?_⟩
    have ew : L2.wipe σ4 vs = L2.wipe σ vs := (wipe_ext tch hts).trans (wipe_wipe σ vs)
    refine ⟨ew, b, g2, s4, R4, c, s5, e5, fun g5 H5 R5 sb5 x5 => ?_⟩
    have t5 := t3.step R1 hL ew sb4 R5 sb5 x5
    cases c with
    | false => exact ⟨g5, s5, acc, t5, e3⟩
    | true =>
      obtain ⟨⟨ds1, s6⟩, e6, e3⟩ := Option.bind_eq_some_iff.mp e3
      obtain ⟨⟨acc', s7⟩, e7, e3⟩ := Option.bind_eq_some_iff.mp e3
      refine ⟨b, g5, s5, R5, ds1, s6, e6, fun J1 g6 H6 R6 sb6 x6 wk1 => ?_⟩
      have x56 : Ext (OwnA σ4 s4) g2 H3 g6 H6 := x5.trans x6 fun a o => o.sub sb5
      have t6 := t3.step R1 hL ew sb4 R6 (sb6.trans sb5) x56
      have own6 : ∀ (i : Nat) d, s6.ρ[i]? = some (some (.own d)) → i ∉ vs := fun i d e => (wipeR_some (sb4 i d (sb5 i d (sb6 i d e)))).2
      obtain ⟨R7, t7⟩ := Turn.down (vs1 := vs1) R1 hL t6 ew R6 own6
      have wk1' : Wk K b g6 (Vl.hide H6 L) J1 ds1 := by
        obtain ⟨Gd1, Y1, w1, hG1, hY1⟩ := wk1
        have m : Mono g6 H6 g6 (Vl.hide H6 L) := by
          obtain ⟨us, hu, _⟩ := t6.at_
          exact Mono.hide t6.nf (by rw [hu]; trivial)
        exact ⟨Gd1, Y1, w1, fun g H q => hG1 g H (m.trans q), fun i g H x H' sg hi gl q => hY1 i g H x H' sg hi gl (m.trans q)⟩
      exact turn_loop hts1 R7 hide_at wk1' t7 e7 fun g8 H8 t8 => ⟨g8, s7, acc', t6.up R1 hL hv ew own6 t8, e3⟩
  · rintro H2 ⟨g2, s3, acc, t, e3⟩
    rw [List.drop_length] at e3
    cases e3
    obtain ⟨us, hu, iu⟩ := t.at_
    refine k g2 (.ref L) H2 (t.out R1) (fun i d e => ?_) (x1.trans t.ext fun a ⟨i, d, _, e, ea⟩ => ⟨i, d, sb1 i d e, ea⟩) ⟨L, rfl, x1.dn L hL, t.nf, t.ni, us, hu, iu⟩
    rcases backR_some e with ⟨h1, h2⟩ | ⟨h1, h2⟩
    · exact sb1 i d (t.sub i d h1 h2)
    · exact sb1 i d h2
section
variable {X : Cx}
theorem ve_lc2 {elt tg iter tg1 iter1 : Expr} {ifs ifs1 : List Expr} {scope : Scope} {own : List (Str × Nat)} {vs1 : List Nat} {pos : Pos} {mi mi1 : MI} {mg mg1 : MG} {mt mt1 : MT} {me : ME} {ts ts1 : List Nat} (hc : X.calm = true) (hN : X.N.Nodup) (hi : PI X tg iter (tI X.K mi)) (ok : BlkOk X.N X.env.scope scope own)
    (hv : ∀ i ∈ vs1, i ∈ own.map (·.2)) (hts : ∀ i ∈ ts, i ∈ own.map (·.2)) (hts1 : ∀ i ∈ ts1, i ∈ vs1)
    (hg : ∀ (s : Shared) (H : Hp) (C : Addr) (cl : List (Str × Addr)) (fp : List Addr), PG (X.blk s H scope (compEnvC scope cl C X.env) fp) tg (tG X.K ts mg))
    (ht : ∀ (s : Shared) (H : Hp) (C : Addr) (cl : List (Str × Addr)) (fp : List Addr), PTs (X.blk s H scope (compEnvC scope cl C X.env) fp) ifs (tT X.K mt))
    (hi1 : ∀ (s : Shared) (H : Hp) (C : Addr) (cl : List (Str × Addr)) (fp : List Addr), PI (X.blk s H scope (compEnvC scope cl C X.env) fp) tg1 iter1 (tI X.K mi1))
    (hg1 : ∀ (s : Shared) (H : Hp) (C : Addr) (cl : List (Str × Addr)) (fp : List Addr), PG (X.blk s H scope (compEnvC scope cl C X.env) fp) tg1 (tG X.K ts1 mg1))
    (ht1 : ∀ (s : Shared) (H : Hp) (C : Addr) (cl : List (Str × Addr)) (fp : List Addr), PTs (X.blk s H scope (compEnvC scope cl C X.env) fp) ifs1 (tT X.K mt1))
    (he : ∀ (s : Shared) (H : Hp) (C : Addr) (cl : List (Str × Addr)) (fp : List Addr), PE (X.blk s H scope (compEnvC scope cl C X.env) fp) elt (tK X.K .val me)) (hs : ∀ x, foldedSetIterable iter X.env x = pure x := by intro _; rfl) (hs1 : ∀ env x, foldedSetIterable iter1 env x = pure x := by intro _ _; rfl) :
    PE X (.ListComp elt [⟨tg, iter, ifs, 0⟩, ⟨tg1, iter1, ifs1, 0⟩] scope pos) (tK X.K .fre (mLc2 (own.map (·.2)) mi mg mt mi1 vs1 mg1 mt1 me)) := peImp (pe_lc2 hc hN hi ok hv hg ht hi1 hg1 ht1 he hs hs1) (tLcV2 hts hts1 hv)
theorem vs_setLc2 {i : Nat} {y : Str} {py : Pos} {elt tg iter tg1 iter1 : Expr} {ifs ifs1 : List Expr} {scope : Scope} {own : List (Str × Nat)} {vs1 : List Nat} {pos spos : Pos} {mi mi1 : MI} {mg mg1 : MG} {mt mt1 : MT} {me : ME} {ts ts1 : List Nat} (hc : X.calm = true) (hN : X.N.Nodup) (hy : X.N[i]? = some y) (hyl : X.env.scope.names.lookup y = some .local)
    (hsw : swapsWith (.ListComp elt [⟨tg, iter, ifs, 0⟩, ⟨tg1, iter1, ifs1, 0⟩] scope pos) (some (.Name y py)) spos.line X.env = pure true) (hi : PI X tg iter (tI X.K mi)) (ok : BlkOk X.N X.env.scope scope own)
    (hv : ∀ i ∈ vs1, i ∈ own.map (·.2)) (hts : ∀ i ∈ ts, i ∈ own.map (·.2)) (hts1 : ∀ i ∈ ts1, i ∈ vs1)
    (hg : ∀ (s : Shared) (H : Hp) (C : Addr) (cl : List (Str × Addr)) (fp : List Addr), PG (X.blk s H scope (compEnvC scope cl C X.env) fp) tg (tG X.K ts mg))
    (ht : ∀ (s : Shared) (H : Hp) (C : Addr) (cl : List (Str × Addr)) (fp : List Addr), PTs (X.blk s H scope (compEnvC scope cl C X.env) fp) ifs (tT X.K mt))
    (hi1 : ∀ (s : Shared) (H : Hp) (C : Addr) (cl : List (Str × Addr)) (fp : List Addr), PI (X.blk s H scope (compEnvC scope cl C X.env) fp) tg1 iter1 (tI X.K mi1))
    (hg1 : ∀ (s : Shared) (H : Hp) (C : Addr) (cl : List (Str × Addr)) (fp : List Addr), PG (X.blk s H scope (compEnvC scope cl C X.env) fp) tg1 (tG X.K ts1 mg1))
    (ht1 : ∀ (s : Shared) (H : Hp) (C : Addr) (cl : List (Str × Addr)) (fp : List Addr), PTs (X.blk s H scope (compEnvC scope cl C X.env) fp) ifs1 (tT X.K mt1))
    (he : ∀ (s : Shared) (H : Hp) (C : Addr) (cl : List (Str × Addr)) (fp : List Addr), PE (X.blk s H scope (compEnvC scope cl C X.env) fp) elt (tK X.K .val me)) (hs : ∀ x, foldedSetIterable iter X.env x = pure x := by intro _; rfl) (hs1 : ∀ env x, foldedSetIterable iter1 env x = pure x := by intro _ _; rfl) :
    PS X (.Assign [.Name y py] (.ListComp elt [⟨tg, iter, ifs, 0⟩, ⟨tg1, iter1, ifs1, 0⟩] scope pos) spos) (tS X.K (mSetF i (mLc2 (own.map (·.2)) mi mg mt mi1 vs1 mg1 mt1 me))) :=
  psImp (ps_setLc2 hc hN hy hyl hsw hi ok hv hg ht hi1 hg1 ht1 he hs hs1) fun E σ H q => tLcV2 hts hts1 hv σ H _ (tSetF E σ H q)
end
end Vl
namespace Vl
open PySem PySem.Spec PyProof.Rows L2

/-! ### a new list that is to be changed elsewhere: an object -/
def mObj (m : ME) : ME := fun s => (m s).bind fun (d, s1) => match d with
  | .lst _ => some (.obj s1.sg.length, ⟨s1.ρ, s1.sg ++ [d]⟩)
  | .dK _ => some (.obj s1.sg.length, ⟨s1.ρ, s1.sg ++ [d]⟩)
  | .dT _ => some (.obj s1.sg.length, ⟨s1.ρ, s1.sg ++ [d]⟩)
  | _ => none
theorem pair_snoc {α β : Type} {F : α → β → Prop} {x : α} {y : β} : ∀ {l : List α} {r : List β}, Paired F l r → F x y → Paired F (l ++ [x]) (r ++ [y])
  | _, _, .nil, h => .cons h .nil
  | _, _, .cons a t, h => .cons a (pair_snoc t h)
section
variable {K : PySem.W.Frag} {b : G × Hp} {g g' : G} {H H' : Hp} {σ : L2.St} {s s' : S} {a : Addr} {d : D}
theorem Rep.toObj (r : Rep K b g H σ s) (r' : Rep K b g' H' σ s') (sb : Sub s' s) (h0 : H a = none) (nf : ¬ g'.Fz a) (ni : a ∉ g'.io) (t : Top K g' H' a d) :
    Rep K b ⟨g'.Fz, g'.io ++ [a]⟩ H' σ ⟨s'.ρ, s'.sg ++ [d]⟩ ∧ Ext (fun _ => False) g' (Vl.hide H' a) ⟨g'.Fz, g'.io ++ [a]⟩ H' := by
  have m : Mono g' H' ⟨g'.Fz, g'.io ++ [a]⟩ H' := ⟨fun _ _ h f => ⟨h, f⟩, fun _ _ h => h, fun _ _ _ h => h, fun k c h => by
    show (g'.io ++ [a])[k]? = some c
    rw [List.getElem?_append_left (List.getElem?_eq_some_iff.mp h).1]
    exact h⟩
  have hb : b.2 a = none := r.dom h0
  have no : ¬ OwnA σ s' a := fun o => (o.sub sb).there r h0
  have ln : g'.io.length = s'.sg.length := Paired.length r'.gl.ob
  refine ⟨⟨⟨pair_snoc (Paired.imp (fun c d q => q.move m rfl) r'.gl.ob) (t.move m rfl), ?_, fun c hc f => ?_, r'.gl.dm, ⟨r'.gl.bs.hp, r'.gl.bs.fz, r'.gl.bs.nf, ?_⟩⟩, r'.ln, fun i z e => ?_, r'.ap, r'.on⟩, ?_⟩
  · rw [List.nodup_append]
    refine ⟨r'.gl.nd, by simp, fun c hc c' hc' e => ?_⟩
    have : c' = a := by simpa using hc'
    exact ni (this ▸ e ▸ hc)
  · rcases List.mem_append.mp hc with q | q
    · exact r'.gl.nz c q f
    · have : c = a := by simpa using q
      exact nf (this ▸ f)
  · obtain ⟨more, e, hm⟩ := r'.gl.bs.io
    refine ⟨more ++ [a], by rw [e, List.append_assoc], fun c hc => ?_⟩
    rcases List.mem_append.mp hc with q | q
    · exact hm c q
    · have : c = a := by simpa using q
      rw [this]
      exact hb
  · obtain ⟨v, ev, k⟩ := r'.sl i z e
    refine ⟨v, ev, ?_⟩
    cases z with
    | shr d => exact Is.mono m d v k
    | own d =>
      obtain ⟨c, rfl, n1, n2, q⟩ := k
      refine ⟨c, rfl, n1, fun hc => ?_, q.move m rfl⟩
      rcases List.mem_append.mp hc with z | z
      · exact n2 z
      · have : c = a := by simpa using z
        subst this
        exact no ⟨i, d, e, ev⟩
  · refine ⟨fun c u e _ => ?_, fun c e => ?_, fun _ h => h, fun _ h => .inl h, [a], rfl, fun c hc => ?_⟩
    · by_cases q : c = a
      · rw [q, hide_at] at e; cases e
      · rw [hide_ne q] at e; exact e
    · by_cases q : c = a
      · rw [q, hide_at]
      · rw [hide_ne q]; exact e
    · have : c = a := by simpa using hc
      rw [this, hide_at]
end
theorem toObj {X : Cx} {e : Expr} {m : ME} (h : PE X e (tK X.K .fre m)) : PE X e (tK X.K .val (mObj m)) := peImp h fun σ H Q q => by
  obtain ⟨b, g, s, R, d, s', em, k⟩ := q
  unfold mObj at em
  obtain ⟨⟨d1, s1⟩, e1, em⟩ := Option.bind_eq_some_iff.mp em
  refine ⟨b, g, s, R, d1, s1, e1, fun g1 v H1 R1 sb1 x1 i1 => ?_⟩
  have go : ∀ a, v = .ref a → H a = none → ¬ g1.Fz a → a ∉ g1.io → Top X.K g1 H1 a d1 → d = .obj s1.sg.length → s' = ⟨s1.ρ, s1.sg ++ [d1]⟩ → Q v H1 := fun a ev h0 nf ni t ed es => by
    subst ev
    subst ed
    subst es
    obtain ⟨R2, x2⟩ := R.toObj R1 sb1 h0 nf ni t
    refine k _ _ H1 R2 sb1 ((x1.hide h0).trans x2 fun _ q => q.elim) ?_
    show Is _ _ _ _ _
    simp only [Is]
    refine ⟨a, rfl, ?_⟩
    rw [← Paired.length R1.gl.ob]
    exact List.getElem?_concat_length
  cases d1 <;> first | (cases em; done) | skip
  · cases em
    obtain ⟨a, ev, h0, nf, ni, t⟩ := i1
    exact go a ev h0 nf ni t rfl rfl
  · cases em
    obtain ⟨a, ev, h0, nf, ni, t⟩ := i1
    exact go a ev h0 nf ni t rfl rfl
  · cases em
    obtain ⟨a, ev, h0, nf, ni, t⟩ := i1
    exact go a ev h0 nf ni t rfl rfl

/-! ### defs by name -/
structure Has (P : Program) (w : World) (K : PySem.W.Frag) (mg : Str → Option Value) (base : Heap) (x : Str) (k n : Nat) (F : CT) : Prop where
  ex : ∃ (f : Addr) (fd : FuncData) (ps : List Str), FnOk P w K mg base CX0 k f fd ps (spOf K n F) ∧ mg x = some (.ref f) ∧ PySem.W.keepIn K (.ref f) = true ∧ Binds K fd ps []
theorem ve_fnH {X : Cx} {e : Expr} {pos : Pos} {es : List Expr} {x : Str} {p : Pos} {k n : Nat} {F : CT} {ma : MA} (h : Has X.prog X.w X.K X.mg X.base x k n F) (hr : Room k X.A) (hg : Gl X x) (hl : Len n ma) (ha : PA X (e :: es) (tA X.K .val ma)) (hdb : (x == ("__debug__" : Str)) = false := by decide)
    (he : starEach (e :: es) X.env = (false, eval e X.env) :: starEach es X.env := by rfl) (hpl : (backTo pos (starEach es X.env)).any (·.1) = false := by rfl) : PE X (.Call (.Name x p) (e :: es) [] pos) (tK X.K .val (mFn F ma)) := by
  obtain ⟨f, fd, ps, O, hm, hk, hb⟩ := h.ex
  exact ve_fn O hr hg hm hk hb hl ha hdb he hpl
theorem ve_fnH0 {X : Cx} {pos : Pos} {x : Str} {p : Pos} {k : Nat} {F : CT} (h : Has X.prog X.w X.K X.mg X.base x k 0 F) (hr : Room k X.A) (hg : Gl X x) (hdb : (x == ("__debug__" : Str)) = false := by decide) : PE X (.Call (.Name x p) [] [] pos) (tK X.K .val (mFn F mNil)) := by
  obtain ⟨f, fd, ps, O, hm, hk, hb⟩ := h.ex
  exact ve_fn0 O hr hg hm hk hb hdb
theorem has_of {P : Program} {w : World} {K : PySem.W.Frag} {mg : Str → Option Value} {base : Heap} {x qual : Str} {st : Stmt} {f : Addr} {fd : FuncData} {N ps : List Str} {k : Nat} {m : MS} (F : Fun K x qual st f fd) (hm : mg x = some (.ref f)) (hb : Binds K fd ps []) (S : FnScope N ps (defScope st))
    (hbody : ∀ (cdv : Value) (A : Around) (outer : List Env) (s : Shared) (H : Hp) (E : XK), Room k (A.deeper (envOfC qual (defScope st) s.heap.objs.size f cdv)) →
      PSs (cxOf CX0 P w K mg base N qual (defScope st) f cdv A outer s H E).nox (defBody st) (tS K m)) : Has P w K mg base x (k + 1) ps.length (runF ps.length N.length m) :=
  ⟨f, fd, ps, fn_ok F S hbody, hm, F.kp, hb⟩
/-- what is never called keeps every promise -/
theorem has_none {P : Program} {w : World} {K : PySem.W.Frag} {mg : Str → Option Value} {base : Heap} {x qual : Str} {st : Stmt} {f : Addr} {fd : FuncData} {ps : List Str} (k : Nat) (F : Fun K x qual st f fd) (hm : mg x = some (.ref f)) (hb : Binds K fd ps []) : Has P w K mg base x k ps.length (fun _ _ => none) :=
  ⟨f, fd, ps, ⟨fun vs H Q E h => h.1, fun A outer s H args us vs Q E _ _ _ _ h => by
    obtain ⟨_, b, g, sg, ds, _, _, d, sg', e, _⟩ := h
    cases e⟩, hm, F.kp, hb⟩
/-- built-ins that the program does not hide -/
def NoB (mg : Str → Option Value) : Prop := ∀ x ∈ (["len", "int", "abs", "min", "max", "sum", "all", "any", "range", "tuple", "list", "isinstance", "sorted", "set", "enumerate", "zip", "reversed", "bool", "str"] : List Str), mg x = none
theorem bt_len : bootBuiltins "len" = some (.builtin "len") := by decide +kernel
theorem bt_abs : bootBuiltins "abs" = some (.builtin "abs") := by decide +kernel
theorem bt_min : bootBuiltins "min" = some (.builtin "min") := by decide +kernel
theorem bt_max : bootBuiltins "max" = some (.builtin "max") := by decide +kernel
theorem bt_sum : bootBuiltins "sum" = some (.builtin "sum") := by decide +kernel
theorem bt_all : bootBuiltins "all" = some (.builtin "all") := by decide +kernel
theorem bt_any : bootBuiltins "any" = some (.builtin "any") := by decide +kernel
theorem bt_isinstance : bootBuiltins "isinstance" = some (.builtin "isinstance") := by decide +kernel
theorem bt_sorted : bootBuiltins "sorted" = some (.builtin "sorted") := by decide +kernel
theorem bt_int : bootBuiltins "int" = some (.type "int") := by decide +kernel
theorem bt_bool : bootBuiltins "bool" = some (.type "bool") := by decide +kernel
theorem bt_str : bootBuiltins "str" = some (.type "str") := by decide +kernel
theorem bt_tuple : bootBuiltins "tuple" = some (.type "tuple") := by decide +kernel
theorem bt_list : bootBuiltins "list" = some (.type "list") := by decide +kernel
theorem bt_set : bootBuiltins "set" = some (.type "set") := by decide +kernel
end Vl
namespace Vl
open PySem PySem.Spec PyProof.Rows L2
theorem hu65 {k : Nat} {A : Around} (hr : Room k A) : A.units + 65 < cLine := by have := hr.un; omega
/-- the law's promise, from what its function computes -/
theorem law_sp {K : PySem.W.Frag} {F : CT} {H : Hp} {a : Addr} {ns : List Int} (hO : Only H) (hS : SqL K H a (ns.map V.int)) (h : ∃ sg, F [.scr (ns.map D.int)] [] = some (.bl true, sg)) : spOf K 1 F [.ref a] H (fun v _ => v = .bl true) fun _ _ _ => False := by
  obtain ⟨sg, e⟩ := h
  refine ⟨rfl, (⟨fun _ => False, []⟩, H), ⟨fun _ => False, []⟩, [], _, ⟨.nil, List.nodup_nil, (fun a h => nomatch h), (fun a h => False.elim h), Base.self⟩, ?_, .bl true, sg, e, fun g' v H' _ _ i => by simpa only [Is] using i⟩
  refine IsAll.one ?_
  simp only [Is]
  refine ⟨a, ns.map V.int, rfl, ?_, ?_⟩
  · rcases hS with (hS | ⟨o, hS⟩) | hS
    · rcases hO a with q | ⟨o, xs, q⟩
      · rw [q] at hS; cases hS
      · rw [q] at hS; cases hS
    · exact .inr ⟨o, hS⟩
    · exact .inl hS
  · clear hS e
    induction ns with
    | nil => simp only [List.map_nil, IsAll]
    | cons n ns ih =>
      simp only [List.map_cons, IsAll]
      exact ⟨_, _, rfl, by simp only [Is], ih⟩
end Vl
namespace Vl
open PySem PySem.Spec PyProof.Rows L2

/-! ### evaluation, combinator by combinator -/
section
variable {s s1 : S} {ρ : List (Option Sl)} {sg : List D} {d e : D} {ds : List D}
def kR : Option D → S → Option (D × S)
  | some z, s => some (z, s)
  | none, _ => none
@[simp] theorem kR_s : kR (some d) s = some (d, s) := rfl
@[simp] theorem kR_n : kR none s = none := rfl
def k1 (f : F1) : Option (D × S) → Option (D × S)
  | some (d, s) => kR (f s.sg d) s
  | none => none
@[simp] theorem k1_s {f : F1} : k1 f (some (d, ⟨ρ, sg⟩)) = kR (f sg d) ⟨ρ, sg⟩ := rfl
@[simp] theorem e_m1 {f : F1} {m : ME} : m1 f m s = k1 f (m s) := by
  unfold m1; rcases m s with _ | ⟨d, s1⟩
  · rfl
  · simp only [Option.bind_some, k1]; cases f s1.sg d <;> rfl
def k2b (f : F2) (d : D) : Option (D × S) → Option (D × S)
  | some (e, s) => kR (f s.sg d e) s
  | none => none
def k2a (f : F2) (b : ME) : Option (D × S) → Option (D × S)
  | some (d, s) => k2b f d (b s)
  | none => none
@[simp] theorem k2a_s {f : F2} {b : ME} : k2a f b (some (d, s)) = k2b f d (b s) := rfl
@[simp] theorem k2b_s {f : F2} : k2b f d (some (e, ⟨ρ, sg⟩)) = kR (f sg d e) ⟨ρ, sg⟩ := rfl
@[simp] theorem e_m2 {f : F2} {a b : ME} : m2 f a b s = k2a f b (a s) := by
  unfold m2; rcases a s with _ | ⟨d, s1⟩
  · rfl
  · simp only [Option.bind_some, k2a]; rcases b s1 with _ | ⟨e, s2⟩
    · rfl
    · simp only [Option.bind_some, k2b]; cases f s2.sg d e <;> rfl
def kN (s : S) (i : Nat) : Option (Option Sl) → Option (D × S)
  | some (some (.shr d)) => some (d, s)
  | some (some (.own d)) => some (d, ⟨s.ρ.set i (some (.shr d)), s.sg⟩)
  | _ => none
@[simp] theorem kN_s {i : Nat} : kN s i (some (some (.shr d))) = some (d, s) := rfl
@[simp] theorem kN_o {i : Nat} : kN ⟨ρ, sg⟩ i (some (some (.own d))) = some (d, ⟨ρ.set i (some (.shr d)), sg⟩) := rfl
@[simp] theorem e_mName {i : Nat} : mName i ⟨ρ, sg⟩ = kN ⟨ρ, sg⟩ i ρ[i]? := rfl
def kL (s : S) : Option (Option Sl) → Option (D × S)
  | some (some (.shr d)) => some (d, s)
  | some (some (.own d)) => some (d, s)
  | _ => none
@[simp] theorem kL_s : kL s (some (some (.shr d))) = some (d, s) := rfl
@[simp] theorem kL_o : kL s (some (some (.own d))) = some (d, s) := rfl
@[simp] theorem e_mLend {i : Nat} : mLend i ⟨ρ, sg⟩ = kL ⟨ρ, sg⟩ ρ[i]? := by
  unfold mLend kL; rfl
@[simp] theorem e_mC : mC d s = some (d, s) := rfl
/-! tests -/
def kT : Option Bool → S → Option (Bool × S)
  | some z, s => some (z, s)
  | none, _ => none
@[simp] theorem kT_s {c : Bool} : kT (some c) s = some (c, s) := rfl
def kTr : Option (D × S) → Option (Bool × S)
  | some (d, s) => kT (truth (der s.sg d)) s
  | none => none
@[simp] theorem kTr_s : kTr (some (d, ⟨ρ, sg⟩)) = kT (truth (der sg d)) ⟨ρ, sg⟩ := rfl
@[simp] theorem e_mTr {m : ME} : mTr m s = kTr (m s) := by
  unfold mTr; rcases m s with _ | ⟨d, s1⟩
  · rfl
  · simp only [Option.bind_some, kTr]; cases truth (der s1.sg d) <;> rfl
def kB : Option (D × S) → Option (Bool × S)
  | some (.bl c, s) => some (c, s)
  | _ => none
@[simp] theorem kB_s {c : Bool} : kB (some (.bl c, s)) = some (c, s) := rfl
@[simp] theorem e_mB {m : ME} : mB m s = kB (m s) := by
  unfold mB; rcases m s with _ | ⟨d, s1⟩
  · rfl
  · cases d <;> rfl
def kNot : Option (Bool × S) → Option (Bool × S)
  | some (c, s) => some (!c, s)
  | none => none
@[simp] theorem kNot_s {c : Bool} : kNot (some (c, s)) = some (!c, s) := rfl
@[simp] theorem e_mtNot {m : MT} : mtNot m s = kNot (m s) := by
  unfold mtNot; rcases m s with _ | ⟨d, s1⟩ <;> rfl
def kAnd (b : MT) : Option (Bool × S) → Option (Bool × S)
  | some (true, s) => b s
  | some (false, s) => some (false, s)
  | none => none
@[simp] theorem kAnd_t {b : MT} : kAnd b (some (true, s)) = b s := rfl
@[simp] theorem kAnd_f {b : MT} : kAnd b (some (false, s)) = some (false, s) := rfl
@[simp] theorem e_mtAnd {a b : MT} : mtAnd a b s = kAnd b (a s) := by
  unfold mtAnd; rcases a s with _ | ⟨c, s1⟩
  · rfl
  · cases c <;> rfl
def kOr (b : MT) : Option (Bool × S) → Option (Bool × S)
  | some (false, s) => b s
  | some (true, s) => some (true, s)
  | none => none
@[simp] theorem kOr_t {b : MT} : kOr b (some (true, s)) = some (true, s) := rfl
@[simp] theorem kOr_f {b : MT} : kOr b (some (false, s)) = b s := rfl
@[simp] theorem e_mtOr {a b : MT} : mtOr a b s = kOr b (a s) := by
  unfold mtOr; rcases a s with _ | ⟨c, s1⟩
  · rfl
  · cases c <;> rfl
def kAndE (b : ME) : Option (D × S) → Option (D × S)
  | some (.bl true, s) => b s
  | some (.bl false, s) => some (.bl false, s)
  | _ => none
@[simp] theorem kAndE_t {b : ME} : kAndE b (some (.bl true, s)) = b s := rfl
@[simp] theorem kAndE_f {b : ME} : kAndE b (some (.bl false, s)) = some (.bl false, s) := rfl
@[simp] theorem e_mAnd {a b : ME} : mAnd a b s = kAndE b (a s) := by
  unfold mAnd; rcases a s with _ | ⟨d, s1⟩
  · rfl
  · cases d <;> first | rfl | skip
    rename_i c; cases c <;> rfl
def kOrE (b : ME) : Option (D × S) → Option (D × S)
  | some (.bl false, s) => b s
  | some (.bl true, s) => some (.bl true, s)
  | _ => none
@[simp] theorem kOrE_t {b : ME} : kOrE b (some (.bl true, s)) = some (.bl true, s) := rfl
@[simp] theorem kOrE_f {b : ME} : kOrE b (some (.bl false, s)) = b s := rfl
@[simp] theorem e_mOr {a b : ME} : mOr a b s = kOrE b (a s) := by
  unfold mOr; rcases a s with _ | ⟨d, s1⟩
  · rfl
  · cases d <;> first | rfl | skip
    rename_i c; cases c <;> rfl
def kNotE : Option (D × S) → Option (D × S)
  | some (.bl c, s) => some (.bl (!c), s)
  | _ => none
@[simp] theorem kNotE_s {c : Bool} : kNotE (some (.bl c, s)) = some (.bl (!c), s) := rfl
@[simp] theorem e_mNot {a : ME} : mNot a s = kNotE (a s) := by
  unfold mNot; rcases a s with _ | ⟨d, s1⟩
  · rfl
  · cases d <;> rfl
def kIf (a b : ME) : Option (Bool × S) → Option (D × S)
  | some (true, s) => a s
  | some (false, s) => b s
  | none => none
@[simp] theorem kIf_s {a b : ME} {c : Bool} : kIf a b (some (c, s)) = if c = true then a s else b s := by cases c <;> rfl
@[simp] theorem e_mIf {c : MT} {a b : ME} : mIf c a b s = kIf a b (c s) := by
  unfold mIf; rcases c s with _ | ⟨c, s1⟩
  · rfl
  · cases c <;> rfl
/-! lists of values -/
def kCb (d : D) : Option (List D × S) → Option (List D × S)
  | some (ds, s) => some (d :: ds, s)
  | none => none
def kCa (r : MA) : Option (D × S) → Option (List D × S)
  | some (d, s) => kCb d (r s)
  | none => none
@[simp] theorem kCa_s {r : MA} : kCa r (some (d, s)) = kCb d (r s) := rfl
@[simp] theorem kCb_s : kCb d (some (ds, s)) = some (d :: ds, s) := rfl
@[simp] theorem e_mNil : mNil s = some ([], s) := rfl
@[simp] theorem e_mCons {m : ME} {r : MA} : mCons m r s = kCa r (m s) := by
  unfold mCons; rcases m s with _ | ⟨d, s1⟩
  · rfl
  · simp only [Option.bind_some, kCa]; rcases r s1 with _ | ⟨ds, s2⟩ <;> rfl
def kTup : Option (List D × S) → Option (D × S)
  | some (ds, s) => if ds.length ≤ sizeLine then some (.tup ds, s) else none
  | none => none
def kLst : Option (List D × S) → Option (D × S)
  | some (ds, s) => if ds.length ≤ sizeLine then some (.lst ds, s) else none
  | none => none
@[simp] theorem kTup_s (h : ds.length ≤ sizeLine) : kTup (some (ds, s)) = some (.tup ds, s) := if_pos h
@[simp] theorem kLst_s (h : ds.length ≤ sizeLine) : kLst (some (ds, s)) = some (.lst ds, s) := if_pos h
@[simp] theorem sizeLine_eq : sizeLine = 16777216 := by decide
@[simp] theorem e_mTup {m : MA} : mTup m s = kTup (m s) := by
  unfold mTup; rcases m s with _ | ⟨d, s1⟩ <;> rfl
@[simp] theorem e_mLst {m : MA} : mLst m s = kLst (m s) := by
  unfold mLst; rcases m s with _ | ⟨d, s1⟩ <;> rfl
def kCall (f : FC) : Option (List D × S) → Option (D × S)
  | some (ds, s) => kR (f s.sg ds) s
  | none => none
@[simp] theorem kCall_s {f : FC} : kCall f (some (ds, ⟨ρ, sg⟩)) = kR (f sg ds) ⟨ρ, sg⟩ := rfl
@[simp] theorem e_mCall {f : FC} {m : MA} : mCall f m s = kCall f (m s) := by
  unfold mCall; rcases m s with _ | ⟨d, s1⟩
  · rfl
  · simp only [Option.bind_some, kCall]; cases f s1.sg d <;> rfl
def kF : Option (D × List D) → List (Option Sl) → Option (D × S)
  | some (d, sg), ρ => some (d, ⟨ρ, sg⟩)
  | none, _ => none
@[simp] theorem kF_s : kF (some (d, sg)) ρ = some (d, ⟨ρ, sg⟩) := rfl
def kFn (F : CT) : Option (List D × S) → Option (D × S)
  | some (ds, s) => kF (F ds s.sg) s.ρ
  | none => none
@[simp] theorem kFn_s {F : CT} : kFn F (some (ds, ⟨ρ, sg⟩)) = kF (F ds sg) ρ := rfl
@[simp] theorem e_mFn {F : CT} {m : MA} : mFn F m s = kFn F (m s) := by
  unfold mFn; rcases m s with _ | ⟨d, s1⟩
  · rfl
  · simp only [Option.bind_some, kFn]; rcases F d s1.sg with _ | ⟨x, y⟩ <;> rfl
/-! statements -/
def kSeq (b : MS) : Option (Fl × S) → Option (Fl × S)
  | some (.nx, s) => b s
  | r => r
@[simp] theorem kSeq_nx {b : MS} : kSeq b (some (.nx, s)) = b s := rfl
@[simp] theorem kSeq_rt {b : MS} : kSeq b (some (.rt d, s)) = some (.rt d, s) := rfl
@[simp] theorem kSeq_bk {b : MS} : kSeq b (some (.bk, s)) = some (.bk, s) := rfl
@[simp] theorem kSeq_ct {b : MS} : kSeq b (some (.ct, s)) = some (.ct, s) := rfl
@[simp] theorem e_mSeq {a b : MS} : mSeq a b s = kSeq b (a s) := by
  unfold mSeq; rcases a s with _ | ⟨f, s1⟩
  · rfl
  · cases f <;> rfl
@[simp] theorem e_mNx : mNx s = some (.nx, s) := rfl
@[simp] theorem e_mBk : mBk s = some (.bk, s) := rfl
@[simp] theorem e_mCt : mCt s = some (.ct, s) := rfl
@[simp] theorem e_mRetN : mRetN s = some (.rt .non, s) := rfl
def kRet : Option (D × S) → Option (Fl × S)
  | some (d, s) => some (.rt d, s)
  | none => none
@[simp] theorem kRet_s : kRet (some (d, s)) = some (.rt d, s) := rfl
@[simp] theorem e_mRet {m : ME} : mRet m s = kRet (m s) := by
  unfold mRet; rcases m s with _ | ⟨d, s1⟩ <;> rfl
def kDrop : Option (D × S) → Option (Fl × S)
  | some (d, s) => some (.nx, s)
  | none => none
@[simp] theorem kDrop_s : kDrop (some (d, s)) = some (.nx, s) := rfl
@[simp] theorem e_mDrop {m : ME} : mDrop m s = kDrop (m s) := by
  unfold mDrop; rcases m s with _ | ⟨d, s1⟩ <;> rfl
def kIfS (a b : MS) : Option (Bool × S) → Option (Fl × S)
  | some (true, s) => a s
  | some (false, s) => b s
  | none => none
@[simp] theorem kIfS_s {a b : MS} {c : Bool} : kIfS a b (some (c, s)) = if c = true then a s else b s := by cases c <;> rfl
@[simp] theorem e_mIfS {c : MT} {a b : MS} : mIfS c a b s = kIfS a b (c s) := by
  unfold mIfS; rcases c s with _ | ⟨c, s1⟩
  · rfl
  · cases c <;> rfl
@[simp] theorem e_setS {i : Nat} {z : Sl} : setS ⟨ρ, sg⟩ i z = ⟨ρ.set i (some z), sg⟩ := rfl
@[simp] theorem own_lst : ownD (.lst ds) = .own (.lst ds) := rfl
@[simp] theorem own_int {i : Int} : ownD (.int i) = .shr (.int i) := rfl
@[simp] theorem own_tup : ownD (.tup ds) = .shr (.tup ds) := rfl
@[simp] theorem own_bl {i : Bool} : ownD (.bl i) = .shr (.bl i) := rfl
@[simp] theorem own_non : ownD .non = .shr .non := rfl
@[simp] theorem own_obj {k : Nat} : ownD (.obj k) = .shr (.obj k) := rfl
def kSet (i : Nat) : Option (D × S) → Option (Fl × S)
  | some (d, s) => some (.nx, setS s i (.shr d))
  | none => none
@[simp] theorem kSet_s {i : Nat} : kSet i (some (d, ⟨ρ, sg⟩)) = some (.nx, ⟨ρ.set i (some (.shr d)), sg⟩) := rfl
@[simp] theorem e_mSet {i : Nat} {m : ME} : mSet i m s = kSet i (m s) := by
  unfold mSet; rcases m s with _ | ⟨d, s1⟩ <;> rfl
def kSetF (i : Nat) : Option (D × S) → Option (Fl × S)
  | some (d, s) => some (.nx, setS s i (ownD d))
  | none => none
@[simp] theorem kSetF_s {i : Nat} : kSetF i (some (d, ⟨ρ, sg⟩)) = some (.nx, ⟨ρ.set i (some (ownD d)), sg⟩) := rfl
@[simp] theorem e_mSetF {i : Nat} {m : ME} : mSetF i m s = kSetF i (m s) := by
  unfold mSetF; rcases m s with _ | ⟨d, s1⟩ <;> rfl
@[simp] theorem e_gN {i : Nat} : gN i d ⟨ρ, sg⟩ = some ⟨ρ.set i (some (.shr d)), sg⟩ := rfl
def kG (r : MGs) (ds : List D) : Option S → Option S
  | some s => r ds s
  | none => none
@[simp] theorem kG_s {r : MGs} : kG r ds (some s) = r ds s := rfl
@[simp] theorem e_gNil : gNil0 [] s = some s := rfl
@[simp] theorem e_gCons {m : MG} {r : MGs} : gCons0 m r (d :: ds) s = kG r ds (m d s) := by
  show (m d s).bind _ = _; rcases m d s with _ | s1 <;> rfl
@[simp] theorem e_gT {m : MGs} : gT m (.tup ds) s = m ds s := rfl
def kNx : Option S → Option (Fl × S)
  | some s => some (.nx, s)
  | none => none
@[simp] theorem kNx_s : kNx (some s) = some (.nx, s) := rfl
def kAsg (t : MG) : Option (D × S) → Option (Fl × S)
  | some (d, s) => kNx (t d s)
  | none => none
@[simp] theorem kAsg_s {t : MG} : kAsg t (some (d, s)) = kNx (t d s) := rfl
@[simp] theorem e_mAsg {m : ME} {t : MG} : mAsg m t s = kAsg t (m s) := by
  unfold mAsg; rcases m s with _ | ⟨d, s1⟩
  · rfl
  · simp only [Option.bind_some, kAsg]; rcases t d s1 with _ | s2 <;> rfl
def kPar (i j : Nat) : Option (List D × S) → Option (Fl × S)
  | some ([d, e], s) => some (.nx, setS (setS s i (.shr d)) j (.shr e))
  | _ => none
@[simp] theorem kPar_s {i j : Nat} : kPar i j (some ([d, e], ⟨ρ, sg⟩)) = some (.nx, ⟨(ρ.set i (some (.shr d))).set j (some (.shr e)), sg⟩) := rfl
@[simp] theorem e_mPar {i j : Nat} {m : MA} : mPar i j m s = kPar i j (m s) := by
  unfold mPar; rcases m s with _ | ⟨ds, s1⟩
  · rfl
  · rcases ds with _ | ⟨a, _ | ⟨b, _ | ⟨c, r⟩⟩⟩ <;> rfl
def kPar3 (i j l : Nat) : Option (List D × S) → Option (Fl × S)
  | some ([d, e, f], s) => some (.nx, setS (setS (setS s i (.shr d)) j (.shr e)) l (.shr f))
  | _ => none
@[simp] theorem kPar3_s {i j l : Nat} {f : D} : kPar3 i j l (some ([d, e, f], ⟨ρ, sg⟩)) = some (.nx, ⟨((ρ.set i (some (.shr d))).set j (some (.shr e))).set l (some (.shr f)), sg⟩) := rfl
@[simp] theorem e_mPar3 {i j l : Nat} {m : MA} : mPar3 i j l m s = kPar3 i j l (m s) := by
  unfold mPar3; rcases m s with _ | ⟨ds, s1⟩
  · rfl
  · rcases ds with _ | ⟨a, _ | ⟨b, _ | ⟨c, _ | ⟨e, r⟩⟩⟩⟩ <;> rfl
/-! walks -/
def kItems : Option (D × S) → Option (List D × S)
  | some (.lst ds, s) => some (ds, s)
  | some (.scr ds, s) => some (ds, s)
  | some (.tup ds, s) => some (ds, s)
  | _ => none
@[simp] theorem kItems_l : kItems (some (.lst ds, s)) = some (ds, s) := rfl
@[simp] theorem kItems_c : kItems (some (.scr ds, s)) = some (ds, s) := rfl
@[simp] theorem kItems_t : kItems (some (.tup ds, s)) = some (ds, s) := rfl
@[simp] theorem e_mItems {m : ME} : mItems m s = kItems (m s) := by
  unfold mItems; rcases m s with _ | ⟨d, s1⟩
  · rfl
  · cases d <;> rfl
def kR1 (x : Option (List D × S)) : Option (List D × S) := x.bind fun (ds, s) => match ds with
  | [.int j] => if inR j then some (rangeD 0 1 j.toNat, s) else none
  | _ => none
@[simp] theorem kR1_s {j : Int} (h : inR j = true) : kR1 (some ([.int j], s)) = some (rangeD 0 1 j.toNat, s) := if_pos h
@[simp] theorem e_mRange1 {m : MA} : mRange1 m s = kR1 (m s) := by
  rfl
def kR2 (x : Option (List D × S)) : Option (List D × S) := x.bind fun (ds, s) => match ds with
  | [.int i, .int j] => if inR i && inR j then some (rangeD i 1 (j - i).toNat, s) else none
  | _ => none
@[simp] theorem kR2_s {i j : Int} (h : inR i = true) (h' : inR j = true) : kR2 (some ([.int i, .int j], s)) = some (rangeD i 1 (j - i).toNat, s) := if_pos (by rw [h, h']; rfl)
@[simp] theorem e_mRange2 {m : MA} : mRange2 m s = kR2 (m s) := by
  rfl
def kR3 (x : Option (List D × S)) : Option (List D × S) := x.bind fun (ds, s) => match ds with
  | [.int i, .int j, .int c] => if inR i && inR j && (decide (c = -1)) then some (rangeD i (-1) (i - j).toNat, s) else none
  | _ => none
@[simp] theorem kR3_s {i j : Int} (h : inR i = true) (h' : inR j = true) : kR3 (some ([.int i, .int j, .int (-1)], s)) = some (rangeD i (-1) (i - j).toNat, s) := if_pos (by rw [h, h']; rfl)
@[simp] theorem e_mRange3 {m : MA} : mRange3 m s = kR3 (m s) := by
  rfl
theorem inR_i {i : Int} (h : -4611686018427387904 ≤ i) (h' : i < 4611686018427387904) : inR i = true := by
  cases i with
  | ofNat n => exact Nat.ble_eq_true_of_le (by simp only [Int.ofNat_eq_natCast] at h h'; omega)
  | negSucc n => exact Nat.ble_eq_true_of_le (by rw [Int.negSucc_eq] at h h'; omega)
def kFor (mg : MG) (mb : MS) : Option (List D × S) → Option (Fl × S)
  | some (ds, s) => loopF mg mb ds s
  | none => none
@[simp] theorem kFor_s {mg : MG} {mb : MS} : kFor mg mb (some (ds, s)) = loopF mg mb ds s := rfl
@[simp] theorem e_mFor {mi : MI} {mg : MG} {mb : MS} : mFor mi mg mb s = kFor mg mb (mi s) := by
  unfold mFor; rcases mi s with _ | ⟨ds, s1⟩ <;> rfl
/-! changes -/
def kMe (i : Nat) : Option (D × D) → S → Option (D × S)
  | some (d', r), s => some (r, putAt s i d')
  | none, _ => none
@[simp] theorem kMe_s {i : Nat} : kMe i (some (d, e)) s = some (e, putAt s i d) := rfl
def kM2 (f : EF) (i : Nat) (ds : List D) (s : S) : Option D → Option (D × S)
  | some d => kMe i (f ds d) s
  | none => none
@[simp] theorem kM2_s {f : EF} {i : Nat} : kM2 f i ds s (some d) = kMe i (f ds d) s := rfl
def kM1 (f : EF) (i : Nat) : Option (List D × S) → Option (D × S)
  | some (ds, s1) => kM2 f i ds s1 (recv s1 i)
  | none => none
@[simp] theorem kM1_s {f : EF} {i : Nat} : kM1 f i (some (ds, s)) = kM2 f i ds s (recv s i) := rfl
def kM0 (f : EF) (i : Nat) (ma : MA) (s : S) : Option D → Option (D × S)
  | some (.lst _) => kM1 f i (ma s)
  | _ => none
@[simp] theorem kM0_s {f : EF} {i : Nat} {ma : MA} : kM0 f i ma s (some (.lst ds)) = kM1 f i (ma s) := rfl
@[simp] theorem e_mMeth {f : EF} {i : Nat} {ma : MA} : mMeth f i ma s = kM0 f i ma s (recv s i) := by
  unfold mMeth; cases h : recv s i with
  | none => rfl
  | some d0 =>
    cases d0 <;> first | rfl | skip
    simp only [Option.bind_some, isL, if_true, kM0]
    rcases ma s with _ | ⟨ds, s1⟩
    · rfl
    · simp only [Option.bind_some, kM1]
      cases recv s1 i with
      | none => rfl
      | some d =>
        simp only [Option.bind_some, kM2]
        rcases f ds d with _ | ⟨d', r⟩ <;> rfl
@[simp] theorem e_mMethS {f : EF} {i : Nat} {ma : MA} : mMethS f i ma s = kDrop (kM0 f i ma s (recv s i)) := by
  rw [← e_mMeth]; unfold mMethS; rcases mMeth f i ma s with _ | ⟨d, s1⟩ <;> rfl
def kRc (sg : List D) : Option (Option Sl) → Option D
  | some (some (.own d)) => some d
  | some (some (.shr (.obj k))) => sg[k]?
  | _ => none
@[simp] theorem kRc_o : kRc sg (some (some (.own d))) = some d := rfl
@[simp] theorem kRc_k {k : Nat} : kRc sg (some (some (.shr (.obj k)))) = sg[k]? := rfl
@[simp] theorem e_recv {i : Nat} : recv ⟨ρ, sg⟩ i = kRc sg ρ[i]? := by
  unfold recv kRc; rfl
def kPut (s : S) (i : Nat) (d : D) : Option (Option Sl) → S
  | some (some (.shr (.obj k))) => ⟨s.ρ, s.sg.set k d⟩
  | _ => setS s i (.own d)
@[simp] theorem kPut_o {i : Nat} : kPut ⟨ρ, sg⟩ i d (some (some (.own e))) = ⟨ρ.set i (some (.own d)), sg⟩ := rfl
@[simp] theorem kPut_k {i k : Nat} : kPut ⟨ρ, sg⟩ i d (some (some (.shr (.obj k)))) = ⟨ρ, sg.set k d⟩ := rfl
@[simp] theorem e_putAt {i : Nat} : putAt ⟨ρ, sg⟩ i d = kPut ⟨ρ, sg⟩ i d ρ[i]? := by
  unfold putAt kPut; rfl
@[simp] theorem e_app : eApp [d] (.lst ds) = if ds.length < sizeLine then some (.lst (ds ++ [d]), .non) else none := rfl
@[simp] theorem e_pop : ePop [] (.lst ds) = (ds[ds.length - 1]?).bind fun z => some (.lst ds.dropLast, z) := rfl
@[simp] theorem e_pop0 : ePop0 [.int 0] (.lst (d :: ds)) = some (.lst ds, d) := rfl
def kSt3 (i : Nat) (s : S) : Option D → Option (Fl × S)
  | some d' => some (.nx, putAt s i d')
  | none => none
@[simp] theorem kSt3_s {i : Nat} : kSt3 i s (some d) = some (.nx, putAt s i d) := rfl
def kSt2 (i : Nat) (k : Int) (z : D) (s : S) : Option D → Option (Fl × S)
  | some d => kSt3 i s (eSet k z d)
  | none => none
@[simp] theorem kSt2_s {i : Nat} {k : Int} {z : D} : kSt2 i k z s (some d) = kSt3 i s (eSet k z d) := rfl
def kSt1 (i : Nat) (z : D) : Option (D × S) → Option (Fl × S)
  | some (.int k, s2) => kSt2 i k z s2 (recv s2 i)
  | _ => none
@[simp] theorem kSt1_s {i : Nat} {k : Int} {z : D} : kSt1 i z (some (.int k, s)) = kSt2 i k z s (recv s i) := rfl
def kSt0b (i : Nat) (mi : ME) (z : D) (s : S) : Option D → Option (Fl × S)
  | some _ => kSt1 i z (mi s)
  | none => none
@[simp] theorem kSt0b_s {i : Nat} {mi : ME} {z : D} : kSt0b i mi z s (some d) = kSt1 i z (mi s) := rfl
def kSt0 (i : Nat) (mi : ME) : Option (D × S) → Option (Fl × S)
  | some (z, s1) => kSt0b i mi z s1 (recv s1 i)
  | none => none
@[simp] theorem kSt0_s {i : Nat} {mi : ME} : kSt0 i mi (some (d, s)) = kSt0b i mi d s (recv s i) := rfl
@[simp] theorem e_mStore {i : Nat} {mi me : ME} : mStore i mi me s = kSt0 i mi (me s) := by
  unfold mStore; rcases me s with _ | ⟨z, s1⟩
  · rfl
  · simp only [Option.bind_some, kSt0]
    cases recv s1 i with
    | none => rfl
    | some d0 =>
      simp only [Option.bind_some, kSt0b]
      rcases mi s1 with _ | ⟨k, s2⟩
      · rfl
      · cases k <;> first | rfl | skip
        simp only [Option.bind_some, kSt1]
        cases recv s2 i with
        | none => rfl
        | some d =>
          simp only [Option.bind_some, kSt2]
          rename_i k
          cases eSet k z d <;> rfl
def kAug (f : F2) (i : Nat) (d : D) : Option (D × S) → Option (Fl × S)
  | some (e, s) => kSet i (kR (f s.sg d e) s)
  | none => none
@[simp] theorem kAug_s {f : F2} {i : Nat} : kAug f i d (some (e, ⟨ρ, sg⟩)) = kSet i (kR (f sg d e) ⟨ρ, sg⟩) := rfl
def kAug0 (f : F2) (i : Nat) (me : ME) (s : S) : Option (Option Sl) → Option (Fl × S)
  | some (some (.shr d)) => kAug f i d (me s)
  | _ => none
@[simp] theorem kAug0_s {f : F2} {i : Nat} {me : ME} : kAug0 f i me s (some (some (.shr d))) = kAug f i d (me s) := rfl
@[simp] theorem e_mAug {f : F2} {i : Nat} {me : ME} : mAug f i me ⟨ρ, sg⟩ = kAug0 f i me ⟨ρ, sg⟩ ρ[i]? := by
  unfold mAug kAug0
  simp only
  generalize ρ[i]? = q
  rcases q with _ | _ | z
  · rfl
  · rfl
  · cases z with
    | own d => rfl
    | shr d =>
      simp only
      rcases me ⟨ρ, sg⟩ with _ | ⟨e, s1⟩
      · rfl
      · simp only [Option.bind_some, kAug]
        cases f s1.sg d e <;> rfl
def kEnd : Option (Fl × S) → Option (D × List D)
  | some (.nx, s) => some (.non, s.sg)
  | some (.rt d, s) => some (d, s.sg)
  | _ => none
@[simp] theorem kEnd_nx : kEnd (some (.nx, ⟨ρ, sg⟩)) = some (.non, sg) := rfl
@[simp] theorem kEnd_rt : kEnd (some (.rt d, ⟨ρ, sg⟩)) = some (d, sg) := rfl
theorem e_runF {n N : Nat} {m : MS} : runF n N m ds sg = if ds.length = n then kEnd (m ⟨ds.map (fun d => some (.shr d)) ++ List.replicate (N - ds.length) none, sg⟩) else none := by
  unfold runF initS
  split
  · generalize m ⟨ds.map (fun d => some (.shr d)) ++ List.replicate (N - ds.length) none, sg⟩ = r
    rcases r with _ | ⟨f, s1⟩
    · rfl
    · cases f <;> rfl
  · rfl
@[simp] theorem e_mtYes : mtYes s = some (true, s) := rfl
def kOb : Option (D × S) → Option (D × S)
  | some (.lst ds, s) => some (.obj s.sg.length, ⟨s.ρ, s.sg ++ [.lst ds]⟩)
  | some (.dK ds, s) => some (.obj s.sg.length, ⟨s.ρ, s.sg ++ [.dK ds]⟩)
  | some (.dT ds, s) => some (.obj s.sg.length, ⟨s.ρ, s.sg ++ [.dT ds]⟩)
  | _ => none
@[simp] theorem kOb_l : kOb (some (.lst ds, ⟨ρ, sg⟩)) = some (.obj sg.length, ⟨ρ, sg ++ [.lst ds]⟩) := rfl
@[simp] theorem e_mObj {m : ME} : mObj m s = kOb (m s) := by
  unfold mObj; rcases m s with _ | ⟨d, s1⟩
  · rfl
  · cases d <;> rfl
/-! slices -/
def kO : Option (D × S) → Option (Option Int × S)
  | some (.int i, s) => some (some i, s)
  | _ => none
@[simp] theorem kO_s {i : Int} : kO (some (.int i, s)) = some (some i, s) := rfl
@[simp] theorem e_mO0 : mO0 s = some (none, s) := rfl
@[simp] theorem e_mO1 {m : ME} : mO1 m s = kO (m s) := by
  unfold mO1; rcases m s with _ | ⟨d, s1⟩
  · rfl
  · cases d <;> rfl
def kSl3 (d : D) (lo : Option Int) : Option (Option Int × S) → Option (D × S)
  | some (hi, s) => kR (fSl (der s.sg d) lo hi) s
  | none => none
@[simp] theorem kSl3_s {lo hi : Option Int} : kSl3 d lo (some (hi, ⟨ρ, sg⟩)) = kR (fSl (der sg d) lo hi) ⟨ρ, sg⟩ := rfl
def kSl2 (mh : MO) (d : D) : Option (Option Int × S) → Option (D × S)
  | some (lo, s) => kSl3 d lo (mh s)
  | none => none
@[simp] theorem kSl2_s {mh : MO} {lo : Option Int} : kSl2 mh d (some (lo, s)) = kSl3 d lo (mh s) := rfl
def kSl1 (ml mh : MO) : Option (D × S) → Option (D × S)
  | some (d, s) => kSl2 mh d (ml s)
  | none => none
@[simp] theorem kSl1_s {ml mh : MO} : kSl1 ml mh (some (d, s)) = kSl2 mh d (ml s) := rfl
@[simp] theorem e_mSl {m : ME} {ml mh : MO} : mSl m ml mh s = kSl1 ml mh (m s) := by
  unfold mSl; rcases m s with _ | ⟨d, s1⟩
  · rfl
  · simp only [Option.bind_some, kSl1]; rcases ml s1 with _ | ⟨lo, s2⟩
    · rfl
    · simp only [Option.bind_some, kSl2]; rcases mh s2 with _ | ⟨hi, s3⟩
      · rfl
      · simp only [Option.bind_some, kSl3]; cases fSl (der s3.sg d) lo hi <;> rfl
end
/-! ### values -/
section
variable {sg : List D} {xs ys : List D} {i j : Int}
@[simp] theorem der_i : der sg (.int i) = .int i := rfl
@[simp] theorem der_b {b : Bool} : der sg (.bl b) = .bl b := rfl
@[simp] theorem der_n : der sg .non = .non := rfl
@[simp] theorem der_t : der sg (.tup xs) = .tup xs := rfl
@[simp] theorem der_l : der sg (.lst xs) = .lst xs := rfl
@[simp] theorem der_c : der sg (.scr xs) = .scr xs := rfl
@[simp] theorem der_y {x : String} : der sg (.ty x) = .ty x := rfl
@[simp] theorem der_o {k : Nat} : der sg (.obj k) = (sg[k]?).getD .non := List.getD_eq_getElem?_getD
@[simp] theorem truth_i : truth (.int i) = some (i != 0) := rfl
@[simp] theorem truth_b {b : Bool} : truth (.bl b) = some b := rfl
@[simp] theorem truth_n : truth .non = some false := rfl
@[simp] theorem truth_l : truth (.lst xs) = some (!xs.isEmpty) := rfl
@[simp] theorem truth_t : truth (.tup xs) = some (!xs.isEmpty) := rfl
@[simp] theorem truth_c : truth (.scr xs) = some (!xs.isEmpty) := rfl
@[simp] theorem add_i : fAdd sg (.int i) (.int j) = some (.int (i + j)) := rfl
@[simp] theorem add_l : fAdd sg (.lst xs) (.lst ys) = if xs.length + ys.length ≤ sizeLine then some (.lst (xs ++ ys)) else none := rfl
@[simp] theorem add_t : fAdd sg (.tup xs) (.tup ys) = if xs.length + ys.length ≤ sizeLine then some (.tup (xs ++ ys)) else none := rfl
@[simp] theorem sub_i : fSub sg (.int i) (.int j) = some (.int (i - j)) := rfl
@[simp] theorem neg_i : fNeg sg (.int i) = some (.int (-i)) := rfl
theorem mul_i (h : mulOk i j = true) : fMul sg (.int i) (.int j) = some (.int (i * j)) := by unfold fMul; simp only [h, if_true]
theorem mulOk_l (h : i.natAbs < 2 ^ 64) : mulOk i j = true := by unfold mulOk; simp [h]
theorem mulOk_r (h : j.natAbs < 2 ^ 64) : mulOk i j = true := by unfold mulOk; simp [h]
@[simp] theorem div_i (h : divOk j = true) : fDiv sg (.int i) (.int j) = some (.int (i / j)) := by unfold fDiv; simp only [h, if_true]
theorem divOk_of (h : 0 < j) (h' : j < 2 ^ 64) : divOk j = true := by
  unfold divOk
  rw [Bool.and_eq_true, decide_eq_true_eq, decide_eq_true_eq]
  refine ⟨h, ?_⟩
  by_cases hz : j.natAbs = 0
  · omega
  · have : j.natAbs < 2 ^ 9000 := Nat.lt_of_lt_of_le (m := 2 ^ 64) (by omega) (Nat.pow_le_pow_right (by decide) (by decide))
    exact (Nat.log2_lt hz).mpr this
@[simp] theorem mod_i (h : 0 < j) : fMod sg (.int i) (.int j) = some (.int (i % j)) := by unfold fMod; simp only [h, if_true]
@[simp] theorem cmp_i {p : Int → Int → Bool} : cmpI p sg (.int i) (.int j) = some (.bl (p i j)) := rfl
@[simp] theorem e_pLt : pLt i j = decide (i < j) := rfl
@[simp] theorem e_pLe : pLe i j = decide (i ≤ j) := rfl
@[simp] theorem e_pGt : pGt i j = decide (j < i) := rfl
@[simp] theorem e_pGe : pGe i j = decide (j ≤ i) := rfl
@[simp] theorem ix_l : fIx sg (.lst xs) (.int i) = atD xs i := rfl
@[simp] theorem ix_t : fIx sg (.tup xs) (.int i) = atD xs i := rfl
@[simp] theorem ix_c : fIx sg (.scr xs) (.int i) = atD xs i := rfl
@[simp] theorem ix_ob {k : Nat} {e : D} : fIx sg (.obj k) e = fIx [] ((sg[k]?).getD .non) e := by
  unfold fIx
  rw [der_o]
  cases (sg[k]?).getD .non <;> rfl
@[simp] theorem len_ob {k : Nat} : fLen sg [.obj k] = fLen [] [(sg[k]?).getD .non] := by
  unfold fLen
  simp only [der_o]
  cases (sg[k]?).getD .non <;> rfl
theorem ix_o {k : Nat} (h : sg[k]? = some (.lst xs)) : fIx sg (.obj k) (.int i) = atD xs i := by
  unfold fIx; simp [h]
theorem at_nn (h : 0 ≤ i) : atD xs i = xs[i.toNat]? := by
  unfold atD ixN
  simp only [h, if_true]
  by_cases hl : i < xs.length
  · simp [hl]
  · simp only [hl, if_false, Option.bind_none]
    rw [List.getElem?_eq_none (by omega)]
@[simp] theorem at_nat {n : Nat} : atD xs (n : Int) = xs[n]? := by rw [at_nn (by omega)]; rfl
@[simp] theorem at_0 : atD xs 0 = xs[0]? := at_nn (by decide)
@[simp] theorem at_1 : atD xs 1 = xs[1]? := at_nn (by decide)
@[simp] theorem at_2 : atD xs 2 = xs[2]? := at_nn (by decide)
@[simp] theorem at_3 : atD xs 3 = xs[3]? := at_nn (by decide)
theorem at_m1 : atD xs (-1) = xs.getLast? := by
  unfold atD ixN
  simp only [show ¬ (0 : Int) ≤ -1 by decide, if_false]
  rw [List.getLast?_eq_getElem?]
  by_cases hl : -(xs.length : Int) ≤ -1
  · simp only [hl, if_true, Option.bind_some]
    congr 1
    omega
  · simp only [hl, if_false, Option.bind_none]
    rw [List.getElem?_eq_none (by omega)]
@[simp] theorem isN_n {b : Bool} : fIsN b sg .non = some (.bl (!b)) := rfl
@[simp] theorem isN_t {b : Bool} : fIsN b sg (.tup xs) = some (.bl b) := rfl
@[simp] theorem isN_l {b : Bool} : fIsN b sg (.lst xs) = some (.bl b) := rfl
@[simp] theorem isN_i {b : Bool} : fIsN b sg (.int i) = some (.bl b) := rfl
@[simp] theorem isN_b {b c : Bool} : fIsN b sg (.bl c) = some (.bl b) := rfl
@[simp] theorem len_l : fLen sg [.lst xs] = some (.int xs.length) := rfl
@[simp] theorem len_t : fLen sg [.tup xs] = some (.int xs.length) := rfl
@[simp] theorem len_c : fLen sg [.scr xs] = some (.int xs.length) := rfl
@[simp] theorem int_i : fInt sg [.int i] = some (.int i) := rfl
@[simp] theorem max_ii : fMax sg [.int i, .int j] = some (.int (max i j)) := by
  show some (D.int (if j > i then j else i)) = _
  congr 2; rw [Int.max_def]; split <;> split <;> omega
@[simp] theorem min_ii : fMin sg [.int i, .int j] = some (.int (min i j)) := by
  show some (D.int (if j < i then j else i)) = _
  congr 2; rw [Int.min_def]; split <;> split <;> omega
@[simp] theorem intsD_mapK (ns : List Int) : intsD (ns.map D.int) = some ns := by
  induction ns with
  | nil => rfl
  | cons n ns ih => simp [intsD, ih]
@[simp] theorem sum_l {ns : List Int} : fSum sg [.lst (ns.map D.int)] = some (.int ns.sum) := by
  show (intsD _).bind _ = _; rw [intsD_mapK]; rfl
@[simp] theorem sum_t {ns : List Int} : fSum sg [.tup (ns.map D.int)] = some (.int ns.sum) := by
  show (intsD _).bind _ = _; rw [intsD_mapK]; rfl
@[simp] theorem tuple_l : fTuple sg [.lst xs] = some (.tup xs) := rfl
@[simp] theorem tuple_t : fTuple sg [.tup xs] = some (.tup xs) := rfl
@[simp] theorem list_l : fList sg [.lst xs] = some (.lst xs) := rfl
@[simp] theorem list_t : fList sg [.tup xs] = some (.lst xs) := rfl
@[simp] theorem list_c : fList sg [.scr xs] = some (.lst xs) := rfl
end
/-! ### plain data -/
@[simp] theorem rangeD_len {lo c : Int} {n : Nat} : (rangeD lo c n).length = n := by simp [rangeD]
theorem rangeD_get {lo c : Int} {n i : Nat} (h : i < n) : (rangeD lo c n)[i]? = some (.int (lo + i * c)) := by
  simp [rangeD, h]
theorem pls_mono {n : Nat} {xs : List D} : pls n xs = true ↔ ∀ d ∈ xs, D.pl n d = true := by
  induction xs with
  | nil => simp [pls]
  | cons d ds ih => simp [pls, ih]
@[simp] theorem pl_int {n : Nat} {i : Int} : D.pl n (.int i) = true := by cases n <;> simp [D.pl]
@[simp] theorem pl_bl {n : Nat} {i : Bool} : D.pl n (.bl i) = true := by cases n <;> simp [D.pl]
@[simp] theorem pl_non {n : Nat} : D.pl n .non = true := by cases n <;> simp [D.pl]
@[simp] theorem pl_tup {n : Nat} {xs : List D} : D.pl (n + 1) (.tup xs) = pls n xs := by simp [D.pl]
@[simp] theorem pl_lst {n : Nat} {xs : List D} : D.pl (n + 1) (.lst xs) = pls n xs := by simp [D.pl]
@[simp] theorem pl_scr {n : Nat} {xs : List D} : D.pl (n + 1) (.scr xs) = pls n xs := by simp [D.pl]
@[simp] theorem pls_ints {n : Nat} {ns : List Int} : pls n (ns.map D.int) = true := by
  rw [pls_mono]; intro d h; obtain ⟨i, _, rfl⟩ := List.mem_map.mp h; exact pl_int
section
variable {sg : List D} {i j : Int} {a b : Bool}
@[simp] theorem eqD_i : eqD (.int i) (.int j) = decide (i = j) := by
  show PyData.eqv (.int i) (.int j) = _
  simp [PyData.eqv]
  try rfl
@[simp] theorem eq_i : fEq sg (.int i) (.int j) = some (.bl (decide (i = j))) := by
  unfold fEq; simp
@[simp] theorem ne_i : fNe sg (.int i) (.int j) = some (.bl (!decide (i = j))) := by
  unfold fNe; simp
@[simp] theorem eqD_b : eqD (.bl a) (.bl b) = (a == b) := by
  show PyData.eqv (.bool a) (.bool b) = _
  simp [PyData.eqv]
  try rfl
@[simp] theorem eq_b : fEq sg (.bl a) (.bl b) = some (.bl (a == b)) := by
  unfold fEq; simp
@[simp] theorem ne_b : fNe sg (.bl a) (.bl b) = some (.bl (!(a == b))) := by
  unfold fNe; simp
end
section
variable {sg : List D} {i : Int} {b : Bool} {xs : List D} {x : Str}
@[simp] theorem isi_n_list : fIsi sg [.non, .ty "list"] = some (.bl false) := rfl
@[simp] theorem isi_n_tuple : fIsi sg [.non, .ty "tuple"] = some (.bl false) := rfl
@[simp] theorem isi_n_str : fIsi sg [.non, .ty "str"] = some (.bl false) := rfl
@[simp] theorem isi_n_bool : fIsi sg [.non, .ty "bool"] = some (.bl false) := rfl
@[simp] theorem isi_n_int : fIsi sg [.non, .ty "int"] = some (.bl false) := rfl
@[simp] theorem isi_b_list : fIsi sg [.bl b, .ty "list"] = some (.bl false) := rfl
@[simp] theorem isi_b_tuple : fIsi sg [.bl b, .ty "tuple"] = some (.bl false) := rfl
@[simp] theorem isi_b_str : fIsi sg [.bl b, .ty "str"] = some (.bl false) := rfl
@[simp] theorem isi_b_bool : fIsi sg [.bl b, .ty "bool"] = some (.bl true) := rfl
@[simp] theorem isi_b_int : fIsi sg [.bl b, .ty "int"] = some (.bl true) := rfl
@[simp] theorem isi_i_list : fIsi sg [.int i, .ty "list"] = some (.bl false) := rfl
@[simp] theorem isi_i_tuple : fIsi sg [.int i, .ty "tuple"] = some (.bl false) := rfl
@[simp] theorem isi_i_str : fIsi sg [.int i, .ty "str"] = some (.bl false) := rfl
@[simp] theorem isi_i_bool : fIsi sg [.int i, .ty "bool"] = some (.bl false) := rfl
@[simp] theorem isi_i_int : fIsi sg [.int i, .ty "int"] = some (.bl true) := rfl
@[simp] theorem isi_t_list : fIsi sg [.tup xs, .ty "list"] = some (.bl false) := rfl
@[simp] theorem isi_t_tuple : fIsi sg [.tup xs, .ty "tuple"] = some (.bl true) := rfl
@[simp] theorem isi_t_str : fIsi sg [.tup xs, .ty "str"] = some (.bl false) := rfl
@[simp] theorem isi_t_bool : fIsi sg [.tup xs, .ty "bool"] = some (.bl false) := rfl
@[simp] theorem isi_t_int : fIsi sg [.tup xs, .ty "int"] = some (.bl false) := rfl
@[simp] theorem isi_l_list : fIsi sg [.lst xs, .ty "list"] = some (.bl true) := rfl
@[simp] theorem isi_l_tuple : fIsi sg [.lst xs, .ty "tuple"] = some (.bl false) := rfl
@[simp] theorem isi_l_str : fIsi sg [.lst xs, .ty "str"] = some (.bl false) := rfl
@[simp] theorem isi_l_bool : fIsi sg [.lst xs, .ty "bool"] = some (.bl false) := rfl
@[simp] theorem isi_l_int : fIsi sg [.lst xs, .ty "int"] = some (.bl false) := rfl
theorem fmap_no {α β : Type} (l : List α) : l.filterMap (fun _ => (none : Option β)) = [] := by
  induction l with
  | nil => rfl
  | cons a l ih => simp [ih]
end
end Vl
namespace Vl
open PySem PySem.Spec PyProof.Rows L2

/-! ### loops -/
def kFb (mb : MS) : Option S → Option (Fl × S)
  | some s => mb s
  | none => none
@[simp] theorem kFb_s {mb : MS} {s : S} : kFb mb (some s) = mb s := rfl
def stepF (mg : MG) (mb : MS) (d : D) (s : S) : Option (Fl × S) := kFb mb (mg d s)
def NextF (I : S → Prop) (Q : Fl → S → Prop) : Fl → S → Prop
  | .nx, s => I s
  | .ct, s => I s
  | .bk, s => Q .nx s
  | .rt d, s => Q (.rt d) s
@[simp] theorem nextF_nx {I : S → Prop} {Q : Fl → S → Prop} {s : S} : NextF I Q .nx s = I s := rfl
@[simp] theorem nextF_ct {I : S → Prop} {Q : Fl → S → Prop} {s : S} : NextF I Q .ct s = I s := rfl
@[simp] theorem nextF_bk {I : S → Prop} {Q : Fl → S → Prop} {s : S} : NextF I Q .bk s = Q .nx s := rfl
@[simp] theorem nextF_rt {I : S → Prop} {Q : Fl → S → Prop} {s : S} {d : D} : NextF I Q (.rt d) s = Q (.rt d) s := rfl
theorem loopF_gen0 {mg : MG} {mb : MS} (I : Nat → S → Prop) (Q : Fl → S → Prop) : ∀ (ds : List D) (k : Nat) (s : S), I k s →
    (∀ i d s, ds[i]? = some d → I (k + i) s → ∃ f s', stepF mg mb d s = some (f, s') ∧ NextF (I (k + i + 1)) Q f s') →
    (∀ s, I (k + ds.length) s → Q .nx s) → ∃ f s', loopF mg mb ds s = some (f, s') ∧ Q f s'
  | [], k, s, h0, _, he => ⟨.nx, s, rfl, he s h0⟩
  | d :: ds, k, s, h0, h, he => by
    obtain ⟨f, s', e, n⟩ := h 0 d s rfl h0
    unfold stepF kFb at e
    unfold loopF
    cases e1 : mg d s with
    | none => rw [e1] at e; cases e
    | some s1 =>
      rw [e1] at e
      have e : mb s1 = some (f, s') := e
      simp only [Option.bind_some, e]
      have go : I (k + 1) s' → ∃ f s'_1, loopF mg mb ds s' = some (f, s'_1) ∧ Q f s'_1 := fun h1 =>
        loopF_gen0 I Q ds (k + 1) s' h1 (fun i d s hd hi => by
          have := h (i + 1) d s (by simpa using hd) (by rw [show k + (i + 1) = k + 1 + i by omega]; exact hi)
          rw [show k + (i + 1) = k + 1 + i by omega] at this
          exact this) (fun s hs => he s (by rw [List.length_cons, show k + (ds.length + 1) = k + 1 + ds.length by omega]; exact hs))
      cases f with
      | nx => exact go n
      | ct => exact go n
      | bk => exact ⟨_, _, rfl, n⟩
      | rt d => exact ⟨_, _, rfl, n⟩
theorem loopF_gen {mg : MG} {mb : MS} {ds : List D} {s : S} (I : Nat → S → Prop) (Q : Fl → S → Prop) (h0 : I 0 s)
    (h : ∀ i d s, ds[i]? = some d → I i s → ∃ f s', stepF mg mb d s = some (f, s') ∧ NextF (I (i + 1)) Q f s')
    (he : ∀ s, I ds.length s → Q .nx s) : ∃ f s', loopF mg mb ds s = some (f, s') ∧ Q f s' :=
  loopF_gen0 I Q ds 0 s h0 (fun i d s hd hi => by rw [Nat.zero_add] at hi ⊢; exact h i d s hd hi) (fun s hs => he s (by rwa [Nat.zero_add] at hs))
/-- a loop that always goes on, over what is known at every turn -/
theorem loopF_det {mg : MG} {mb : MS} {ds : List D} (st : Nat → S) (h : ∀ i d, ds[i]? = some d → stepF mg mb d (st i) = some (.nx, st (i + 1)) ∨ stepF mg mb d (st i) = some (.ct, st (i + 1))) :
    loopF mg mb ds (st 0) = some (.nx, st ds.length) := by
  obtain ⟨f, s', e, q⟩ := loopF_gen (mg := mg) (mb := mb) (ds := ds) (s := st 0) (fun i s => s = st i) (fun f s => f = .nx ∧ s = st ds.length) rfl
    (fun i d s hd hs => by
      subst hs
      rcases h i d hd with h | h
      · exact ⟨_, _, h, rfl⟩
      · exact ⟨_, _, h, rfl⟩) (fun s hs => ⟨rfl, hs⟩)
  rw [e, q.1, q.2]
theorem loopW_gen {mc : MT} {mb : MS} (I : Nat → S → Prop) (Q : Fl → S → Prop)
    (h : ∀ n s, I n s → ∃ c s1, mc s = some (c, s1) ∧ if c = true then ∃ f s2, mb s1 = some (f, s2) ∧ NextF (fun s => ∃ m, m < n ∧ I m s) Q f s2 else Q .nx s1) :
    ∀ (N n : Nat) (s : S), n < N → I n s → ∃ f s', loopW mc mb N s = some (f, s') ∧ Q f s'
  | 0, n, s, hn, _ => absurd hn (by omega)
  | N + 1, n, s, hn, hi => by
    obtain ⟨c, s1, e, q⟩ := h n s hi
    unfold loopW
    rw [e]
    cases c with
    | false => exact ⟨_, _, rfl, q⟩
    | true =>
      simp only [if_true] at q
      obtain ⟨f, s2, e2, q⟩ := q
      simp only [Option.bind_some, if_true, e2]
      cases f with
      | nx => obtain ⟨m, hm, q⟩ := q; exact loopW_gen I Q h N m s2 (by omega) q
      | ct => obtain ⟨m, hm, q⟩ := q; exact loopW_gen I Q h N m s2 (by omega) q
      | bk => exact ⟨_, _, rfl, q⟩
      | rt d => exact ⟨_, _, rfl, q⟩

/-! ### comprehensions -/
def kC2 : Option (D × S) → Option (Option D × S)
  | some (z, s) => some (some z, s)
  | none => none
@[simp] theorem kC2_s {z : D} {s : S} : kC2 (some (z, s)) = some (some z, s) := rfl
def kC1 (me : ME) : Option (Bool × S) → Option (Option D × S)
  | some (true, s) => kC2 (me s)
  | some (false, s) => some (none, s)
  | none => none
@[simp] theorem kC1_s {me : ME} {c : Bool} {s : S} : kC1 me (some (c, s)) = if c = true then kC2 (me s) else some (none, s) := by cases c <;> rfl
def kC0 (mt : MT) (me : ME) : Option S → Option (Option D × S)
  | some s => kC1 me (mt s)
  | none => none
@[simp] theorem kC0_s {mt : MT} {me : ME} {s : S} : kC0 mt me (some s) = kC1 me (mt s) := rfl
def stepC (mg : MG) (mt : MT) (me : ME) (d : D) (s : S) : Option (Option D × S) := kC0 mt me (mg d s)
section
variable {vs : List Nat} {mi : MI} {mg : MG} {mt : MT} {me : ME} {s s1 : S} {ds : List D}
theorem loopC_cons {d : D} {acc : List D} : loopC vs mg mt me (d :: ds) s acc = (stepC mg mt me d (wipeS vs s)).bind fun (o, s3) => match o with
    | some z => if acc.length < sizeLine then loopC vs mg mt me ds s3 (acc ++ [z]) else none
    | none => loopC vs mg mt me ds s3 acc := by
  unfold stepC
  rw [loopC]
  cases mg d (wipeS vs s) with
  | none => rfl
  | some s1 =>
    simp only [Option.bind_some, kC0]
    rcases mt s1 with _ | ⟨c, s2⟩
    · rfl
    · cases c with
      | false => rfl
      | true =>
        simp only [Option.bind_some, if_true, kC1]
        rcases me s2 with _ | ⟨z, s3⟩ <;> rfl
theorem wipeR_len {ρ : List (Option Sl)} : ∀ {vs : List Nat}, (wipeR vs ρ).length = ρ.length
  | [] => rfl
  | v :: vs => by rw [wipeR, List.length_set, wipeR_len]
theorem backR_len {ρ0 ρ : List (Option Sl)} : ∀ {vs : List Nat}, (backR ρ0 vs ρ).length = ρ.length
  | [] => rfl
  | v :: vs => by rw [backR, List.length_set, backR_len]
theorem wipeR_in {ρ : List (Option Sl)} {j : Nat} : ∀ {vs : List Nat}, j ∉ vs → (wipeR vs ρ)[j]? = ρ[j]?
  | [], _ => rfl
  | v :: vs, h => by
    rw [wipeR, List.getElem?_set_ne (fun e => h (by simp [e])), wipeR_in (fun q => h (List.mem_cons_of_mem _ q))]
theorem backR_out {ρ0 ρ : List (Option Sl)} {j : Nat} : ∀ {vs : List Nat}, j ∉ vs → (backR ρ0 vs ρ)[j]? = ρ[j]?
  | [], _ => rfl
  | v :: vs, h => by
    rw [backR, List.getElem?_set_ne (fun e => h (by simp [e])), backR_out (fun q => h (List.mem_cons_of_mem _ q))]
theorem backR_in {ρ0 ρ : List (Option Sl)} {j : Nat} (hl : j < ρ.length) (h0 : ρ0.length = ρ.length) : ∀ {vs : List Nat}, j ∈ vs → (backR ρ0 vs ρ)[j]? = ρ0[j]?
  | v :: vs, h => by
    rw [backR]
    by_cases e : v = j
    · subst e
      rw [List.getElem?_set_self (by rw [backR_len]; exact hl), List.getElem?_eq_getElem (by omega), List.getD_eq_getElem?_getD, List.getElem?_eq_getElem (by omega)]
      rfl
    · rw [List.getElem?_set_ne e, backR_in hl h0 (by simpa [Ne.symm e] using h)]
theorem back_wipe {ρ0 ρ : List (Option Sl)} (h : wipeR vs ρ = wipeR vs ρ0) : backR ρ0 vs ρ = ρ0 := by
  have hl : ρ0.length = ρ.length := by rw [← wipeR_len (vs := vs), ← h, wipeR_len]
  apply List.ext_getElem?
  intro j
  by_cases hj : j ∈ vs
  · by_cases hlt : j < ρ.length
    · exact backR_in hlt hl hj
    · rw [List.getElem?_eq_none (by rw [backR_len]; omega), List.getElem?_eq_none (by omega)]
  · rw [backR_out hj, ← wipeR_in (vs := vs) hj, h, wipeR_in hj]
theorem loopC_gen0 (wρ : List (Option Sl)) (I : Nat → List D → List D → Prop) : ∀ (ds : List D) (k : Nat) (s : S) (acc : List D), wipeR vs s.ρ = wρ → I k acc s.sg → acc.length + ds.length ≤ sizeLine →
    (∀ i d sg acc, ds[i]? = some d → I (k + i) acc sg → ∃ o s', stepC mg mt me d ⟨wρ, sg⟩ = some (o, s') ∧ wipeR vs s'.ρ = wρ ∧ I (k + i + 1) (acc ++ o.toList) s'.sg) →
    ∃ acc' s', loopC vs mg mt me ds s acc = some (acc', s') ∧ wipeR vs s'.ρ = wρ ∧ I (k + ds.length) acc' s'.sg
  | [], k, s, acc, hw, h0, _, _ => ⟨acc, s, rfl, hw, h0⟩
  | d :: ds, k, s, acc, hw, h0, hl, h => by
    obtain ⟨o, s', e, hw', q⟩ := h 0 d s.sg acc rfl h0
    rw [List.length_cons] at hl
    rw [loopC_cons, show wipeS vs s = ⟨wρ, s.sg⟩ by unfold wipeS; rw [hw], e, Option.bind_some]
    have go : ∀ acc1, I (k + 1) acc1 s'.sg → acc1.length + ds.length ≤ sizeLine → ∃ acc' s'', loopC vs mg mt me ds s' acc1 = some (acc', s'') ∧ wipeR vs s''.ρ = wρ ∧ I (k + (d :: ds).length) acc' s''.sg := fun acc1 h1 hl1 => by
      have := loopC_gen0 wρ I ds (k + 1) s' acc1 hw' h1 hl1 (fun i d sg acc hd hi => by
        have := h (i + 1) d sg acc (by simpa using hd) (by rw [show k + (i + 1) = k + 1 + i by omega]; exact hi)
        rw [show k + (i + 1) = k + 1 + i by omega] at this
        exact this)
      rw [List.length_cons, show k + (ds.length + 1) = k + 1 + ds.length by omega]
      exact this
    cases o with
    | none => exact go acc (by simpa using q) (by omega)
    | some z =>
      simp only
      rw [if_pos (by omega)]
      exact go _ q (by simp only [List.length_append, List.length_singleton]; omega)
/-- a comprehension that draws -/
theorem mLc_gen (I : Nat → List D → List D → Prop) (hi : mi s = some (ds, s1)) (hl : ds.length ≤ sizeLine) (h0 : I 0 [] s1.sg)
    (h : ∀ i d sg acc, ds[i]? = some d → I i acc sg → ∃ o s', stepC mg mt me d ⟨wipeR vs s1.ρ, sg⟩ = some (o, s') ∧ wipeR vs s'.ρ = wipeR vs s1.ρ ∧ I (i + 1) (acc ++ o.toList) s'.sg) :
    ∃ acc sg, mLc vs mi mg mt me s = some (.lst acc, ⟨s1.ρ, sg⟩) ∧ I ds.length acc sg := by
  obtain ⟨acc, s', e, hw, q⟩ := loopC_gen0 (vs := vs) (mg := mg) (mt := mt) (me := me) (wipeR vs s1.ρ) I ds 0 s1 [] rfl h0 (by simpa using hl) (fun i d sg acc hd hi => by
    rw [Nat.zero_add] at hi ⊢; exact h i d sg acc hd hi)
  refine ⟨acc, s'.sg, ?_, by rwa [Nat.zero_add] at q⟩
  unfold mLc
  rw [hi, Option.bind_some]
  simp only [e, Option.bind_some]
  rw [back_wipe hw]
/-- a comprehension that changes nothing -/
theorem mLc_pure (g : D → Option D) (hi : mi s = some (ds, s1)) (hl : ds.length ≤ sizeLine)
    (h : ∀ d ∈ ds, ∃ s', stepC mg mt me d ⟨wipeR vs s1.ρ, s1.sg⟩ = some (g d, s') ∧ wipeR vs s'.ρ = wipeR vs s1.ρ ∧ s'.sg = s1.sg) :
    mLc vs mi mg mt me s = some (.lst (ds.filterMap g), s1) := by
  obtain ⟨acc, sg, e, q⟩ := mLc_gen (vs := vs) (mg := mg) (mt := mt) (me := me) (fun i acc sg => acc = (ds.take i).filterMap g ∧ sg = s1.sg) hi hl (by simp) (fun i d sg acc hd hi => by
    obtain ⟨ha, hs⟩ := hi
    subst hs
    obtain ⟨s', e, hw, hs⟩ := h d (List.mem_of_getElem? hd)
    refine ⟨g d, s', e, hw, ?_, hs⟩
    rw [ha, List.take_add_one, hd, Option.toList_some, List.filterMap_append]
    cases hg : g d <;> simp [hg])
  rw [e, q.1, q.2, List.take_length]
end
end Vl
namespace Vl
open PySem PySem.Spec PyProof.Rows L2

/-! ### what is wanted of an outcome -/
def wp {α β : Type} (r : Option (α × β)) (Q : α → β → Prop) : Prop := match r with
  | some (a, s) => Q a s
  | none => False
section
variable {α β α' β' : Type}
@[simp] theorem wp_s {a : α} {s : β} {Q : α → β → Prop} : wp (some (a, s)) Q ↔ Q a s := Iff.rfl
@[simp] theorem wp_n {Q : α → β → Prop} : wp none Q ↔ False := Iff.rfl
theorem wp_k {k : Option (α × β) → Option (α' × β')} {r : Option (α × β)} {Q : α' → β' → Prop} (hk : k none = none) (h : wp r fun a s => wp (k (some (a, s))) Q) : wp (k r) Q := by
  rcases r with _ | ⟨a, s⟩
  · exact h.elim
  · exact h
theorem wp_e {r : Option (α × β)} {Q : α → β → Prop} (h : wp r Q) : ∃ a s, r = some (a, s) ∧ Q a s := by
  rcases r with _ | ⟨a, s⟩
  · exact h.elim
  · exact ⟨a, s, rfl, h⟩
theorem wp_i {r : Option (α × β)} {Q : α → β → Prop} (h : ∃ a s, r = some (a, s) ∧ Q a s) : wp r Q := by
  obtain ⟨a, s, rfl, h⟩ := h
  exact h
theorem wp_m {r : Option (α × β)} {Q Q' : α → β → Prop} (h : wp r Q) (hq : ∀ a s, Q a s → Q' a s) : wp r Q' := by
  rcases r with _ | ⟨a, s⟩
  · exact h.elim
  · exact hq a s h
/-- from an equation to what is wanted and back -/
theorem wp_eq {r : Option (α × β)} {a : α} {s : β} (h : wp r fun a' s' => a' = a ∧ s' = s) : r = some (a, s) := by
  obtain ⟨a', s', e, rfl, rfl⟩ := wp_e h
  exact e
theorem wp_of {r : Option (α × β)} {a : α} {s : β} {Q : α → β → Prop} (e : r = some (a, s)) (h : Q a s) : wp r Q := by
  rw [e]; exact h
end
theorem nEnd  : kEnd  none = none := rfl
theorem nSeq {b : MS} : kSeq b none = none := rfl
theorem nRet  : kRet  none = none := rfl
theorem nSet {i : Nat} : kSet i none = none := rfl
theorem nSetF {i : Nat} : kSetF i none = none := rfl
theorem nDrop  : kDrop  none = none := rfl
theorem nFor {mg : MG} {mb : MS} : kFor mg mb none = none := rfl
theorem n1 {f : F1} : k1 f none = none := rfl
theorem n2a {f : F2} {b : ME} : k2a f b none = none := rfl
theorem n2b {f : F2} {d : D} : k2b f d none = none := rfl
theorem nCa {r : MA} : kCa r none = none := rfl
theorem nCb {d : D} : kCb d none = none := rfl
theorem nTup  : kTup  none = none := rfl
theorem nLst  : kLst  none = none := rfl
theorem nCall {f : FC} : kCall f none = none := rfl
theorem nFn {F : CT} : kFn F none = none := rfl
theorem nTr  : kTr  none = none := rfl
theorem nB  : kB  none = none := rfl
theorem nNot  : kNot  none = none := rfl
theorem nAnd {b : MT} : kAnd b none = none := rfl
theorem nOr {b : MT} : kOr b none = none := rfl
theorem nIf {a b : ME} : kIf a b none = none := rfl
theorem nIfS {a b : MS} : kIfS a b none = none := rfl
theorem nItems  : kItems  none = none := rfl
theorem nR1  : kR1  none = none := rfl
theorem nR2  : kR2  none = none := rfl
theorem nR3  : kR3  none = none := rfl
theorem nM1 {f : EF} {i : Nat} : kM1 f i none = none := rfl
theorem nSt0 {i : Nat} {mi : ME} : kSt0 i mi none = none := rfl
theorem nSt1 {i : Nat} {z : D} : kSt1 i z none = none := rfl
theorem nAsg {t : MG} : kAsg t none = none := rfl
theorem nPar {i j : Nat} : kPar i j none = none := rfl
theorem nPar3 {i j l : Nat} : kPar3 i j l none = none := rfl
theorem nOb  : kOb  none = none := rfl
theorem nC1 {me : ME} : kC1 me none = none := rfl
theorem nC2  : kC2  none = none := rfl
theorem nAndE {b : ME} : kAndE b none = none := rfl
theorem nOrE {b : ME} : kOrE b none = none := rfl
theorem nNotE  : kNotE  none = none := rfl
theorem nSl1 {ml mh : MO} : kSl1 ml mh none = none := rfl
theorem nSl2 {mh : MO} {d : D} : kSl2 mh d none = none := rfl
theorem nSl3 {d : D} {lo : Option Int} : kSl3 d lo none = none := rfl
theorem nO  : kO  none = none := rfl
theorem nAug {f : F2} {i : Nat} {d : D} : kAug f i d none = none := rfl
theorem wp_F {r : Option (D × List D)} {ρ : List (Option Sl)} {Q : D → S → Prop} (h : wp r fun d sg => Q d ⟨ρ, sg⟩) : wp (kF r ρ) Q := by
  rcases r with _ | ⟨a, s⟩
  · exact h.elim
  · exact h
theorem loopF_wp {mg : MG} {mb : MS} {ds : List D} {s : S} {Q : Fl → S → Prop} (I : Nat → S → Prop) (h0 : I 0 s)
    (h : ∀ i d s, ds[i]? = some d → I i s → wp (stepF mg mb d s) (NextF (I (i + 1)) Q))
    (he : ∀ s, I ds.length s → Q .nx s) : wp (loopF mg mb ds s) Q :=
  wp_i (loopF_gen I Q h0 (fun i d s hd hi => wp_e (h i d s hd hi)) he)
theorem loopW_wp {mc : MT} {mb : MS} {N : Nat} {s : S} {Q : Fl → S → Prop} (I : Nat → S → Prop) (n : Nat) (hn : n < N) (h0 : I n s)
    (h : ∀ n s, I n s → wp (mc s) fun c s1 => if c = true then wp (mb s1) (NextF (fun s => ∃ m, m < n ∧ I m s) Q) else Q .nx s1) : wp (loopW mc mb N s) Q :=
  wp_i (loopW_gen I Q (fun n s hi => by
    obtain ⟨c, s1, e, q⟩ := wp_e (h n s hi)
    refine ⟨c, s1, e, ?_⟩
    cases c with
    | true => simp only [if_true] at q ⊢; exact wp_e q
    | false => exact q) N n s hn h0)
theorem mLc_wp {vs : List Nat} {mi : MI} {mg : MG} {mt : MT} {me : ME} {s s1 : S} {ds : List D} {Q : D → S → Prop} (I : Nat → List D → List D → Prop) (hi : mi s = some (ds, s1)) (hl : ds.length ≤ sizeLine) (h0 : I 0 [] s1.sg)
    (h : ∀ i d sg acc, ds[i]? = some d → I i acc sg → wp (stepC mg mt me d ⟨wipeR vs s1.ρ, sg⟩) fun o s' => wipeR vs s'.ρ = wipeR vs s1.ρ ∧ I (i + 1) (acc ++ o.toList) s'.sg)
    (he : ∀ acc sg, I ds.length acc sg → Q (.lst acc) ⟨s1.ρ, sg⟩) : wp (mLc vs mi mg mt me s) Q := by
  obtain ⟨acc, sg, e, q⟩ := mLc_gen (vs := vs) (mg := mg) (mt := mt) (me := me) I hi hl h0 (fun i d sg acc hd hi => by
    obtain ⟨o, s', e, q⟩ := wp_e (h i d sg acc hd hi)
    exact ⟨o, s', e, q⟩)
  rw [e]
  exact he acc sg q
/-- a walk over numbers -/
theorem mLc_nums {vs : List Nat} {mi : MI} {mg : MG} {mt : MT} {me : ME} {s s1 : S} {ds : List D} {α : Type} (E : α → D) (ns : List α) (g : α → Option D) (hi : mi s = some (ds, s1)) (hd : ds = ns.map E) (hl : ns.length ≤ sizeLine)
    (h : ∀ n ∈ ns, wp (stepC mg mt me (E n) ⟨wipeR vs s1.ρ, s1.sg⟩) fun o s' => o = g n ∧ wipeR vs s'.ρ = wipeR vs s1.ρ ∧ s'.sg = s1.sg) :
    mLc vs mi mg mt me s = some (.lst (ns.filterMap g), s1) := by
  subst hd
  obtain ⟨acc, sg, e, q⟩ := mLc_gen (vs := vs) (mg := mg) (mt := mt) (me := me) (fun i acc sg => acc = (ns.take i).filterMap g ∧ sg = s1.sg) hi (by simpa using hl) (by simp) (fun i d sg acc hd hi => by
    obtain ⟨ha, hs⟩ := hi
    subst hs
    rw [List.getElem?_map] at hd
    cases hn : ns[i]? with
    | none => rw [hn] at hd; cases hd
    | some n =>
      rw [hn] at hd
      cases hd
      obtain ⟨o, s', e, rfl, hw, hs⟩ := wp_e (h n (List.mem_of_getElem? hn))
      refine ⟨_, s', e, hw, ?_, hs⟩
      rw [ha, List.take_add_one, hn, Option.toList_some, List.filterMap_append]
      cases hg : g n <;> simp [hg])
  rw [e, q.1, q.2, List.length_map, List.take_length]
end Vl
namespace Vl
open PySem PySem.Spec PyProof.Rows L2

/-! ### two-clause comprehensions -/
section
variable {vs vs1 : List Nat} {mi : MI} {mg mg1 : MG} {mt mt1 : MT} {mi1 : MI} {me : ME} {s s1 : S} {ds : List D}
theorem wipeR_set {ρ : List (Option Sl)} {j : Nat} (hj : j < ρ.length) : ∀ {vs : List Nat}, j ∈ vs → (wipeR vs ρ)[j]? = some none
  | v :: vs, h => by
    rw [wipeR]
    by_cases e : v = j
    · subst e
      rw [List.getElem?_set_self (by rw [wipeR_len]; exact hj)]
    · rw [List.getElem?_set_ne e, wipeR_set hj (by simpa [Ne.symm e] using h)]
theorem wipe_sub {a b : List (Option Sl)} (hs : ∀ v ∈ vs1, v ∈ vs) (h : wipeR vs1 a = wipeR vs1 b) : wipeR vs a = wipeR vs b := by
  have hl : a.length = b.length := by rw [← wipeR_len (vs := vs1), h, wipeR_len]
  apply List.ext_getElem?
  intro j
  by_cases hlt : j < a.length
  · by_cases hj : j ∈ vs
    · rw [wipeR_set hlt hj, wipeR_set (by omega) hj]
    · rw [wipeR_in hj, wipeR_in hj, ← wipeR_in (vs := vs1) (fun q => hj (hs _ q)), h, wipeR_in (fun q => hj (hs _ q))]
  · rw [List.getElem?_eq_none (by rw [wipeR_len]; omega), List.getElem?_eq_none (by rw [wipeR_len]; omega)]
theorem loopD_pure {w : S} (hs : ∀ v ∈ vs1, v ∈ vs) (g : D → List D) : ∀ (ds : List D) (s : S) (acc : List D), wipeS vs s = w → acc.length + (ds.flatMap g).length ≤ sizeLine →
    (∀ d ∈ ds, ∃ s1, mg d w = some s1 ∧ ∃ s2, mt s1 = some (true, s2) ∧ ∃ ds1 s3 h, mi1 s2 = some (ds1, s3) ∧ wipeS vs s3 = w ∧ g d = ds1.map h ∧
      ∀ e ∈ ds1, wp (stepC mg1 mt1 me e ⟨wipeR vs1 s3.ρ, s3.sg⟩) fun o s' => o = some (h e) ∧ wipeR vs1 s'.ρ = wipeR vs1 s3.ρ ∧ s'.sg = s3.sg) →
    ∃ s', loopD vs mg mt mi1 vs1 mg1 mt1 me ds s acc = some (acc ++ ds.flatMap g, s') ∧ wipeS vs s' = w
  | [], s, acc, hw, _, _ => ⟨s, by simp [loopD], hw⟩
  | d :: ds, s, acc, hw, hl, h => by
    obtain ⟨s1, e1, s2, e2, ds1, s3, h1, e3, hw3, hg, hin⟩ := h d (by simp)
    rw [List.flatMap_cons, List.length_append] at hl
    have hgl : (g d).length = ds1.length := by rw [hg, List.length_map]
    obtain ⟨acc', s4, e4, hw4, q1, q2⟩ := loopC_gen0 (vs := vs1) (mg := mg1) (mt := mt1) (me := me) (wipeR vs1 s3.ρ) (fun i a sg => a = acc ++ (ds1.take i).map h1 ∧ sg = s3.sg) ds1 0 s3 acc rfl (by simp) (by omega) (fun i e sg a he hi => by
      rw [Nat.zero_add] at hi ⊢
      obtain ⟨ha, hsg⟩ := hi
      subst hsg
      obtain ⟨o, s', e, rfl, q, r⟩ := wp_e (hin e (List.mem_of_getElem? he))
      refine ⟨_, s', e, q, ?_, r⟩
      rw [ha, List.take_add_one, he]
      simp)
    rw [Nat.zero_add, List.take_length, ← hg] at q1
    have hw5 : wipeS vs s4 = w := by
      rw [← hw3]
      unfold wipeS
      rw [wipe_sub hs hw4, q2]
    obtain ⟨s', e', hw'⟩ := loopD_pure hs g ds s4 acc' hw5 (by rw [q1, List.length_append]; omega) (fun d hd => h d (by simp [hd]))
    refine ⟨s', ?_, hw'⟩
    rw [loopD, hw, e1]
    simp only [Option.bind_some, e2, if_true, e3, e4]
    rw [e', q1, List.flatMap_cons, List.append_assoc]
theorem mLc2_pure (g : D → List D) (hs : ∀ v ∈ vs1, v ∈ vs) (hi : mi s = some (ds, s1)) (hl : (ds.flatMap g).length ≤ sizeLine)
    (h : ∀ d ∈ ds, ∃ s2, mg d (wipeS vs s1) = some s2 ∧ ∃ s3, mt s2 = some (true, s3) ∧ ∃ ds1 s4 h, mi1 s3 = some (ds1, s4) ∧ wipeS vs s4 = wipeS vs s1 ∧ g d = ds1.map h ∧
      ∀ e ∈ ds1, wp (stepC mg1 mt1 me e ⟨wipeR vs1 s4.ρ, s4.sg⟩) fun o s' => o = some (h e) ∧ wipeR vs1 s'.ρ = wipeR vs1 s4.ρ ∧ s'.sg = s4.sg) :
    mLc2 vs mi mg mt mi1 vs1 mg1 mt1 me s = some (.lst (ds.flatMap g), s1) := by
  obtain ⟨s', e, hw⟩ := loopD_pure (vs := vs) (vs1 := vs1) (mg := mg) (mt := mt) (mi1 := mi1) (mg1 := mg1) (mt1 := mt1) (me := me) (w := wipeS vs s1) hs g ds s1 [] rfl (by simpa using hl) h
  unfold mLc2
  rw [hi, Option.bind_some]
  simp only [e, Option.bind_some, List.nil_append]
  have h1 : wipeR vs s'.ρ = wipeR vs s1.ρ := congrArg S.ρ hw
  have h2 : s'.sg = s1.sg := (show (wipeS vs s').sg = (wipeS vs s1).sg from by rw [hw])
  rw [back_wipe h1, h2]
end
/-! ### emptiness -/
theorem eqD_l0 {xs : List D} : eqD (.lst xs) (.lst []) = xs.isEmpty := by
  cases xs with
  | nil => rfl
  | cons d ds => simp [eqD, D.py, pys, PyData.eqv, PyData.eqvAll]
theorem eqD_t0 {xs : List D} : eqD (.tup xs) (.tup []) = xs.isEmpty := by
  cases xs with
  | nil => rfl
  | cons d ds => simp [eqD, D.py, pys, PyData.eqv, PyData.eqvAll]
theorem eq_l0 {sg xs : List D} (h : pls 49 xs = true) : fEq sg (.lst xs) (.lst []) = some (.bl xs.isEmpty) := by
  unfold fEq; simp [eqD_l0, h, pls]
theorem ne_l0 {sg xs : List D} (h : pls 49 xs = true) : fNe sg (.lst xs) (.lst []) = some (.bl (!xs.isEmpty)) := by
  unfold fNe; simp [eqD_l0, h, pls]
theorem eq_t0 {sg xs : List D} (h : pls 49 xs = true) : fEq sg (.tup xs) (.tup []) = some (.bl xs.isEmpty) := by
  unfold fEq; simp [eqD_t0, h, pls]
theorem ne_t0 {sg xs : List D} (h : pls 49 xs = true) : fNe sg (.tup xs) (.tup []) = some (.bl (!xs.isEmpty)) := by
  unfold fNe; simp [eqD_t0, h, pls]
/-! ### in, the greatest -/
theorem flat_ints {ns : List Int} : (ns.map D.int).all flatD = true := by simp [flatD]
theorem in_t {sg : List D} {ns : List Int} {k : Int} {neg : Bool} : fInS neg sg (.int k) (.tup (ns.map D.int)) = some (.bl (if neg then !(ns.contains k) else ns.contains k)) := by
  unfold fInS inD
  simp only [der_i, der_t, flat_ints, flatD, Bool.and_self, if_true, Option.map_some]
  have : ((ns.map D.int).any fun z => eqF z (.int k)) = ns.contains k := by
    induction ns with
    | nil => rfl
    | cons a l ih =>
      simp only [List.map_cons, List.any_cons, ih, List.contains_cons]
      congr 1
      show (a == k) = (k == a)
      exact Bool.beq_comm
  rw [this]
theorem maxL_le {l : List Int} {x : Int} (h : x ∈ l) : x ≤ maxL l := (maxL_mem l (fun e => by rw [e] at h; cases h)).2 x h
theorem minL_le {l : List Int} {x : Int} (h : x ∈ l) : minL l ≤ x := (minL_mem l (fun e => by rw [e] at h; cases h)).2 x h
theorem max_l {sg : List D} {ns : List Int} (h : ns ≠ []) : fMax sg [.lst (ns.map D.int)] = some (.int (maxL ns)) := by
  have : fMax sg [.lst (ns.map D.int)] = (intsD (ns.map D.int)).bind fun ns => if ns ≠ [] then some (.int (maxL ns)) else none := by
    cases ns with
    | nil => rfl
    | cons a l => cases l <;> rfl
  rw [this, intsD_mapK]
  simp [h]
/-! ### numbers at their places -/
def gI (p : List Int) (i : Nat) : Int := p.getD i 0
def lI (p : List Int) : Int := p.getLastD 0
theorem get_int {p : List Int} {i : Nat} (h : i < p.length) : (p.map D.int)[i]? = some (.int (gI p i)) := by
  unfold gI
  rw [List.getElem?_map, List.getElem?_eq_getElem h, List.getD_eq_getElem?_getD, List.getElem?_eq_getElem h]; rfl
theorem at_int {p : List Int} {i : Int} (h0 : 0 ≤ i) (h : i < p.length) : atD (p.map D.int) i = some (.int (gI p i.toNat)) := by
  rw [at_nn h0, get_int (by omega)]
theorem last_int {p : List Int} (h : p ≠ []) : (p.map D.int).getLast? = some (.int (lI p)) := by
  unfold lI
  rw [List.getLast?_map, List.getLastD_eq_getLast?, List.getLast?_eq_some_getLast h]; rfl
theorem at_last {p : List Int} (h : p ≠ []) : atD (p.map D.int) (-1) = some (.int (lI p)) := by rw [at_m1, last_int h]
theorem pls_opt {n : Nat} {α : Type} {l : List α} {f : α → Option D} (h : ∀ a ∈ l, ∀ d, f a = some d → D.pl n d = true) : pls n (l.filterMap f) = true := by
  rw [pls_mono]
  intro d hd
  obtain ⟨a, ha, e⟩ := List.mem_filterMap.mp hd
  exact h a ha d e
theorem fmap_empty {α β : Type} {l : List α} {f : α → Bool} {g : α → β} : (l.filterMap fun a => if f a = true then none else some (g a)).isEmpty = l.all f := by
  induction l with
  | nil => rfl
  | cons a l ih =>
    rw [List.filterMap_cons]
    cases hf : f a <;> simp [hf, ih]
end Vl
namespace W
open PySem PySem.Spec PyProof.Rows L2 Vl
def topS (i : Nat) : Stmt := PySem.Challenge.pw_sumwright_k38_states_of_rules.main.body.getD i (.Pass ⟨0, 0, 0, 0⟩)
/-! ### may_stand -/
abbrev s_may_stand : Stmt := topS 1
abbrev N_may_stand : List Str := ["rule", "x", "y", "modulus", "gaps", "_", "gap"]
theorem sc_may_stand : FnScope N_may_stand ["rule", "x", "y"] (defScope s_may_stand) := ⟨rfl, rfl, rfl, by decide +kernel, rfl, by decide +kernel, by decide +kernel⟩
def m_may_stand : MS :=
  (mSeq (mAsg (mName 0) (gT (gCons0 (gN 3) (gCons0 (gN 4) (gCons0 (gN 5) gNil0)))))
    (mSeq (mSet 6 (m2 fIx (m2 fIx (mLend 4) (m2 fMod (mLend 1) (mLend 3))) (m2 fMod (mLend 2) (mLend 3))))
    (mRet (mAnd (m2 (cmpI pGe) (mLend 6) (mC (.int 0))) (m2 (cmpI pGe) (m2 fSub (mLend 1) (mLend 2)) (mLend 6))))))
def F_may_stand : CT := runF 3 7 m_may_stand
theorem ok_may_stand {P : Program} {w : World} {K : PySem.W.Frag} {mg : Str → Option Value} {base : Heap} {f : Addr} {fd : FuncData} (F : Fun K "may_stand" "may_stand" s_may_stand f fd) (hm : mg "may_stand" = some (.ref f)) (hb : Binds K fd ["rule", "x", "y"] []) : Has P w K mg base "may_stand" 1 3 F_may_stand :=
  has_of (N := N_may_stand) (ps := ["rule", "x", "y"]) F hm hb sc_may_stand fun cdv A outer s H E hr =>
      (vs_cons (vs_asg (ve_name 0 (pv 0)) (vg_tup rfl (vgs_cons (vg_name (i := 3) sc_may_stand.nd rfl (by first | exact .inl rfl | exact .inr rfl)) (vgs_cons (vg_name (i := 4) sc_may_stand.nd rfl (by first | exact .inl rfl | exact .inr rfl)) (vgs_cons (vg_name (i := 5) sc_may_stand.nd rfl (by first | exact .inl rfl | exact .inr rfl)) vgs_nil))) (gl_cons (gl_cons (gl_cons gl_nil)))))
      (vs_cons (vs_set (i := 6) sc_may_stand.nd rfl (by first | exact .inl rfl | exact .inr rfl) (ve_ix (toBor (ve_ix (vb_name 4 (pv 4)) (toBor (ve_bin od_mod (vb_name 1 (pv 1)) (vb_name 3 (pv 3)))) (fun _ _ => rfl))) (toBor (ve_bin od_mod (vb_name 2 (pv 2)) (vb_name 3 (pv 3)))) (fun _ _ => rfl)))
      (vs_one (vs_ret (ve_and (ve_cmp od_ge (vb_name 6 (pv 6)) (toBor ve_int)) (ve_one (ve_cmp od_ge (toBor (ve_bin od_sub (vb_name 1 (pv 1)) (vb_name 2 (pv 2)))) (vb_name 6 (pv 6)))))))))
/-! ### first_break -/
abbrev s_first_break : Stmt := topS 2
abbrev N_first_break : List Str := ["rule", "partition", "place"]
theorem sc_first_break : FnScope N_first_break ["rule", "partition"] (defScope s_first_break) := ⟨rfl, rfl, rfl, by decide +kernel, rfl, by decide +kernel, by decide +kernel⟩
def m_first_break : MS :=
  (mSeq (mFor (mRange1 (mCons (m2 fSub (mCall fLen (mCons (mLend 1) mNil)) (mC (.int 1))) mNil)) (gN 2) (mIfS (mtNot (mTr (mFn F_may_stand (mCons (mName 0) (mCons (m2 fIx (mLend 1) (mLend 2)) (mCons (m2 fIx (mLend 1) (m2 fAdd (mLend 2) (mC (.int 1)))) mNil)))))) (mRet (mName 2)) mNx))
    (mSeq (mIfS (mtAnd (mB (m2 (cmpI pGt) (mCall fLen (mCons (mLend 1) mNil)) (mC (.int 0)))) (mB (m2 (cmpI pLt) (m2 fIx (mLend 1) (m1 fNeg (mC (.int 1)))) (m2 fIx (mLend 0) (mC (.int 2)))))) (mRet (m2 fSub (mCall fLen (mCons (mLend 1) mNil)) (mC (.int 1)))) mNx)
    (mRet (mC .non))))
def F_first_break : CT := runF 2 3 m_first_break
theorem ok_first_break {P : Program} {w : World} {K : PySem.W.Frag} {mg : Str → Option Value} {base : Heap} (h_may_stand : Has P w K mg base "may_stand" 1 3 F_may_stand) (z_len : mg "len" = none) (z_range : mg "range" = none) {f : Addr} {fd : FuncData} (F : Fun K "first_break" "first_break" s_first_break f fd) (hm : mg "first_break" = some (.ref f)) (hb : Binds K fd ["rule", "partition"] []) : Has P w K mg base "first_break" 2 2 F_first_break :=
  has_of (N := N_first_break) (ps := ["rule", "partition"]) F hm hb sc_first_break fun cdv A outer s H E hr =>
      (vs_cons (vs_for PassesOwn.never rfl (vi_range1 (by rfl) z_range (va_cons (toBor (ve_bin od_sub (toBor (ve_callB cd_len (by rfl) z_len bt_len (va_cons (vb_name 1 (pv 1)) va_nil))) (toBor ve_int))) va_nil)) (vg_name (i := 2) sc_first_break.nd rfl (by first | exact .inl rfl | exact .inr rfl)) (vs_one (vs_if (vt_not (vt_truth (toBor (ve_fnH h_may_stand (hr.mono (by decide)) (by rfl) (len_cons (len_cons (len_cons len_nil))) (va_cons (ve_name 0 (pv 0)) (va_cons (ve_ix (vb_name 1 (pv 1)) (vb_name 2 (pv 2)) (fun _ _ => rfl)) (va_cons (ve_ix (vb_name 1 (pv 1)) (toBorF (ve_bin od_add (vb_name 2 (pv 2)) (toBor ve_int))) (fun _ _ => rfl)) va_nil))))))) (vs_one (vs_ret (ve_name 2 (pv 2)))) vs_nil)))
      (vs_cons (vs_if ((vw_and (vt_cmp od_gt (toBor (ve_callB cd_len (by rfl) z_len bt_len (va_cons (vb_name 1 (pv 1)) va_nil))) (toBor ve_int)) (vw_one (vt_cmp od_lt (toBor (ve_ix (vb_name 1 (pv 1)) (toBor (ve_neg (toBor ve_int))) (fun _ _ => rfl))) (toBor (ve_ix (vb_name 0 (pv 0)) (toBor ve_int) (fun _ _ => rfl))))))).pt (vs_one (vs_ret (ve_bin od_sub (toBor (ve_callB cd_len (by rfl) z_len bt_len (va_cons (vb_name 1 (pv 1)) va_nil))) (toBor ve_int)))) vs_nil)
      (vs_one (vs_ret ve_non))))
/-! ### keeps_gaps -/
abbrev s_keeps_gaps : Stmt := topS 3
abbrev N_keeps_gaps : List Str := ["rule", "partition"]
theorem sc_keeps_gaps : FnScope N_keeps_gaps ["rule", "partition"] (defScope s_keeps_gaps) := ⟨rfl, rfl, rfl, by decide +kernel, rfl, by decide +kernel, by decide +kernel⟩
def m_keeps_gaps : MS :=
  (mRet (m1 (fIsN false) (mFn F_first_break (mCons (mName 0) (mCons (mName 1) mNil)))))
def F_keeps_gaps : CT := runF 2 2 m_keeps_gaps
theorem ok_keeps_gaps {P : Program} {w : World} {K : PySem.W.Frag} {mg : Str → Option Value} {base : Heap} (h_first_break : Has P w K mg base "first_break" 2 2 F_first_break) {f : Addr} {fd : FuncData} (F : Fun K "keeps_gaps" "keeps_gaps" s_keeps_gaps f fd) (hm : mg "keeps_gaps" = some (.ref f)) (hb : Binds K fd ["rule", "partition"] []) : Has P w K mg base "keeps_gaps" 3 2 F_keeps_gaps :=
  has_of (N := N_keeps_gaps) (ps := ["rule", "partition"]) F hm hb sc_keeps_gaps fun cdv A outer s H E hr =>
      (vs_one (vs_ret (ve_isN (toBor (ve_fnH h_first_break (hr.mono (by decide)) (by rfl) (len_cons (len_cons len_nil)) (va_cons (ve_name 0 (pv 0)) (va_cons (ve_name 1 (pv 1)) va_nil)))))))
/-! ### greatest_gap -/
abbrev s_greatest_gap : Stmt := topS 5
abbrev N_greatest_gap : List Str := ["rule", "row", "gap"]
theorem sc_greatest_gap : FnScope N_greatest_gap ["rule"] (defScope s_greatest_gap) := ⟨rfl, rfl, rfl, by decide +kernel, rfl, by decide +kernel, by decide +kernel⟩
def m_greatest_gap : MS :=
  (mRet (mCall fMax (mCons (m2 fAdd (mLst (mCons (mC (.int 0)) mNil)) (mLc2 [1, 2] (mItems (m2 fIx (mLend 0) (mC (.int 1)))) (gN 1) mtYes (mItems (mName 1)) [2] (gN 2) mtYes (mName 2))) mNil)))
def F_greatest_gap : CT := runF 1 3 m_greatest_gap
theorem ok_greatest_gap {P : Program} {w : World} {K : PySem.W.Frag} {mg : Str → Option Value} {base : Heap} (z_max : mg "max" = none) {f : Addr} {fd : FuncData} (F : Fun K "greatest_gap" "greatest_gap" s_greatest_gap f fd) (hm : mg "greatest_gap" = some (.ref f)) (hb : Binds K fd ["rule"] []) : Has P w K mg base "greatest_gap" 1 1 F_greatest_gap :=
  has_of (N := N_greatest_gap) (ps := ["rule"]) F hm hb sc_greatest_gap fun cdv A outer s H E hr =>
      (vs_one (vs_ret (ve_callB (cd_max rfl) (by rfl) z_max bt_max (va_cons (toBorF (ve_bin od_add (toBorF (ve_lst (va_cons ve_int va_nil))) (toBorF (ve_lc2 (vs1 := [2]) rfl sc_greatest_gap.nd (vi_seq (ve_ix (vb_name 0 (pv 0)) (toBor ve_int) (fun _ _ => rfl))) (blkOk_by (own := [("row", 1), ("gap", 2)]) (by kernel_rfl)) (by decide) (by decide) (by decide) (fun _ _ _ _ _ => (vg_name (i := 1) sc_greatest_gap.nd rfl (by first | exact .inl rfl | exact .inr rfl))) (fun _ _ _ _ _ => vp_nil) (fun _ _ _ _ _ => (vi_seq (ve_name 1 (pv 1)))) (fun _ _ _ _ _ => (vg_name (i := 2) sc_greatest_gap.nd rfl (by first | exact .inl rfl | exact .inr rfl))) (fun _ _ _ _ _ => vp_nil) (fun _ _ _ _ _ => (ve_name 2 (pv 2))))))) va_nil))))
/-! ### next_state -/
abbrev s_next_state : Stmt := topS 6
abbrev N_next_state : List Str := ["rule", "state", "number", "taken", "modulus", "r", "d"]
theorem sc_next_state : FnScope N_next_state ["rule", "state", "number", "taken"] (defScope s_next_state) := ⟨rfl, rfl, rfl, by decide +kernel, rfl, by decide +kernel, by decide +kernel⟩
def m_next_state : MS :=
  (mSeq (mSet 4 (m2 fIx (mLend 0) (mC (.int 0))))
    (mSeq (mIfS (mTr (mLend 3)) (mRet (mTup (mCons (m2 fMod (mLend 2) (mLend 4)) (mCons (mC (.int 0)) mNil)))) mNx)
    (mSeq (mIfS (mB (m1 (fIsN false) (mLend 1))) (mRet (mC .non)) mNx)
    (mSeq (mAsg (mName 1) (gT (gCons0 (gN 5) (gCons0 (gN 6) gNil0))))
    (mRet (mTup (mCons (mName 5) (mCons (mCall fMin (mCons (m2 fAdd (mLend 6) (mC (.int 1))) (mCons (mFn F_greatest_gap (mCons (mName 0) mNil)) mNil))) mNil))))))))
def F_next_state : CT := runF 4 7 m_next_state
theorem ok_next_state {P : Program} {w : World} {K : PySem.W.Frag} {mg : Str → Option Value} {base : Heap} (h_greatest_gap : Has P w K mg base "greatest_gap" 1 1 F_greatest_gap) (z_min : mg "min" = none) {f : Addr} {fd : FuncData} (F : Fun K "next_state" "next_state" s_next_state f fd) (hm : mg "next_state" = some (.ref f)) (hb : Binds K fd ["rule", "state", "number", "taken"] []) : Has P w K mg base "next_state" 2 4 F_next_state :=
  has_of (N := N_next_state) (ps := ["rule", "state", "number", "taken"]) F hm hb sc_next_state fun cdv A outer s H E hr =>
      (vs_cons (vs_set (i := 4) sc_next_state.nd rfl (by first | exact .inl rfl | exact .inr rfl) (ve_ix (vb_name 0 (pv 0)) (toBor ve_int) (fun _ _ => rfl)))
      (vs_cons (vs_if (vt_truth (vb_name 3 (pv 3))) (vs_one (vs_ret (ve_tup (va_cons (ve_bin od_mod (vb_name 2 (pv 2)) (vb_name 4 (pv 4))) (va_cons ve_int va_nil))))) vs_nil)
      (vs_cons (vs_if (vt_isN (vb_name 1 (pv 1))) (vs_one (vs_ret ve_non)) vs_nil)
      (vs_cons (vs_asg (ve_name 1 (pv 1)) (vg_tup rfl (vgs_cons (vg_name (i := 5) sc_next_state.nd rfl (by first | exact .inl rfl | exact .inr rfl)) (vgs_cons (vg_name (i := 6) sc_next_state.nd rfl (by first | exact .inl rfl | exact .inr rfl)) vgs_nil)) (gl_cons (gl_cons gl_nil))))
      (vs_one (vs_ret (ve_tup (va_cons (ve_name 5 (pv 5)) (va_cons (ve_callB (cd_min rfl) (by rfl) z_min bt_min (va_cons (toBorF (ve_bin od_add (vb_name 6 (pv 6)) (toBor ve_int))) (va_cons (toBor (ve_fnH h_greatest_gap (hr.mono (by decide)) (by rfl) (len_cons len_nil) (va_cons (ve_name 0 (pv 0)) va_nil))) va_nil))) va_nil)))))))))
/-! ### states -/
abbrev s_states : Stmt := topS 7
abbrev N_states : List Str := ["rule", "partition", "told", "number"]
theorem sc_states : FnScope N_states ["rule", "partition"] (defScope s_states) := ⟨rfl, rfl, rfl, by decide +kernel, rfl, by decide +kernel, by decide +kernel⟩
def m_states : MS :=
  (mSeq (mSetF 2 (mLst (mCons (mC .non) mNil)))
    (mSeq (mFor (mRange2 (mCons (mC (.int 1)) (mCons (m2 fAdd (mIf (mB (m2 (cmpI pGt) (mCall fLen (mCons (mLend 1) mNil)) (mC (.int 0)))) (m2 fIx (mLend 1) (mC (.int 0))) (mC (.int 0))) (mC (.int 1))) mNil))) (gN 3) (mMethS eApp 2 (mCons (mFn F_next_state (mCons (mName 0) (mCons (m2 fIx (mLend 2) (m1 fNeg (mC (.int 1)))) (mCons (mName 3) (mCons (m2 (fInS false) (mLend 3) (mLend 1)) mNil))))) mNil)))
    (mRet (mName 2))))
def F_states : CT := runF 2 4 m_states
theorem ok_states {P : Program} {w : World} {K : PySem.W.Frag} {mg : Str → Option Value} {base : Heap} (h_next_state : Has P w K mg base "next_state" 2 4 F_next_state) (z_len : mg "len" = none) (z_range : mg "range" = none) {f : Addr} {fd : FuncData} (F : Fun K "states" "states" s_states f fd) (hm : mg "states" = some (.ref f)) (hb : Binds K fd ["rule", "partition"] []) : Has P w K mg base "states" 3 2 F_states :=
  has_of (N := N_states) (ps := ["rule", "partition"]) F hm hb sc_states fun cdv A outer s H E hr =>
      (vs_cons (vs_setF (i := 2) sc_states.nd rfl (by first | exact .inl rfl | exact .inr rfl) (ve_lst (va_cons ve_non va_nil)))
      (vs_cons (vs_for PassesOwn.never rfl (vi_range2 (by rfl) z_range (va_cons (toBor ve_int) (va_cons (toBorF (ve_bin od_add (ve_if (vt_cmp od_gt (toBor (ve_callB cd_len (by rfl) z_len bt_len (va_cons (vb_name 1 (pv 1)) va_nil))) (toBor ve_int)) (toBor (ve_ix (vb_name 1 (pv 1)) (toBor ve_int) (fun _ _ => rfl))) (toBor ve_int)) (toBor ve_int))) va_nil))) (vg_name (i := 3) sc_states.nd rfl (by first | exact .inl rfl | exact .inr rfl)) (vs_one (vs_meth md_append PySem.F.plainAttrs_list PySem.F.slot_list_append PySem.F.type_list_append (pv 2) (va_cons (ve_fnH h_next_state (hr.mono (by decide)) (by rfl) (len_cons (len_cons (len_cons (len_cons len_nil)))) (va_cons (ve_name 0 (pv 0)) (va_cons (ve_ix (vb_name 2 (pv 2)) (toBor (ve_neg (toBor ve_int))) (fun _ _ => rfl)) (va_cons (ve_name 3 (pv 3)) (va_cons (ve_cmp (od_inS (hu65 hr)) (vb_name 3 (pv 3)) (vb_name 1 (pv 1))) va_nil))))) va_nil))))
      (vs_one (vs_ret (ve_name 2 (pv 2))))))
/-! ### _law_state -/
abbrev s__law_state : Stmt := topS 9
abbrev N__law_state : List Str := ["script", "seed", "cell"]
theorem sc__law_state : FnScope N__law_state ["script"] (defScope s__law_state) := ⟨rfl, rfl, rfl, by decide +kernel, rfl, by decide +kernel, by decide +kernel⟩
def m__law_state : MS :=
  (mSeq (mSet 1 (mC (.int 7)))
    (mSeq (mFor (mItems (mName 0)) (gN 2) (mSet 1 (m2 fMod (mCall fInt (mCons (m2 fAdd (m2 fMul (mLend 1) (mC (.int 31))) (mLend 2)) mNil)) (mC (.int 1000003)))))
    (mRet (mObj (mLst (mCons (mObj (mLc [2] (mItems (mName 0)) (gN 2) mtYes (mCall fAbs (mCons (mLend 2) mNil)))) (mCons (m2 fAdd (mLend 1) (mC (.int 1))) mNil)))))))
def F__law_state : CT := runF 1 3 m__law_state
theorem ok__law_state {P : Program} {w : World} {K : PySem.W.Frag} {mg : Str → Option Value} {base : Heap} (z_int : mg "int" = none) (z_abs : mg "abs" = none) {f : Addr} {fd : FuncData} (F : Fun K "_law_state" "_law_state" s__law_state f fd) (hm : mg "_law_state" = some (.ref f)) (hb : Binds K fd ["script"] []) : Has P w K mg base "_law_state" 1 1 F__law_state :=
  has_of (N := N__law_state) (ps := ["script"]) F hm hb sc__law_state fun cdv A outer s H E hr =>
      (vs_cons (vs_set (i := 1) sc__law_state.nd rfl (by first | exact .inl rfl | exact .inr rfl) ve_int)
      (vs_cons (vs_for PassesOwn.never rfl (vi_seq (ve_name 0 (pv 0))) (vg_name (i := 2) sc__law_state.nd rfl (by first | exact .inl rfl | exact .inr rfl)) (vs_one (vs_set (i := 1) sc__law_state.nd rfl (by first | exact .inl rfl | exact .inr rfl) (ve_bin od_mod (toBor (ve_callT cd_int (by rfl) z_int bt_int (va_cons (toBorF (ve_bin od_add (toBorF (ve_bin od_mul (vb_name 1 (pv 1)) (toBor ve_int))) (vb_name 2 (pv 2)))) va_nil))) (toBor ve_int)))))
      (vs_one (vs_ret (toObj (ve_lst (va_cons (toObj (ve_lc rfl sc__law_state.nd (vi_seq (ve_name 0 (pv 0))) (blkOk_by (own := [("cell", 2)]) (by kernel_rfl)) (by decide) (fun _ _ _ _ _ => (vg_name (i := 2) sc__law_state.nd rfl (by first | exact .inl rfl | exact .inr rfl))) (fun _ _ _ _ _ => vp_nil) (fun _ _ _ _ _ => (ve_callB cd_abs (by rfl) z_abs bt_abs (va_cons (vb_name 2 (pv 2)) va_nil))))) (va_cons (toVal (ve_bin od_add (vb_name 1 (pv 1)) (toBor ve_int))) va_nil))))))))
/-! ### _law_draw -/
abbrev s__law_draw : Stmt := topS 10
abbrev N__law_draw : List Str := ["state", "many", "cells", "value", "mixed"]
theorem sc__law_draw : FnScope N__law_draw ["state", "many"] (defScope s__law_draw) := ⟨rfl, rfl, rfl, by decide +kernel, rfl, by decide +kernel, by decide +kernel⟩
def m__law_draw : MS :=
  (mSeq (mSet 2 (m2 fIx (mLend 0) (mC (.int 0))))
    (mSeq (loopW (mtAnd (mB (m2 (cmpI pGt) (mCall fLen (mCons (mLend 2) mNil)) (mC (.int 0)))) (mB (m2 fEq (m2 fIx (mLend 2) (mC (.int 0))) (mC (.int 0))))) (mMethS ePop0 2 (mCons (mC (.int 0)) mNil)) 100000)
    (mSeq (mIfS (mB (m2 (cmpI pGt) (mCall fLen (mCons (mLend 2) mNil)) (mC (.int 0)))) (mSeq (mSet 3 (m2 fIx (mLend 2) (mC (.int 0))))
    (mSeq (mStore 2 (mC (.int 0)) (m2 fDiv (mLend 3) (mLend 1)))
    (mRet (m2 fMod (mCall fInt (mCons (mLend 3) mNil)) (mLend 1))))) mNx)
    (mSeq (mSet 4 (m2 fMod (mCall fInt (mCons (m2 fAdd (m2 fMul (m2 fIx (mLend 0) (mC (.int 1))) (mC (.int 48271))) (mC (.int 12345))) mNil)) (mC (.int 2147483647))))
    (mSeq (mStore 0 (mC (.int 1)) (mName 4))
    (mRet (m2 fMod (mCall fInt (mCons (m2 fDiv (mLend 4) (mC (.int 64))) mNil)) (mLend 1))))))))
def F__law_draw : CT := runF 2 5 m__law_draw
theorem ok__law_draw {P : Program} {w : World} {K : PySem.W.Frag} {mg : Str → Option Value} {base : Heap} (z_len : mg "len" = none) (z_int : mg "int" = none) {f : Addr} {fd : FuncData} (F : Fun K "_law_draw" "_law_draw" s__law_draw f fd) (hm : mg "_law_draw" = some (.ref f)) (hb : Binds K fd ["state", "many"] []) : Has P w K mg base "_law_draw" 1 2 F__law_draw :=
  has_of (N := N__law_draw) (ps := ["state", "many"]) F hm hb sc__law_draw fun cdv A outer s H E hr =>
      (vs_cons (vs_set (i := 2) sc__law_draw.nd rfl (by first | exact .inl rfl | exact .inr rfl) (ve_ix (vb_name 0 (pv 0)) (toBor ve_int) (fun _ _ => rfl)))
      (vs_cons (vs_while 100000 PassesOwn.never ((vw_and (vt_cmp od_gt (toBor (ve_callB cd_len (by rfl) z_len bt_len (va_cons (vb_name 2 (pv 2)) va_nil))) (toBor ve_int)) (vw_one (vt_cmp (od_eq hr.units) (toBor (ve_ix (vb_name 2 (pv 2)) (toBor ve_int) (fun _ _ => rfl))) (toBor ve_int))))).pt (vs_one (vs_meth md_pop0 PySem.F.plainAttrs_list PySem.F.slot_list_pop PySem.F.type_list_pop (pv 2) (va_cons ve_int va_nil))))
      (vs_cons (vs_if (vt_cmp od_gt (toBor (ve_callB cd_len (by rfl) z_len bt_len (va_cons (vb_name 2 (pv 2)) va_nil))) (toBor ve_int)) (vs_cons (vs_set (i := 3) sc__law_draw.nd rfl (by first | exact .inl rfl | exact .inr rfl) (ve_ix (vb_name 2 (pv 2)) (toBor ve_int) (fun _ _ => rfl)))
      (vs_cons (vs_store (pv 2) (toBor ve_int) (ve_bin od_div (vb_name 3 (pv 3)) (vb_name 1 (pv 1))))
      (vs_one (vs_ret (ve_bin od_mod (toBor (ve_callT cd_int (by rfl) z_int bt_int (va_cons (vb_name 3 (pv 3)) va_nil))) (vb_name 1 (pv 1))))))) vs_nil)
      (vs_cons (vs_set (i := 4) sc__law_draw.nd rfl (by first | exact .inl rfl | exact .inr rfl) (ve_bin od_mod (toBor (ve_callT cd_int (by rfl) z_int bt_int (va_cons (toBorF (ve_bin od_add (toBorF (ve_bin od_mul (toBor (ve_ix (vb_name 0 (pv 0)) (toBor ve_int) (fun _ _ => rfl))) (toBor ve_int))) (toBor ve_int))) va_nil))) (toBor ve_int)))
      (vs_cons (vs_store (pv 0) (toBor ve_int) (ve_name 4 (pv 4)))
      (vs_one (vs_ret (ve_bin od_mod (toBor (ve_callT cd_int (by rfl) z_int bt_int (va_cons (toBor (ve_bin od_div (vb_name 4 (pv 4)) (toBor ve_int))) va_nil))) (vb_name 1 (pv 1))))))))))
/-! ### _law_pick -/
abbrev s__law_pick : Stmt := topS 11
abbrev N__law_pick : List Str := ["state", "row"]
theorem sc__law_pick : FnScope N__law_pick ["state", "row"] (defScope s__law_pick) := ⟨rfl, rfl, rfl, by decide +kernel, rfl, by decide +kernel, by decide +kernel⟩
def m__law_pick : MS :=
  (mRet (m2 fIx (mLend 1) (mFn F__law_draw (mCons (mName 0) (mCons (mCall fLen (mCons (mLend 1) mNil)) mNil)))))
def F__law_pick : CT := runF 2 2 m__law_pick
theorem ok__law_pick {P : Program} {w : World} {K : PySem.W.Frag} {mg : Str → Option Value} {base : Heap} (h__law_draw : Has P w K mg base "_law_draw" 1 2 F__law_draw) (z_len : mg "len" = none) {f : Addr} {fd : FuncData} (F : Fun K "_law_pick" "_law_pick" s__law_pick f fd) (hm : mg "_law_pick" = some (.ref f)) (hb : Binds K fd ["state", "row"] []) : Has P w K mg base "_law_pick" 2 2 F__law_pick :=
  has_of (N := N__law_pick) (ps := ["state", "row"]) F hm hb sc__law_pick fun cdv A outer s H E hr =>
      (vs_one (vs_ret (ve_ix (vb_name 1 (pv 1)) (toBor (ve_fnH h__law_draw (hr.mono (by decide)) (by rfl) (len_cons (len_cons len_nil)) (va_cons (ve_name 0 (pv 0)) (va_cons (ve_callB cd_len (by rfl) z_len bt_len (va_cons (vb_name 1 (pv 1)) va_nil)) va_nil)))) (fun _ _ => rfl))))
/-! ### _law_eq -/
abbrev s__law_eq : Stmt := topS 12
abbrev N__law_eq : List Str := ["told", "due", "k"]
theorem sc__law_eq : FnScope N__law_eq ["told", "due"] (defScope s__law_eq) := ⟨rfl, rfl, rfl, by decide +kernel, rfl, by decide +kernel, by decide +kernel⟩
def m__law_eq (self : CT) : MS :=
  (mSeq (mIfS (mtOr (mTr (mCall fIsi (mCons (mLend 1) (mCons (mC (.ty "list")) mNil)))) (mTr (mCall fIsi (mCons (mLend 1) (mCons (mC (.ty "tuple")) mNil))))) (mSeq (mIfS (mtOr (mB (m2 fNe (mCall fIsi (mCons (mLend 0) (mCons (mC (.ty "list")) mNil))) (mCall fIsi (mCons (mLend 1) (mCons (mC (.ty "list")) mNil))))) (mB (m2 fNe (mCall fIsi (mCons (mLend 0) (mCons (mC (.ty "tuple")) mNil))) (mCall fIsi (mCons (mLend 1) (mCons (mC (.ty "tuple")) mNil)))))) (mRet (mC (.bl false))) mNx)
    (mSeq (mIfS (mB (m2 fNe (mCall fLen (mCons (mLend 0) mNil)) (mCall fLen (mCons (mLend 1) mNil)))) (mRet (mC (.bl false))) mNx)
    (mRet (m2 fEq (mLc [2] (mRange1 (mCons (mCall fLen (mCons (mLend 1) mNil)) mNil)) (gN 2) (mtNot (mTr (mFn self (mCons (m2 fIx (mLend 0) (mLend 2)) (mCons (m2 fIx (mLend 1) (mLend 2)) mNil))))) (mName 2)) (mLst mNil))))) mNx)
    (mSeq (mIfS (mB (m1 (fIsN false) (mLend 1))) (mRet (m1 (fIsN false) (mLend 0))) mNx)
    (mSeq (mIfS (mTr (mCall fIsi (mCons (mLend 1) (mCons (mC (.ty "str")) mNil)))) (mRet (mAnd (mCall fIsi (mCons (mLend 0) (mCons (mC (.ty "str")) mNil))) (m2 fEq (mLend 0) (mLend 1)))) mNx)
    (mSeq (mIfS (mTr (mCall fIsi (mCons (mLend 1) (mCons (mC (.ty "bool")) mNil)))) (mRet (mAnd (mCall fIsi (mCons (mLend 0) (mCons (mC (.ty "bool")) mNil))) (m2 fEq (mLend 0) (mLend 1)))) mNx)
    (mRet (mAnd (mCall fIsi (mCons (mLend 0) (mCons (mC (.ty "int")) mNil))) (mAnd (mNot (mCall fIsi (mCons (mLend 0) (mCons (mC (.ty "bool")) mNil)))) (m2 fEq (mLend 0) (mLend 1)))))))))
def F__law_eq : Nat → CT
  | 0 => fun _ _ => none
  | k + 1 => runF 2 3 (m__law_eq (F__law_eq k))
theorem ok__law_eq {P : Program} {w : World} {K : PySem.W.Frag} {mg : Str → Option Value} {base : Heap} (z_list : mg "list" = none) (z_isinstance : mg "isinstance" = none) (z_tuple : mg "tuple" = none) (z_len : mg "len" = none) (z_range : mg "range" = none) (z_str : mg "str" = none) (z_bool : mg "bool" = none) (z_int : mg "int" = none) {f : Addr} {fd : FuncData} (F : Fun K "_law_eq" "_law_eq" s__law_eq f fd) (hm : mg "_law_eq" = some (.ref f)) (hb : Binds K fd ["told", "due"] []) : ∀ k : Nat, Has P w K mg base "_law_eq" (0 + k) 2 (F__law_eq k)
  | 0 => has_none _ F hm hb
  | k + 1 => by
    have h__law_eq := ok__law_eq (P := P) (w := w) (base := base) z_list z_isinstance z_tuple z_len z_range z_str z_bool z_int F hm hb k
    exact has_of (N := N__law_eq) (ps := ["told", "due"]) F hm hb sc__law_eq fun cdv A outer s H E hr =>
      (vs_cons (vs_if ((vw_or (vt_truth (toBor (ve_callB cd_isi (by rfl) z_isinstance bt_isinstance (va_cons (vb_name 1 (pv 1)) (va_cons (toBor (ve_ty (by rfl) z_list bt_list)) va_nil))))) (vw_one (vt_truth (toBor (ve_callB cd_isi (by rfl) z_isinstance bt_isinstance (va_cons (vb_name 1 (pv 1)) (va_cons (toBor (ve_ty (by rfl) z_tuple bt_tuple)) va_nil)))))))).pt (vs_cons (vs_if ((vw_or (vt_cmp (od_ne hr.units) (toBor (ve_callB cd_isi (by rfl) z_isinstance bt_isinstance (va_cons (vb_name 0 (pv 0)) (va_cons (toBor (ve_ty (by rfl) z_list bt_list)) va_nil)))) (toBor (ve_callB cd_isi (by rfl) z_isinstance bt_isinstance (va_cons (vb_name 1 (pv 1)) (va_cons (toBor (ve_ty (by rfl) z_list bt_list)) va_nil))))) (vw_one (vt_cmp (od_ne hr.units) (toBor (ve_callB cd_isi (by rfl) z_isinstance bt_isinstance (va_cons (vb_name 0 (pv 0)) (va_cons (toBor (ve_ty (by rfl) z_tuple bt_tuple)) va_nil)))) (toBor (ve_callB cd_isi (by rfl) z_isinstance bt_isinstance (va_cons (vb_name 1 (pv 1)) (va_cons (toBor (ve_ty (by rfl) z_tuple bt_tuple)) va_nil)))))))).pt (vs_one (vs_ret ve_bl)) vs_nil)
      (vs_cons (vs_if (vt_cmp (od_ne hr.units) (toBor (ve_callB cd_len (by rfl) z_len bt_len (va_cons (vb_name 0 (pv 0)) va_nil))) (toBor (ve_callB cd_len (by rfl) z_len bt_len (va_cons (vb_name 1 (pv 1)) va_nil)))) (vs_one (vs_ret ve_bl)) vs_nil)
      (vs_one (vs_ret (ve_cmp (od_eq hr.units) (toBorF (ve_lc rfl sc__law_eq.nd (vi_range1 (by rfl) z_range (va_cons (toBor (ve_callB cd_len (by rfl) z_len bt_len (va_cons (vb_name 1 (pv 1)) va_nil))) va_nil)) (blkOk_by (own := [("k", 2)]) (by kernel_rfl)) (by decide) (fun _ _ _ _ _ => (vg_name (i := 2) sc__law_eq.nd rfl (by first | exact .inl rfl | exact .inr rfl))) (fun _ _ _ _ _ => (vp_one (vt_not (vt_truth (toBor (ve_fnH h__law_eq (hr.mono (by first | exact Nat.le_refl _ | decide | exact Nat.le_trans (by decide) (Nat.le_add_right 0 k))) (by rfl) (len_cons (len_cons len_nil)) (va_cons (ve_ix (vb_name 0 (pv 0)) (vb_name 2 (pv 2)) (fun _ _ => rfl)) (va_cons (ve_ix (vb_name 1 (pv 1)) (vb_name 2 (pv 2)) (fun _ _ => rfl)) va_nil)))))))) (fun _ _ _ _ _ => (ve_name 2 (pv 2))))) (toBorF (ve_lst va_nil))))))) vs_nil)
      (vs_cons (vs_if (vt_isN (vb_name 1 (pv 1))) (vs_one (vs_ret (ve_isN (vb_name 0 (pv 0))))) vs_nil)
      (vs_cons (vs_if (vt_truth (toBor (ve_callB cd_isi (by rfl) z_isinstance bt_isinstance (va_cons (vb_name 1 (pv 1)) (va_cons (toBor (ve_ty (by rfl) z_str bt_str)) va_nil))))) (vs_one (vs_ret (ve_and (ve_callB cd_isi (by rfl) z_isinstance bt_isinstance (va_cons (vb_name 0 (pv 0)) (va_cons (toBor (ve_ty (by rfl) z_str bt_str)) va_nil))) (ve_one (ve_cmp (od_eq hr.units) (vb_name 0 (pv 0)) (vb_name 1 (pv 1))))))) vs_nil)
      (vs_cons (vs_if (vt_truth (toBor (ve_callB cd_isi (by rfl) z_isinstance bt_isinstance (va_cons (vb_name 1 (pv 1)) (va_cons (toBor (ve_ty (by rfl) z_bool bt_bool)) va_nil))))) (vs_one (vs_ret (ve_and (ve_callB cd_isi (by rfl) z_isinstance bt_isinstance (va_cons (vb_name 0 (pv 0)) (va_cons (toBor (ve_ty (by rfl) z_bool bt_bool)) va_nil))) (ve_one (ve_cmp (od_eq hr.units) (vb_name 0 (pv 0)) (vb_name 1 (pv 1))))))) vs_nil)
      (vs_one (vs_ret (ve_and (ve_callB cd_isi (by rfl) z_isinstance bt_isinstance (va_cons (vb_name 0 (pv 0)) (va_cons (toBor (ve_ty (by rfl) z_int bt_int)) va_nil))) (ve_and (ve_not (ve_callB cd_isi (by rfl) z_isinstance bt_isinstance (va_cons (vb_name 0 (pv 0)) (va_cons (toBor (ve_ty (by rfl) z_bool bt_bool)) va_nil)))) (ve_one (ve_cmp (od_eq hr.units) (vb_name 0 (pv 0)) (vb_name 1 (pv 1))))))))))))
/-! ### _law_partitions -/
abbrev s__law_partitions : Stmt := topS 13
abbrev N__law_partitions : List Str := ["n", "most", "told", "x", "rest"]
theorem sc__law_partitions : FnScope N__law_partitions ["n", "most"] (defScope s__law_partitions) := ⟨rfl, rfl, rfl, by decide +kernel, rfl, by decide +kernel, by decide +kernel⟩
def m__law_partitions (self : CT) : MS :=
  (mSeq (mIfS (mB (m2 fEq (mLend 0) (mC (.int 0)))) (mRet (mLst (mCons (mTup mNil) mNil))) mNx)
    (mSeq (mSetF 2 (mLst mNil))
    (mSeq (mFor (mRange3 (mCons (mCall fMin (mCons (mLend 0) (mCons (mLend 1) mNil))) (mCons (mC (.int 0)) (mCons (m1 fNeg (mC (.int 1))) mNil)))) (gN 3) (mSetF 2 (m2 fAdd (mLend 2) (mLc [4] (mItems (mFn self (mCons (m2 fSub (mLend 0) (mLend 3)) (mCons (mName 3) mNil)))) (gN 4) mtYes (m2 fAdd (mTup (mCons (mName 3) mNil)) (mLend 4))))))
    (mRet (mName 2)))))
def F__law_partitions : Nat → CT
  | 0 => fun _ _ => none
  | k + 1 => runF 2 5 (m__law_partitions (F__law_partitions k))
theorem ok__law_partitions {P : Program} {w : World} {K : PySem.W.Frag} {mg : Str → Option Value} {base : Heap} (z_min : mg "min" = none) (z_range : mg "range" = none) {f : Addr} {fd : FuncData} (F : Fun K "_law_partitions" "_law_partitions" s__law_partitions f fd) (hm : mg "_law_partitions" = some (.ref f)) (hb : Binds K fd ["n", "most"] []) : ∀ k : Nat, Has P w K mg base "_law_partitions" (0 + k) 2 (F__law_partitions k)
  | 0 => has_none _ F hm hb
  | k + 1 => by
    have h__law_partitions := ok__law_partitions (P := P) (w := w) (base := base) z_min z_range F hm hb k
    exact has_of (N := N__law_partitions) (ps := ["n", "most"]) F hm hb sc__law_partitions fun cdv A outer s H E hr =>
      (vs_cons (vs_if (vt_cmp (od_eq hr.units) (vb_name 0 (pv 0)) (toBor ve_int)) (vs_one (vs_ret (toVal (ve_lst (va_cons (ve_tup va_nil) va_nil))))) vs_nil)
      (vs_cons (vs_setF (i := 2) sc__law_partitions.nd rfl (by first | exact .inl rfl | exact .inr rfl) (ve_lst va_nil))
      (vs_cons (vs_for PassesOwn.never rfl (vi_range3 (by rfl) z_range (va_cons (toBor (ve_callB (cd_min rfl) (by rfl) z_min bt_min (va_cons (vb_name 0 (pv 0)) (va_cons (vb_name 1 (pv 1)) va_nil)))) (va_cons (toBor ve_int) (va_cons (toBor (ve_neg (toBor ve_int))) va_nil)))) (vg_name (i := 3) sc__law_partitions.nd rfl (by first | exact .inl rfl | exact .inr rfl)) (vs_one (vs_setF (i := 2) sc__law_partitions.nd rfl (by first | exact .inl rfl | exact .inr rfl) (ve_bin od_add (vb_name 2 (pv 2)) (toBorF (ve_lc rfl sc__law_partitions.nd (vi_seq (ve_fnH h__law_partitions (hr.mono (by first | exact Nat.le_refl _ | decide | exact Nat.le_trans (by decide) (Nat.le_add_right 0 k))) (by rfl) (len_cons (len_cons len_nil)) (va_cons (ve_bin od_sub (vb_name 0 (pv 0)) (vb_name 3 (pv 3))) (va_cons (ve_name 3 (pv 3)) va_nil)))) (blkOk_by (own := [("rest", 4)]) (by kernel_rfl)) (by decide) (fun _ _ _ _ _ => (vg_name (i := 4) sc__law_partitions.nd rfl (by first | exact .inl rfl | exact .inr rfl))) (fun _ _ _ _ _ => vp_nil) (fun _ _ _ _ _ => (toVal (ve_bin od_add (toBor (ve_tup (va_cons (ve_name 3 (pv 3)) va_nil))) (vb_name 4 (pv 4)))))))))))
      (vs_one (vs_ret (ve_name 2 (pv 2)))))))
/-! ### _law_gaps -/
abbrev s__law_gaps : Stmt := topS 14
abbrev N__law_gaps : List Str := ["state", "top", "m", "rows", "r", "s"]
theorem sc__law_gaps : FnScope N__law_gaps ["state", "top"] (defScope s__law_gaps) := ⟨rfl, rfl, rfl, by decide +kernel, rfl, by decide +kernel, by decide +kernel⟩
def m__law_gaps : MS :=
  (mSeq (mSetF 2 (m2 fAdd (mC (.int 1)) (mFn F__law_draw (mCons (mName 0) (mCons (mFn F__law_pick (mCons (mName 0) (mCons (mLst (mCons (mC (.int 2)) (mCons (mC (.int 4)) (mCons (mC (.int 6)) mNil)))) mNil))) mNil)))))
    (mSeq (mSetF 3 (mLst mNil))
    (mSeq (mFor (mRange1 (mCons (mLend 2) mNil)) (gN 4) (mMethS eApp 3 (mCons (mCall fTuple (mCons (mLc [5] (mRange1 (mCons (mLend 2) mNil)) (gN 5) mtYes (mIf (mB (m2 (cmpI pGt) (mFn F__law_draw (mCons (mName 0) (mCons (mC (.int 4)) mNil))) (mC (.int 0)))) (m2 fSub (mFn F__law_draw (mCons (mName 0) (mCons (m2 fAdd (mLend 1) (mC (.int 2))) mNil))) (mC (.int 1))) (mFn F__law_draw (mCons (mName 0) (mCons (mC (.int 2)) mNil))))) mNil)) mNil)))
    (mRet (mTup (mCons (mName 2) (mCons (mCall fTuple (mCons (mLend 3) mNil)) (mCons (m2 fAdd (mC (.int 1)) (mFn F__law_draw (mCons (mName 0) (mCons (mC (.int 4)) mNil)))) mNil))))))))
def F__law_gaps : CT := runF 2 6 m__law_gaps
theorem ok__law_gaps {P : Program} {w : World} {K : PySem.W.Frag} {mg : Str → Option Value} {base : Heap} (h__law_draw : Has P w K mg base "_law_draw" 1 2 F__law_draw) (h__law_pick : Has P w K mg base "_law_pick" 2 2 F__law_pick) (z_range : mg "range" = none) (z_tuple : mg "tuple" = none) {f : Addr} {fd : FuncData} (F : Fun K "_law_gaps" "_law_gaps" s__law_gaps f fd) (hm : mg "_law_gaps" = some (.ref f)) (hb : Binds K fd ["state", "top"] []) : Has P w K mg base "_law_gaps" 3 2 F__law_gaps :=
  has_of (N := N__law_gaps) (ps := ["state", "top"]) F hm hb sc__law_gaps fun cdv A outer s H E hr =>
      (vs_cons (vs_setF (i := 2) sc__law_gaps.nd rfl (by first | exact .inl rfl | exact .inr rfl) (ve_bin od_add (toBor ve_int) (toBor (ve_fnH h__law_draw (hr.mono (by decide)) (by rfl) (len_cons (len_cons len_nil)) (va_cons (ve_name 0 (pv 0)) (va_cons (ve_fnH h__law_pick (hr.mono (by decide)) (by rfl) (len_cons (len_cons len_nil)) (va_cons (ve_name 0 (pv 0)) (va_cons (toVal (ve_lst (va_cons ve_int (va_cons ve_int (va_cons ve_int va_nil))))) va_nil))) va_nil))))))
      (vs_cons (vs_setF (i := 3) sc__law_gaps.nd rfl (by first | exact .inl rfl | exact .inr rfl) (ve_lst va_nil))
      (vs_cons (vs_for PassesOwn.never rfl (vi_range1 (by rfl) z_range (va_cons (vb_name 2 (pv 2)) va_nil)) (vg_name (i := 4) sc__law_gaps.nd rfl (by first | exact .inl rfl | exact .inr rfl)) (vs_one (vs_meth md_append PySem.F.plainAttrs_list PySem.F.slot_list_append PySem.F.type_list_append (pv 3) (va_cons (ve_callT cd_tuple (by rfl) z_tuple bt_tuple (va_cons (toBorF (ve_lc rfl sc__law_gaps.nd (vi_range1 (by rfl) z_range (va_cons (vb_name 2 (pv 2)) va_nil)) (blkOk_by (own := [("s", 5)]) (by kernel_rfl)) (by decide) (fun _ _ _ _ _ => (vg_name (i := 5) sc__law_gaps.nd rfl (by first | exact .inl rfl | exact .inr rfl))) (fun _ _ _ _ _ => vp_nil) (fun _ _ _ _ _ => (ve_if (vt_cmp od_gt (toBor (ve_fnH h__law_draw (hr.mono (by decide)) (by rfl) (len_cons (len_cons len_nil)) (va_cons (ve_name 0 (pv 0)) (va_cons ve_int va_nil)))) (toBor ve_int)) (ve_bin od_sub (toBor (ve_fnH h__law_draw (hr.mono (by decide)) (by rfl) (len_cons (len_cons len_nil)) (va_cons (ve_name 0 (pv 0)) (va_cons (toVal (ve_bin od_add (vb_name 1 (pv 1)) (toBor ve_int))) va_nil)))) (toBor ve_int)) (ve_fnH h__law_draw (hr.mono (by decide)) (by rfl) (len_cons (len_cons len_nil)) (va_cons (ve_name 0 (pv 0)) (va_cons ve_int va_nil))))))) va_nil)) va_nil))))
      (vs_one (vs_ret (ve_tup (va_cons (ve_name 2 (pv 2)) (va_cons (ve_callT cd_tuple (by rfl) z_tuple bt_tuple (va_cons (vb_name 3 (pv 3)) va_nil)) (va_cons (toVal (ve_bin od_add (toBor ve_int) (toBor (ve_fnH h__law_draw (hr.mono (by decide)) (by rfl) (len_cons (len_cons len_nil)) (va_cons (ve_name 0 (pv 0)) (va_cons ve_int va_nil)))))) va_nil)))))))))
/-! ### _law_stands -/
abbrev s__law_stands : Stmt := topS 15
abbrev N__law_stands : List Str := ["rule", "x", "y", "gap"]
theorem sc__law_stands : FnScope N__law_stands ["rule", "x", "y"] (defScope s__law_stands) := ⟨rfl, rfl, rfl, by decide +kernel, rfl, by decide +kernel, by decide +kernel⟩
def m__law_stands : MS :=
  (mSeq (mSet 3 (m2 fIx (m2 fIx (m2 fIx (mLend 0) (mC (.int 1))) (m2 fMod (mCall fInt (mCons (mLend 1) mNil)) (m2 fIx (mLend 0) (mC (.int 0))))) (m2 fMod (mCall fInt (mCons (mLend 2) mNil)) (m2 fIx (mLend 0) (mC (.int 0))))))
    (mRet (mAnd (m2 (cmpI pGe) (mLend 3) (mC (.int 0))) (m2 (cmpI pGe) (m2 fSub (mLend 1) (mLend 2)) (mLend 3)))))
def F__law_stands : CT := runF 3 4 m__law_stands
theorem ok__law_stands {P : Program} {w : World} {K : PySem.W.Frag} {mg : Str → Option Value} {base : Heap} (z_int : mg "int" = none) {f : Addr} {fd : FuncData} (F : Fun K "_law_stands" "_law_stands" s__law_stands f fd) (hm : mg "_law_stands" = some (.ref f)) (hb : Binds K fd ["rule", "x", "y"] []) : Has P w K mg base "_law_stands" 1 3 F__law_stands :=
  has_of (N := N__law_stands) (ps := ["rule", "x", "y"]) F hm hb sc__law_stands fun cdv A outer s H E hr =>
      (vs_cons (vs_set (i := 3) sc__law_stands.nd rfl (by first | exact .inl rfl | exact .inr rfl) (ve_ix (toBor (ve_ix (toBor (ve_ix (vb_name 0 (pv 0)) (toBor ve_int) (fun _ _ => rfl))) (toBor (ve_bin od_mod (toBor (ve_callT cd_int (by rfl) z_int bt_int (va_cons (vb_name 1 (pv 1)) va_nil))) (toBor (ve_ix (vb_name 0 (pv 0)) (toBor ve_int) (fun _ _ => rfl))))) (fun _ _ => rfl))) (toBor (ve_bin od_mod (toBor (ve_callT cd_int (by rfl) z_int bt_int (va_cons (vb_name 2 (pv 2)) va_nil))) (toBor (ve_ix (vb_name 0 (pv 0)) (toBor ve_int) (fun _ _ => rfl))))) (fun _ _ => rfl)))
      (vs_one (vs_ret (ve_and (ve_cmp od_ge (vb_name 3 (pv 3)) (toBor ve_int)) (ve_one (ve_cmp od_ge (toBor (ve_bin od_sub (vb_name 1 (pv 1)) (vb_name 2 (pv 2)))) (vb_name 3 (pv 3))))))))
/-! ### _law_keeps -/
abbrev s__law_keeps : Stmt := topS 16
abbrev N__law_keeps : List Str := ["rule", "parts", "k"]
theorem sc__law_keeps : FnScope N__law_keeps ["rule", "parts"] (defScope s__law_keeps) := ⟨rfl, rfl, rfl, by decide +kernel, rfl, by decide +kernel, by decide +kernel⟩
def m__law_keeps : MS :=
  (mSeq (mIfS (mtAnd (mB (m2 fNe (mLend 1) (mTup mNil))) (mB (m2 (cmpI pLt) (m2 fIx (mLend 1) (m1 fNeg (mC (.int 1)))) (m2 fIx (mLend 0) (mC (.int 2)))))) (mRet (mC (.bl false))) mNx)
    (mRet (m2 fEq (mLc [2] (mRange1 (mCons (m2 fSub (mCall fLen (mCons (mLend 1) mNil)) (mC (.int 1))) mNil)) (gN 2) (mtNot (mTr (mFn F__law_stands (mCons (mName 0) (mCons (m2 fIx (mLend 1) (mLend 2)) (mCons (m2 fIx (mLend 1) (m2 fAdd (mLend 2) (mC (.int 1)))) mNil)))))) (mName 2)) (mLst mNil))))
def F__law_keeps : CT := runF 2 3 m__law_keeps
theorem ok__law_keeps {P : Program} {w : World} {K : PySem.W.Frag} {mg : Str → Option Value} {base : Heap} (h__law_stands : Has P w K mg base "_law_stands" 1 3 F__law_stands) (z_len : mg "len" = none) (z_range : mg "range" = none) {f : Addr} {fd : FuncData} (F : Fun K "_law_keeps" "_law_keeps" s__law_keeps f fd) (hm : mg "_law_keeps" = some (.ref f)) (hb : Binds K fd ["rule", "parts"] []) : Has P w K mg base "_law_keeps" 2 2 F__law_keeps :=
  has_of (N := N__law_keeps) (ps := ["rule", "parts"]) F hm hb sc__law_keeps fun cdv A outer s H E hr =>
      (vs_cons (vs_if ((vw_and (vt_cmp (od_ne hr.units) (vb_name 1 (pv 1)) (toBor (ve_tup va_nil))) (vw_one (vt_cmp od_lt (toBor (ve_ix (vb_name 1 (pv 1)) (toBor (ve_neg (toBor ve_int))) (fun _ _ => rfl))) (toBor (ve_ix (vb_name 0 (pv 0)) (toBor ve_int) (fun _ _ => rfl))))))).pt (vs_one (vs_ret ve_bl)) vs_nil)
      (vs_one (vs_ret (ve_cmp (od_eq hr.units) (toBorF (ve_lc rfl sc__law_keeps.nd (vi_range1 (by rfl) z_range (va_cons (toBor (ve_bin od_sub (toBor (ve_callB cd_len (by rfl) z_len bt_len (va_cons (vb_name 1 (pv 1)) va_nil))) (toBor ve_int))) va_nil)) (blkOk_by (own := [("k", 2)]) (by kernel_rfl)) (by decide) (fun _ _ _ _ _ => (vg_name (i := 2) sc__law_keeps.nd rfl (by first | exact .inl rfl | exact .inr rfl))) (fun _ _ _ _ _ => (vp_one (vt_not (vt_truth (toBor (ve_fnH h__law_stands (hr.mono (by decide)) (by rfl) (len_cons (len_cons (len_cons len_nil))) (va_cons (ve_name 0 (pv 0)) (va_cons (ve_ix (vb_name 1 (pv 1)) (vb_name 2 (pv 2)) (fun _ _ => rfl)) (va_cons (ve_ix (vb_name 1 (pv 1)) (toBorF (ve_bin od_add (vb_name 2 (pv 2)) (toBor ve_int))) (fun _ _ => rfl)) va_nil))))))))) (fun _ _ _ _ _ => (ve_name 2 (pv 2))))) (toBorF (ve_lst va_nil))))))
/-! ### _law_all -/
abbrev s__law_all : Stmt := topS 17
abbrev N__law_all : List Str := ["rule", "told", "row"]
theorem sc__law_all : FnScope N__law_all ["rule"] (defScope s__law_all) := ⟨rfl, rfl, rfl, by decide +kernel, rfl, by decide +kernel, by decide +kernel⟩
def m__law_all : MS :=
  (mSeq (mSetF 1 (mLst mNil))
    (mSeq (mFor (mItems (m2 fIx (mLend 0) (mC (.int 1)))) (gN 2) (mSetF 1 (m2 fAdd (mLend 1) (mCall fList (mCons (mLend 2) mNil)))))
    (mRet (mName 1))))
def F__law_all : CT := runF 1 3 m__law_all
theorem ok__law_all {P : Program} {w : World} {K : PySem.W.Frag} {mg : Str → Option Value} {base : Heap} (z_list : mg "list" = none) {f : Addr} {fd : FuncData} (F : Fun K "_law_all" "_law_all" s__law_all f fd) (hm : mg "_law_all" = some (.ref f)) (hb : Binds K fd ["rule"] []) : Has P w K mg base "_law_all" 1 1 F__law_all :=
  has_of (N := N__law_all) (ps := ["rule"]) F hm hb sc__law_all fun cdv A outer s H E hr =>
      (vs_cons (vs_setF (i := 1) sc__law_all.nd rfl (by first | exact .inl rfl | exact .inr rfl) (ve_lst va_nil))
      (vs_cons (vs_for PassesOwn.never rfl (vi_seq (ve_ix (vb_name 0 (pv 0)) (toBor ve_int) (fun _ _ => rfl))) (vg_name (i := 2) sc__law_all.nd rfl (by first | exact .inl rfl | exact .inr rfl)) (vs_one (vs_setF (i := 1) sc__law_all.nd rfl (by first | exact .inl rfl | exact .inr rfl) (ve_bin od_add (vb_name 1 (pv 1)) (toBorF (ve_callT cd_list (by rfl) z_list bt_list (va_cons (vb_name 2 (pv 2)) va_nil)))))))
      (vs_one (vs_ret (ve_name 1 (pv 1))))))
/-! ### law -/
abbrev s_law : Stmt := topS 18
abbrev N_law : List Str := ["script", "state", "turn", "rule", "top", "n", "kept", "parts", "due", "last", "k", "x", "told", "r", "d", "gap"]
theorem sc_law : FnScope N_law ["script"] (defScope s_law) := ⟨rfl, rfl, rfl, by decide +kernel, rfl, by decide +kernel, by decide +kernel⟩
def m_law : MS :=
  (mSeq (mSet 1 (mFn F__law_state (mCons (mName 0) mNil)))
    (mSeq (mFor (mRange1 (mCons (mC (.int 4)) mNil)) (gN 2) (mSeq (mSet 3 (mFn F__law_gaps (mCons (mName 1) (mCons (mFn F__law_pick (mCons (mName 1) (mCons (mLst (mCons (mC (.int 2)) (mCons (mC (.int 5)) mNil))) mNil))) mNil))))
    (mSeq (mSet 4 (mCall fMax (mCons (m2 fAdd (mLst (mCons (mC (.int 0)) mNil)) (mFn F__law_all (mCons (mName 3) mNil))) mNil)))
    (mSeq (mSetF 5 (m2 fAdd (mC (.int 1)) (mFn F__law_draw (mCons (mName 1) (mCons (mC (.int 16)) mNil)))))
    (mSeq (mSetF 6 (mLc [7] (mItems (mFn (F__law_partitions 30) (mCons (mName 5) (mCons (mName 5) mNil)))) (gN 7) (mTr (mFn F__law_keeps (mCons (mName 3) (mCons (mName 7) mNil)))) (mName 7)))
    (mFor (mItems (mLst (mCons (mTup mNil) (mCons (mIf (mB (m2 fNe (mLend 6) (mLst mNil))) (mFn F__law_pick (mCons (mName 1) (mCons (mName 6) mNil))) (mTup mNil)) mNil)))) (gN 7) (mSeq (mSetF 8 (mLst (mCons (mC .non) mNil)))
    (mSeq (mSet 9 (mC .non))
    (mSeq (mFor (mRange2 (mCons (mC (.int 1)) (mCons (m2 fAdd (mIf (mB (m2 fNe (mLend 7) (mTup mNil))) (m2 fIx (mLend 7) (mC (.int 0))) (mC (.int 0))) (mC (.int 1))) mNil))) (gN 10) (mSeq (mSet 9 (mIf (mB (m2 (fInS false) (mLend 10) (mLend 7))) (mName 10) (mName 9)))
    (mMethS eApp 8 (mCons (mIf (mB (m1 (fIsN false) (mLend 9))) (mC .non) (mTup (mCons (m2 fMod (mCall fInt (mCons (mLend 9) mNil)) (m2 fIx (mLend 3) (mC (.int 0)))) (mCons (mCall fMin (mCons (m2 fSub (mLend 10) (mLend 9)) (mCons (mLend 4) mNil))) mNil)))) mNil))))
    (mSeq (mIfS (mtNot (mTr (mFn (F__law_eq 8) (mCons (mFn F_states (mCons (mName 3) (mCons (mName 7) mNil))) (mCons (mName 8) mNil))))) (mRet (mC (.bl false))) mNx)
    (mFor (mRange2 (mCons (mCall fMax (mCons (m2 fSub (mCall fLen (mCons (mLend 8) mNil)) (mC (.int 1))) (mCons (mC (.int 1)) mNil))) (mCons (m2 fAdd (mCall fLen (mCons (mLend 8) mNil)) (mC (.int 6))) mNil))) (gN 11) (mSeq (mSet 12 (mFn F_keeps_gaps (mCons (mName 3) (mCons (m2 fAdd (mTup (mCons (mName 11) mNil)) (mLend 7)) mNil))))
    (mSeq (mIfS (mtNot (mTr (mFn (F__law_eq 8) (mCons (mName 12) (mCons (mFn F__law_keeps (mCons (mName 3) (mCons (m2 fAdd (mTup (mCons (mName 11) mNil)) (mLend 7)) mNil))) mNil))))) (mRet (mC (.bl false))) mNx)
    (mIfS (mtAnd (mB (m2 (cmpI pGe) (mLend 11) (mCall fLen (mCons (mLend 8) mNil)))) (mB (m2 fNe (mLend 7) (mTup mNil)))) (mSeq (mPar 13 14 (mCons (m2 fIx (m2 fIx (mLend 8) (m1 fNeg (mC (.int 1)))) (mC (.int 0))) (mCons (m2 fIx (m2 fIx (mLend 8) (m1 fNeg (mC (.int 1)))) (mC (.int 1))) mNil)))
    (mSeq (mSet 15 (m2 fIx (m2 fIx (m2 fIx (mLend 3) (mC (.int 1))) (m2 fMod (mCall fInt (mCons (mLend 11) mNil)) (m2 fIx (mLend 3) (mC (.int 0))))) (mLend 13)))
    (mIfS (mB (m2 fNe (mLend 12) (mAnd (m2 (cmpI pGe) (mLend 15) (mC (.int 0))) (m2 (cmpI pGe) (mCall fMin (mCons (m2 fSub (mLend 11) (m2 fIx (mLend 7) (mC (.int 0)))) (mCons (mLend 4) mNil))) (mLend 15))))) (mRet (mC (.bl false))) mNx))) mNx))))))))))))))
    (mRet (mC (.bl true)))))
def F_law : CT := runF 1 16 m_law
theorem ok_law {P : Program} {w : World} {K : PySem.W.Frag} {mg : Str → Option Value} {base : Heap} (h__law_state : Has P w K mg base "_law_state" 1 1 F__law_state) (h__law_gaps : Has P w K mg base "_law_gaps" 3 2 F__law_gaps) (h__law_pick : Has P w K mg base "_law_pick" 2 2 F__law_pick) (h__law_all : Has P w K mg base "_law_all" 1 1 F__law_all) (h__law_draw : Has P w K mg base "_law_draw" 1 2 F__law_draw) (h__law_partitions : Has P w K mg base "_law_partitions" 30 2 (F__law_partitions 30)) (h__law_keeps : Has P w K mg base "_law_keeps" 2 2 F__law_keeps) (h__law_eq : Has P w K mg base "_law_eq" 8 2 (F__law_eq 8)) (h_states : Has P w K mg base "states" 3 2 F_states) (h_keeps_gaps : Has P w K mg base "keeps_gaps" 3 2 F_keeps_gaps) (z_range : mg "range" = none) (z_max : mg "max" = none) (z_int : mg "int" = none) (z_min : mg "min" = none) (z_len : mg "len" = none) {f : Addr} {fd : FuncData} (F : Fun K "law" "law" s_law f fd) (hm : mg "law" = some (.ref f)) (hb : Binds K fd ["script"] []) : FnOk P w K mg base CX0 31 f fd ["script"] (spOf K 1 F_law) :=
  fn_ok (N := N_law) (ps := ["script"]) F sc_law fun cdv A outer s H E hr =>
      (vs_cons (vs_set (i := 1) sc_law.nd rfl (by first | exact .inl rfl | exact .inr rfl) (ve_fnH h__law_state (hr.mono (by decide)) (by rfl) (len_cons len_nil) (va_cons (ve_name 0 (pv 0)) va_nil)))
      (vs_cons (vs_for PassesOwn.never rfl (vi_range1 (by rfl) z_range (va_cons (toBor ve_int) va_nil)) (vg_name (i := 2) sc_law.nd rfl (by first | exact .inl rfl | exact .inr rfl)) (vs_cons (vs_set (i := 3) sc_law.nd rfl (by first | exact .inl rfl | exact .inr rfl) (ve_fnH h__law_gaps (hr.mono (by decide)) (by rfl) (len_cons (len_cons len_nil)) (va_cons (ve_name 1 (pv 1)) (va_cons (ve_fnH h__law_pick (hr.mono (by decide)) (by rfl) (len_cons (len_cons len_nil)) (va_cons (ve_name 1 (pv 1)) (va_cons (toVal (ve_lst (va_cons ve_int (va_cons ve_int va_nil)))) va_nil))) va_nil))))
      (vs_cons (vs_set (i := 4) sc_law.nd rfl (by first | exact .inl rfl | exact .inr rfl) (ve_callB (cd_max rfl) (by rfl) z_max bt_max (va_cons (toBorF (ve_bin od_add (toBorF (ve_lst (va_cons ve_int va_nil))) (toBor (ve_fnH h__law_all (hr.mono (by decide)) (by rfl) (len_cons len_nil) (va_cons (ve_name 3 (pv 3)) va_nil))))) va_nil)))
      (vs_cons (vs_setF (i := 5) sc_law.nd rfl (by first | exact .inl rfl | exact .inr rfl) (ve_bin od_add (toBor ve_int) (toBor (ve_fnH h__law_draw (hr.mono (by decide)) (by rfl) (len_cons (len_cons len_nil)) (va_cons (ve_name 1 (pv 1)) (va_cons ve_int va_nil))))))
      (vs_cons (vs_setLc (i := 6) rfl sc_law.nd rfl rfl (sw_true rfl rfl rfl (by kernel_rfl)) (vi_seq (ve_fnH h__law_partitions (hr.mono (by decide)) (by rfl) (len_cons (len_cons len_nil)) (va_cons (ve_name 5 (pv 5)) (va_cons (ve_name 5 (pv 5)) va_nil)))) (blkOk_by (own := [("parts", 7)]) (by kernel_rfl)) (by decide) (fun _ _ _ _ _ => (vg_name (i := 7) sc_law.nd rfl (by first | exact .inl rfl | exact .inr rfl))) (fun _ _ _ _ _ => (vp_one (vt_truth (toBor (ve_fnH h__law_keeps (hr.mono (by decide)) (by rfl) (len_cons (len_cons len_nil)) (va_cons (ve_name 3 (pv 3)) (va_cons (ve_name 7 (pv 7)) va_nil))))))) (fun _ _ _ _ _ => (ve_name 7 (pv 7))))
      (vs_one (vs_for PassesOwn.never rfl (vi_seq (toVal (ve_lst (va_cons (ve_tup va_nil) (va_cons (ve_if (vt_cmp (od_ne hr.units) (vb_name 6 (pv 6)) (toBorF (ve_lst va_nil))) (ve_fnH h__law_pick (hr.mono (by decide)) (by rfl) (len_cons (len_cons len_nil)) (va_cons (ve_name 1 (pv 1)) (va_cons (ve_name 6 (pv 6)) va_nil))) (ve_tup va_nil)) va_nil))))) (vg_name (i := 7) sc_law.nd rfl (by first | exact .inl rfl | exact .inr rfl)) (vs_cons (vs_setF (i := 8) sc_law.nd rfl (by first | exact .inl rfl | exact .inr rfl) (ve_lst (va_cons ve_non va_nil)))
      (vs_cons (vs_set (i := 9) sc_law.nd rfl (by first | exact .inl rfl | exact .inr rfl) ve_non)
      (vs_cons (vs_for PassesOwn.never rfl (vi_range2 (by rfl) z_range (va_cons (toBor ve_int) (va_cons (toBorF (ve_bin od_add (ve_if (vt_cmp (od_ne hr.units) (vb_name 7 (pv 7)) (toBor (ve_tup va_nil))) (toBor (ve_ix (vb_name 7 (pv 7)) (toBor ve_int) (fun _ _ => rfl))) (toBor ve_int)) (toBor ve_int))) va_nil))) (vg_name (i := 10) sc_law.nd rfl (by first | exact .inl rfl | exact .inr rfl)) (vs_cons (vs_set (i := 9) sc_law.nd rfl (by first | exact .inl rfl | exact .inr rfl) (ve_if (vt_cmp (od_inS (hu65 hr)) (vb_name 10 (pv 10)) (vb_name 7 (pv 7))) (ve_name 10 (pv 10)) (ve_name 9 (pv 9))))
      (vs_one (vs_meth md_append PySem.F.plainAttrs_list PySem.F.slot_list_append PySem.F.type_list_append (pv 8) (va_cons (ve_if (vt_isN (vb_name 9 (pv 9))) ve_non (ve_tup (va_cons (ve_bin od_mod (toBor (ve_callT cd_int (by rfl) z_int bt_int (va_cons (vb_name 9 (pv 9)) va_nil))) (toBor (ve_ix (vb_name 3 (pv 3)) (toBor ve_int) (fun _ _ => rfl)))) (va_cons (ve_callB (cd_min rfl) (by rfl) z_min bt_min (va_cons (toBor (ve_bin od_sub (vb_name 10 (pv 10)) (vb_name 9 (pv 9)))) (va_cons (vb_name 4 (pv 4)) va_nil))) va_nil)))) va_nil)))))
      (vs_cons (vs_if (vt_not (vt_truth (toBor (ve_fnH h__law_eq (hr.mono (by decide)) (by rfl) (len_cons (len_cons len_nil)) (va_cons (ve_fnH h_states (hr.mono (by decide)) (by rfl) (len_cons (len_cons len_nil)) (va_cons (ve_name 3 (pv 3)) (va_cons (ve_name 7 (pv 7)) va_nil))) (va_cons (ve_name 8 (pv 8)) va_nil)))))) (vs_one (vs_ret ve_bl)) vs_nil)
      (vs_one (vs_for PassesOwn.never rfl (vi_range2 (by rfl) z_range (va_cons (toBor (ve_callB (cd_max rfl) (by rfl) z_max bt_max (va_cons (toBor (ve_bin od_sub (toBor (ve_callB cd_len (by rfl) z_len bt_len (va_cons (vb_name 8 (pv 8)) va_nil))) (toBor ve_int))) (va_cons (toBor ve_int) va_nil)))) (va_cons (toBorF (ve_bin od_add (toBor (ve_callB cd_len (by rfl) z_len bt_len (va_cons (vb_name 8 (pv 8)) va_nil))) (toBor ve_int))) va_nil))) (vg_name (i := 11) sc_law.nd rfl (by first | exact .inl rfl | exact .inr rfl)) (vs_cons (vs_set (i := 12) sc_law.nd rfl (by first | exact .inl rfl | exact .inr rfl) (ve_fnH h_keeps_gaps (hr.mono (by decide)) (by rfl) (len_cons (len_cons len_nil)) (va_cons (ve_name 3 (pv 3)) (va_cons (toVal (ve_bin od_add (toBor (ve_tup (va_cons (ve_name 11 (pv 11)) va_nil))) (vb_name 7 (pv 7)))) va_nil))))
      (vs_cons (vs_if (vt_not (vt_truth (toBor (ve_fnH h__law_eq (hr.mono (by decide)) (by rfl) (len_cons (len_cons len_nil)) (va_cons (ve_name 12 (pv 12)) (va_cons (ve_fnH h__law_keeps (hr.mono (by decide)) (by rfl) (len_cons (len_cons len_nil)) (va_cons (ve_name 3 (pv 3)) (va_cons (toVal (ve_bin od_add (toBor (ve_tup (va_cons (ve_name 11 (pv 11)) va_nil))) (vb_name 7 (pv 7)))) va_nil))) va_nil)))))) (vs_one (vs_ret ve_bl)) vs_nil)
      (vs_one (vs_if ((vw_and (vt_cmp od_ge (vb_name 11 (pv 11)) (toBor (ve_callB cd_len (by rfl) z_len bt_len (va_cons (vb_name 8 (pv 8)) va_nil)))) (vw_one (vt_cmp (od_ne hr.units) (vb_name 7 (pv 7)) (toBor (ve_tup va_nil)))))).pt (vs_cons (vs_par (i := 13) (j := 14) rfl sc_law.nd rfl rfl (by decide) rfl rfl (va_cons (ve_ix (toBor (ve_ix (vb_name 8 (pv 8)) (toBor (ve_neg (toBor ve_int))) (fun _ _ => rfl))) (toBor ve_int) (fun _ _ => rfl)) (va_cons (ve_ix (toBor (ve_ix (vb_name 8 (pv 8)) (toBor (ve_neg (toBor ve_int))) (fun _ _ => rfl))) (toBor ve_int) (fun _ _ => rfl)) va_nil)) (by rfl))
      (vs_cons (vs_set (i := 15) sc_law.nd rfl (by first | exact .inl rfl | exact .inr rfl) (ve_ix (toBor (ve_ix (toBor (ve_ix (vb_name 3 (pv 3)) (toBor ve_int) (fun _ _ => rfl))) (toBor (ve_bin od_mod (toBor (ve_callT cd_int (by rfl) z_int bt_int (va_cons (vb_name 11 (pv 11)) va_nil))) (toBor (ve_ix (vb_name 3 (pv 3)) (toBor ve_int) (fun _ _ => rfl))))) (fun _ _ => rfl))) (vb_name 13 (pv 13)) (fun _ _ => rfl)))
      (vs_one (vs_if (vt_cmp (od_ne hr.units) (vb_name 12 (pv 12)) (toBor (ve_and (ve_cmp od_ge (vb_name 15 (pv 15)) (toBor ve_int)) (ve_one (ve_cmp od_ge (toBor (ve_callB (cd_min rfl) (by rfl) z_min bt_min (va_cons (toBor (ve_bin od_sub (vb_name 11 (pv 11)) (toBor (ve_ix (vb_name 7 (pv 7)) (toBor ve_int) (fun _ _ => rfl))))) (va_cons (vb_name 4 (pv 4)) va_nil)))) (vb_name 15 (pv 15))))))) (vs_one (vs_ret ve_bl)) vs_nil)))) vs_nil)))))))))))))))))
      (vs_one (vs_ret ve_bl))))
end W
namespace W
open PySem PySem.Spec PyProof.Rows L2 Vl
local macro_rules
  | `(tactic| symm_saturate) => `(tactic| repeat (with_reducible first | refine wp_k (k := kEnd) nEnd ?_ | refine wp_k (k := kSeq _) nSeq ?_ | refine wp_k (k := kRet) nRet ?_ | refine wp_k (k := kSet _) nSet ?_ | refine wp_k (k := kSetF _) nSetF ?_ | refine wp_k (k := kDrop) nDrop ?_ | refine wp_k (k := kFor _ _) nFor ?_ | refine wp_k (k := k1 _) n1 ?_ | refine wp_k (k := k2a _ _) n2a ?_ | refine wp_k (k := k2b _ _) n2b ?_ | refine wp_k (k := kCa _) nCa ?_ | refine wp_k (k := kCb _) nCb ?_ | refine wp_k (k := kTup) nTup ?_ | refine wp_k (k := kLst) nLst ?_ | refine wp_k (k := kCall _) nCall ?_ | refine wp_k (k := kFn _) nFn ?_ | refine wp_k (k := kTr) nTr ?_ | refine wp_k (k := kB) nB ?_ | refine wp_k (k := kNot) nNot ?_ | refine wp_k (k := kAnd _) nAnd ?_ | refine wp_k (k := kOr _) nOr ?_ | refine wp_k (k := kIf _ _) nIf ?_ | refine wp_k (k := kIfS _ _) nIfS ?_ | refine wp_k (k := kItems) nItems ?_ | refine wp_k (k := kR1) nR1 ?_ | refine wp_k (k := kR2) nR2 ?_ | refine wp_k (k := kR3) nR3 ?_ | refine wp_k (k := kM1 _ _) nM1 ?_ | refine wp_k (k := kSt0 _ _) nSt0 ?_ | refine wp_k (k := kSt1 _ _) nSt1 ?_ | refine wp_k (k := kAsg _) nAsg ?_ | refine wp_k (k := kPar _ _) nPar ?_ | refine wp_k (k := kPar3 _ _ _) nPar3 ?_ | refine wp_k (k := kOb) nOb ?_ | refine wp_k (k := kC1 _) nC1 ?_ | refine wp_k (k := kC2) nC2 ?_ | refine wp_k (k := kAndE _) nAndE ?_ | refine wp_k (k := kOrE _) nOrE ?_ | refine wp_k (k := kNotE) nNotE ?_ | refine wp_k (k := kSl1 _ _) nSl1 ?_ | refine wp_k (k := kSl2 _ _) nSl2 ?_ | refine wp_k (k := kSl3 _ _) nSl3 ?_ | refine wp_k (k := kO) nO ?_ | refine wp_k (k := kAug _ _ _) nAug ?_ | refine wp_F ?_))
/-! ### the script's numbers, drawn -/
def Drw (sg : List D) : Prop := ∃ (cells : List Int) (seed : Int), sg = [.lst (cells.map D.int), .lst [.obj 0, .int seed]] ∧ cells.length ≤ 63
theorem abs_ev {sg : List D} {i : Int} : fAbs sg [.int i] = some (.int i.natAbs) := by
  unfold fAbs
  simp only
  congr 2
  split <;> omega
theorem int_of {ns : List Int} {d : D} {i : Nat} (h : (ns.map D.int)[i]? = some d) : ∃ n, d = .int n ∧ ns[i]? = some n := by
  rw [List.getElem?_map] at h
  cases e : ns[i]? with
  | none => rw [e] at h; cases h
  | some n => rw [e] at h; cases h; exact ⟨n, rfl, rfl⟩
theorem state_ok (ns : List Int) (h : ns.length ≤ 63) : wp (F__law_state [.scr (ns.map D.int)] []) fun d sg => d = .obj 1 ∧ Drw sg := by
  unfold F__law_state
  rw [e_runF]
  simp [m__law_state]
  symm_saturate
  refine loopF_wp (fun _ s => ∃ (i : Int) (x : Option Sl), s = ⟨[some (.shr (.scr (ns.map D.int))), some (.shr (.int i)), x], []⟩) ⟨7, none, rfl⟩ ?_ ?_
  · rintro i d s hd ⟨j, x, rfl⟩
    obtain ⟨n, rfl, _⟩ := int_of hd
    unfold stepF
    simp [mul_i, mulOk_r]
  · rintro s ⟨i, x, rfl⟩
    simp
    rw [mLc_nums (s1 := ⟨[some (.shr (.scr (ns.map D.int))), some (.shr (.int i)), x], []⟩) D.int ns (fun n => some (.int n.natAbs)) (by simp) rfl (by simp; omega)]
    · simp
      exact ⟨ns.map fun n => (n.natAbs : Int), _, by rw [List.map_map]; rfl, by simpa using h⟩
    · intro n _
      unfold stepC
      simp [abs_ev, wipeR]
theorem draw_ok {sg : List D} {many : Int} (h : Drw sg) (h0 : 0 < many) (h1 : many < 2 ^ 64) : wp (F__law_draw [.obj 1, .int many] sg) fun d sg => (∃ r, d = .int r ∧ 0 ≤ r ∧ r < many) ∧ Drw sg := by
  obtain ⟨cells, seed, rfl, hl⟩ := h
  have hdiv := divOk_of h0 h1
  have d64 : divOk 64 = true := divOk_of (by decide) (by decide)
  have d5 : ∀ i, mulOk i 48271 = true := fun i => mulOk_r (by decide)
  unfold F__law_draw
  rw [e_runF]
  simp [m__law_draw]
  symm_saturate
  refine loopW_wp (fun n s => ∃ (cs : List Int), cs.length = n ∧ n ≤ 63 ∧ s = ⟨[some (.shr (.obj 1)), some (.shr (.int many)), some (.shr (.obj 0)), none, none], [.lst (cs.map D.int), .lst [.obj 0, .int seed]]⟩) cells.length (by omega) ⟨cells, rfl, hl, rfl⟩ ?_
  rintro n s ⟨cs, hc, hn, rfl⟩
  cases cs with
  | nil =>
    simp [fIx, mul_i, d5, d64, eSet, ixN, h0]
    exact ⟨⟨Int.emod_nonneg _ (by omega), Int.emod_lt_of_pos _ h0⟩, [], _, rfl, by simp⟩
  | cons c cs =>
    simp
    by_cases hz : c = 0
    · simp [hz]
      simp at hc
      exact ⟨n - 1, by omega, cs, by omega, by omega, rfl⟩
    · simp [hz, eSet, ixN, h0, hdiv]
      simp at hc
      exact ⟨⟨Int.emod_nonneg _ (by omega), Int.emod_lt_of_pos _ h0⟩, (c / many) :: cs, _, rfl, by simp; omega⟩
abbrev tI (ns : List Int) : D := .tup (ns.map D.int)
theorem pick_ok {sg : List D} {xs : List D} (h : Drw sg) (h0 : xs ≠ []) (h1 : xs.length < 2 ^ 62) : wp (F__law_pick [.obj 1, .lst xs] sg) fun d sg => d ∈ xs ∧ Drw sg := by
  have hp := List.length_pos_iff.mpr h0
  unfold F__law_pick
  rw [e_runF]
  simp [m__law_pick]
  symm_saturate
  refine wp_m (draw_ok h (by omega) (by omega)) ?_
  rintro d sg ⟨⟨r, rfl, h2, h3⟩, hs⟩
  simp [at_nn h2]
  rw [List.getElem?_eq_getElem (show r.toNat < xs.length by omega)]
  simp [hs]
/-! ### sameness -/
mutual
def okD : Nat → D → Bool
  | _, .non => true
  | _, .bl _ => true
  | _, .int _ => true
  | n + 1, .tup xs => decide (xs.length < 1000000) && oks n xs
  | n + 1, .lst xs => decide (xs.length < 1000000) && oks n xs
  | _, _ => false
def oks : Nat → List D → Bool
  | _, [] => true
  | n, d :: ds => okD n d && oks n ds
end
theorem oks_all {n : Nat} {xs : List D} : oks n xs = true ↔ ∀ d ∈ xs, okD n d = true := by
  induction xs with
  | nil => simp [oks]
  | cons d ds ih => simp [oks, ih]
theorem eq_nil {sg : List D} : fEq sg (.lst []) (.lst []) = some (.bl true) := rfl
theorem eq_ok : ∀ (n : Nat) (d : D) (sg : List D), okD n d = true → F__law_eq (n + 1) [d, d] sg = some (.bl true, sg) := by
  intro n
  induction n with
  | zero =>
    intro d sg h
    unfold F__law_eq
    rw [e_runF]
    cases d <;> first | (simp [okD] at h; done) | skip
    all_goals simp [m__law_eq]
  | succ n ih =>
    intro d sg h
    unfold F__law_eq
    rw [e_runF]
    have hin : ∀ (xs : List D) (d : D), (d = .lst xs ∨ d = .tup xs) → xs.length < 1000000 → (∀ z ∈ xs, okD n z = true) →
        mLc [2] (mRange1 (mCons (mCall fLen (mCons (mLend 1) mNil)) mNil)) (gN 2) (mtNot (mTr (mFn (F__law_eq (n + 1)) (mCons (m2 fIx (mLend 0) (mLend 2)) (mCons (m2 fIx (mLend 1) (mLend 2)) mNil))))) (mName 2)
          ⟨[some (.shr d), some (.shr d), none], sg⟩ = some (.lst [], ⟨[some (.shr d), some (.shr d), none], sg⟩) := by
      intro xs d hd hl hz
      have hr : inR (xs.length : Int) = true := inR_i (by omega) (by omega)
      have := mLc_nums (vs := [2]) (mi := mRange1 (mCons (mCall fLen (mCons (mLend 1) mNil)) mNil)) (mg := gN 2) (mt := mtNot (mTr (mFn (F__law_eq (n + 1)) (mCons (m2 fIx (mLend 0) (mLend 2)) (mCons (m2 fIx (mLend 1) (mLend 2)) mNil))))) (me := mName 2)
        (s := ⟨[some (.shr d), some (.shr d), none], sg⟩) (s1 := ⟨[some (.shr d), some (.shr d), none], sg⟩) (ds := rangeD 0 1 xs.length) (fun i : Nat => D.int (0 + i * 1)) (List.range xs.length) (fun _ => none) ?_ rfl ?_ ?_
      · rw [this, fmap_no]
      · rcases hd with rfl | rfl <;> simp [hr]
      · simp; omega
      · intro i hi
        have hi := List.mem_range.mp hi
        have e1 : xs[i]? = some xs[i] := List.getElem?_eq_getElem hi
        have e2 := ih xs[i] sg (hz _ (List.getElem_mem hi))
        rcases hd with rfl | rfl <;> (unfold stepC; simp [wipeR, e1, e2])
    cases d <;> first | (simp [okD] at h; done) | skip
    · simp [m__law_eq]
    · simp [m__law_eq]
    · simp [m__law_eq]
    · rename_i xs
      simp [okD, oks_all] at h
      have e := hin xs (.tup xs) (.inr rfl) h.1 h.2
      simp [m__law_eq, e, eq_nil]
    · rename_i xs
      simp [okD, oks_all] at h
      have e := hin xs (.lst xs) (.inl rfl) h.1 h.2
      simp [m__law_eq, e, eq_nil]
/-! ### partitions -/
def PT : Nat → Int → Int → List (List Int)
  | 0, _, _ => []
  | k + 1, n, most => if n = 0 then [[]] else ((List.range (min n most).toNat).map fun i : Nat => min n most - i).flatMap fun x => (PT k (n - x) x).map (x :: ·)
theorem PT_len : ∀ (k : Nat) (n most : Int), 0 ≤ n → n < k → (PT k n most).length ≤ 2 ^ n.toNat
  | 0, n, most, h0, h => by omega
  | k + 1, n, most, h0, h => by
    unfold PT
    by_cases hz : n = 0
    · simp [hz]
    · rw [if_neg hz, List.length_flatMap]
      simp only [List.map_map, List.length_map, Function.comp_def]
      have key : ∀ j : Nat, j ≤ (min n most).toNat → ((List.range j).map fun i : Nat => (PT k (n - (min n most - (i : Int))) (min n most - i)).length).sum ≤ 2 ^ (n - (min n most) + j).toNat - 2 ^ (n - min n most).toNat := by
        intro j
        induction j with
        | zero => intro _; simp
        | succ j ih =>
          intro hj
          have := ih (by omega)
          rw [List.range_succ, List.map_append, List.sum_append_nat]
          simp only [List.map_cons, List.map_nil, List.sum_cons, List.sum_nil, Nat.add_zero]
          have hm : min n most ≤ n := Int.min_le_left _ _
          have h1 := PT_len k (n - (min n most - (j : Int))) (min n most - j) (by omega) (by omega)
          have e1 : (n - (min n most - (j : Int))).toNat = (n - min n most).toNat + j := by omega
          have e2 : (n - min n most + ((j : Nat) : Int)).toNat = (n - min n most).toNat + j := by omega
          have e3 : (n - min n most + ((j + 1 : Nat) : Int)).toNat = (n - min n most).toNat + j + 1 := by omega
          rw [e1] at h1
          rw [e2] at this
          rw [e3, Nat.pow_succ]
          have h2 : 2 ^ (n - min n most).toNat ≤ 2 ^ ((n - min n most).toNat + j) := Nat.pow_le_pow_right (by decide) (by omega)
          omega
      refine Nat.le_trans (key _ (Nat.le_refl _)) ?_
      have hm : min n most ≤ n := Int.min_le_left _ _
      by_cases hp : 0 ≤ min n most
      · rw [show (n - min n most + ((min n most).toNat : Int)).toNat = n.toNat by omega]
        exact Nat.sub_le _ _
      · rw [show (min n most).toNat = 0 by omega]
        simp
theorem flat_take {α β : Type} {f : α → List β} {l : List α} {i : Nat} {a : α} (h : l[i]? = some a) : (l.take (i + 1)).flatMap f = (l.take i).flatMap f ++ f a := by
  rw [List.take_add_one, h, List.flatMap_append]
  simp
theorem flat_take_le {α β : Type} {f : α → List β} {l : List α} {i : Nat} : ((l.take i).flatMap f).length ≤ (l.flatMap f).length := by
  conv => rhs; rw [← List.take_append_drop i l, List.flatMap_append, List.length_append]
  omega
theorem PT_mem : ∀ (k : Nat) (n most : Int) (p : List Int), p ∈ PT k n most → 0 ≤ n → (p.length : Int) ≤ n ∧ p.sum = n ∧ (∀ x ∈ p, 1 ≤ x ∧ x ≤ most ∧ x ≤ n) ∧ p.Pairwise (fun a b => b ≤ a)
  | 0, n, most, p, h, h0 => by simp [PT] at h
  | k + 1, n, most, p, h, h0 => by
    unfold PT at h
    by_cases hz : n = 0
    · rw [if_pos hz] at h
      simp at h
      subst h
      simp [hz]
    · rw [if_neg hz] at h
      simp only [List.mem_flatMap, List.mem_map, List.mem_range] at h
      obtain ⟨x, ⟨i, hi, rfl⟩, q, hq, rfl⟩ := h
      have hm : min n most ≤ n := Int.min_le_left _ _
      have hm' : min n most ≤ most := Int.min_le_right _ _
      obtain ⟨h1, h2, h3, h4⟩ := PT_mem k _ _ q hq (by omega)
      refine ⟨by simp only [List.length_cons]; omega, by simp only [List.sum_cons]; omega, ?_, ?_⟩
      · intro x hx
        rcases List.mem_cons.mp hx with rfl | hx
        · omega
        · have := h3 x hx
          omega
      · rw [List.pairwise_cons]
        exact ⟨fun x hx => (h3 x hx).2.1, h4⟩
theorem parts_ok : ∀ (k : Nat) (n most : Int) (sg : List D), 0 ≤ n → n < k → n ≤ 24 → most < 2 ^ 60 → -(2 ^ 60) < most → F__law_partitions k [.int n, .int most] sg = some (.lst ((PT k n most).map tI), sg)
  | 0, n, most, sg, h0, h, h24, _, _ => by omega
  | k + 1, n, most, sg, h0, h, h24, hb, hb' => by
    have hlen := PT_len (k + 1) n most h0 h
    have hlen2 : (PT (k + 1) n most).length ≤ 2 ^ 24 := Nat.le_trans hlen (Nat.pow_le_pow_right (by decide) (by omega))
    unfold F__law_partitions
    rw [e_runF]
    by_cases hz : n = 0
    · subst hz
      simp [m__law_partitions, PT]
    have hi : Vl.inR (min n most) = true := inR_i (by omega) (by omega)
    have hi0 : Vl.inR 0 = true := rfl
    simp [m__law_partitions, hz, hi, hi0]
    apply wp_eq
    symm_saturate
    have hPT : PT (k + 1) n most = ((List.range (min n most).toNat).map fun i : Nat => min n most - (i : Int)).flatMap fun x => (PT k (n - x) x).map (x :: ·) := by
      rw [PT, if_neg hz]
    refine loopF_wp (fun i s => ∃ A x r, A = ((((List.range (min n most).toNat).map fun i : Nat => min n most - (i : Int)).take i).flatMap fun x => (PT k (n - x) x).map (x :: ·)) ∧ s = ⟨[some (.shr (.int n)), some (.shr (.int most)), some (.own (.lst (A.map tI))), x, r], sg⟩) ⟨[], none, none, by simp⟩ ?_ ?_
    · rintro i d s hd ⟨A, x, r, hA, rfl⟩
      have hil : i < (min n most).toNat := by
        have := (List.getElem?_eq_some_iff.mp hd).1
        simpa using this
      rw [rangeD_get hil] at hd
      cases hd
      have hx : min n most + (i : Int) * -1 = min n most - i := by omega
      have hm : min n most ≤ n := Int.min_le_left _ _
      have ih := parts_ok k (n - (min n most - i)) (min n most - i) sg (by omega) (by omega) (by omega) (by omega) (by omega)
      have hat : ((List.range (min n most).toNat).map fun i : Nat => min n most - (i : Int))[i]? = some (min n most - i) := by
        simp [hil]
      have hle := @flat_take_le _ _ (fun x => (PT k (n - x) x).map (x :: ·)) ((List.range (min n most).toNat).map fun i : Nat => min n most - (i : Int)) (i + 1)
      rw [← hPT, flat_take hat, List.length_append, List.length_map, ← hA] at hle
      have hl3 : A.length + (PT k (n - (min n most - i)) (min n most - i)).length ≤ 16777216 := by omega
      rw [hx]
      unfold stepF
      simp
      rw [mLc_nums (s1 := ⟨[some (.shr (.int n)), some (.shr (.int most)), some (.own (.lst (A.map tI))), some (.shr (.int (min n most - i))), r], sg⟩) tI (PT k (n - (min n most - i)) (min n most - i)) (fun p => some (tI ((min n most - i) :: p))) (by simp [ih]) rfl (by rw [Vl.sizeLine_eq]; omega)]
      · simp [hl3]
        rw [flat_take hat, ← hA]
        simp
      · intro p hp
        have hpl : 1 + p.length ≤ 16777216 := by
          have := (PT_mem k _ _ p hp (by omega)).1
          omega
        unfold stepC
        simp [wipeR, hpl]
    · rintro s ⟨A, x, r, hA, rfl⟩
      rw [rangeD_len, List.take_of_length_le (by simp), ← hPT] at hA
      subst hA
      simp
/-! ### rules -/
def RuleD (m : Nat) (rows : List (List Int)) (low : Int) : D := .tup [.int m, .tup (rows.map tI), .int low]
def RuleOk (m : Nat) (rows : List (List Int)) : Prop := 0 < m ∧ m ≤ 100 ∧ rows.length = m ∧ ∀ r ∈ rows, r.length = m
theorem gaps_ok {sg : List D} {top : Int} (h : Drw sg) (h0 : 0 ≤ top) (h1 : top < 1000) : wp (F__law_gaps [.obj 1, .int top] sg) fun d sg => (∃ m rows low, d = RuleD m rows low ∧ RuleOk m rows) ∧ Drw sg := by
  unfold F__law_gaps
  rw [e_runF]
  simp [m__law_gaps]
  symm_saturate
  refine wp_m (pick_ok (xs := [.int 2, .int 4, .int 6]) h (by simp) (by simp)) ?_
  rintro d sg1 ⟨hd, hs1⟩
  obtain ⟨q, rfl, hq0, hq1⟩ : ∃ q : Int, d = .int q ∧ 0 < q ∧ q ≤ 6 := by
    simp at hd
    rcases hd with rfl | rfl | rfl <;> exact ⟨_, rfl, by omega, by omega⟩
  simp
  symm_saturate
  refine wp_m (draw_ok hs1 hq0 (by omega)) ?_
  rintro d sg2 ⟨⟨m0, rfl, hm0, hm1⟩, hs2⟩
  obtain ⟨m, hm⟩ : ∃ m : Nat, 1 + m0 = (m : Int) := ⟨(1 + m0).toNat, by omega⟩
  have hir : Vl.inR (m : Int) = true := inR_i (by omega) (by omega)
  simp [hm, hir]
  symm_saturate
  refine loopF_wp (fun i s => ∃ (rows : List (List Int)) (x y : Option Sl) (sg : List D), s = ⟨[some (.shr (.obj 1)), some (.shr (.int top)), some (.shr (.int m)), some (.own (.lst (rows.map tI))), x, y], sg⟩ ∧ rows.length = i ∧ (∀ r ∈ rows, r.length = m) ∧ Drw sg) ⟨[], none, none, sg2, rfl, rfl, by simp, hs2⟩ ?_ ?_
  · rintro i d s hd ⟨rows, x, y, sg, rfl, hl, hr, hs⟩
    have hi := (List.getElem?_eq_some_iff.mp hd).1
    rw [rangeD_len] at hi
    unfold stepF
    simp
    symm_saturate
    refine mLc_wp (s1 := ⟨[some (.shr (.obj 1)), some (.shr (.int top)), some (.shr (.int m)), some (.own (.lst (rows.map tI))), some (.shr d), y], sg⟩) (ds := rangeD 0 1 m) (fun i acc sg => (∃ ns : List Int, acc = ns.map D.int ∧ ns.length = i) ∧ Drw sg) (by simp [hir]) (by simp; omega) ⟨⟨[], rfl, rfl⟩, hs⟩ ?_ ?_
    · rintro j d2 sg acc hd2 ⟨⟨ns, rfl, hn⟩, hs⟩
      unfold stepC
      simp [wipeR]
      symm_saturate
      refine wp_m (draw_ok hs (by decide) (by decide)) ?_
      rintro d sg3 ⟨⟨r, rfl, hr0, hr1⟩, hs3⟩
      by_cases hp : 0 < r
      · simp [hp]
        symm_saturate
        refine wp_m (draw_ok hs3 (by omega) (by omega)) ?_
        rintro d sg4 ⟨⟨r4, rfl, hr40, hr41⟩, hs4⟩
        simp [hs4]
        exact ⟨ns ++ [r4 - 1], by simp, by simp [hn]⟩
      · simp [hp]
        symm_saturate
        refine wp_m (draw_ok hs3 (by decide) (by decide)) ?_
        rintro d sg4 ⟨⟨r4, rfl, hr40, hr41⟩, hs4⟩
        simp [hs4]
        exact ⟨ns ++ [r4], by simp, by simp [hn]⟩
    · rintro acc sg ⟨⟨ns, rfl, hn⟩, hs⟩
      have hlt : rows.length < 16777216 := by omega
      rw [rangeD_len] at hn
      simp [hlt]
      refine ⟨rows ++ [ns], some (.shr d), y, sg, by simp, by simp [hl], ?_, hs⟩
      intro r hr'
      rcases List.mem_append.mp hr' with h | h
      · exact hr r h
      · simp at h; rw [h, hn]
  · rintro s ⟨rows, x, y, sg, rfl, hl, hr, hs⟩
    rw [rangeD_len] at hl
    simp
    symm_saturate
    refine wp_m (draw_ok hs (by decide) (by decide)) ?_
    rintro d sg5 ⟨⟨r, rfl, hr0, hr1⟩, hs5⟩
    simp [hs5]
    exact ⟨m, rows, ⟨1 + r, rfl⟩, by omega, by omega, hl, hr⟩
/-- the gap from a part to the one below -/
def gapAt (m : Nat) (rows : List (List Int)) (x y : Int) : Int := (rows.getD (x % m).toNat []).getD (y % m).toNat 0
def standB (m : Nat) (rows : List (List Int)) (x y : Int) : Bool := decide (0 ≤ gapAt m rows x y) && decide (gapAt m rows x y ≤ x - y)
theorem rows_at {m : Nat} {rows : List (List Int)} (h : RuleOk m rows) (x y : Int) : ∃ r, (rows.map tI)[(x % m).toNat]? = some (tI r) ∧ (r.map D.int)[(y % m).toNat]? = some (.int (gapAt m rows x y)) := by
  obtain ⟨h0, h1, h2, h3⟩ := h
  have hx : (x % m).toNat < m := by
    have := Int.emod_nonneg x (show (m : Int) ≠ 0 by omega)
    have := Int.emod_lt_of_pos x (show (0 : Int) < m by omega)
    omega
  have hy : (y % m).toNat < m := by
    have := Int.emod_nonneg y (show (m : Int) ≠ 0 by omega)
    have := Int.emod_lt_of_pos y (show (0 : Int) < m by omega)
    omega
  have hl : (x % m).toNat < rows.length := by omega
  have hr := h3 rows[(x % m).toNat] (List.getElem_mem hl)
  refine ⟨rows[(x % m).toNat], by simp [hl], ?_⟩
  have hly : (y % m).toNat < rows[(x % m).toNat].length := by omega
  unfold gapAt
  rw [List.getElem?_map, List.getElem?_eq_getElem hly, List.getD_eq_getElem?_getD, List.getD_eq_getElem?_getD, List.getElem?_eq_getElem hl, Option.getD_some, List.getElem?_eq_getElem hly]
  rfl
theorem stands_ok {m : Nat} {rows : List (List Int)} {low x y : Int} {sg : List D} (h : RuleOk m rows) : F__law_stands [RuleD m rows low, .int x, .int y] sg = some (.bl (standB m rows x y), sg) := by
  obtain ⟨r, h1, h2⟩ := rows_at h x y
  have hm : (0 : Int) < m := by have := h.1; omega
  have hx : 0 ≤ x % m := Int.emod_nonneg _ (by omega)
  have hy : 0 ≤ y % m := Int.emod_nonneg _ (by omega)
  unfold F__law_stands
  rw [e_runF]
  simp only [m__law_stands, RuleD, standB]
  simp [h.1, at_nn hx, at_nn hy, h1, h2]
  by_cases hg : 0 ≤ gapAt m rows x y <;> simp [hg]
theorem may_ok {m : Nat} {rows : List (List Int)} {low x y : Int} {sg : List D} (h : RuleOk m rows) : F_may_stand [RuleD m rows low, .int x, .int y] sg = some (.bl (standB m rows x y), sg) := by
  obtain ⟨r, h1, h2⟩ := rows_at h x y
  have hm : (0 : Int) < m := by have := h.1; omega
  have hx : 0 ≤ x % m := Int.emod_nonneg _ (by omega)
  have hy : 0 ≤ y % m := Int.emod_nonneg _ (by omega)
  unfold F_may_stand
  rw [e_runF]
  simp only [m_may_stand, RuleD, standB]
  simp [h.1, at_nn hx, at_nn hy, h1, h2]
  by_cases hg : 0 ≤ gapAt m rows x y <;> simp [hg]
/-! ### partitions that keep a rule -/
def adjB (m : Nat) (rows : List (List Int)) (p : List Int) : Bool := (List.range (p.length - 1)).all fun i => standB m rows (gI p i) (gI p (i + 1))
def keepB (m : Nat) (rows : List (List Int)) (low : Int) (p : List Int) : Bool := (p.isEmpty || decide (low ≤ lI p)) && adjB m rows p
theorem rule_0 {m : Nat} {rows : List (List Int)} {low : Int} {sg : List D} : fIx sg (RuleD m rows low) (.int 0) = some (.int m) := rfl
theorem rule_1 {m : Nat} {rows : List (List Int)} {low : Int} {sg : List D} : fIx sg (RuleD m rows low) (.int 1) = some (.tup (rows.map tI)) := rfl
theorem rule_2 {m : Nat} {rows : List (List Int)} {low : Int} {sg : List D} : fIx sg (RuleD m rows low) (.int 2) = some (.int low) := rfl
theorem keeps_ok {m : Nat} {rows : List (List Int)} {low : Int} {p : List Int} {sg : List D} (h : RuleOk m rows) (hl : p.length < 1000000) : F__law_keeps [RuleD m rows low, tI p] sg = some (.bl (keepB m rows low p), sg) := by
  have hst : ∀ x y, F__law_stands [RuleD m rows low, .int x, .int y] sg = some (.bl (standB m rows x y), sg) := fun x y => stands_ok h
  have hlc : mLc [2] (mRange1 (mCons (m2 fSub (mCall fLen (mCons (mLend 1) mNil)) (mC (.int 1))) mNil)) (gN 2) (mtNot (mTr (mFn F__law_stands (mCons (mName 0) (mCons (m2 fIx (mLend 1) (mLend 2)) (mCons (m2 fIx (mLend 1) (m2 fAdd (mLend 2) (mC (.int 1)))) mNil)))))) (mName 2)
      ⟨[some (.shr (RuleD m rows low)), some (.shr (tI p)), none], sg⟩ = some (.lst ((List.range (p.length - 1)).filterMap fun i => if standB m rows (gI p i) (gI p (i + 1)) = true then none else some (.int i)), ⟨[some (.shr (RuleD m rows low)), some (.shr (tI p)), none], sg⟩) := by
    have hi : Vl.inR ((p.length : Int) - 1) = true := inR_i (by omega) (by omega)
    apply mLc_nums (s1 := ⟨[some (.shr (RuleD m rows low)), some (.shr (tI p)), none], sg⟩) (ds := rangeD 0 1 (p.length - 1)) (fun i : Nat => D.int (0 + i * 1)) (List.range (p.length - 1))
    · simp [hi]
    · rfl
    · simp; omega
    · intro i hi
      have hi := List.mem_range.mp hi
      have h1 := get_int (p := p) (i := i) (by omega)
      have h2 := get_int (p := p) (i := i + 1) (by omega)
      have h3 : atD (p.map D.int) ((i : Int) + 1) = some (.int (gI p (i + 1))) := by
        rw [at_nn (by omega), show ((i : Int) + 1).toNat = i + 1 by omega, h2]
      unfold stepC
      simp only [Int.zero_add, Int.mul_one, wipeR, List.set]
      simp [h1, h3, hst]
      cases standB m rows (gI p i) (gI p (i + 1)) <;> simp [wipeR]
  unfold F__law_keeps
  rw [e_runF]
  simp [m__law_keeps]
  have hne : fNe sg (tI p) (.tup []) = _ := ne_t0 pls_ints
  have heq := @eq_l0 sg ((List.range (p.length - 1)).filterMap fun i : Nat => if standB m rows (gI p i) (gI p (i + 1)) = true then none else some (.int i)) (pls_opt fun a _ d hd => by
    split at hd
    · cases hd
    · cases hd; exact pl_int)
  rw [fmap_empty] at heq
  by_cases hp : p = []
  · subst hp
    simp [hne]
    simp [hlc, eq_nil]
    simp [keepB, adjB]
  · have hp' : p.isEmpty = false := by simpa using hp
    have hla := at_last hp
    by_cases hlow : lI p < low
    · simp [hne, hp', hla, rule_2, hlow]
      simp [keepB, hp', hlow]
      intro _; omega
    · simp [hne, hp', hla, rule_2, hlow]
      simp [hlc, heq]
      simp [keepB, adjB, hp']
      intro
      omega
theorem break_ok {m : Nat} {rows : List (List Int)} {low : Int} {p : List Int} {sg : List D} (h : RuleOk m rows) (hl : p.length < 1000000) : wp (F_first_break [RuleD m rows low, tI p] sg) fun d sg' => sg' = sg ∧ ((keepB m rows low p = true ∧ d = .non) ∨ (keepB m rows low p = false ∧ ∃ i, d = .int i)) := by
  have hst : ∀ x y, F_may_stand [RuleD m rows low, .int x, .int y] sg = some (.bl (standB m rows x y), sg) := fun x y => may_ok h
  have hi : Vl.inR ((p.length : Int) - 1) = true := inR_i (by omega) (by omega)
  unfold F_first_break
  rw [e_runF]
  simp [m_first_break, hi]
  symm_saturate
  refine loopF_wp (fun i s => (∀ j < i, standB m rows (gI p j) (gI p (j + 1)) = true) ∧ ∃ x, s = ⟨[some (.shr (RuleD m rows low)), some (.shr (tI p)), x], sg⟩) ⟨by simp, none, rfl⟩ ?_ ?_
  · rintro i d s hd ⟨hs, x, rfl⟩
    have hil := (List.getElem?_eq_some_iff.mp hd).1
    rw [rangeD_len] at hil
    rw [rangeD_get hil] at hd
    cases hd
    have h1 := get_int (p := p) (i := i) (by omega)
    have h3 : atD (p.map D.int) ((i : Int) + 1) = some (.int (gI p (i + 1))) := by
      rw [at_int (by omega) (by omega), show ((i : Int) + 1).toNat = i + 1 by omega]
    unfold stepF
    simp only [Int.zero_add, Int.mul_one]
    simp [h1, h3, hst]
    cases hb : standB m rows (gI p i) (gI p (i + 1))
    · simp
      simp [keepB, adjB]
      intro _
      exact ⟨i, hil, hb⟩
    · simp
      intro j hj
      by_cases e : j = i
      · rw [e, hb]
      · exact hs j (by omega)
  · rintro s ⟨hs, x, rfl⟩
    rw [rangeD_len] at hs
    have ha : adjB m rows p = true := by
      unfold adjB
      rw [List.all_eq_true]
      intro i hi
      exact hs i (by simpa using hi)
    by_cases hp : p = []
    · subst hp
      simp
      simp [keepB, ha]
    · have hp' : p.isEmpty = false := by simpa using hp
      have hlen := List.length_pos_iff.mpr hp
      have hla := at_last hp
      by_cases hlow : lI p < low
      · simp [hlen, hla, rule_2, hlow]
        simp [keepB, hp', hlow]
        intro _; omega
      · simp [hlen, hla, rule_2, hlow]
        simp [keepB, hp', ha]
        omega
theorem kg_ok {m : Nat} {rows : List (List Int)} {low : Int} {p : List Int} {sg : List D} (h : RuleOk m rows) (hl : p.length < 1000000) : F_keeps_gaps [RuleD m rows low, tI p] sg = some (.bl (keepB m rows low p), sg) := by
  unfold F_keeps_gaps
  rw [e_runF]
  simp [m_keeps_gaps]
  apply wp_eq
  symm_saturate
  refine wp_m (break_ok h hl) ?_
  rintro d sg' ⟨rfl, ⟨hk, rfl⟩ | ⟨hk, i, rfl⟩⟩ <;> simp [hk]
/-! ### the greatest gap -/
def topI (rows : List (List Int)) : Int := maxL (0 :: rows.flatten)
theorem top_nn {rows : List (List Int)} : 0 ≤ topI rows := maxL_le (by simp)
theorem top_ge {m : Nat} {rows : List (List Int)} {x y : Int} : gapAt m rows x y ≤ topI rows := by
  unfold gapAt
  rw [List.getD_eq_getElem?_getD, List.getD_eq_getElem?_getD]
  cases h1 : rows[(x % m).toNat]? with
  | none => simpa using top_nn
  | some r =>
    cases h2 : r[(y % m).toNat]? with
    | none => simpa [h2] using top_nn
    | some g =>
      simp only [Option.getD_some, h2]
      exact maxL_le (List.mem_cons_of_mem _ (List.mem_flatten.mpr ⟨r, List.mem_of_getElem? h1, List.mem_of_getElem? h2⟩))
theorem flat_len {m : Nat} {rows : List (List Int)} (h : RuleOk m rows) : rows.flatten.length ≤ 10000 := by
  obtain ⟨h0, h1, h2, h3⟩ := h
  have : ∀ l : List (List Int), (∀ r ∈ l, r.length = m) → l.flatten.length = l.length * m := by
    intro l
    induction l with
    | nil => simp
    | cons a l ih =>
      intro hh
      rw [List.flatten_cons, List.length_append, ih (fun r hr => hh r (by simp [hr])), hh a (by simp), List.length_cons, Nat.succ_mul]
      omega
  rw [this rows h3, h2]
  exact Nat.mul_le_mul h1 h1
theorem all_ok {m : Nat} {rows : List (List Int)} {low : Int} {sg : List D} (h : RuleOk m rows) : F__law_all [RuleD m rows low] sg = some (.lst (rows.flatten.map D.int), sg) := by
  unfold F__law_all
  rw [e_runF]
  simp [m__law_all, rule_1]
  apply wp_eq
  symm_saturate
  refine loopF_wp (fun i s => ∃ A x, A = (rows.take i).flatten ∧ s = ⟨[some (.shr (RuleD m rows low)), some (.own (.lst (A.map D.int))), x], sg⟩) ⟨[], none, by simp⟩ ?_ ?_
  · rintro i d s hd ⟨A, x, hA, rfl⟩
    rw [List.getElem?_map] at hd
    cases hr : rows[i]? with
    | none => rw [hr] at hd; cases hd
    | some r =>
      rw [hr] at hd
      cases hd
      have hfl : (rows.take (i + 1)).flatten = (rows.take i).flatten ++ r := by
        rw [List.take_add_one, hr]; simp
      have hle : ((rows.take i).flatten ++ r).length ≤ 16777216 := by
        rw [← hfl]
        have h1 := flat_len h
        have h2 : rows.flatten = (rows.take (i + 1)).flatten ++ (rows.drop (i + 1)).flatten := by rw [← List.flatten_append, List.take_append_drop]
        rw [h2, List.length_append] at h1
        omega
      rw [← hA, List.length_append] at hle
      unfold stepF
      simp only [hfl, ← hA]
      simp [hle]
  · rintro s ⟨A, x, hA, rfl⟩
    rw [List.length_map, List.take_length] at hA
    simp [hA]
theorem gg_ok {m : Nat} {rows : List (List Int)} {low : Int} {sg : List D} (h : RuleOk m rows) : F_greatest_gap [RuleD m rows low] sg = some (.int (topI rows), sg) := by
  unfold F_greatest_gap
  rw [e_runF]
  have hfl : (rows.map tI).flatMap (fun d => match d with | .tup xs => xs | _ => []) = rows.flatten.map D.int := by
    rw [List.flatMap_map]
    simp [List.flatMap, List.map_flatten]
  have hc := mLc2_pure (vs := [1, 2]) (vs1 := [2]) (mi := mItems (m2 fIx (mLend 0) (mC (.int 1)))) (mg := gN 1) (mt := mtYes) (mi1 := mItems (mName 1)) (mg1 := gN 2) (mt1 := mtYes) (me := mName 2) (s := ⟨[some (.shr (RuleD m rows low)), none, none], sg⟩) (s1 := ⟨[some (.shr (RuleD m rows low)), none, none], sg⟩) (ds := rows.map tI)
    (fun d => match d with | .tup xs => xs | _ => []) (by simp) (by simp [rule_1]) (by rw [hfl, List.length_map, Vl.sizeLine_eq]; have := flat_len h; omega) (by
      intro d hd
      obtain ⟨r, _, rfl⟩ := List.mem_map.mp hd
      refine ⟨_, rfl, _, rfl, r.map D.int, _, id, by simp [wipeS, wipeR]; rfl, by simp [wipeS, wipeR], by simp, ?_⟩
      intro e he
      unfold stepC
      simp [wipeR])
  rw [hfl] at hc
  have h10 := flat_len h
  have hle : 1 + rows.flatten.length ≤ 16777216 := by omega
  have hm : fMax sg [.lst (.int 0 :: rows.flatten.map D.int)] = some (.int (topI rows)) := max_l (ns := 0 :: rows.flatten) (by simp)
  generalize rows.flatten = A at *
  simp [m_greatest_gap, hc, hle, hm]
/-! ### states -/
def lastP (p : List Int) : Nat → Option Int
  | 0 => none
  | k + 1 => if p.contains ((k + 1 : Nat) : Int) = true then some ((k + 1 : Nat) : Int) else lastP p k
def dueAt (m : Nat) (top : Int) (p : List Int) (k : Nat) : D := match lastP p k with
  | none => .non
  | some l => .tup [.int (l % m), .int (min (k - l) top)]
theorem lastP_le {p : List Int} : ∀ {k : Nat} {l : Int}, lastP p k = some l → 0 < l ∧ l ≤ k
  | 0, l, h => by cases h
  | k + 1, l, h => by
    unfold lastP at h
    split at h
    · cases h; omega
    · have := lastP_le h
      omega
theorem next_ok {m : Nat} {rows : List (List Int)} {low : Int} {p : List Int} {k : Nat} {sg : List D} (h : RuleOk m rows) :
    F_next_state [RuleD m rows low, dueAt m (topI rows) p k, .int ((k + 1 : Nat) : Int), .bl (p.contains ((k + 1 : Nat) : Int))] sg = some (dueAt m (topI rows) p (k + 1), sg) := by
  have hg := @gg_ok m rows low sg h
  have ht := @top_nn rows
  unfold F_next_state
  rw [e_runF]
  cases hc : p.contains ((k + 1 : Nat) : Int)
  · have e1 : dueAt m (topI rows) p (k + 1) = match lastP p k with
      | none => .non
      | some l => .tup [.int (l % m), .int (min (((k + 1 : Nat) : Int) - l) (topI rows))] := by
      unfold dueAt
      rw [lastP, if_neg (by rw [hc]; decide)]
    rw [e1]
    unfold dueAt
    cases hl : lastP p k with
    | none => simp [m_next_state, rule_0]
    | some l =>
      have := lastP_le hl
      simp [m_next_state, rule_0, hg]
      omega
  · have e1 : dueAt m (topI rows) p (k + 1) = .tup [.int (((k + 1 : Nat) : Int) % m), .int 0] := by
      unfold dueAt
      rw [lastP, if_pos hc]
      simp only
      congr 4
      omega
    rw [e1]
    have hm : (0 : Int) < m := by have := h.1; omega
    simp [m_next_state, rule_0, h.1]
def dueL (m : Nat) (top : Int) (p : List Int) (n : Nat) : List D := (List.range (n + 1)).map (dueAt m top p)
theorem dueL_succ {m : Nat} {top : Int} {p : List Int} {n : Nat} : dueL m top p (n + 1) = dueL m top p n ++ [dueAt m top p (n + 1)] := by
  unfold dueL
  rw [List.range_succ, List.map_append]
  rfl
theorem dueL_len {m : Nat} {top : Int} {p : List Int} {n : Nat} : (dueL m top p n).length = n + 1 := by simp [dueL]
theorem dueL_last {m : Nat} {top : Int} {p : List Int} {n : Nat} : atD (dueL m top p n) (-1) = some (dueAt m top p n) := by
  rw [at_m1]
  cases n with
  | zero => rfl
  | succ n => rw [dueL_succ, List.getLast?_append]; rfl
/-- the greatest part -/
def headI (p : List Int) : Int := p.headD 0
theorem head_ev {p : List Int} (h : p ≠ []) : (p.map D.int)[0]? = some (.int (headI p)) := by
  cases p with
  | nil => exact absurd rfl h
  | cons a l => rfl
theorem head_if {p : List Int} {X : S} : (if 0 < p.length then kR (Option.map D.int p[0]?) X else some (.int 0, X)) = some (.int (headI p), X) := by
  cases p <;> simp [headI]
theorem head_if2 {p : List Int} {X : S} : (if p = [] then some (.int 0, X) else kR (Option.map D.int p[0]?) X) = some (.int (headI p), X) := by
  cases p <;> simp [headI]
theorem states_ok {m : Nat} {rows : List (List Int)} {low : Int} {p : List Int} {sg : List D} (h : RuleOk m rows) (h0 : 0 ≤ headI p) (h1 : headI p < 1000) : F_states [RuleD m rows low, tI p] sg = some (.lst (dueL m (topI rows) p (headI p).toNat), sg) := by
  have hn : ∀ k, F_next_state [RuleD m rows low, dueAt m (topI rows) p k, .int ((k + 1 : Nat) : Int), .bl (p.contains ((k + 1 : Nat) : Int))] sg = some (dueAt m (topI rows) p (k + 1), sg) := fun k => next_ok h
  have hin : ∀ k, fInS false sg (.int k) (tI p) = some (.bl (p.contains k)) := fun k => by
    rw [show tI p = .tup (p.map D.int) from rfl, in_t]; rfl
  have hi1 : Vl.inR 1 = true := rfl
  have hi2 : Vl.inR (headI p + 1) = true := inR_i (by omega) (by omega)
  unfold F_states
  rw [e_runF]
  apply wp_eq
  simp only [m_states]
  simp [head_if, hi1, hi2]
  symm_saturate
  refine loopF_wp (fun i s => ∃ x, s = ⟨[some (.shr (RuleD m rows low)), some (.shr (tI p)), some (.own (.lst (dueL m (topI rows) p i))), x], sg⟩) ⟨none, rfl⟩ ?_ ?_
  · rintro i d s hd ⟨x, rfl⟩
    have hil := (List.getElem?_eq_some_iff.mp hd).1
    rw [rangeD_len] at hil
    rw [rangeD_get hil, show (1 : Int) + (i : Int) * 1 = ((i + 1 : Nat) : Int) by omega] at hd
    cases hd
    have hlt : (dueL m (topI rows) p i).length < 16777216 := by rw [dueL_len]; omega
    have hn' := hn i
    have hin' := hin ((i + 1 : Nat) : Int)
    generalize ((i + 1 : Nat) : Int) = z at *
    generalize p.contains z = b at *
    unfold stepF
    simp [dueL_last, hin', hn', hlt, dueL_succ]
  · rintro s ⟨x, rfl⟩
    simp
/-! ### the law -/
theorem keeps_cons {m : Nat} {rows : List (List Int)} {low x : Int} {p : List Int} (hp : p ≠ []) (hk : keepB m rows low p = true) : keepB m rows low (x :: p) = standB m rows x (headI p) := by
  obtain ⟨a, l, rfl⟩ : ∃ a l, p = a :: l := by cases p with
    | nil => exact absurd rfl hp
    | cons a l => exact ⟨a, l, rfl⟩
  unfold keepB adjB at *
  simp only [List.isEmpty_cons, Bool.false_or, Bool.and_eq_true, decide_eq_true_eq, List.all_eq_true, List.mem_range, List.length_cons] at hk ⊢
  have hl : lI (x :: a :: l) = lI (a :: l) := by simp [lI]
  have h1 : decide (low ≤ lI (x :: a :: l)) = true := by rw [hl]; simpa using hk.1
  rw [h1, Bool.true_and]
  apply Bool.eq_iff_iff.mpr
  rw [List.all_eq_true]
  constructor
  · intro hh
    exact hh 0 (by simp)
  · intro hh i hi
    cases i with
    | zero => exact hh
    | succ i => exact hk.2 i (by simp at hi; omega)
def lastD (p : List Int) (k : Nat) : D := match lastP p k with
  | none => .non
  | some l => .int l
theorem lastD_succ {p : List Int} {i : Nat} : lastD p (i + 1) = if p.contains ((i + 1 : Nat) : Int) = true then .int ((i + 1 : Nat) : Int) else lastD p i := by
  unfold lastD
  rw [lastP]
  by_cases h : p.contains ((i + 1 : Nat) : Int) = true
  · rw [if_pos h, if_pos h]
  · rw [if_neg h, if_neg h]
theorem dueAt_lastD {m : Nat} {top : Int} {p : List Int} {i : Nat} : (lastD p i = .non ∧ dueAt m top p i = .non) ∨ ∃ l, lastD p i = .int l ∧ dueAt m top p i = .tup [.int (l % m), .int (min (i - l) top)] := by
  unfold dueAt lastD
  cases lastP p i with
  | none => exact .inl ⟨rfl, rfl⟩
  | some l => exact .inr ⟨l, rfl, rfl⟩
theorem due_ok {m : Nat} {top : Int} {p : List Int} {n : Nat} (hn : n < 1000) : okD 7 (.lst (dueL m top p n)) = true := by
  simp only [okD, Bool.and_eq_true, decide_eq_true_eq, dueL_len]
  refine ⟨by omega, ?_⟩
  rw [oks_all]
  intro d hd
  unfold dueL at hd
  obtain ⟨k, _, rfl⟩ := List.mem_map.mp hd
  unfold dueAt
  cases lastP p k <;> simp [okD, oks]
theorem last_head {p : List Int} (hp : p ≠ []) (h0 : 1 ≤ headI p) : lastP p (headI p).toNat = some (headI p) := by
  obtain ⟨k, hk⟩ : ∃ k : Nat, (headI p).toNat = k + 1 := ⟨(headI p).toNat - 1, by omega⟩
  have h1 : headI p = ((k + 1 : Nat) : Int) := by omega
  have h2 : p.contains (headI p) = true := by
    cases p with
    | nil => exact absurd rfl hp
    | cons a l => simp [headI]
  rw [hk, lastP, if_pos (by rw [← h1]; exact h2), h1]
theorem law_true (ns : List Int) (h : ns.length ≤ 63) : ∃ sg, F_law [.scr (ns.map D.int)] [] = some (.bl true, sg) := by
  suffices hw : wp (F_law [.scr (ns.map D.int)] []) fun d sg => d = .bl true by
    obtain ⟨d, sg, e, rfl⟩ := wp_e hw
    exact ⟨sg, e⟩
  unfold F_law
  rw [e_runF]
  simp only [m_law]
  simp
  symm_saturate
  refine wp_m (state_ok ns h) ?_
  rintro d sg ⟨rfl, hs⟩
  have hr4 : Vl.inR 4 = true := rfl
  simp [hr4]
  symm_saturate
  refine loopF_wp (fun _ s => ∃ a b c e f g h i j k l m n o sg, s = ⟨[some (.shr (.scr (ns.map D.int))), some (.shr (.obj 1)), a, b, c, e, f, g, h, i, j, k, l, m, n, o], sg⟩ ∧ Drw sg) ⟨_, _, _, _, _, _, _, _, _, _, _, _, _, _, _, rfl, hs⟩ ?_ ?_
  · rintro i d s hd ⟨a, b, c, e, f, g, h, i', j, k, l, m_1, n, o, sg, rfl, hs⟩
    unfold stepF
    simp
    symm_saturate
    refine wp_m (pick_ok (xs := [.int 2, .int 5]) hs (by simp) (by simp)) ?_
    rintro d1 sg1 ⟨hd1, hs1⟩
    obtain ⟨top0, rfl, ht0, ht1⟩ : ∃ q : Int, d1 = .int q ∧ 0 ≤ q ∧ q < 1000 := by
      simp at hd1
      rcases hd1 with rfl | rfl <;> exact ⟨_, rfl, by omega, by omega⟩
    simp
    symm_saturate
    refine wp_m (gaps_ok hs1 ht0 ht1) ?_
    rintro d2 sg2 ⟨⟨m, rows, low, rfl, hR⟩, hs2⟩
    have htop := @top_nn rows
    obtain ⟨A, hal, hle, hmx⟩ : ∃ A : List Int, F__law_all [RuleD m rows low] sg2 = some (.lst (A.map D.int), sg2) ∧ 1 + A.length ≤ 16777216 ∧ fMax sg2 [.lst (.int 0 :: A.map D.int)] = some (.int (topI rows)) :=
      ⟨_, all_ok hR, by have := flat_len hR; omega, max_l (ns := 0 :: rows.flatten) (by simp)⟩
    rw [Nat.add_comm] at hle
    simp [hal, Nat.add_comm 1, hle, hmx]
    symm_saturate
    refine wp_m (draw_ok hs2 (by decide) (by decide)) ?_
    rintro d3 sg3 ⟨⟨n0, rfl, hn0, hn1⟩, hs3⟩
    obtain ⟨nn, hnn, hnn0, hnn1⟩ : ∃ nn, 1 + n0 = nn ∧ 1 ≤ nn ∧ nn ≤ 16 := ⟨_, rfl, by omega, by omega⟩
    have hpt := parts_ok 30 nn nn sg3 (by omega) (by omega) (by omega) (by omega) (by omega)
    have hptl := PT_len 30 nn nn (by omega) (by omega)
    have hptm := PT_mem 30 nn nn
    have hptl2 : (PT 30 nn nn).length ≤ 2 ^ 20 := Nat.le_trans hptl (Nat.pow_le_pow_right (by decide) (by omega))
    clear hptl
    generalize PT 30 nn nn = P at hpt hptl2 hptm
    simp [hnn]
    rw [mLc_nums (s1 := ⟨[some (.shr (.scr (ns.map D.int))), some (.shr (.obj 1)), some (.shr d), some (.shr (RuleD m rows low)), some (.shr (.int (topI rows))), some (.shr (.int nn)), f, g, h, i', j, k, l, m_1, n, o], sg3⟩) tI P (fun p => if keepB m rows low p = true then some (tI p) else none) (by simp [hpt]) rfl (by rw [Vl.sizeLine_eq]; omega)]
    rotate_left
    · intro p hp
      have hk := @keeps_ok m rows low p sg3 hR (by have := (hptm p hp (by omega)).1; omega)
      unfold stepC
      simp [wipeR, hk]
      cases keepB m rows low p <;> simp
    have hfm : (P.filterMap fun p => if keepB m rows low p = true then some (tI p) else none) = (P.filter fun p => keepB m rows low p).map tI := by
      clear hpt hptl2 hptm
      induction P with
      | nil => rfl
      | cons a l ih =>
        rw [List.filterMap_cons, List.filter_cons]
        cases keepB m rows low a <;> simp [ih]
    rw [hfm]
    have hfl : (P.filter fun p => keepB m rows low p).length ≤ 2 ^ 20 := Nat.le_trans (List.length_filter_le _ _) hptl2
    have hgood : ∀ p ∈ P.filter fun p => keepB m rows low p, keepB m rows low p = true ∧ p.length ≤ 16 ∧ (∀ x ∈ p, 1 ≤ x ∧ x ≤ 16) := by
      intro p hp
      rw [List.mem_filter] at hp
      obtain ⟨h1, h2, h3, _⟩ := hptm p hp.1 (by omega)
      exact ⟨hp.2, by omega, fun x hx => by have := h3 x hx; omega⟩
    generalize (P.filter fun p => keepB m rows low p) = KP at hfl hgood
    have hpk : ∀ (s0 : S), s0.ρ = [some (.shr (.scr (ns.map D.int))), some (.shr (.obj 1)), some (.shr d), some (.shr (RuleD m rows low)), some (.shr (.int (topI rows))), some (.shr (.int nn)), some (.own (.lst (KP.map tI))), g, h, i', j, k, l, m_1, n, o] → Drw s0.sg →
        wp (mIf (mB (m2 fNe (mLend 6) (mLst mNil))) (mFn F__law_pick (mCons (mName 1) (mCons (mName 6) mNil))) (mTup mNil) s0) fun z s1 => (∃ p, z = tI p ∧ (p = [] ∨ (keepB m rows low p = true ∧ p.length ≤ 16 ∧ ∀ x ∈ p, 1 ≤ x ∧ x ≤ 16))) ∧ Drw s1.sg ∧ ∃ q, s1.ρ = [some (.shr (.scr (ns.map D.int))), some (.shr (.obj 1)), some (.shr d), some (.shr (RuleD m rows low)), some (.shr (.int (topI rows))), some (.shr (.int nn)), q, g, h, i', j, k, l, m_1, n, o] := by
      rintro ⟨ρ, sg⟩ hρ hsg
      simp only at hρ hsg
      subst hρ
      have hne : fNe sg (.lst (KP.map tI)) (.lst []) = some (.bl (!(KP.map tI).isEmpty)) := ne_l0 (by
        rw [pls_mono]
        intro d hd
        obtain ⟨p, _, rfl⟩ := List.mem_map.mp hd
        simp)
      by_cases hK : KP = []
      · subst hK
        simp [hne]
        exact ⟨⟨[], rfl, .inl rfl⟩, hsg, _, rfl⟩
      · have hK' : KP.isEmpty = false := by simpa using hK
        simp [hne, hK']
        symm_saturate
        refine wp_m (pick_ok hsg (by simpa using hK) (by simp; omega)) ?_
        rintro z sg' ⟨hz, hsg'⟩
        obtain ⟨p, hp, rfl⟩ := List.mem_map.mp hz
        simp [hsg']
        exact ⟨p, rfl, .inr (hgood p hp)⟩
    simp [-e_mIf]
    symm_saturate
    refine wp_m (hpk _ rfl hs3) ?_
    rintro z ⟨ρ4, sg4⟩ ⟨⟨p, rfl, hp⟩, hs4, q, hρ4⟩
    simp only at hs4 hρ4
    subst hρ4
    simp
    symm_saturate
    refine loopF_wp (fun _ s => ∃ f g h i j k l m' n o sg, s = ⟨[some (.shr (.scr (ns.map D.int))), some (.shr (.obj 1)), some (.shr d), some (.shr (RuleD m rows low)), some (.shr (.int (topI rows))), some (.shr (.int nn)), f, g, h, i, j, k, l, m', n, o], sg⟩ ∧ Drw sg) ⟨_, _, _, _, _, _, _, _, _, _, _, rfl, hs4⟩ ?_ ?_
    · rintro i2 d4 s4 hd4 ⟨f, g, h, i', j, k, l, m_1, n, o, sg, rfl, hs5⟩
      obtain ⟨p, rfl, hp⟩ : ∃ p2, d4 = tI p2 ∧ (p2 = [] ∨ (keepB m rows low p2 = true ∧ p2.length ≤ 16 ∧ ∀ x ∈ p2, 1 ≤ x ∧ x ≤ 16)) := by
        have := List.mem_of_getElem? hd4
        simp at this
        rcases this with rfl | rfl
        · exact ⟨[], rfl, .inl rfl⟩
        · exact ⟨p, rfl, hp⟩
      have hne : ∀ sg, fNe sg (tI p) (.tup []) = some (.bl (!p.isEmpty)) := fun sg => by
        rw [show tI p = .tup (p.map D.int) from rfl, ne_t0 pls_ints]; simp
      have hh : 0 ≤ headI p ∧ headI p ≤ 16 := by
        rcases hp with rfl | ⟨_, _, hp⟩
        · decide
        · cases p with
          | nil => decide
          | cons a l => have := hp a (by simp); simp [headI]; omega
      have hi1 : Vl.inR 1 = true := rfl
      have hi2 : Vl.inR (headI p + 1) = true := inR_i (by omega) (by omega)
      have hin : ∀ sg (k : Int), fInS false sg (.int k) (tI p) = some (.bl (p.contains k)) := fun sg k => by
        rw [show tI p = .tup (p.map D.int) from rfl, in_t]; rfl
      unfold stepF
      simp [hne, head_if2, hi1, hi2]
      symm_saturate
      refine loopF_wp (fun i s => ∃ x, s = ⟨[some (.shr (.scr (ns.map D.int))), some (.shr (.obj 1)), some (.shr d), some (.shr (RuleD m rows low)), some (.shr (.int (topI rows))), some (.shr (.int nn)), f,
        some (.shr (tI p)), some (.own (.lst (dueL m (topI rows) p i))), some (.shr (lastD p i)), x, k, l, m_1, n, o], sg⟩) ⟨_, rfl⟩ ?_ ?_
      · rintro i d s hd ⟨x, rfl⟩
        have hil := (List.getElem?_eq_some_iff.mp hd).1
        rw [rangeD_len] at hil
        rw [rangeD_get hil, show (1 : Int) + (i : Int) * 1 = ((i + 1 : Nat) : Int) by omega] at hd
        cases hd
        have hlt : (dueL m (topI rows) p i).length < 16777216 := by rw [dueL_len]; omega
        have hin' := hin sg ((i + 1 : Nat) : Int)
        have e4 : ∀ (X : S), (if p.contains ((i + 1 : Nat) : Int) = true then some (D.int ((i + 1 : Nat) : Int), X) else some (lastD p i, X)) = some (lastD p (i + 1), X) := fun X => by
          rw [lastD_succ]; split <;> rfl
        have e5 := @dueAt_lastD m (topI rows) p (i + 1)
        generalize lastD p (i + 1) = L at *
        generalize ((i + 1 : Nat) : Int) = z at *
        generalize p.contains z = b at *
        unfold stepF
        simp [hin', e4]
        rcases e5 with ⟨h1, h2⟩ | ⟨l, h1, h2⟩
        · simp [h1, dueL_succ, h2, hlt]
        · simp [h1, dueL_succ, h2, hlt, rule_0, hR.1]
      · rintro s ⟨x, rfl⟩
        rw [rangeD_len]
        have hst := @states_ok m rows low p sg hR hh.1 (by omega)
        have hdl := @dueL_len m (topI rows) p (headI p).toNat
        have hla := @dueL_last m (topI rows) p (headI p).toNat
        have hdd : p ≠ [] → dueAt m (topI rows) p (headI p).toNat = .tup [.int (headI p % m), .int 0] := fun hpn => by
          unfold dueAt
          rw [last_head hpn (by
            rcases hp with h | ⟨_, _, h⟩
            · exact absurd h hpn
            · cases p with
              | nil => exact absurd rfl hpn
              | cons a l => have := h a (by simp); simp [headI]; omega)]
          simp only
          congr 4
          omega
        have heq := eq_ok 7 (.lst (dueL m (topI rows) p (headI p).toNat)) sg (due_ok (by omega))
        have hlenD : (dueL m (topI rows) p (headI p).toNat).length = ((headI p + 1).toNat) := by rw [hdl]; omega
        generalize dueL m (topI rows) p (headI p).toNat = DL at *
        have hi3 : Vl.inR (max ((DL.length : Int) - 1) 1) = true := inR_i (by omega) (by omega)
        have hi4 : Vl.inR ((DL.length : Int) + 6) = true := inR_i (by omega) (by omega)
        simp [hst, heq, hi3, hi4]
        symm_saturate
        have hpl : p.length ≤ 16 := by
          rcases hp with rfl | ⟨_, h, _⟩
          · simp
          · exact h
        refine loopF_wp (fun _ s => ∃ x y z u v w, s = ⟨[some (.shr (.scr (ns.map D.int))), some (.shr (.obj 1)), some (.shr d), some (.shr (RuleD m rows low)), some (.shr (.int (topI rows))), some (.shr (.int nn)), f,
          some (.shr (tI p)), some (.shr (.lst DL)), some (.shr (lastD p (headI p).toNat)), x, y, z, u, v, w], sg⟩) ⟨_, _, _, _, _, _, rfl⟩ ?_ ?_
        · rintro i d s hd ⟨x, y, z, u, v, w, rfl⟩
          have hil := (List.getElem?_eq_some_iff.mp hd).1
          rw [rangeD_len] at hil
          rw [rangeD_get hil] at hd
          cases hd
          obtain ⟨X, hX⟩ : ∃ X, max ((DL.length : Int) - 1) 1 + (i : Int) * 1 = X := ⟨_, rfl⟩
          have hkg := @kg_ok m rows low (X :: p) sg hR (by simp; omega)
          have hke := @keeps_ok m rows low (X :: p) sg hR (by simp; omega)
          have hb := fun b => eq_ok 7 (.bl b) sg rfl
          have hl1 : 1 + p.length ≤ 16777216 := by omega
          rw [show tI (X :: p) = .tup (.int X :: p.map D.int) from rfl] at hkg hke
          rw [hX]
          unfold stepF
          simp [hl1, hkg, hke, hb, hne]
          by_cases hc : (DL.length : Int) ≤ X
          · by_cases hpn : p = []
            · have hpe : p.isEmpty = true := by simpa using hpn
              simp [hc, hne, hpe]
            · have hpe : p.isEmpty = false := by simpa using hpn
              have hgood : keepB m rows low p = true := by
                rcases hp with h | ⟨h, _⟩
                · exact absurd h hpn
                · exact h
              rw [keeps_cons hpn hgood]
              have hdd := hdd hpn
              rw [hdd] at hla
              obtain ⟨r, hr1, hr2⟩ := rows_at hR X (headI p)
              have hx0 : 0 ≤ X % m := Int.emod_nonneg _ (by have := hR.1; omega)
              have hy0 : 0 ≤ headI p % m := Int.emod_nonneg _ (by have := hR.1; omega)
              have hge := @top_ge m rows X (headI p)
              have h0 : (p.map D.int)[0]? = some (.int (headI p)) := head_ev hpn
              have h0' : atD (p.map D.int) 0 = some (.int (headI p)) := by rw [at_0, h0]
              simp [hc, hne, hpe, hla, rule_0, rule_1, hR.1, at_nn hx0, at_nn hy0, hr1, hr2]
              have h1 : p[0]? = some (headI p) := by
                cases p with
                | nil => exact absurd rfl hpn
                | cons a l => rfl
              by_cases hg : 0 ≤ gapAt m rows X (headI p)
              · have hS : standB m rows X (headI p) = decide (gapAt m rows X (headI p) ≤ min (X - headI p) (topI rows)) := by
                  unfold standB
                  rw [decide_eq_true hg, Bool.true_and]
                  apply decide_eq_decide.mpr
                  omega
                simp [hg, h1, hS]
              · have hS : standB m rows X (headI p) = false := by
                  unfold standB
                  rw [decide_eq_false hg, Bool.false_and]
                simp [hg, hS]
          · simp [hc]
        · rintro s ⟨x, y, z, u, v, w, rfl⟩
          simp
          exact ⟨f, _, _, _, _, _, _, _, _, _, sg, ⟨⟨rfl, rfl, rfl, rfl, rfl, rfl, rfl, rfl, rfl, rfl⟩, rfl⟩, hs5⟩
    · rintro s4 ⟨f, g, h, i', j, k, l, m_1, n, o, sg, rfl, hs5⟩
      exact ⟨_, _, _, _, _, _, _, _, _, _, _, _, _, _, _, rfl, hs5⟩
  · rintro s ⟨a, b, c, e, f, g, h, i, j, k, l, m, n, o, sg, rfl, hs⟩
    simp
end W
namespace W
open PySem PySem.Spec PyProof.Rows L2 Vl
theorem all_mk {l : PySem.W.OpenLaw} {w : World} {K : PySem.W.Frag} {h : Heap} {mg : Str → Option Value} {fa f0 f1 f2 f3 f4 f5 f6 f7 f8 f9 f10 f11 f12 f13 f14 f15 : Addr} (X : K.In h) (G : h.Ns mainGlobals mg) (hfa : mg "law" = some (.ref fa))
    {od0 an0 od1 an1 od2 an2 od3 an3 od4 an4 od5 an5 od6 an6 od7 an7 od8 an8 od9 an9 od10 an10 od11 an11 od12 an12 od13 an13 od14 an14 od15 an15 : Option Addr} {sl0 sl1 sl2 sl3 sl4 sl5 sl6 sl7 sl8 sl9 sl10 sl11 sl12 sl13 sl14 sl15 : Array (Option Value)} {oc0 kV0 dc0 pm0 cd0 ct0 oc1 kV1 dc1 pm1 cd1 ct1 oc2 kV2 dc2 pm2 cd2 ct2 oc3 kV3 dc3 pm3 cd3 ct3 oc4 kV4 dc4 pm4 cd4 ct4 oc5 kV5 dc5 pm5 cd5 ct5 oc6 kV6 dc6 pm6 cd6 ct6 oc7 kV7 dc7 pm7 cd7 ct7 oc8 kV8 dc8 pm8 cd8 ct8 oc9 kV9 dc9 pm9 cd9 ct9 oc10 kV10 dc10 pm10 cd10 ct10 oc11 kV11 dc11 pm11 cd11 ct11 oc12 kV12 dc12 pm12 cd12 ct12 oc13 kV13 dc13 pm13 cd13 ct13 oc14 kV14 dc14 pm14 cd14 ct14 oc15 kV15 dc15 pm15 cd15 ct15 : Value}
    (a0 : PySem.W.nsIn K mainGlobals "may_stand" = some (some (.ref f0))) (l0 : K.lookup f0 = some ⟨oc0, od0, .func (PySem.W.fnOf "may_stand" "may_stand" (defArgs s_may_stand) (defBody s_may_stand) (defScope s_may_stand) .none kV0 dc0 pm0 an0 cd0 ct0), sl0⟩) (c0 : PySem.W.codeIn K cd0 "may_stand" = true) (k0 : PySem.W.keepIn K (.ref f0) = true)
    (a1 : PySem.W.nsIn K mainGlobals "first_break" = some (some (.ref f1))) (l1 : K.lookup f1 = some ⟨oc1, od1, .func (PySem.W.fnOf "first_break" "first_break" (defArgs s_first_break) (defBody s_first_break) (defScope s_first_break) .none kV1 dc1 pm1 an1 cd1 ct1), sl1⟩) (c1 : PySem.W.codeIn K cd1 "first_break" = true) (k1 : PySem.W.keepIn K (.ref f1) = true)
    (a2 : PySem.W.nsIn K mainGlobals "keeps_gaps" = some (some (.ref f2))) (l2 : K.lookup f2 = some ⟨oc2, od2, .func (PySem.W.fnOf "keeps_gaps" "keeps_gaps" (defArgs s_keeps_gaps) (defBody s_keeps_gaps) (defScope s_keeps_gaps) .none kV2 dc2 pm2 an2 cd2 ct2), sl2⟩) (c2 : PySem.W.codeIn K cd2 "keeps_gaps" = true) (k2 : PySem.W.keepIn K (.ref f2) = true)
    (a3 : PySem.W.nsIn K mainGlobals "greatest_gap" = some (some (.ref f3))) (l3 : K.lookup f3 = some ⟨oc3, od3, .func (PySem.W.fnOf "greatest_gap" "greatest_gap" (defArgs s_greatest_gap) (defBody s_greatest_gap) (defScope s_greatest_gap) .none kV3 dc3 pm3 an3 cd3 ct3), sl3⟩) (c3 : PySem.W.codeIn K cd3 "greatest_gap" = true) (k3 : PySem.W.keepIn K (.ref f3) = true)
    (a4 : PySem.W.nsIn K mainGlobals "next_state" = some (some (.ref f4))) (l4 : K.lookup f4 = some ⟨oc4, od4, .func (PySem.W.fnOf "next_state" "next_state" (defArgs s_next_state) (defBody s_next_state) (defScope s_next_state) .none kV4 dc4 pm4 an4 cd4 ct4), sl4⟩) (c4 : PySem.W.codeIn K cd4 "next_state" = true) (k4 : PySem.W.keepIn K (.ref f4) = true)
    (a5 : PySem.W.nsIn K mainGlobals "states" = some (some (.ref f5))) (l5 : K.lookup f5 = some ⟨oc5, od5, .func (PySem.W.fnOf "states" "states" (defArgs s_states) (defBody s_states) (defScope s_states) .none kV5 dc5 pm5 an5 cd5 ct5), sl5⟩) (c5 : PySem.W.codeIn K cd5 "states" = true) (k5 : PySem.W.keepIn K (.ref f5) = true)
    (a6 : PySem.W.nsIn K mainGlobals "_law_state" = some (some (.ref f6))) (l6 : K.lookup f6 = some ⟨oc6, od6, .func (PySem.W.fnOf "_law_state" "_law_state" (defArgs s__law_state) (defBody s__law_state) (defScope s__law_state) .none kV6 dc6 pm6 an6 cd6 ct6), sl6⟩) (c6 : PySem.W.codeIn K cd6 "_law_state" = true) (k6 : PySem.W.keepIn K (.ref f6) = true)
    (a7 : PySem.W.nsIn K mainGlobals "_law_draw" = some (some (.ref f7))) (l7 : K.lookup f7 = some ⟨oc7, od7, .func (PySem.W.fnOf "_law_draw" "_law_draw" (defArgs s__law_draw) (defBody s__law_draw) (defScope s__law_draw) .none kV7 dc7 pm7 an7 cd7 ct7), sl7⟩) (c7 : PySem.W.codeIn K cd7 "_law_draw" = true) (k7 : PySem.W.keepIn K (.ref f7) = true)
    (a8 : PySem.W.nsIn K mainGlobals "_law_pick" = some (some (.ref f8))) (l8 : K.lookup f8 = some ⟨oc8, od8, .func (PySem.W.fnOf "_law_pick" "_law_pick" (defArgs s__law_pick) (defBody s__law_pick) (defScope s__law_pick) .none kV8 dc8 pm8 an8 cd8 ct8), sl8⟩) (c8 : PySem.W.codeIn K cd8 "_law_pick" = true) (k8 : PySem.W.keepIn K (.ref f8) = true)
    (a9 : PySem.W.nsIn K mainGlobals "_law_eq" = some (some (.ref f9))) (l9 : K.lookup f9 = some ⟨oc9, od9, .func (PySem.W.fnOf "_law_eq" "_law_eq" (defArgs s__law_eq) (defBody s__law_eq) (defScope s__law_eq) .none kV9 dc9 pm9 an9 cd9 ct9), sl9⟩) (c9 : PySem.W.codeIn K cd9 "_law_eq" = true) (k9 : PySem.W.keepIn K (.ref f9) = true)
    (a10 : PySem.W.nsIn K mainGlobals "_law_partitions" = some (some (.ref f10))) (l10 : K.lookup f10 = some ⟨oc10, od10, .func (PySem.W.fnOf "_law_partitions" "_law_partitions" (defArgs s__law_partitions) (defBody s__law_partitions) (defScope s__law_partitions) .none kV10 dc10 pm10 an10 cd10 ct10), sl10⟩) (c10 : PySem.W.codeIn K cd10 "_law_partitions" = true) (k10 : PySem.W.keepIn K (.ref f10) = true)
    (a11 : PySem.W.nsIn K mainGlobals "_law_gaps" = some (some (.ref f11))) (l11 : K.lookup f11 = some ⟨oc11, od11, .func (PySem.W.fnOf "_law_gaps" "_law_gaps" (defArgs s__law_gaps) (defBody s__law_gaps) (defScope s__law_gaps) .none kV11 dc11 pm11 an11 cd11 ct11), sl11⟩) (c11 : PySem.W.codeIn K cd11 "_law_gaps" = true) (k11 : PySem.W.keepIn K (.ref f11) = true)
    (a12 : PySem.W.nsIn K mainGlobals "_law_stands" = some (some (.ref f12))) (l12 : K.lookup f12 = some ⟨oc12, od12, .func (PySem.W.fnOf "_law_stands" "_law_stands" (defArgs s__law_stands) (defBody s__law_stands) (defScope s__law_stands) .none kV12 dc12 pm12 an12 cd12 ct12), sl12⟩) (c12 : PySem.W.codeIn K cd12 "_law_stands" = true) (k12 : PySem.W.keepIn K (.ref f12) = true)
    (a13 : PySem.W.nsIn K mainGlobals "_law_keeps" = some (some (.ref f13))) (l13 : K.lookup f13 = some ⟨oc13, od13, .func (PySem.W.fnOf "_law_keeps" "_law_keeps" (defArgs s__law_keeps) (defBody s__law_keeps) (defScope s__law_keeps) .none kV13 dc13 pm13 an13 cd13 ct13), sl13⟩) (c13 : PySem.W.codeIn K cd13 "_law_keeps" = true) (k13 : PySem.W.keepIn K (.ref f13) = true)
    (a14 : PySem.W.nsIn K mainGlobals "_law_all" = some (some (.ref f14))) (l14 : K.lookup f14 = some ⟨oc14, od14, .func (PySem.W.fnOf "_law_all" "_law_all" (defArgs s__law_all) (defBody s__law_all) (defScope s__law_all) .none kV14 dc14 pm14 an14 cd14 ct14), sl14⟩) (c14 : PySem.W.codeIn K cd14 "_law_all" = true) (k14 : PySem.W.keepIn K (.ref f14) = true)
    (a15 : PySem.W.nsIn K mainGlobals "law" = some (some (.ref f15))) (l15 : K.lookup f15 = some ⟨oc15, od15, .func (PySem.W.fnOf "law" "law" (defArgs s_law) (defBody s_law) (defScope s_law) .none kV15 dc15 pm15 an15 cd15 ct15), sl15⟩) (c15 : PySem.W.codeIn K cd15 "law" = true) (k15 : PySem.W.keepIn K (.ref f15) = true)
    (z_len : PySem.W.nsIn K mainGlobals "len" = some none) (z_range : PySem.W.nsIn K mainGlobals "range" = some none) (z_max : PySem.W.nsIn K mainGlobals "max" = some none) (z_min : PySem.W.nsIn K mainGlobals "min" = some none) (z_int : PySem.W.nsIn K mainGlobals "int" = some none) (z_abs : PySem.W.nsIn K mainGlobals "abs" = some none) (z_list : PySem.W.nsIn K mainGlobals "list" = some none) (z_isinstance : PySem.W.nsIn K mainGlobals "isinstance" = some none) (z_tuple : PySem.W.nsIn K mainGlobals "tuple" = some none) (z_str : PySem.W.nsIn K mainGlobals "str" = some none) (z_bool : PySem.W.nsIn K mainGlobals "bool" = some none) :
    ∃ fd : FuncData, (∀ (s : Shared) (v : Value), BindsTo s fd ⟨[v], []⟩ [("script", v)]) ∧ ∀ base : Heap, K.In base → base.Ns mainGlobals mg → FnOk l.prog w K mg base CX0 31 fa fd ["script"] (spOf K 1 F_law) := by
  have e := hfa.symm.trans (PySem.W.mg_of X G a15)
  cases e
  have z_len := PySem.W.mg_none_of X G z_len
  have z_range := PySem.W.mg_none_of X G z_range
  have z_max := PySem.W.mg_none_of X G z_max
  have z_min := PySem.W.mg_none_of X G z_min
  have z_int := PySem.W.mg_none_of X G z_int
  have z_abs := PySem.W.mg_none_of X G z_abs
  have z_list := PySem.W.mg_none_of X G z_list
  have z_isinstance := PySem.W.mg_none_of X G z_isinstance
  have z_tuple := PySem.W.mg_none_of X G z_tuple
  have z_str := PySem.W.mg_none_of X G z_str
  have z_bool := PySem.W.mg_none_of X G z_bool
  have F0 := fun_mk (st := s_may_stand) l0 c0 k0
  have b0 := F0.binds (ps := ["rule", "x", "y"]) fun _ _ _ _ _ _ us hl => match us, hl with | [_, _, _], _ => rfl
  have F1 := fun_mk (st := s_first_break) l1 c1 k1
  have b1 := F1.binds (ps := ["rule", "partition"]) fun _ _ _ _ _ _ us hl => match us, hl with | [_, _], _ => rfl
  have F2 := fun_mk (st := s_keeps_gaps) l2 c2 k2
  have b2 := F2.binds (ps := ["rule", "partition"]) fun _ _ _ _ _ _ us hl => match us, hl with | [_, _], _ => rfl
  have F3 := fun_mk (st := s_greatest_gap) l3 c3 k3
  have b3 := F3.binds (ps := ["rule"]) fun _ _ _ _ _ _ us hl => match us, hl with | [_], _ => rfl
  have F4 := fun_mk (st := s_next_state) l4 c4 k4
  have b4 := F4.binds (ps := ["rule", "state", "number", "taken"]) fun _ _ _ _ _ _ us hl => match us, hl with | [_, _, _, _], _ => rfl
  have F5 := fun_mk (st := s_states) l5 c5 k5
  have b5 := F5.binds (ps := ["rule", "partition"]) fun _ _ _ _ _ _ us hl => match us, hl with | [_, _], _ => rfl
  have F6 := fun_mk (st := s__law_state) l6 c6 k6
  have b6 := F6.binds (ps := ["script"]) fun _ _ _ _ _ _ us hl => match us, hl with | [_], _ => rfl
  have F7 := fun_mk (st := s__law_draw) l7 c7 k7
  have b7 := F7.binds (ps := ["state", "many"]) fun _ _ _ _ _ _ us hl => match us, hl with | [_, _], _ => rfl
  have F8 := fun_mk (st := s__law_pick) l8 c8 k8
  have b8 := F8.binds (ps := ["state", "row"]) fun _ _ _ _ _ _ us hl => match us, hl with | [_, _], _ => rfl
  have F9 := fun_mk (st := s__law_eq) l9 c9 k9
  have b9 := F9.binds (ps := ["told", "due"]) fun _ _ _ _ _ _ us hl => match us, hl with | [_, _], _ => rfl
  have F10 := fun_mk (st := s__law_partitions) l10 c10 k10
  have b10 := F10.binds (ps := ["n", "most"]) fun _ _ _ _ _ _ us hl => match us, hl with | [_, _], _ => rfl
  have F11 := fun_mk (st := s__law_gaps) l11 c11 k11
  have b11 := F11.binds (ps := ["state", "top"]) fun _ _ _ _ _ _ us hl => match us, hl with | [_, _], _ => rfl
  have F12 := fun_mk (st := s__law_stands) l12 c12 k12
  have b12 := F12.binds (ps := ["rule", "x", "y"]) fun _ _ _ _ _ _ us hl => match us, hl with | [_, _, _], _ => rfl
  have F13 := fun_mk (st := s__law_keeps) l13 c13 k13
  have b13 := F13.binds (ps := ["rule", "parts"]) fun _ _ _ _ _ _ us hl => match us, hl with | [_, _], _ => rfl
  have F14 := fun_mk (st := s__law_all) l14 c14 k14
  have b14 := F14.binds (ps := ["rule"]) fun _ _ _ _ _ _ us hl => match us, hl with | [_], _ => rfl
  have F15 := fun_mk (st := s_law) l15 c15 k15
  have b15 := F15.binds (ps := ["script"]) fun _ _ _ _ _ _ us hl => match us, hl with | [_], _ => rfl
  refine ⟨PySem.W.fnOf "law" "law" (defArgs s_law) (defBody s_law) (defScope s_law) .none kV15 dc15 pm15 an15 cd15 ct15, fun s v => .of_eq rfl, fun base _ _ => ?_⟩
  have h_may_stand := ok_may_stand (P := l.prog) (w := w) (base := base) F0 (PySem.W.mg_of X G a0) b0
  have h_first_break := ok_first_break (P := l.prog) (w := w) (base := base) h_may_stand z_len z_range F1 (PySem.W.mg_of X G a1) b1
  have h_keeps_gaps := ok_keeps_gaps (P := l.prog) (w := w) (base := base) h_first_break F2 (PySem.W.mg_of X G a2) b2
  have h_greatest_gap := ok_greatest_gap (P := l.prog) (w := w) (base := base) z_max F3 (PySem.W.mg_of X G a3) b3
  have h_next_state := ok_next_state (P := l.prog) (w := w) (base := base) h_greatest_gap z_min F4 (PySem.W.mg_of X G a4) b4
  have h_states := ok_states (P := l.prog) (w := w) (base := base) h_next_state z_len z_range F5 (PySem.W.mg_of X G a5) b5
  have h__law_state := ok__law_state (P := l.prog) (w := w) (base := base) z_int z_abs F6 (PySem.W.mg_of X G a6) b6
  have h__law_draw := ok__law_draw (P := l.prog) (w := w) (base := base) z_len z_int F7 (PySem.W.mg_of X G a7) b7
  have h__law_pick := ok__law_pick (P := l.prog) (w := w) (base := base) h__law_draw z_len F8 (PySem.W.mg_of X G a8) b8
  have h__law_eq := ok__law_eq (P := l.prog) (w := w) (base := base) z_list z_isinstance z_tuple z_len z_range z_str z_bool z_int F9 (PySem.W.mg_of X G a9) b9 8
  have h__law_partitions := ok__law_partitions (P := l.prog) (w := w) (base := base) z_min z_range F10 (PySem.W.mg_of X G a10) b10 30
  have h__law_gaps := ok__law_gaps (P := l.prog) (w := w) (base := base) h__law_draw h__law_pick z_range z_tuple F11 (PySem.W.mg_of X G a11) b11
  have h__law_stands := ok__law_stands (P := l.prog) (w := w) (base := base) z_int F12 (PySem.W.mg_of X G a12) b12
  have h__law_keeps := ok__law_keeps (P := l.prog) (w := w) (base := base) h__law_stands z_len z_range F13 (PySem.W.mg_of X G a13) b13
  have h__law_all := ok__law_all (P := l.prog) (w := w) (base := base) z_list F14 (PySem.W.mg_of X G a14) b14
  exact ok_law h__law_state h__law_gaps h__law_pick h__law_all h__law_draw h__law_partitions h__law_keeps h__law_eq h_states h_keeps_gaps z_range z_max z_int z_min z_len F15 (PySem.W.mg_of X G a15) b15
end W
open PySem PySem.W PyProof.Rows
theorem PySem.Challenge.cw_sumwright_k38_states_of_rules_holds : PySem.Challenge.rw_sumwright_k38_states_of_rules.Holds := by
  w_on; o_law; k_head; (case hw => w_witness2)
  k_fill
  refine L2.walk_of (l := PySem.Challenge.rw_sumwright_k38_states_of_rules) (n := 63) (k := 31) (x := "script") (CX := fun _ => L2.CX0) (sp := fun w => Vl.spOf _ 1 W.F_law) rfl (by decide) rfl ⟨rfl, by decide, by decide⟩ (fun w h Y => PySem.W.kIn_of Y) ?F (fun _ _ a ns hl hO hS => Vl.law_sp hO hS (W.law_true ns hl)) (fun _ _ _ _ _ h => h)
  case F =>
    intro w mg fa h KX G hmg
    refine' W.all_mk KX G hmg ?a0 ?l0 ?c0 ?k0 ?a1 ?l1 ?c1 ?k1 ?a2 ?l2 ?c2 ?k2 ?a3 ?l3 ?c3 ?k3 ?a4 ?l4 ?c4 ?k4 ?a5 ?l5 ?c5 ?k5 ?a6 ?l6 ?c6 ?k6 ?a7 ?l7 ?c7 ?k7 ?a8 ?l8 ?c8 ?k8 ?a9 ?l9 ?c9 ?k9 ?a10 ?l10 ?c10 ?k10 ?a11 ?l11 ?c11 ?k11 ?a12 ?l12 ?c12 ?k12 ?a13 ?l13 ?c13 ?k13 ?a14 ?l14 ?c14 ?k14 ?a15 ?l15 ?c15 ?k15 ?z_len ?z_range ?z_max ?z_min ?z_int ?z_abs ?z_list ?z_isinstance ?z_tuple ?z_str ?z_bool
    (case a0 => k_is); (case l0 => k_is); (case c0 => k_is); (case k0 => k_is); (case a1 => k_is); (case l1 => k_is); (case c1 => k_is); (case k1 => k_is); (case a2 => k_is); (case l2 => k_is); (case c2 => k_is); (case k2 => k_is); (case a3 => k_is); (case l3 => k_is); (case c3 => k_is); (case k3 => k_is); (case a4 => k_is); (case l4 => k_is); (case c4 => k_is); (case k4 => k_is); (case a5 => k_is); (case l5 => k_is); (case c5 => k_is); (case k5 => k_is); (case a6 => k_is); (case l6 => k_is); (case c6 => k_is); (case k6 => k_is); (case a7 => k_is); (case l7 => k_is); (case c7 => k_is); (case k7 => k_is); (case a8 => k_is); (case l8 => k_is); (case c8 => k_is); (case k8 => k_is); (case a9 => k_is); (case l9 => k_is); (case c9 => k_is); (case k9 => k_is); (case a10 => k_is); (case l10 => k_is); (case c10 => k_is); (case k10 => k_is); (case a11 => k_is); (case l11 => k_is); (case c11 => k_is); (case k11 => k_is); (case a12 => k_is); (case l12 => k_is); (case c12 => k_is); (case k12 => k_is); (case a13 => k_is); (case l13 => k_is); (case c13 => k_is); (case k13 => k_is); (case a14 => k_is); (case l14 => k_is); (case c14 => k_is); (case k14 => k_is); (case a15 => k_is); (case l15 => k_is); (case c15 => k_is); (case k15 => k_is); (case z_len => k_is); (case z_range => k_is); (case z_max => k_is); (case z_min => k_is); (case z_int => k_is); (case z_abs => k_is); (case z_list => k_is); (case z_isinstance => k_is); (case z_tuple => k_is); (case z_str => k_is); (case z_bool => k_is)
