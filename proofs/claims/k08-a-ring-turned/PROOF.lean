import PyProof.Rows.All
import Wide.All
import OpenK.AllK
import Wide.FinOn
import HandS.ForMost
import HandS.ForExc
import HandS.Conv
import HandS.Deep
import HandS.SortInts
import HandS.SetFor
import HandS.IsInst
import HandS.Rev
import HandS.Zip
import HandS.ExcIs
import HandS.TryOnly
import PySem.Challenge.RW_thingdeal_k08_a_ring_turned
set_option Elab.async false
set_option linter.all false
set_option maxRecDepth 100000
set_option maxHeartbeats 2000000
/-! DL: a data layer over the hand layer: values as data, slots by what they hold, owned lists by trees. -/
namespace DL
open PySem L2
abbrev D := PySem.PyData
abbrev Fg := PySem.W.Frag
def Ex (H H' : Hp) : Prop := ∀ a o, H a = some o → H' a = some o
theorem Ex.refl (H : Hp) : Ex H H := fun _ _ h => h
theorem Ex.trans {H H1 H2 : Hp} (a : Ex H H1) (b : Ex H1 H2) : Ex H H2 := fun x o h => b x o (a x o h)
theorem Ex.new {H : Hp} {p : Addr} {o : HO} (h : H p = none) : Ex H (upd H p o) := fun a u e => by
  rw [upd_ne (ne_of_none e h)]
  exact e
theorem Ex.mut {H H' : Hp} {p : Addr} {o : HO} (e : Ex H H') (h : H p = none) : Ex H (upd H' p o) := fun a u ha => by
  rw [upd_ne (ne_of_none ha h)]
  exact e a u ha
theorem Ex.none {H H' : Hp} (e : Ex H H') {a : Addr} (h : H' a = none) : H a = none := by
  cases q : H a with
  | none => rfl
  | some o => rw [e a o q] at h; cases h
theorem ex_l {K : Fg} {H H' : Hp} {a : Addr} {xs : List V} (e : Ex H H') (h : SqL K H a xs) : SqL K H' a xs := by
  rcases h with (h | ⟨o, h⟩) | h
  · exact .inl (.inl (e _ _ h))
  · exact .inl (.inr ⟨o, e _ _ h⟩)
  · exact .inr h
theorem ex_t {K : Fg} {H H' : Hp} {a : Addr} {xs : List V} (e : Ex H H') (h : SqT K H a xs) : SqT K H' a xs := by
  rcases h with (h | ⟨o, h⟩) | h
  · exact .inl (.inl (e _ _ h))
  · exact .inl (.inr ⟨o, e _ _ h⟩)
  · exact .inr h

/-! ### data at a value -/
mutual
inductive Rep (H : Hp) : V → D → Prop
  | non : Rep H .non .none
  | bl (b : Bool) : Rep H (.bl b) (.bool b)
  | int (i : Int) : Rep H (.int i) (.int i)
  | str (x : Str) : Rep H (.str x) (.str x)
  | lst {a : Addr} {xs : List V} {ds : List D} : H a = some (.lst xs) → Reps H xs ds → Rep H (.ref a) (.list ds)
  | tup {a : Addr} {xs : List V} {ds : List D} : H a = some (.tup xs) → Reps H xs ds → Rep H (.ref a) (.tuple ds)
  | dct {a : Addr} : H a = some (.dK []) → Rep H (.ref a) (.dict [])
inductive Reps (H : Hp) : List V → List D → Prop
  | nil : Reps H [] []
  | cons {v : V} {vs : List V} {d : D} {ds : List D} : Rep H v d → Reps H vs ds → Reps H (v :: vs) (d :: ds)
end
section
variable {H H' : Hp}
mutual
theorem Rep.mono (e : Ex H H') : ∀ {v : V} {d : D}, Rep H v d → Rep H' v d
  | _, _, .non => .non
  | _, _, .bl b => .bl b
  | _, _, .int i => .int i
  | _, _, .str x => .str x
  | _, _, .lst h r => .lst (e _ _ h) (Reps.mono e r)
  | _, _, .tup h r => .tup (e _ _ h) (Reps.mono e r)
  | _, _, .dct h => .dct (e _ _ h)
theorem Reps.mono (e : Ex H H') : ∀ {vs : List V} {ds : List D}, Reps H vs ds → Reps H' vs ds
  | _, _, .nil => .nil
  | _, _, .cons h r => .cons (Rep.mono e h) (Reps.mono e r)
end
theorem Reps.len : ∀ {vs : List V} {ds : List D}, Reps H vs ds → vs.length = ds.length
  | _, _, .nil => rfl
  | _, _, .cons _ r => by simp [Reps.len r]
theorem Reps.get : ∀ {vs : List V} {ds : List D} {i : Nat} {d : D}, Reps H vs ds → ds[i]? = some d → ∃ v, vs[i]? = some v ∧ Rep H v d
  | _, _, 0, d, .cons h r, e => by
    obtain rfl := Option.some.inj e
    exact ⟨_, rfl, h⟩
  | _, _, i + 1, d, .cons h r, e => by
    obtain ⟨v, h1, h2⟩ := Reps.get (i := i) (d := d) r (by simpa using e)
    exact ⟨v, by simpa using h1, h2⟩
  | _, _, 0, d, .nil, e => by cases e
  | _, _, _ + 1, d, .nil, e => by cases e
theorem Reps.getV : ∀ {vs : List V} {ds : List D} {i : Nat} {v : V}, Reps H vs ds → vs[i]? = some v → ∃ d, ds[i]? = some d ∧ Rep H v d
  | _, _, 0, d, .cons h r, e => by
    obtain rfl := Option.some.inj e
    exact ⟨_, rfl, h⟩
  | _, _, i + 1, d, .cons h r, e => by
    obtain ⟨v, h1, h2⟩ := Reps.getV (i := i) (v := d) r (by simpa using e)
    exact ⟨v, by simpa using h1, h2⟩
  | _, _, 0, d, .nil, e => by cases e
  | _, _, _ + 1, d, .nil, e => by cases e
theorem Reps.app : ∀ {vs ws : List V} {ds es : List D}, Reps H vs ds → Reps H ws es → Reps H (vs ++ ws) (ds ++ es)
  | _, _, _, _, .nil, s => s
  | _, _, _, _, .cons h r, s => .cons h (Reps.app r s)
theorem Reps.take : ∀ {vs : List V} {ds : List D} (n : Nat), Reps H vs ds → Reps H (vs.take n) (ds.take n)
  | _, _, 0, _ => by simpa using Reps.nil
  | _, _, n + 1, .nil => by simpa using Reps.nil
  | _, _, n + 1, .cons h r => .cons h (Reps.take n r)
theorem Reps.drop : ∀ {vs : List V} {ds : List D} (n : Nat), Reps H vs ds → Reps H (vs.drop n) (ds.drop n)
  | _, _, 0, r => by simpa using r
  | _, _, n + 1, .nil => by simpa using Reps.nil
  | _, _, n + 1, .cons h r => by simpa using Reps.drop n r
theorem Reps.ints : ∀ {vs : List V} {ns : List Int}, Reps H vs (ns.map .int) → vs = ns.map V.int
  | [], [], .nil => rfl
  | _ :: _, n :: ns, .cons (.int _) r => by rw [Reps.ints r]; rfl
theorem Reps.bools : ∀ {vs : List V} {ns : List Bool}, Reps H vs (ns.map .bool) → vs = ns.map V.bl
  | [], [], .nil => rfl
  | _ :: _, n :: ns, .cons (.bl _) r => by rw [Reps.bools r]; rfl
theorem Reps.strs : ∀ {vs : List V} {ns : List Str}, Reps H vs (ns.map .str) → vs = ns.map V.str
  | [], [], .nil => rfl
  | _ :: _, n :: ns, .cons (.str _) r => by rw [Reps.strs r]; rfl
theorem reps_ints : ∀ (ns : List Int), Reps H (ns.map V.int) (ns.map .int)
  | [] => .nil
  | n :: ns => .cons (.int n) (reps_ints ns)
theorem reps_bools : ∀ (ns : List Bool), Reps H (ns.map V.bl) (ns.map .bool)
  | [] => .nil
  | n :: ns => .cons (.bl n) (reps_bools ns)
theorem reps_strs : ∀ (ns : List Str), Reps H (ns.map V.str) (ns.map .str)
  | [] => .nil
  | n :: ns => .cons (.str n) (reps_strs ns)
end

/-! ### a step: what is frozen grows by new things, the heap keeps all -/
structure Step (G H G2 H2 : Hp) : Prop where
  g : Ex G G2
  h : Ex H H2
  f : ∀ b o, G b = none → H b = some o → G2 b = none
theorem Step.refl (G H : Hp) : Step G H G H := ⟨Ex.refl _, Ex.refl _, fun _ _ e _ => e⟩
theorem Step.trans {G H G1 H1 G2 H2 : Hp} (a : Step G H G1 H1) (b : Step G1 H1 G2 H2) : Step G H G2 H2 :=
  ⟨a.g.trans b.g, a.h.trans b.h, fun x o e e2 => b.f x o (a.f x o e e2) (a.h x o e2)⟩

/-! ### owned trees -/
inductive OT where
  | fz (d : D)
  | cell (ts : List OT)
mutual
def OT.er : OT → D
  | .fz d => d
  | .cell ts => .list (OT.ers ts)
def OT.ers : List OT → List D
  | [] => []
  | t :: ts => t.er :: OT.ers ts
end
theorem ers_map : ∀ ts : List OT, OT.ers ts = ts.map OT.er
  | [] => by unfold OT.ers; rfl
  | t :: ts => by unfold OT.ers; rw [ers_map ts]; rfl
mutual
inductive OwnT (G H : Hp) : OT → V → List Addr → Prop
  | fz {d : D} {v : V} : Rep G v d → OwnT G H (.fz d) v []
  | cell {ts : List OT} {a : Addr} {vs : List V} {A : List Addr} : G a = none → H a = some (.lst vs) → OwnTs G H ts vs A → OwnT G H (.cell ts) (.ref a) (a :: A)
inductive OwnTs (G H : Hp) : List OT → List V → List Addr → Prop
  | nil : OwnTs G H [] [] []
  | cons {t : OT} {ts : List OT} {v : V} {vs : List V} {A B : List Addr} : OwnT G H t v A → OwnTs G H ts vs B → OwnTs G H (t :: ts) (v :: vs) (A ++ B)
end
section
variable {G H G2 H2 : Hp}
mutual
theorem OwnT.more (s : Step G H G2 H2) : ∀ {t : OT} {v : V} {A : List Addr}, OwnT G H t v A → OwnT G2 H2 t v A
  | _, _, _, .fz h => .fz (h.mono s.g)
  | _, _, _, .cell hg hh r => .cell (s.f _ _ hg hh) (s.h _ _ hh) (OwnTs.more s r)
theorem OwnTs.more (s : Step G H G2 H2) : ∀ {t : List OT} {v : List V} {A : List Addr}, OwnTs G H t v A → OwnTs G2 H2 t v A
  | _, _, _, .nil => .nil
  | _, _, _, .cons h r => .cons (OwnT.more s h) (OwnTs.more s r)
end
mutual
theorem OwnT.frame (e : Ex G G2) : ∀ {t : OT} {v : V} {A : List Addr}, (∀ b ∈ A, G b = none → G2 b = none) → (∀ b ∈ A, H2 b = H b) → OwnT G H t v A → OwnT G2 H2 t v A
  | _, _, _, _, _, .fz h => .fz (h.mono e)
  | _, _, _, q, k, .cell hg hh r => .cell (q _ List.mem_cons_self hg) ((k _ List.mem_cons_self).trans hh) (OwnTs.frame e (fun b hb => q b (List.mem_cons_of_mem _ hb)) (fun b hb => k b (List.mem_cons_of_mem _ hb)) r)
theorem OwnTs.frame (e : Ex G G2) : ∀ {t : List OT} {v : List V} {A : List Addr}, (∀ b ∈ A, G b = none → G2 b = none) → (∀ b ∈ A, H2 b = H b) → OwnTs G H t v A → OwnTs G2 H2 t v A
  | _, _, _, _, _, .nil => .nil
  | _, _, _, q, k, .cons h r => .cons (OwnT.frame e (fun b hb => q b (List.mem_append_left _ hb)) (fun b hb => k b (List.mem_append_left _ hb)) h) (OwnTs.frame e (fun b hb => q b (List.mem_append_right _ hb)) (fun b hb => k b (List.mem_append_right _ hb)) r)
end
mutual
theorem OwnT.rep (e : Ex G H) : ∀ {t : OT} {v : V} {A : List Addr}, OwnT G H t v A → Rep H v t.er
  | _, _, _, .fz h => by unfold OT.er; exact h.mono e
  | _, _, _, .cell hg hh r => by unfold OT.er; exact .lst hh (OwnTs.reps e r)
theorem OwnTs.reps (e : Ex G H) : ∀ {t : List OT} {v : List V} {A : List Addr}, OwnTs G H t v A → Reps H v (OT.ers t)
  | _, _, _, .nil => by unfold OT.ers; exact .nil
  | _, _, _, .cons h r => by unfold OT.ers; exact .cons (OwnT.rep e h) (OwnTs.reps e r)
end
mutual
theorem OwnT.mem : ∀ {t : OT} {v : V} {A : List Addr}, OwnT G H t v A → ∀ b ∈ A, G b = none ∧ ∃ o, H b = some o
  | _, _, _, .fz h, b, hb => by cases hb
  | _, _, _, .cell hg hh r, b, hb => by
    rcases List.mem_cons.mp hb with e | hb
    · subst e; exact ⟨hg, _, hh⟩
    · exact OwnTs.mem r b hb
theorem OwnTs.mem : ∀ {t : List OT} {v : List V} {A : List Addr}, OwnTs G H t v A → ∀ b ∈ A, G b = none ∧ ∃ o, H b = some o
  | _, _, _, .nil, b, hb => by cases hb
  | _, _, _, .cons h r, b, hb => by
    rcases List.mem_append.mp hb with hb | hb
    · exact OwnT.mem h b hb
    · exact OwnTs.mem r b hb
end
theorem OwnTs.len : ∀ {ts : List OT} {vs : List V} {A : List Addr}, OwnTs G H ts vs A → vs.length = ts.length
  | _, _, _, .nil => rfl
  | _, _, _, .cons _ r => by simp [OwnTs.len r]
theorem OwnTs.app : ∀ {ts us : List OT} {vs ws : List V} {A B : List Addr}, OwnTs G H ts vs A → OwnTs G H us ws B → OwnTs G H (ts ++ us) (vs ++ ws) (A ++ B)
  | _, _, _, _, _, _, .nil, s => s
  | _, _, _, _, _, _, .cons h r, s => by
    rw [List.append_assoc]
    exact .cons h (OwnTs.app r s)
theorem OwnTs.one {t : OT} {v : V} {A : List Addr} (h : OwnT G H t v A) : OwnTs G H [t] [v] A := by
  have := OwnTs.cons h OwnTs.nil
  rwa [List.append_nil] at this
/-- an owned tree as frozen data: its cells join what is frozen -/
def frz (G H : Hp) (A : List Addr) : Hp := fun b => if b ∈ A then H b else G b
theorem frz_in {A : List Addr} {b : Addr} (h : b ∈ A) : frz G H A b = H b := by unfold frz; rw [if_pos h]
theorem frz_out {A : List Addr} {b : Addr} (h : b ∉ A) : frz G H A b = G b := by unfold frz; rw [if_neg h]
theorem frz_ex {A : List Addr} (h : ∀ b ∈ A, G b = none) : Ex G (frz G H A) := fun a o e => by
  by_cases q : a ∈ A
  · rw [h a q] at e; cases e
  · rw [frz_out q]; exact e
theorem frz_sub {A : List Addr} (h : Ex G H) : Ex (frz G H A) H := fun a o e => by
  by_cases q : a ∈ A
  · rw [frz_in q] at e; exact e
  · rw [frz_out q] at e; exact h a o e
mutual
theorem OwnT.frz {B : List Addr} (e : Ex G (DL.frz G H B)) : ∀ {t : OT} {v : V} {A : List Addr}, (∀ b ∈ A, b ∈ B) → OwnT G H t v A → Rep (DL.frz G H B) v t.er
  | _, _, _, _, .fz h => by unfold OT.er; exact h.mono e
  | _, _, _, q, .cell hg hh r => by
    unfold OT.er
    exact .lst ((frz_in (q _ List.mem_cons_self)).trans hh) (OwnTs.frzs e (fun b hb => q b (List.mem_cons_of_mem _ hb)) r)
theorem OwnTs.frzs {B : List Addr} (e : Ex G (DL.frz G H B)) : ∀ {t : List OT} {v : List V} {A : List Addr}, (∀ b ∈ A, b ∈ B) → OwnTs G H t v A → Reps (DL.frz G H B) v (OT.ers t)
  | _, _, _, _, .nil => by unfold OT.ers; exact .nil
  | _, _, _, q, .cons h r => by unfold OT.ers; exact .cons (OwnT.frz e (fun b hb => q b (List.mem_append_left _ hb)) h) (OwnTs.frzs e (fun b hb => q b (List.mem_append_right _ hb)) r)
end
end

/-! ### slots -/
inductive Sl where
  | un
  | v (x : V)
  | sh (d : D)
  | ro (d : D)
  | ow (t : OT)
  | sc (ns : List Int)
/-- one slot: I the entry's heap, G what is frozen, H the heap -/
inductive SlS (K : Fg) (I G H : Hp) : Option V → Sl → List Addr → Prop
  | un {o} : SlS K I G H o .un []
  | v {x} : SlS K I G H (some x) (.v x) []
  | sh {x d} : Rep G x d → SlS K I G H (some x) (.sh d) []
  | ro {x d} : Rep I x d → SlS K I G H (some x) (.ro d) []
  | ow {x t A} : OwnT G H t x A → SlS K I G H (some x) (.ow t) A
  | sc {a ns} : SqL K I a (ns.map V.int) → SlS K I G H (some (.ref a)) (.sc ns) []
inductive SlR (K : Fg) (I G H : Hp) : List (Option V) → List Sl → List Addr → Prop
  | nil : SlR K I G H [] [] []
  | cons {o s A σ ρ B} : SlS K I G H o s A → SlR K I G H σ ρ B → SlR K I G H (o :: σ) (s :: ρ) (A ++ B)
section
variable {K : Fg} {I G H G2 H2 : Hp}
theorem SlS.more (s : Step G H G2 H2) {o x A} : SlS K I G H o x A → SlS K I G2 H2 o x A
  | .un => .un
  | .v => .v
  | .sh h => .sh (h.mono s.g)
  | .ro h => .ro h
  | .ow h => .ow (h.more s)
  | .sc h => .sc h
theorem SlR.more (s : Step G H G2 H2) : ∀ {σ ρ A}, SlR K I G H σ ρ A → SlR K I G2 H2 σ ρ A
  | _, _, _, .nil => .nil
  | _, _, _, .cons h r => .cons (h.more s) (SlR.more s r)
theorem SlS.frame (e : Ex G G2) {o x A} (q : ∀ b ∈ A, G b = none → G2 b = none) (k : ∀ b ∈ A, H2 b = H b) : SlS K I G H o x A → SlS K I G2 H2 o x A
  | .un => .un
  | .v => .v
  | .sh h => .sh (h.mono e)
  | .ro h => .ro h
  | .ow h => .ow (h.frame e q k)
  | .sc h => .sc h
theorem SlR.frame (e : Ex G G2) : ∀ {σ ρ A}, (∀ b ∈ A, G b = none → G2 b = none) → (∀ b ∈ A, H2 b = H b) → SlR K I G H σ ρ A → SlR K I G2 H2 σ ρ A
  | _, _, _, _, _, .nil => .nil
  | _, _, _, q, k, .cons h r => .cons (h.frame e (fun b hb => q b (List.mem_append_left _ hb)) (fun b hb => k b (List.mem_append_left _ hb))) (SlR.frame e (fun b hb => q b (List.mem_append_right _ hb)) (fun b hb => k b (List.mem_append_right _ hb)) r)
theorem SlS.mem {o x A} : SlS K I G H o x A → ∀ b ∈ A, G b = none ∧ ∃ u, H b = some u
  | .un, b, hb => by cases hb
  | .v, b, hb => by cases hb
  | .sh _, b, hb => by cases hb
  | .ro _, b, hb => by cases hb
  | .ow h, b, hb => h.mem b hb
  | .sc _, b, hb => by cases hb
theorem SlR.mem : ∀ {σ ρ A}, SlR K I G H σ ρ A → ∀ b ∈ A, G b = none ∧ ∃ u, H b = some u
  | _, _, _, .nil, b, hb => by cases hb
  | _, _, _, .cons h r, b, hb => by
    rcases List.mem_append.mp hb with hb | hb
    · exact h.mem b hb
    · exact SlR.mem r b hb
theorem SlR.len : ∀ {σ ρ A}, SlR K I G H σ ρ A → σ.length = ρ.length
  | _, _, _, .nil => rfl
  | _, _, _, .cons _ r => by simp [SlR.len r]
theorem SlR.app : ∀ {σ ρ A τ π B}, SlR K I G H σ ρ A → SlR K I G H τ π B → SlR K I G H (σ ++ τ) (ρ ++ π) (A ++ B)
  | _, _, _, _, _, _, .nil, s => s
  | _, _, _, _, _, _, .cons h r, s => by
    rw [List.append_assoc]
    exact .cons h (SlR.app r s)
theorem SlR.uns : ∀ (n : Nat) (σ : List (Option V)), σ.length = n → SlR K I G H σ (List.replicate n .un) []
  | 0, [], _ => .nil
  | n + 1, o :: σ, h => .cons (A := []) (B := []) .un (SlR.uns n σ (by simpa using h))
theorem SlR.get : ∀ {i : Nat} {σ ρ A} {s : Sl}, SlR K I G H σ ρ A → ρ[i]? = some s → ∃ o B, σ[i]? = some o ∧ SlS K I G H o s B ∧ (∀ b ∈ B, b ∈ A)
  | 0, _, _, _, s, .cons h r, e => by
    obtain rfl := Option.some.inj e
    exact ⟨_, _, rfl, h, fun b hb => List.mem_append_left _ hb⟩
  | i + 1, _, _, _, s, .cons h r, e => by
    obtain ⟨o, B, h1, h2, h3⟩ := SlR.get (i := i) (s := s) r (by simpa using e)
    exact ⟨o, B, by simpa using h1, h2, fun b hb => List.mem_append_right _ (h3 b hb)⟩
  | 0, _, _, _, s, .nil, e => by cases e
  | _ + 1, _, _, _, s, .nil, e => by cases e
/-- a slot stands apart: it may be filled otherwise, in another heap that keeps the others -/
theorem SlR.focus : ∀ {i : Nat} {σ ρ A} {s : Sl}, SlR K I G H σ ρ A → ρ[i]? = some s → ∃ o A1 B A2, σ[i]? = some o ∧ SlS K I G H o s B ∧ A = A1 ++ (B ++ A2) ∧
    ∀ (G2 H2 : Hp) (o' : Option V) (s' : Sl) (B' : List Addr), Ex G G2 → (∀ b ∈ A1 ++ A2, G b = none → G2 b = none) → (∀ b ∈ A1 ++ A2, H2 b = H b) → SlS K I G2 H2 o' s' B' → SlR K I G2 H2 (σ.set i o') (ρ.set i s') (A1 ++ (B' ++ A2))
  | 0, _, _, _, s, .cons (A := A0) (B := B0) h r, e => by
    obtain rfl := Option.some.inj e
    refine ⟨_, [], A0, B0, rfl, h, by simp, fun G2 H2 o' s' B' eg q k h' => ?_⟩
    simp only [List.nil_append]
    exact .cons h' (r.frame eg (fun b hb => q b (by simpa using hb)) (fun b hb => k b (by simpa using hb)))
  | i + 1, _, _, _, s, .cons (A := A0) (B := B0) h r, e => by
    obtain ⟨o, A1, B, A2, h1, h2, h3, h4⟩ := SlR.focus (i := i) (s := s) r (by simpa using e)
    refine ⟨o, A0 ++ A1, B, A2, by simpa using h1, h2, by rw [h3]; simp, fun G2 H2 o' s' B' eg q k h' => ?_⟩
    have := SlR.cons (h.frame eg (fun b hb => q b (by simp [hb])) (fun b hb => k b (by simp [hb]))) (h4 G2 H2 o' s' B' eg (fun b hb => q b (by
      rcases List.mem_append.mp hb with z | z
      · simp [z]
      · simp [z])) (fun b hb => k b (by
      rcases List.mem_append.mp hb with z | z
      · simp [z]
      · simp [z])) h')
    simpa using this
  | 0, _, _, _, s, .nil, e => by cases e
  | _ + 1, _, _, _, s, .nil, e => by cases e
theorem SlR.nth {i : Nat} {σ ρ A} (r : SlR K I G H σ ρ A) (h : i < ρ.length) : ∃ s, ρ[i]? = some s := ⟨ρ[i], by simp [h]⟩
end

/-- the entry of a def: K, what was frozen, the heap -/
structure Gm where
  K : Fg
  G : Hp
  H : Hp
structure Sr (Γ : Gm) (G H : Hp) (σ : L2.St) (ρ : List Sl) : Prop where
  step : Step Γ.G Γ.H G H
  sub : Ex G H
  sl : ∃ A, SlR Γ.K Γ.H G H σ ρ A ∧ A.Nodup ∧ ∀ a ∈ A, Γ.H a = none
section
variable {Γ : Gm} {G H G2 H2 : Hp} {σ : L2.St} {ρ : List Sl}
theorem Sr.more (S : Sr Γ G H σ ρ) (s : Step G H G2 H2) (e : Ex G2 H2) : Sr Γ G2 H2 σ ρ := by
  obtain ⟨A, r, n, f⟩ := S.sl
  exact ⟨S.step.trans s, e, A, r.more s, n, f⟩
theorem nd_swap {A1 B A2 B' : List Addr} (h : (A1 ++ (B ++ A2)).Nodup) (h' : B'.Nodup) (d : ∀ b ∈ B', b ∉ A1 ++ A2) : (A1 ++ (B' ++ A2)).Nodup := by
  simp only [List.nodup_append, List.mem_append] at *
  obtain ⟨h1, ⟨h2, h3, h4⟩, h5⟩ := h
  refine ⟨h1, ⟨h', h3, ?_⟩, ?_⟩
  · intro a ha b hb e
    subst e
    exact d a ha (.inr hb)
  · intro a ha b hb e
    subst e
    rcases hb with hb | hb
    · exact d a hb (.inl ha)
    · exact h5 a ha a (.inr hb) rfl
theorem Sr.len (S : Sr Γ G H σ ρ) : σ.length = ρ.length := let ⟨_, r, _⟩ := S.sl; r.len
/-- a slot stored, with what an expression has made -/
theorem Sr.store {i : Nat} {x : V} {s : Sl} {B : List Addr} (S : Sr Γ G H σ ρ) (st : Step G H G2 H2) (e : Ex G2 H2) (h : SlS Γ.K Γ.H G2 H2 (some x) s B) (hn : B.Nodup) (hf : ∀ b ∈ B, H b = none) :
    Sr Γ G2 H2 (σ.set i (some x)) (ρ.set i s) := by
  by_cases hi : i < ρ.length
  case neg =>
    have e1 : σ.set i (some x) = σ := List.set_eq_of_length_le (by rw [S.len]; omega)
    have e2 : ρ.set i s = ρ := List.set_eq_of_length_le (by omega)
    rw [e1, e2]
    exact S.more st e
  obtain ⟨A, r, n, f⟩ := S.sl
  have fr : ∀ b ∈ B, b ∉ A := fun b hb z => by
    obtain ⟨_, o, q⟩ := r.mem b z
    rw [hf b hb] at q; cases q
  obtain ⟨s0, e0⟩ := r.nth hi
  obtain ⟨o, A1, B0, A2, h1, h2, rfl, h4⟩ := (r.more st).focus e0
  refine ⟨S.step.trans st, e, _, h4 G2 H2 _ _ _ (Ex.refl _) (fun _ _ e => e) (fun _ _ => rfl) h, nd_swap n hn fun b hb z => fr b hb ?_, fun a ha => ?_⟩
  · simp only [List.mem_append] at z ⊢
    rcases z with z | z
    · exact .inl z
    · exact .inr (.inr z)
  · simp only [List.mem_append] at ha
    rcases ha with z | z | z
    · exact f a (by simp [z])
    · exact S.step.h.none (hf a z)
    · exact f a (by simp [z])
end
end DL

set_option Elab.async false
set_option linter.all false
set_option maxRecDepth 100000
set_option maxHeartbeats 2000000
namespace L2
open PySem
theorem PE.weak {X : Cx} {e : Expr} {t t' : TE} (h : PE X e t) (w : ∀ σ H Q, t' σ H Q → t σ H Q) : PE X e t' := ⟨fun pins s σ H Q I q => h.run pins s σ H Q I (w _ _ _ q)⟩
theorem PT.weak {X : Cx} {e : Expr} {t t' : TT} (h : PT X e t) (w : ∀ σ H Q, t' σ H Q → t σ H Q) : PT X e t' := ⟨fun pins s σ H Q I q => h.run pins s σ H Q I (w _ _ _ q)⟩
theorem PW.weak {X : Cx} {e : Expr} {t t' : TT} (h : PW X e t) (w : ∀ σ H Q, t' σ H Q → t σ H Q) : PW X e t' := ⟨fun wh pins s σ H Q I q => h.run wh pins s σ H Q I (w _ _ _ q)⟩
theorem PA.weak {X : Cx} {e : List Expr} {t t' : TA} (h : PA X e t) (w : ∀ σ H Q, t' σ H Q → t σ H Q) : PA X e t' := ⟨fun pos pins s σ H Q I q => h.run pos pins s σ H Q I (w _ _ _ q)⟩
theorem PS.weak {X : Cx} {e : Stmt} {t t' : TS} (h : PS X e t) (w : ∀ D σ H, t' D σ H → t D σ H) : PS X e t' := ⟨fun pins s σ H D I q => h.run pins s σ H D I (w _ _ _ q)⟩
theorem PSs.weak {X : Cx} {e : List Stmt} {t t' : TS} (h : PSs X e t) (w : ∀ D σ H, t' D σ H → t D σ H) : PSs X e t' := ⟨fun pins s σ H D I q => h.run pins s σ H D I (w _ _ _ q)⟩
theorem PI.weak {X : Cx} {tg it : Expr} {t t' : TI} (h : PI X tg it t) (w : ∀ σ H R, t' σ H R → t σ H R) : PI X tg it t' := ⟨fun pins s σ H R I q => h.run pins s σ H R I (w _ _ _ q)⟩
end L2
namespace DL
open PySem L2

theorem pe_absurd {X : Cx} {e : Expr} : PE X e (fun _ _ _ => False) := ⟨fun _ _ _ _ _ _ h => h.elim⟩
theorem pt_absurd {X : Cx} {e : Expr} : PT X e (fun _ _ _ => False) := ⟨fun _ _ _ _ _ _ h => h.elim⟩
theorem pw_absurd {X : Cx} {e : Expr} : PW X e (fun _ _ _ => False) := ⟨fun _ _ _ _ _ _ _ h => h.elim⟩

inductive Kd | z | r | c
def tX (Γ : Gm) (ρ : List Sl) (P : Hp → Hp → Hp → V → Prop) : TE := fun σ H Q => ∃ G, Sr Γ G H σ ρ ∧ ∀ v G2 H2, Step G H G2 H2 → Ex G2 H2 → P H G2 H2 v → Q v H2
def pK (Γ : Gm) : Kd → D → Hp → Hp → Hp → V → Prop
  | .z, d => fun _ G2 _ v => Rep G2 v d
  | .r, d => fun _ _ _ v => Rep Γ.H v d
  | .c, d => fun _ _ H2 v => Rep H2 v d
def pO (t : OT) : Hp → Hp → Hp → V → Prop := fun H G2 H2 v => ∃ A, OwnT G2 H2 t v A ∧ A.Nodup ∧ ∀ a ∈ A, H a = none
def DV (X : Cx) (Γ : Gm) (ρ : List Sl) (e : Expr) (x : V) : Prop := PE X e (tX Γ ρ fun _ _ _ v => v = x)
def DE (X : Cx) (Γ : Gm) (ρ : List Sl) (e : Expr) (κ : Kd) (d : D) : Prop := PE X e (tX Γ ρ (pK Γ κ d))
def DO (X : Cx) (Γ : Gm) (ρ : List Sl) (e : Expr) (t : OT) : Prop := PE X e (tX Γ ρ (pO t))
/-- an expression that doesn't come back -/
def DN (X : Cx) (Γ : Gm) (ρ : List Sl) (e : Expr) : Prop := PE X e (tX Γ ρ fun _ _ _ _ => False)
def tT (Γ : Gm) (ρ : List Sl) (b : Bool) : TT := fun σ H Q => ∃ G, Sr Γ G H σ ρ ∧ ∀ G2 H2, Step G H G2 H2 → Ex G2 H2 → Q b H2
def DT (X : Cx) (Γ : Gm) (ρ : List Sl) (e : Expr) (b : Bool) : Prop := PT X e (tT Γ ρ b)
def DW (X : Cx) (Γ : Gm) (ρ : List Sl) (e : Expr) (b : Bool) : Prop := PW X e (tT Γ ρ b)

/-- a plain value as data -/
def vD : V → D
  | .bl b => .bool b
  | .int i => .int i
  | .str x => .str x
  | _ => .none
def vOk : V → Bool
  | .non => true
  | .bl _ => true
  | .int _ => true
  | .str _ => true
  | _ => false
theorem vD_rep {H : Hp} : ∀ {x : V}, vOk x = true → Rep H x (vD x)
  | .non, _ => .non
  | .bl b, _ => .bl b
  | .int i, _ => .int i
  | .str x, _ => .str x
  | .byt _, h => by cases h
  | .flt _, h => by cases h
  | .ref _, h => by cases h
  | .ty _, h => by cases h
/-- data that is a plain value -/
def dV : D → Option V
  | .none => some .non
  | .bool b => some (.bl b)
  | .int i => some (.int i)
  | .str x => some (.str x)
  | _ => none
theorem rep_dV {H : Hp} {v x : V} {d : D} (h : Rep H v d) (e : dV d = some x) : v = x := by
  cases h <;> first | exact Option.some.inj e | cases e

section
variable {X : Cx} {Γ : Gm} {ρ : List Sl} {e a b c : Expr} {es : List Expr} {pos p : Pos} {κ κ' : Kd} {d d' : D} {x y z : V} {t : OT} {σ : L2.St} {G H G1 H1 G2 H2 : Hp}
theorem pK_c {v : V} (S : Sr Γ G H σ ρ) (s : Step G H G2 H2) (ex : Ex G2 H2) (h : pK Γ κ d H G2 H2 v) : Rep H2 v d := by
  cases κ with
  | z => exact Rep.mono ex h
  | r => exact Rep.mono (S.step.h.trans s.h) h
  | c => exact h
theorem pK_more {v : V} {H0 : Hp} (s : Step G1 H1 G2 H2) (h : pK Γ κ d H0 G1 H1 v) {H0' : Hp} : pK Γ κ d H0' G2 H2 v := by
  cases κ with
  | z => exact Rep.mono s.g h
  | r => exact h
  | c => exact Rep.mono s.h h
theorem pO_more {v : V} (s0 : Step G H G1 H1) (s : Step G1 H1 G2 H2) (h : pO t H G1 H1 v) : pO t H G2 H2 v := by
  obtain ⟨A, o, n, f⟩ := h
  exact ⟨A, o.more s, n, f⟩
theorem tX_imp {P P' : Hp → Hp → Hp → V → Prop} (h : PE X e (tX Γ ρ P)) (w : ∀ (σ : L2.St) (G H G2 H2 : Hp) (v : V), Sr Γ G H σ ρ → Step G H G2 H2 → Ex G2 H2 → P H G2 H2 v → P' H G2 H2 v) : PE X e (tX Γ ρ P') :=
  h.weak fun σ H Q ⟨G, S, k⟩ => ⟨G, S, fun v G2 H2 s ex q => k v G2 H2 s ex (w σ G H G2 H2 v S s ex q)⟩

/-! ### from one kind to another -/
theorem DE.cur (h : DE X Γ ρ e κ d) : DE X Γ ρ e .c d := tX_imp h fun _ _ _ _ _ _ S s ex q => pK_c S s ex q
theorem DE.val (h : DE X Γ ρ e κ d) (hx : dV d = some x) : DV X Γ ρ e x := tX_imp h fun _ _ _ _ _ _ S s ex q => rep_dV (pK_c S s ex q) hx
theorem DV.dat (h : DV X Γ ρ e x) (hx : vOk x = true := by rfl) : DE X Γ ρ e .z (vD x) := tX_imp h fun _ _ _ _ _ v S s ex (q : v = x) => by
  rw [q]
  exact vD_rep hx
theorem DE.own (h : DE X Γ ρ e .z d) : DO X Γ ρ e (.fz d) := tX_imp h fun _ _ _ _ _ _ S s ex q => ⟨[], .fz q, List.nodup_nil, fun _ z => by cases z⟩
theorem DO.cur (h : DO X Γ ρ e t) : DE X Γ ρ e .c t.er := tX_imp h fun _ _ _ _ _ _ S s ex ⟨_, o, _⟩ => o.rep ex
/-- what is owned is frozen -/
theorem freeze {A : List Addr} {v : V} (s : Step G H G2 H2) (ex : Ex G2 H2) (o : OwnT G2 H2 t v A) (f : ∀ a ∈ A, H a = none) : Step G H (DL.frz G2 H2 A) H2 ∧ Ex (DL.frz G2 H2 A) H2 ∧ Rep (DL.frz G2 H2 A) v t.er := by
  have e1 : Ex G2 (DL.frz G2 H2 A) := frz_ex fun b hb => (o.mem b hb).1
  refine ⟨⟨s.g.trans e1, s.h, fun b u e1 e2 => ?_⟩, frz_sub ex, o.frz e1 fun b hb => hb⟩
  have nA : b ∉ A := fun z => by rw [f b z] at e2; cases e2
  rw [frz_out nA]
  exact s.f b u e1 e2
theorem DO.frz (h : DO X Γ ρ e t) : DE X Γ ρ e .z t.er := h.weak fun σ H Q ⟨G, S, k⟩ => ⟨G, S, fun v G2 H2 s ex ⟨A, o, n, f⟩ => by
  obtain ⟨s', ex', r⟩ := freeze s ex o f
  exact k v _ H2 s' ex' r⟩
theorem DE.eq (h : DE X Γ ρ e κ d) (q : d = d') : DE X Γ ρ e κ d' := q ▸ h
theorem DO.eq {t' : OT} (h : DO X Γ ρ e t) (q : t = t') : DO X Γ ρ e t' := q ▸ h
theorem DV.eq (h : DV X Γ ρ e x) (q : x = y) : DV X Γ ρ e y := q ▸ h
theorem DT.eq {b b' : Bool} (h : DT X Γ ρ e b) (q : b = b') : DT X Γ ρ e b' := q ▸ h

/-! ### constants and names -/
theorem tX_val (h : PE X e (tC x)) : DV X Γ ρ e x := h.weak fun σ H Q ⟨G, S, k⟩ => k x G H (Step.refl _ _) S.sub rfl
theorem dv_int {i : Int} {j} : DV X Γ ρ (.Constant (.int i) j pos) (.int i) := tX_val pe_int
theorem dv_str {i : Str} {j} : DV X Γ ρ (.Constant (.str i) j pos) (.str i) := tX_val pe_str
theorem dv_bl {i : Bool} {j} : DV X Γ ρ (.Constant (.bool i) j pos) (.bl i) := tX_val pe_bl
theorem dv_non {j} : DV X Γ ρ (.Constant .none j pos) .non := tX_val pe_non
theorem dv_neg {i : Int} (h : DV X Γ ρ e (.int i)) : DV X Γ ρ (.UnaryOp .USub e pos) (.int (-i)) := (pe_un un_neg h).weak fun σ H Q ⟨G, S, k⟩ => ⟨G, S, fun v G2 H2 s ex q => ⟨i, q, k _ G2 H2 s ex rfl⟩⟩
theorem dv_glob {n : Str} {u : Value} (hg : Gl X n) (hm : X.mg n = some u) (r : RelV x u) (hd : (n == ("__debug__" : Str)) = false := by decide) : DV X Γ ρ (.Name n pos) x := tX_val (pe_glob hg hm r hd)
theorem dv_bltn {n : Str} {u : Value} (hg : Gl X n) (hm : X.mg n = none) (hv : bootBuiltins n = some u) (r : RelV x u) (hn : n ≠ "__name__" := by decide) (hd : (n == ("__debug__" : Str)) = false := by decide) : DV X Γ ρ (.Name n pos) x := tX_val (pe_bltn hg hm hv r hn hd)
theorem var_weak {i : Nat} {P : Hp → Hp → Hp → V → Prop} (h : PE X e (tVar i)) (hs : ∀ (σ : L2.St) (G H : Hp), Sr Γ G H σ ρ → ∃ v, σ[i]? = some (some v) ∧ P H G H v) : PE X e (tX Γ ρ P) :=
  h.weak fun σ H Q ⟨G, S, k⟩ => let ⟨v, e, q⟩ := hs σ G H S; ⟨v, e, k v G H (Step.refl _ _) S.sub q⟩
theorem Sr.slot {i : Nat} {s : Sl} (S : Sr Γ G H σ ρ) (h : ρ[i]? = some s) : ∃ o B, σ[i]? = some o ∧ SlS Γ.K Γ.H G H o s B := by
  obtain ⟨A, r, _⟩ := S.sl
  obtain ⟨o, B, h1, h2, _⟩ := r.get h
  exact ⟨o, B, h1, h2⟩
theorem dv_var (i : Nat) {n : Str} (h : ρ[i]? = some (.v x)) (hN : X.N[i]? = some n := by rfl) (hv : Vis X.env.scope n := by first | exact Or.inl rfl | exact Or.inr (Or.inl rfl) | exact Or.inr (Or.inr rfl)) (hd : (n == ("__debug__" : Str)) = false := by decide) (hcd : (n == ("__classdict__" : Str)) = false := by decide) :
    DV X Γ ρ (.Name n pos) x := var_weak (pe_var hN hv hd hcd) fun σ G H S => by
  obtain ⟨o, B, h1, h2⟩ := S.slot h
  cases h2
  exact ⟨_, h1, rfl⟩
theorem de_sh (i : Nat) {n : Str} (h : ρ[i]? = some (.sh d)) (hN : X.N[i]? = some n := by rfl) (hv : Vis X.env.scope n := by first | exact Or.inl rfl | exact Or.inr (Or.inl rfl) | exact Or.inr (Or.inr rfl)) (hd : (n == ("__debug__" : Str)) = false := by decide) (hcd : (n == ("__classdict__" : Str)) = false := by decide) :
    DE X Γ ρ (.Name n pos) .z d := var_weak (pe_var hN hv hd hcd) fun σ G H S => by
  obtain ⟨o, B, h1, h2⟩ := S.slot h
  cases h2 with
  | sh r => exact ⟨_, h1, r⟩
theorem de_ro (i : Nat) {n : Str} (h : ρ[i]? = some (.ro d)) (hN : X.N[i]? = some n := by rfl) (hv : Vis X.env.scope n := by first | exact Or.inl rfl | exact Or.inr (Or.inl rfl) | exact Or.inr (Or.inr rfl)) (hd : (n == ("__debug__" : Str)) = false := by decide) (hcd : (n == ("__classdict__" : Str)) = false := by decide) :
    DE X Γ ρ (.Name n pos) .r d := var_weak (pe_var hN hv hd hcd) fun σ G H S => by
  obtain ⟨o, B, h1, h2⟩ := S.slot h
  cases h2 with
  | ro r => exact ⟨_, h1, r⟩
theorem de_ow (i : Nat) {n : Str} (h : ρ[i]? = some (.ow t)) (hN : X.N[i]? = some n := by rfl) (hv : Vis X.env.scope n := by first | exact Or.inl rfl | exact Or.inr (Or.inl rfl) | exact Or.inr (Or.inr rfl)) (hd : (n == ("__debug__" : Str)) = false := by decide) (hcd : (n == ("__classdict__" : Str)) = false := by decide) :
    DE X Γ ρ (.Name n pos) .c t.er := var_weak (pe_var hN hv hd hcd) fun σ G H S => by
  obtain ⟨o, B, h1, h2⟩ := S.slot h
  cases h2 with
  | ow r => exact ⟨_, h1, r.rep S.sub⟩

/-! ### operators on plain values -/
theorem bin_weak {r : R2} {ta tb : TE} {PA PB P : Hp → Hp → Hp → V → Prop} (h : PE X e (tOp r (tX Γ ρ PA) (tX Γ ρ PB)))
    (w : ∀ (σ : L2.St) (G H G1 H1 G2 H2 : Hp) (v u : V) (Q : VK), Sr Γ G H σ ρ → Step G H G1 H1 → Ex G1 H1 → PA H G1 H1 v → Step G1 H1 G2 H2 → Ex G2 H2 → PB H1 G2 H2 u →
      (∀ w G3 H3, Step G2 H2 G3 H3 → Ex G3 H3 → P H G3 H3 w → Q w H3) → r v u H2 Q) : PE X e (tX Γ ρ P) :=
  h.weak fun σ H Q ⟨G, S, k⟩ => ⟨G, S, fun v G1 H1 s1 e1 p1 => ⟨G1, S.more s1 e1, fun u G2 H2 s2 e2 p2 => w σ G H G1 H1 G2 H2 v u Q S s1 e1 p1 s2 e2 p2 fun x G3 H3 s3 e3 p3 => k x G3 H3 ((s1.trans s2).trans s3) e3 p3⟩⟩
theorem dv_op {op : Operator} {r : R2} (ho : OpR X (binaryOp op) r) (ha : DV X Γ ρ a x) (hb : DV X Γ ρ b y) (hr : ∀ (H : Hp) (Q : VK), Q z H → r x y H Q) : DV X Γ ρ (.BinOp a op b pos) z :=
  bin_weak (ta := tC x) (tb := tC x) (pe_op ho ha hb) fun σ G H G1 H1 G2 H2 v u Q S s1 e1 p1 s2 e2 p2 k => by
    have p1' : v = x := p1
    have p2' : u = y := p2
    rw [p1', p2']
    exact hr _ _ (k _ G2 H2 (Step.refl _ _) e2 rfl)
theorem dv_cmpR {op : CmpOp} {r : R2} (ho : OpR X (compareOp op) r) (ha : DV X Γ ρ a x) (hb : DV X Γ ρ b y) (hm : behindInMarks op b = false) (hr : ∀ (H : Hp) (Q : VK), Q z H → r x y H Q) : DV X Γ ρ (.Compare a [op] [b] pos) z :=
  bin_weak (ta := tC x) (tb := tC x) (pe_cmpR ho ha hb hm) fun σ G H G1 H1 G2 H2 v u Q S s1 e1 p1 s2 e2 p2 k => by
    have p1' : v = x := p1
    have p2' : u = y := p2
    rw [p1', p2']
    exact hr _ _ (k _ G2 H2 (Step.refl _ _) e2 rfl)
variable {i j k : Int}
theorem dv_add (ha : DV X Γ ρ a (.int i)) (hb : DV X Γ ρ b (.int j)) : DV X Γ ρ (.BinOp a .Add b pos) (.int (i + j)) := dv_op op_add ha hb fun _ _ q => ⟨_, _, rfl, rfl, q⟩
theorem dv_sub (ha : DV X Γ ρ a (.int i)) (hb : DV X Γ ρ b (.int j)) : DV X Γ ρ (.BinOp a .Sub b pos) (.int (i - j)) := dv_op op_sub ha hb fun _ _ q => ⟨_, _, rfl, rfl, q⟩
theorem dv_mul (ha : DV X Γ ρ a (.int i)) (hb : DV X Γ ρ b (.int j)) (hc : CMul i j) : DV X Γ ρ (.BinOp a .Mult b pos) (.int (i * j)) := dv_op op_mul ha hb fun _ _ q => ⟨_, _, rfl, rfl, hc, q⟩
theorem dv_fdiv (ha : DV X Γ ρ a (.int i)) (hb : DV X Γ ρ b (.int j)) (hc : 0 < j ∧ j < 1073741824) : DV X Γ ρ (.BinOp a .FloorDiv b pos) (.int (i / j)) := dv_op op_fdiv ha hb fun _ _ q => ⟨_, _, rfl, rfl, hc, q⟩
theorem dv_mod (ha : DV X Γ ρ a (.int i)) (hb : DV X Γ ρ b (.int j)) (hc : 0 < j) : DV X Γ ρ (.BinOp a .Mod b pos) (.int (i % j)) := dv_op op_mod ha hb fun _ _ q => ⟨_, _, rfl, rfl, hc, q⟩
theorem dv_cat {u w : Str} (ha : DV X Γ ρ a (.str u)) (hb : DV X Γ ρ b (.str w)) (hc : u.length + w.length ≤ sizeLine) : DV X Γ ρ (.BinOp a .Add b pos) (.str (u ++ w)) := dv_op op_add_str ha hb fun _ _ q => ⟨_, _, rfl, rfl, hc, q⟩
theorem dv_lt (ha : DV X Γ ρ a (.int i)) (hb : DV X Γ ρ b (.int j)) : DV X Γ ρ (.Compare a [.Lt] [b] pos) (.bl (decide (i < j))) := dv_cmpR op_lt ha hb (nomark _) fun _ _ q => ⟨_, _, rfl, rfl, q⟩
theorem dv_le (ha : DV X Γ ρ a (.int i)) (hb : DV X Γ ρ b (.int j)) : DV X Γ ρ (.Compare a [.LtE] [b] pos) (.bl (decide (i ≤ j))) := dv_cmpR op_le ha hb (nomark _) fun _ _ q => ⟨_, _, rfl, rfl, q⟩
theorem dv_gt (ha : DV X Γ ρ a (.int i)) (hb : DV X Γ ρ b (.int j)) : DV X Γ ρ (.Compare a [.Gt] [b] pos) (.bl (decide (j < i))) := dv_cmpR op_gt ha hb (nomark _) fun _ _ q => ⟨_, _, rfl, rfl, q⟩
theorem dv_ge (ha : DV X Γ ρ a (.int i)) (hb : DV X Γ ρ b (.int j)) : DV X Γ ρ (.Compare a [.GtE] [b] pos) (.bl (decide (j ≤ i))) := dv_cmpR op_ge ha hb (nomark _) fun _ _ q => ⟨_, _, rfl, rfl, q⟩
theorem dv_eqS (ha : DV X Γ ρ a x) (hb : DV X Γ ρ b y) (hs : scal x y = true := by rfl) : DV X Γ ρ (.Compare a [.Eq] [b] pos) (.bl (decide (x = y))) := dv_cmpR op_eq ha hb (nomark _) fun _ _ q => ⟨hs, q⟩
theorem dv_neS (ha : DV X Γ ρ a x) (hb : DV X Γ ρ b y) (hs : scal x y = true := by rfl) : DV X Γ ρ (.Compare a [.NotEq] [b] pos) (.bl (!decide (x = y))) := dv_cmpR op_ne ha hb (nomark _) fun _ _ q => ⟨hs, q⟩
theorem dec_i {i j : Int} : decide (V.int i = V.int j) = decide (i = j) := by simp
theorem dec_b {i j : Bool} : decide (V.bl i = V.bl j) = decide (i = j) := by simp
theorem dec_s {i j : Str} : decide (V.str i = V.str j) = decide (i = j) := by simp
theorem dv_eq (ha : DV X Γ ρ a (.int i)) (hb : DV X Γ ρ b (.int j)) : DV X Γ ρ (.Compare a [.Eq] [b] pos) (.bl (decide (i = j))) := dec_i ▸ dv_eqS ha hb
theorem dv_ne (ha : DV X Γ ρ a (.int i)) (hb : DV X Γ ρ b (.int j)) : DV X Γ ρ (.Compare a [.NotEq] [b] pos) (.bl (!decide (i = j))) := dec_i ▸ dv_neS ha hb
theorem dv_eqStr {i j : Str} (ha : DV X Γ ρ a (.str i)) (hb : DV X Γ ρ b (.str j)) : DV X Γ ρ (.Compare a [.Eq] [b] pos) (.bl (decide (i = j))) := dec_s ▸ dv_eqS ha hb
theorem dv_neStr {i j : Str} (ha : DV X Γ ρ a (.str i)) (hb : DV X Γ ρ b (.str j)) : DV X Γ ρ (.Compare a [.NotEq] [b] pos) (.bl (!decide (i = j))) := dec_s ▸ dv_neS ha hb
theorem dv_eqBl {i j : Bool} (ha : DV X Γ ρ a (.bl i)) (hb : DV X Γ ρ b (.bl j)) : DV X Γ ρ (.Compare a [.Eq] [b] pos) (.bl (decide (i = j))) := dec_b ▸ dv_eqS ha hb
theorem dv_neBl {i j : Bool} (ha : DV X Γ ρ a (.bl i)) (hb : DV X Γ ρ b (.bl j)) : DV X Γ ρ (.Compare a [.NotEq] [b] pos) (.bl (!decide (i = j))) := dec_b ▸ dv_neS ha hb
/-- x is None, of data -/
def isN : D → Bool
  | .none => true
  | _ => false
theorem rep_isN {H : Hp} {v : V} {d : D} (h : Rep H v d) : decide (v = .non) = isN d := by cases h <;> rfl
theorem de_isN (ha : DE X Γ ρ a κ d) {j q} : DV X Γ ρ (.Compare a [.Is] [.Constant .none j q] pos) (.bl (isN d)) :=
  bin_weak (ta := tC .non) (tb := tC .non) (pe_cmpR op_isN ha (dv_non (Γ := Γ) (ρ := ρ)) (nomark _)) fun σ G H G1 H1 G2 H2 v u Q S s1 e1 p1 s2 e2 p2 k => by
    have p2' : u = .non := p2
    refine ⟨p2', ?_⟩
    rw [rep_isN (pK_c S s1 e1 p1)]
    exact k _ G2 H2 (Step.refl _ _) e2 rfl
theorem de_notN (ha : DE X Γ ρ a κ d) {j q} : DV X Γ ρ (.Compare a [.IsNot] [.Constant .none j q] pos) (.bl (!isN d)) :=
  bin_weak (ta := tC .non) (tb := tC .non) (pe_cmpR op_notN ha (dv_non (Γ := Γ) (ρ := ρ)) (nomark _)) fun σ G H G1 H1 G2 H2 v u Q S s1 e1 p1 s2 e2 p2 k => by
    have p2' : u = .non := p2
    refine ⟨p2', ?_⟩
    rw [rep_isN (pK_c S s1 e1 p1)]
    exact k _ G2 H2 (Step.refl _ _) e2 rfl
theorem dv_isN (ha : DV X Γ ρ a x) {j q} : DV X Γ ρ (.Compare a [.Is] [.Constant .none j q] pos) (.bl (decide (x = .non))) := dv_cmpR op_isN ha dv_non (nomark _) fun _ _ q => ⟨rfl, q⟩
theorem dv_notN (ha : DV X Γ ρ a x) {j q} : DV X Γ ρ (.Compare a [.IsNot] [.Constant .none j q] pos) (.bl (!decide (x = .non))) := dv_cmpR op_notN ha dv_non (nomark _) fun _ _ q => ⟨rfl, q⟩
/-- i <= j <= k -/
theorem dv_chain {op op' : CmpOp} {f g : Int → Int → Bool} (ho : OpR X (compareOp op) (rI0 fun i j => .bl (f i j))) (ho' : OpR X (compareOp op') (rI0 fun i j => .bl (g i j))) (ha : DV X Γ ρ a (.int i)) (hb : DV X Γ ρ b (.int j)) (hc : DV X Γ ρ c (.int k))
    (hm : lastMarks [op, op'] [b, c] = false := by with_unfolding_all rfl) : DV X Γ ρ (.Compare a [op, op'] [b, c] pos) (.bl (f i j && g j k)) :=
  (pe_chain ho ho' ha hb hc hm).weak fun σ H Q ⟨G, S, kk⟩ => ⟨G, S, fun v G1 H1 s1 e1 p1 => ⟨G1, S.more s1 e1, fun u G2 H2 s2 e2 p2 => ⟨i, j, p1, p2, f i j, rfl, by
    cases hf : f i j with
    | true =>
      rw [if_pos rfl]
      exact ⟨G2, (S.more s1 e1).more s2 e2, fun w G3 H3 s3 e3 p3 => ⟨j, k, p2, p3, kk _ G3 H3 ((s1.trans s2).trans s3) e3 (by rw [hf]; rfl)⟩⟩
    | false =>
      rw [if_neg Bool.false_ne_true]
      exact kk _ G2 H2 (s1.trans s2) e2 (by rw [hf]; rfl)⟩⟩⟩
theorem dv_leLe (ha : DV X Γ ρ a (.int i)) (hb : DV X Γ ρ b (.int j)) (hc : DV X Γ ρ c (.int k)) (hm : lastMarks [.LtE, .LtE] [b, c] = false := by with_unfolding_all rfl) : DV X Γ ρ (.Compare a [.LtE, .LtE] [b, c] pos) (.bl (decide (i ≤ j) && decide (j ≤ k))) := dv_chain op_le op_le ha hb hc hm
theorem dv_leLt (ha : DV X Γ ρ a (.int i)) (hb : DV X Γ ρ b (.int j)) (hc : DV X Γ ρ c (.int k)) (hm : lastMarks [.LtE, .Lt] [b, c] = false := by with_unfolding_all rfl) : DV X Γ ρ (.Compare a [.LtE, .Lt] [b, c] pos) (.bl (decide (i ≤ j) && decide (j < k))) := dv_chain op_le op_lt ha hb hc hm

/-! ### and, or, not -/
theorem dv_not {q : Bool} (h : DV X Γ ρ a (.bl q)) : DV X Γ ρ (.UnaryOp .Not a pos) (.bl (!q)) := (pe_not h).weak fun σ H Q ⟨G, S, k⟩ => ⟨G, S, fun v G2 H2 s ex p => ⟨q, p, k _ G2 H2 s ex rfl⟩⟩
variable {q r : Bool} {rest : List Expr}
theorem dv_one {op} (h : DV X Γ ρ a x) : DV X Γ ρ (.BoolOp op [a] pos) x := pe_one h
theorem dv_and (ha : DV X Γ ρ a (.bl q)) (hb : q = true → DV X Γ ρ (.BoolOp .And (b :: rest) pos) (.bl r)) : DV X Γ ρ (.BoolOp .And (a :: b :: rest) pos) (.bl (q && r)) := by
  cases q with
  | true => exact (pe_and ha (hb rfl)).weak fun σ H Q ⟨G, S, k⟩ => ⟨G, S, fun v G1 H1 s1 e1 p1 => ⟨true, p1, by rw [if_pos rfl]; exact ⟨G1, S.more s1 e1, fun u G2 H2 s2 e2 p2 => k u G2 H2 (s1.trans s2) e2 p2⟩⟩⟩
  | false => exact (pe_and ha pe_absurd).weak fun σ H Q ⟨G, S, k⟩ => ⟨G, S, fun v G1 H1 s1 e1 p1 => ⟨false, p1, by rw [if_neg Bool.false_ne_true]; exact k _ G1 H1 s1 e1 rfl⟩⟩
theorem dv_or (ha : DV X Γ ρ a (.bl q)) (hb : q = false → DV X Γ ρ (.BoolOp .Or (b :: rest) pos) (.bl r)) : DV X Γ ρ (.BoolOp .Or (a :: b :: rest) pos) (.bl (q || r)) := by
  cases q with
  | false => exact (pe_or ha (hb rfl)).weak fun σ H Q ⟨G, S, k⟩ => ⟨G, S, fun v G1 H1 s1 e1 p1 => ⟨false, p1, by rw [if_neg Bool.false_ne_true]; exact ⟨G1, S.more s1 e1, fun u G2 H2 s2 e2 p2 => k u G2 H2 (s1.trans s2) e2 p2⟩⟩⟩
  | true => exact (pe_or ha pe_absurd).weak fun σ H Q ⟨G, S, k⟩ => ⟨G, S, fun v G1 H1 s1 e1 p1 => ⟨true, p1, by rw [if_pos rfl]; exact k _ G1 H1 s1 e1 rfl⟩⟩
theorem dt_val (h : DV X Γ ρ e (.bl q)) (he : ∀ whole, isTrue e X.env whole = (do let v ← whole; standAt e.pos; holding [v] (truthy v)) := by intro _; rfl) : DT X Γ ρ e q :=
  (pt_val h he).weak fun σ H Q ⟨G, S, k⟩ => ⟨G, S, fun v G2 H2 s ex p => ⟨q, p, k G2 H2 s ex⟩⟩
theorem dt_not (h : DT X Γ ρ a q) : DT X Γ ρ (.UnaryOp .Not a pos) (!q) := (pt_not h).weak fun σ H Q ⟨G, S, k⟩ => ⟨G, S, fun G2 H2 s ex => k G2 H2 s ex⟩
theorem DW.pt (h : DW X Γ ρ e q) : DT X Γ ρ e q := PW.pt h
theorem dw_and1 (h : DT X Γ ρ a q) : DW X Γ ρ (.BoolOp .And [a] pos) q := pw_and1 h
theorem dw_or1 (h : DT X Γ ρ a q) : DW X Γ ρ (.BoolOp .Or [a] pos) q := pw_or1 h
theorem dw_and (ha : DT X Γ ρ a q) (hb : q = true → DW X Γ ρ (.BoolOp .And (b :: rest) pos) r) : DW X Γ ρ (.BoolOp .And (a :: b :: rest) pos) (q && r) := by
  cases q with
  | true => exact (pw_and ha (hb rfl)).weak fun σ H Q ⟨G, S, k⟩ => ⟨G, S, fun G1 H1 s1 e1 => iteT ⟨G1, S.more s1 e1, fun G2 H2 s2 e2 => k G2 H2 (s1.trans s2) e2⟩⟩
  | false => exact (pw_and ha pw_absurd).weak fun σ H Q ⟨G, S, k⟩ => ⟨G, S, fun G1 H1 s1 e1 => iteF (k G1 H1 s1 e1)⟩
theorem dw_or (ha : DT X Γ ρ a q) (hb : q = false → DW X Γ ρ (.BoolOp .Or (b :: rest) pos) r) : DW X Γ ρ (.BoolOp .Or (a :: b :: rest) pos) (q || r) := by
  cases q with
  | false => exact (pw_or ha (hb rfl)).weak fun σ H Q ⟨G, S, k⟩ => ⟨G, S, fun G1 H1 s1 e1 => iteF ⟨G1, S.more s1 e1, fun G2 H2 s2 e2 => k G2 H2 (s1.trans s2) e2⟩⟩
  | true => exact (pw_or ha pw_absurd).weak fun σ H Q ⟨G, S, k⟩ => ⟨G, S, fun G1 H1 s1 e1 => iteT (k G1 H1 s1 e1)⟩
end
end DL

set_option Elab.async false
set_option linter.all false
set_option maxRecDepth 100000
set_option maxHeartbeats 2000000
namespace DL
open PySem L2

/-! ### typed data -/
def dl {α : Type} (f : α → D) (xs : List α) : D := .list (xs.map f)
def d2 {α β : Type} (f : α → D) (g : β → D) (p : α × β) : D := .tuple [f p.1, g p.2]
def tl {α : Type} (g : α → OT) (xs : List α) : OT := .cell (xs.map g)
def tI (i : Int) : OT := .fz (.int i)
def tF {α : Type} (f : α → D) (x : α) : OT := .fz (f x)
abbrev dI : Int → D := PyData.int
abbrev dL : List Int → D := dl dI
abbrev dLL : List (List Int) → D := dl dL
abbrev dP : Int × Int → D := d2 dI dI
abbrev dPs : List (Int × Int) → D := dl dP
abbrev tL : List Int → OT := tl tI
abbrev tLL : List (List Int) → OT := tl tL
abbrev tPs : List (Int × Int) → OT := tl (tF dP)
/-- the data of an owned thing -/
class Er {α : Type} (g : α → OT) (f : outParam (α → D)) : Prop where
  er : ∀ x, (g x).er = f x
instance : Er tI dI := ⟨fun x => by unfold tI OT.er; rfl⟩
instance {α : Type} (f : α → D) : Er (tF f) f := ⟨fun x => by unfold tF OT.er; rfl⟩
instance {α : Type} (g : α → OT) (f : α → D) [h : Er g f] : Er (tl g) (dl f) := ⟨fun x => by
  unfold tl OT.er dl
  rw [ers_map, List.map_map]
  congr 1
  exact List.map_congr_left fun a _ => h.er a⟩
/-- == of such data is equality -/
class EqD {α : Type} (f : α → D) : Prop where
  eqv : ∀ x y, PyData.eqv (f x) (f y) = true ↔ x = y
  lay : ∀ x, PyData.canLay0 (f x) = true
  dep : ∃ n, n ≤ 32 ∧ ∀ x, (f x).depth ≤ n

theorem eqvAll_iff {α : Type} {f : α → D} (h : ∀ x y, PyData.eqv (f x) (f y) = true ↔ x = y) : ∀ xs ys : List α, PyData.eqvAll (xs.map f) (ys.map f) = true ↔ xs = ys
  | [], [] => by simp [PyData.eqvAll]
  | [], _ :: _ => by simp [PyData.eqvAll]
  | _ :: _, [] => by simp [PyData.eqvAll]
  | x :: xs, y :: ys => by
    have ih := eqvAll_iff h xs ys
    simp only [List.map_cons, PyData.eqvAll, Bool.and_eq_true, h, ih, List.cons.injEq]
theorem layAll {α : Type} {f : α → D} (h : ∀ x, PyData.canLay0 (f x) = true) : ∀ xs : List α, PyData.canLayAll0 (xs.map f) = true
  | [] => by simp [PyData.canLayAll0]
  | x :: xs => by simp [PyData.canLayAll0, h x, layAll h xs]
theorem depAll {α : Type} {f : α → D} {n : Nat} (h : ∀ x, (f x).depth ≤ n) : ∀ xs : List α, PyData.depthAll (xs.map f) ≤ n
  | [] => by simp [PyData.depthAll]
  | x :: xs => by
    have := h x
    have := depAll h xs
    simp only [List.map_cons, PyData.depthAll]
    omega
class EqN {α : Type} (f : α → D) (n : outParam Nat) : Prop where
  eqv : ∀ x y, PyData.eqv (f x) (f y) = true ↔ x = y
  lay : ∀ x, PyData.canLay0 (f x) = true
  dep : ∀ x, (f x).depth ≤ n
instance : EqN dI 0 := ⟨fun x y => by simp [PyData.eqv], fun x => by simp [PyData.canLay0], fun x => by simp [PyData.depth]⟩
instance : EqN PyData.bool 0 := ⟨fun x y => by simp [PyData.eqv], fun x => by simp [PyData.canLay0], fun x => by simp [PyData.depth]⟩
instance {α : Type} (f : α → D) (n : Nat) [h : EqN f n] : EqN (dl f) (n + 1) := ⟨fun x y => by unfold dl; simp only [PyData.eqv]; exact eqvAll_iff h.eqv x y, fun x => by unfold dl; simp only [PyData.canLay0]; exact layAll h.lay x, fun x => by
  have := depAll h.dep x
  unfold dl
  simp only [PyData.depth]
  omega⟩
instance {α β : Type} (f : α → D) (g : β → D) (n m : Nat) [h : EqN f n] [k : EqN g m] : EqN (d2 f g) (n + m + 1) := ⟨fun x y => by
    unfold d2
    simp only [PyData.eqv, PyData.eqvAll, Bool.and_eq_true, h.eqv, k.eqv, Prod.ext_iff, and_true], fun x => by simp [d2, PyData.canLay0, PyData.canLayAll0, h.lay, k.lay], fun x => by
    have := h.dep x.1
    have := k.dep x.2
    simp only [d2, PyData.depth, PyData.depthAll]
    omega⟩
mutual
theorem rep_dp {K : Fg} {H : Hp} : ∀ {v : V} {d : D}, Rep H v d → d.canLay0 = true → Dp K H v d
  | _, _, .non, _ => .non
  | _, _, .bl b, _ => .bl b
  | _, _, .int b, _ => .int b
  | _, _, .str b, _ => .str b
  | _, _, .lst h r, q => .lst (SqL.of h) (reps_dp r (by simpa only [PyData.canLay0] using q))
  | _, _, .tup h r, q => .tup (SqT.of h) (reps_dp r (by simpa only [PyData.canLay0] using q))
  | _, _, .dct h, q => by simp [PyData.canLay0] at q
theorem reps_dp {K : Fg} {H : Hp} : ∀ {v : List V} {d : List D}, Reps H v d → PyData.canLayAll0 d = true → DpAll K H v d
  | _, _, .nil, _ => .nil
  | _, _, .cons h r, q => by
    simp only [PyData.canLayAll0, Bool.and_eq_true] at q
    exact .cons (rep_dp h q.1) (reps_dp r q.2)
end

/-! ### places in a list -/
def pyAt {α : Type} [Inhabited α] (xs : List α) (i : Int) : α := if 0 ≤ i then xs.getD i.toNat default else xs.getD (i + xs.length).toNat default
def inR (n : Nat) (i : Int) : Prop := -(n : Int) ≤ i ∧ i < n
theorem atI_pyAt {α β : Type} [Inhabited α] {f : α → β} {xs : List α} {i : Int} (h : inR xs.length i) : atI (xs.map f) i = some (f (pyAt xs i)) := by
  obtain ⟨h1, h2⟩ := h
  unfold atI ixN pyAt
  rw [List.length_map]
  by_cases h0 : 0 ≤ i
  · rw [if_pos h0, if_pos h0, if_pos h2]
    have : i.toNat < xs.length := by omega
    simp [List.getD_eq_getElem?_getD, this]
  · rw [if_neg h0, if_neg h0, if_pos h1]
    have : (i + xs.length).toNat < xs.length := by omega
    simp [List.getD_eq_getElem?_getD, this]
theorem Reps.atI {H : Hp} {vs : List V} {ds : List D} {i : Int} {d : D} (r : Reps H vs ds) (h : atI ds i = some d) : ∃ v, L2.atI vs i = some v ∧ Rep H v d := by
  unfold L2.atI at h ⊢
  rw [← r.len] at h
  cases e : ixN vs.length i with
  | none => rw [e] at h; cases h
  | some j =>
    rw [e] at h
    exact r.get h
def pySl {α : Type} (xs : List α) (lo hi : Option Int) : List α := (xs.drop (HT.sIx xs.length 0 lo)).take (HT.sIx xs.length xs.length hi - HT.sIx xs.length 0 lo)
theorem pySl_map {α β : Type} (f : α → β) (xs : List α) (lo hi : Option Int) : pySl (xs.map f) lo hi = (pySl xs lo hi).map f := by
  unfold pySl
  rw [List.length_map, List.map_take, List.map_drop]

section
variable {X : Cx} {Γ : Gm} {ρ : List Sl} {e a b c : Expr} {es : List Expr} {pos p : Pos} {κ κ' : Kd} {d d' : D} {x y z : V} {t : OT} {σ : L2.St} {G H G1 H1 G2 H2 : Hp}
variable {α β : Type} {f : α → D} {g : α → OT} {i j : Int}
theorem DO.dat [E : Er g f] {xs : α} (h : DO X Γ ρ e (g xs)) : DE X Γ ρ e .z (f xs) := E.er xs ▸ h.frz
theorem de_owT (i : Nat) [E : Er g f] {xs : α} {n : Str} (h : ρ[i]? = some (.ow (g xs))) (hN : X.N[i]? = some n := by rfl) (hv : Vis X.env.scope n := by first | exact Or.inl rfl | exact Or.inr (Or.inl rfl) | exact Or.inr (Or.inr rfl)) (hd : (n == ("__debug__" : Str)) = false := by decide) (hcd : (n == ("__classdict__" : Str)) = false := by decide) :
    DE X Γ ρ (.Name n pos) .c (f xs) := E.er xs ▸ de_ow i h hN hv hd hcd
theorem DE.int (h : DE X Γ ρ e κ (.int i)) : DV X Γ ρ e (.int i) := h.val rfl
theorem DE.bool {q : Bool} (h : DE X Γ ρ e κ (.bool q)) : DV X Γ ρ e (.bl q) := h.val rfl
theorem DE.str {q : Str} (h : DE X Γ ρ e κ (.str q)) : DV X Γ ρ e (.str q) := h.val rfl
theorem DO.fint (h : DO X Γ ρ e (tI i)) : DV X Γ ρ e (.int i) := h.dat.int
theorem DO.fzv (h : DO X Γ ρ e (.fz d)) : DE X Γ ρ e .z d := tX_imp h fun _ _ _ _ _ _ _ _ _ ⟨A, o, _⟩ => by cases o with | fz r => exact r

/-! ### == of data -/
theorem dv_eqD {κ' : Kd} {xs ys : α} {n : Nat} [DecidableEq α] [E : EqN f n] (hu : X.A.units + 64 < cLine) (ha : DE X Γ ρ a κ (f xs)) (hb : DE X Γ ρ b κ' (f ys)) (hn : n ≤ 64 := by decide) : DV X Γ ρ (.Compare a [.Eq] [b] pos) (.bl (decide (xs = ys))) :=
  bin_weak (ta := tC .non) (tb := tC .non) (pe_cmpR (op_eqD hu) ha hb (nomark _)) fun σ G H G1 H1 G2 H2 v u Q S s1 e1 p1 s2 e2 p2 k => by
    have q1 := Rep.mono s2.h (pK_c S s1 e1 p1)
    have q2 := pK_c (S.more s1 e1) s2 e2 p2
    have sh : ∀ z, SeqAt.shaped (f z) = true := fun z => by
      have := E.dep z
      simp only [SeqAt.shaped, E.lay, Bool.true_and, decide_eq_true_eq]
      omega
    refine ⟨_, _, rep_dp q1 (E.lay _), rep_dp q2 (E.lay _), sh _, sh _, k _ G2 H2 (Step.refl _ _) e2 ?_⟩
    congr 1
    rw [Bool.eq_iff_iff]
    simp [E.eqv]
theorem dv_neD {κ' : Kd} {xs ys : α} {n : Nat} [DecidableEq α] [E : EqN f n] (hu : X.A.units + 64 < cLine) (ha : DE X Γ ρ a κ (f xs)) (hb : DE X Γ ρ b κ' (f ys)) (hn : n ≤ 64 := by decide) : DV X Γ ρ (.Compare a [.NotEq] [b] pos) (.bl (!decide (xs = ys))) :=
  bin_weak (ta := tC .non) (tb := tC .non) (pe_cmpR (op_neD hu) ha hb (nomark _)) fun σ G H G1 H1 G2 H2 v u Q S s1 e1 p1 s2 e2 p2 k => by
    have q1 := Rep.mono s2.h (pK_c S s1 e1 p1)
    have q2 := pK_c (S.more s1 e1) s2 e2 p2
    have sh : ∀ z, SeqAt.shaped (f z) = true := fun z => by
      have := E.dep z
      simp only [SeqAt.shaped, E.lay, Bool.true_and, decide_eq_true_eq]
      omega
    refine ⟨_, _, rep_dp q1 (E.lay _), rep_dp q2 (E.lay _), sh _, sh _, k _ G2 H2 (Step.refl _ _) e2 ?_⟩
    congr 2
    rw [Bool.eq_iff_iff]
    simp [E.eqv]
theorem eqvAny {α : Type} [DecidableEq α] {f : α → D} {n : Nat} [E : EqN f n] (x : α) (ys : List α) : ((ys.map f).any fun z => PyData.eqv z (f x)) = decide (x ∈ ys) := by
  rw [Bool.eq_iff_iff, List.any_eq_true]
  simp only [List.mem_map, decide_eq_true_eq]
  constructor
  · rintro ⟨_, ⟨y, hy, rfl⟩, q⟩
    rw [← (E.eqv _ _).mp q]
    exact hy
  · intro h
    exact ⟨_, ⟨x, h, rfl⟩, (E.eqv _ _).mpr rfl⟩
theorem dv_inD {κ' : Kd} {xs : α} {ys : List α} {n : Nat} [DecidableEq α] [E : EqN f n] (hu : X.A.units + 65 < cLine) (ha : DE X Γ ρ a κ (f xs)) (hb : DE X Γ ρ b κ' (dl f ys)) (hm : behindInMarks .In b = false := by rfl) (hn : n + 1 ≤ 64 := by decide) : DV X Γ ρ (.Compare a [.In] [b] pos) (.bl (decide (xs ∈ ys))) :=
  bin_weak (ta := tC .non) (tb := tC .non) (pe_cmpR (op_inD hu) ha hb hm) fun σ G H G1 H1 G2 H2 v u Q S s1 e1 p1 s2 e2 p2 k => by
    have q1 := Rep.mono s2.h (pK_c S s1 e1 p1)
    have q2 := pK_c (S.more s1 e1) s2 e2 p2
    have E2 : EqN (dl f) (n + 1) := inferInstance
    have sh : ∀ z, SeqAt.shaped (f z) = true := fun z => by
      have := E.dep z
      simp only [SeqAt.shaped, E.lay, Bool.true_and, decide_eq_true_eq]
      omega
    have sh2 : ∀ z, SeqAt.shaped (dl f z) = true := fun z => by
      have := E2.dep z
      simp only [SeqAt.shaped, E2.lay, Bool.true_and, decide_eq_true_eq]
      omega
    refine ⟨_, _, rep_dp q1 (E.lay _), rep_dp q2 (E2.lay _), sh _, sh2 _, k _ G2 H2 (Step.refl _ _) e2 ?_⟩
    rw [eqvAny]
theorem dv_notInD {κ' : Kd} {xs : α} {ys : List α} {n : Nat} [DecidableEq α] [E : EqN f n] (hu : X.A.units + 65 < cLine) (ha : DE X Γ ρ a κ (f xs)) (hb : DE X Γ ρ b κ' (dl f ys)) (hm : behindInMarks .NotIn b = false := by rfl) (hn : n + 1 ≤ 64 := by decide) : DV X Γ ρ (.Compare a [.NotIn] [b] pos) (.bl (!decide (xs ∈ ys))) :=
  bin_weak (ta := tC .non) (tb := tC .non) (pe_cmpR (op_notInD hu) ha hb hm) fun σ G H G1 H1 G2 H2 v u Q S s1 e1 p1 s2 e2 p2 k => by
    have q1 := Rep.mono s2.h (pK_c S s1 e1 p1)
    have q2 := pK_c (S.more s1 e1) s2 e2 p2
    have E2 : EqN (dl f) (n + 1) := inferInstance
    have sh : ∀ z, SeqAt.shaped (f z) = true := fun z => by
      have := E.dep z
      simp only [SeqAt.shaped, E.lay, Bool.true_and, decide_eq_true_eq]
      omega
    have sh2 : ∀ z, SeqAt.shaped (dl f z) = true := fun z => by
      have := E2.dep z
      simp only [SeqAt.shaped, E2.lay, Bool.true_and, decide_eq_true_eq]
      omega
    refine ⟨_, _, rep_dp q1 (E.lay _), rep_dp q2 (E2.lay _), sh _, sh2 _, k _ G2 H2 (Step.refl _ _) e2 ?_⟩
    rw [eqvAny]
theorem dv_in {ys : List Int} (hu : X.A.units + 65 < cLine) (ha : DV X Γ ρ a (.int i)) (hb : DE X Γ ρ b κ (dl dI ys)) (hm : behindInMarks .In b = false := by rfl) : DV X Γ ρ (.Compare a [.In] [b] pos) (.bl (decide (i ∈ ys))) := dv_inD (f := dI) hu (DV.dat ha) hb hm
theorem dv_notIn {ys : List Int} (hu : X.A.units + 65 < cLine) (ha : DV X Γ ρ a (.int i)) (hb : DE X Γ ρ b κ (dl dI ys)) (hm : behindInMarks .NotIn b = false := by rfl) : DV X Γ ρ (.Compare a [.NotIn] [b] pos) (.bl (!decide (i ∈ ys))) := dv_notInD (f := dI) hu (DV.dat ha) hb hm

/-! ### items -/
theorem de_at {ds : List D} (ha : DE X Γ ρ a κ (.list ds)) (hb : DV X Γ ρ b (.int i)) (h : atI ds i = some d) (hs : PlainIx b := by intro _ _; rfl) : DE X Γ ρ (.Subscript a b pos) κ d :=
  bin_weak (ta := tC .non) (tb := tC .non) (pe_ix ix_list ha hb hs) fun σ G H G1 H1 G2 H2 v u Q S s1 e1 p1 s2 e2 p2 k => by
    have p2' : u = .int i := p2
    have main : ∀ (HH : Hp), Rep HH v (.list ds) → Ex HH H2 → ∃ w, Rep HH w d ∧ ∃ p xs, v = .ref p ∧ H2 p = some (.lst xs) ∧ atI xs i = some w := fun HH r ex => by
      cases r with
      | lst hl rs =>
        obtain ⟨w, h1, h2⟩ := rs.atI h
        exact ⟨w, h2, _, _, rfl, ex _ _ hl, h1⟩
    cases κ with
    | z =>
      obtain ⟨w, r, p, xs, ev, hp, hw⟩ := main G2 (Rep.mono s2.g p1) e2
      exact ⟨p, xs, i, w, ev, p2', SqL.of hp, hw, k _ G2 H2 (Step.refl _ _) e2 r⟩
    | r =>
      obtain ⟨w, r, p, xs, ev, hp, hw⟩ := main Γ.H p1 ((S.step.trans s1).trans s2).h
      exact ⟨p, xs, i, w, ev, p2', SqL.of hp, hw, k _ G2 H2 (Step.refl _ _) e2 r⟩
    | c =>
      obtain ⟨w, r, p, xs, ev, hp, hw⟩ := main H2 (Rep.mono s2.h p1) (Ex.refl _)
      exact ⟨p, xs, i, w, ev, p2', SqL.of hp, hw, k _ G2 H2 (Step.refl _ _) e2 r⟩
theorem de_atT {ds : List D} (ha : DE X Γ ρ a κ (.tuple ds)) (hb : DV X Γ ρ b (.int i)) (h : atI ds i = some d) (hs : PlainIx b := by intro _ _; rfl) : DE X Γ ρ (.Subscript a b pos) κ d :=
  bin_weak (ta := tC .non) (tb := tC .non) (pe_ix ix_tup ha hb hs) fun σ G H G1 H1 G2 H2 v u Q S s1 e1 p1 s2 e2 p2 k => by
    have p2' : u = .int i := p2
    have main : ∀ (HH : Hp), Rep HH v (.tuple ds) → Ex HH H2 → ∃ w, Rep HH w d ∧ ∃ p xs, v = .ref p ∧ H2 p = some (.tup xs) ∧ atI xs i = some w := fun HH r ex => by
      cases r with
      | tup hl rs =>
        obtain ⟨w, h1, h2⟩ := rs.atI h
        exact ⟨w, h2, _, _, rfl, ex _ _ hl, h1⟩
    cases κ with
    | z =>
      obtain ⟨w, r, p, xs, ev, hp, hw⟩ := main G2 (Rep.mono s2.g p1) e2
      exact ⟨p, xs, i, w, ev, p2', SqT.of hp, hw, k _ G2 H2 (Step.refl _ _) e2 r⟩
    | r =>
      obtain ⟨w, r, p, xs, ev, hp, hw⟩ := main Γ.H p1 ((S.step.trans s1).trans s2).h
      exact ⟨p, xs, i, w, ev, p2', SqT.of hp, hw, k _ G2 H2 (Step.refl _ _) e2 r⟩
    | c =>
      obtain ⟨w, r, p, xs, ev, hp, hw⟩ := main H2 (Rep.mono s2.h p1) (Ex.refl _)
      exact ⟨p, xs, i, w, ev, p2', SqT.of hp, hw, k _ G2 H2 (Step.refl _ _) e2 r⟩
theorem de_ix [Inhabited α] {xs : List α} (ha : DE X Γ ρ a κ (dl f xs)) (hb : DV X Γ ρ b (.int i)) (h : inR xs.length i) (hs : PlainIx b := by intro _ _; rfl) : DE X Γ ρ (.Subscript a b pos) κ (f (pyAt xs i)) := de_at ha hb (atI_pyAt h) hs
theorem dv_ix {xs : List Int} (ha : DE X Γ ρ a κ (dl dI xs)) (hb : DV X Γ ρ b (.int i)) (h : inR xs.length i) (hs : PlainIx b := by intro _ _; rfl) : DV X Γ ρ (.Subscript a b pos) (.int (pyAt xs i)) := (de_ix ha hb h hs).int
theorem de_ix0 {β : Type} {f' : β → D} {q : α × β} (ha : DE X Γ ρ a κ (d2 f f' q)) {j p'} : DE X Γ ρ (.Subscript a (.Constant (.int 0) j p') pos) κ (f q.1) := de_atT ha dv_int rfl
theorem de_ix1 {β : Type} {f' : β → D} {q : α × β} (ha : DE X Γ ρ a κ (d2 f f' q)) {j p'} : DE X Γ ρ (.Subscript a (.Constant (.int 1) j p') pos) κ (f' q.2) := de_atT ha dv_int rfl
/-- the script's -/
theorem sc_ref {ns : List Int} {k : Nat} (S : Sr Γ G H σ ρ) (h : ρ[k]? = some (.sc ns)) : ∃ a, σ[k]? = some (some (.ref a)) ∧ SqL Γ.K H a (ns.map V.int) := by
  obtain ⟨o, B, h1, h2⟩ := S.slot h
  cases h2 with
  | sc q => exact ⟨_, h1, ex_l S.step.h q⟩
/-- the script is there -/
def pS (K : Fg) (ns : List Int) : Hp → Hp → Hp → V → Prop := fun _ _ H2 v => ∃ a, v = .ref a ∧ SqL K H2 a (ns.map V.int)
def DS_ (X : Cx) (Γ : Gm) (ρ : List Sl) (e : Expr) (ns : List Int) : Prop := PE X e (tX Γ ρ (pS Γ.K ns))
theorem ds_var (i : Nat) {ns : List Int} {n : Str} (h : ρ[i]? = some (.sc ns)) (hN : X.N[i]? = some n := by rfl) (hv : Vis X.env.scope n := by first | exact Or.inl rfl | exact Or.inr (Or.inl rfl) | exact Or.inr (Or.inr rfl)) (hd : (n == ("__debug__" : Str)) = false := by decide) (hcd : (n == ("__classdict__" : Str)) = false := by decide) :
    DS_ X Γ ρ (.Name n pos) ns := var_weak (pe_var hN hv hd hcd) fun σ G H S => by
  obtain ⟨a, h1, h2⟩ := sc_ref S h
  exact ⟨_, h1, a, rfl, h2⟩
theorem dv_ixS {ns : List Int} (hK : Γ.K = X.K) (ha : DS_ X Γ ρ a ns) (hb : DV X Γ ρ b (.int i)) (h : inR ns.length i) (hs : PlainIx b := by intro _ _; rfl) : DV X Γ ρ (.Subscript a b pos) (.int (pyAt ns i)) :=
  bin_weak (ta := tC .non) (tb := tC .non) (pe_ix ix_list ha hb hs) fun σ G H G1 H1 G2 H2 v u Q S s1 e1 p1 s2 e2 p2 k => by
    have p2' : u = .int i := p2
    obtain ⟨p, ev, hp⟩ := p1
    rw [hK] at hp
    exact ⟨p, _, i, _, ev, p2', ex_l s2.h hp, atI_pyAt h, k _ G2 H2 (Step.refl _ _) e2 rfl⟩

/-! ### arguments -/
def tA (Γ : Gm) (ρ : List Sl) (ss : List Sl) : TA := fun σ H Q => ∃ G, Sr Γ G H σ ρ ∧ ∀ vs G2 H2 A, Step G H G2 H2 → Ex G2 H2 → SlR Γ.K H2 G2 H2 (vs.map some) ss A → A.Nodup → (∀ a ∈ A, H a = none) → Q vs H2
def DA (X : Cx) (Γ : Gm) (ρ : List Sl) (es : List Expr) (ss : List Sl) : Prop := PA X es (tA Γ ρ ss)
theorem SlS.step2 {K : Fg} {I : Hp} (s : Step G H G2 H2) {o x A} : SlS K H G H o x A → SlS K H2 G2 H2 o x A
  | .un => .un
  | .v => .v
  | .sh h => .sh (Rep.mono s.g h)
  | .ro h => .ro (Rep.mono s.h h)
  | .ow h => .ow (h.more s)
  | .sc h => .sc (ex_l s.h h)
theorem da_nil : DA X Γ ρ [] [] := pa_nil.weak fun σ H Q ⟨G, S, k⟩ => k [] G H [] (Step.refl _ _) S.sub .nil List.nodup_nil fun _ z => by cases z
theorem da_cons {ss : List Sl} {s : Sl} {P : Hp → Hp → Hp → V → Prop} (ha : PE X e (tX Γ ρ P)) (hp : ∀ (σ : L2.St) (G H G2 H2 : Hp) (v : V), Sr Γ G H σ ρ → Step G H G2 H2 → Ex G2 H2 → P H G2 H2 v → ∃ A, SlS Γ.K H2 G2 H2 (some v) s A ∧ A.Nodup ∧ ∀ a ∈ A, H a = none)
    (hr : DA X Γ ρ es ss) (hs : starEach (e :: es) X.env = (false, eval e X.env) :: starEach es X.env) : DA X Γ ρ (e :: es) (s :: ss) :=
  (pa_cons ha hr hs).weak fun σ H Q ⟨G, S, k⟩ => ⟨G, S, fun v G1 H1 s1 e1 p1 => ⟨G1, S.more s1 e1, fun vs G2 H2 A s2 e2 r n f => by
    obtain ⟨B, hb, nb, fb⟩ := hp σ G H G1 H1 v S s1 e1 p1
    refine k (v :: vs) G2 H2 (B ++ A) (s1.trans s2) e2 (.cons (hb.step2 (I := H) s2) r) ?_ ?_
    · refine List.nodup_append.mpr ⟨nb, n, fun x hx y hy q => ?_⟩
      subst q
      obtain ⟨_, o, ho⟩ := hb.mem x hx
      rw [f x hy] at ho; cases ho
    · intro x hx
      rcases List.mem_append.mp hx with z | z
      · exact fb x z
      · exact s1.h.none (f x z)⟩⟩
variable {ss : List Sl}
theorem da_v (ha : DV X Γ ρ e x) (hr : DA X Γ ρ es ss) (hs : starEach (e :: es) X.env = (false, eval e X.env) :: starEach es X.env := by rfl) : DA X Γ ρ (e :: es) (.v x :: ss) :=
  da_cons ha (fun σ G H G2 H2 v S s ex (q : v = x) => ⟨[], by rw [q]; exact .v, List.nodup_nil, fun _ z => by cases z⟩) hr hs
theorem da_sh (ha : DE X Γ ρ e .z d) (hr : DA X Γ ρ es ss) (hs : starEach (e :: es) X.env = (false, eval e X.env) :: starEach es X.env := by rfl) : DA X Γ ρ (e :: es) (.sh d :: ss) :=
  da_cons ha (fun σ G H G2 H2 v S s ex q => ⟨[], .sh q, List.nodup_nil, fun _ z => by cases z⟩) hr hs
theorem da_ro (ha : DE X Γ ρ e κ d) (hr : DA X Γ ρ es ss) (hs : starEach (e :: es) X.env = (false, eval e X.env) :: starEach es X.env := by rfl) : DA X Γ ρ (e :: es) (.ro d :: ss) :=
  da_cons ha (fun σ G H G2 H2 v S s ex q => ⟨[], .ro (pK_c S s ex q), List.nodup_nil, fun _ z => by cases z⟩) hr hs
theorem da_ow (ha : DO X Γ ρ e t) (hr : DA X Γ ρ es ss) (hs : starEach (e :: es) X.env = (false, eval e X.env) :: starEach es X.env := by rfl) : DA X Γ ρ (e :: es) (.ow t :: ss) :=
  da_cons ha (fun σ G H G2 H2 v S s ex ⟨A, o, n, f⟩ => ⟨A, .ow o, n, f⟩) hr hs
theorem da_sc {ns : List Int} (ha : DS_ X Γ ρ e ns) (hr : DA X Γ ρ es ss) (hs : starEach (e :: es) X.env = (false, eval e X.env) :: starEach es X.env := by rfl) : DA X Γ ρ (e :: es) (.sc ns :: ss) :=
  da_cons ha (fun σ G H G2 H2 v S s ex ⟨a, ev, q⟩ => ⟨[], by rw [ev]; exact .sc q, List.nodup_nil, fun _ z => by cases z⟩) hr hs

/-! ### calls of one's own defs -/
inductive Oc where
  | ret (t : OT)
  | exc (C : Addr)
def sp1 (K : Fg) (ss : List Sl) : Oc → Sp
  | .ret t => fun vs H Q E => ∃ G, Ex G H ∧ SlR K H G H (vs.map some) ss [] ∧ ∀ v G2 H2 A, Step G H G2 H2 → Ex G2 H2 → OwnT G2 H2 t v A → A.Nodup → (∀ x ∈ A, H x = none) → Q v H2
  | .exc C => fun vs H Q E => ∃ G, Ex G H ∧ SlR K H G H (vs.map some) ss [] ∧ ∀ H2, Ex H H2 → E (.ref C) none H2
/-- a slot that a def takes -/
def argOk : Sl → Bool
  | .ow _ => false
  | _ => true
theorem slR_arg {K : Fg} {I : Hp} : ∀ {σ : L2.St} {ss : List Sl} {A : List Addr}, SlR K I G H σ ss A → ss.all argOk = true → SlR K I G H σ ss []
  | _, _, _, .nil, _ => .nil
  | _, _, _, .cons (A := A) h r, q => by
    rw [List.all_cons, Bool.and_eq_true] at q
    have := slR_arg r q.2
    cases h with
    | ow _ => cases q.1
    | un => exact .cons (A := []) (B := []) .un this
    | v => exact .cons (A := []) (B := []) .v this
    | sh z => exact .cons (A := []) (B := []) (.sh z) this
    | ro z => exact .cons (A := []) (B := []) (.ro z) this
    | sc z => exact .cons (A := []) (B := []) (.sc z) this
variable {k : Nat} {fa : Addr} {fd : FuncData} {ps : List Str} {n : Str}
theorem do_call (F : FnOk X.prog X.w X.K X.mg X.base (L2.CX X.prog X.w) k fa fd ps (sp1 X.K ss (.ret t))) (hr : Room k X.A) (hm : X.mg n = some (.ref fa)) (hk : PySem.W.keepIn X.K (.ref fa) = true) (hb : Binds X.K fd ps []) (hK : Γ.K = X.K) (ha : DA X Γ ρ (e :: es) ss) (hs : ss.all argOk = true := by rfl)
    (hg : Gl X n := by rfl) (hdb : (n == ("__debug__" : Str)) = false := by decide) (he : starEach (e :: es) X.env = (false, eval e X.env) :: starEach es X.env := by rfl) (hpl : (backTo pos (starEach es X.env)).any (·.1) = false := by rfl) :
    DO X Γ ρ (.Call (.Name n p) (e :: es) [] pos) t :=
  (pe_call F hr hg hm hk hb .nil (passL (X := X)) ha hdb he hpl).weak fun σ H Q ⟨G, S, kk⟩ => ⟨G, S, fun vs G2 H2 A s2 e2 r nd f => by
    show sp1 X.K ss (.ret t) (vs ++ []) H2 _ _
    rw [List.append_nil]
    refine ⟨G2, e2, ?_, fun v G3 H3 B s3 e3 o n3 f3 => kk v G3 H3 (s2.trans s3) e3 ⟨B, o, n3, fun x hx => s2.h.none (f3 x hx)⟩⟩
    rw [← hK]
    exact slR_arg r hs⟩
/-- raising C is let -/
def RX (X : Cx) (Γ : Gm) (C : Addr) : Prop := ∃ W : WX, Takes X W ∧ ∀ σ H2, Ex Γ.H H2 → W (.ref C) none σ H2
theorem dn_call {C : Addr} (hx : RX X Γ C) (F : FnOk X.prog X.w X.K X.mg X.base (L2.CX X.prog X.w) k fa fd ps (sp1 X.K ss (.exc C))) (hr : Room k X.A) (hm : X.mg n = some (.ref fa)) (hk : PySem.W.keepIn X.K (.ref fa) = true) (hb : Binds X.K fd ps []) (hK : Γ.K = X.K) (ha : DA X Γ ρ (e :: es) ss) (hs : ss.all argOk = true := by rfl)
    (hg : Gl X n := by rfl) (hdb : (n == ("__debug__" : Str)) = false := by decide) (he : starEach (e :: es) X.env = (false, eval e X.env) :: starEach es X.env := by rfl) (hpl : (backTo pos (starEach es X.env)).any (·.1) = false := by rfl) :
    DN X Γ ρ (.Call (.Name n p) (e :: es) [] pos) := by
  obtain ⟨W, tk, hw⟩ := hx
  have hp : Passes (L2.CX X.prog X.w) X (fun cls d H => cls = .ref C ∧ d = none ∧ Ex Γ.H H) := passes_call tk fun cls d σ H q => by
    obtain ⟨rfl, rfl, q⟩ := q
    exact hw σ H q
  exact (pe_call F hr hg hm hk hb .nil hp ha hdb he hpl).weak fun σ H Q ⟨G, S, kk⟩ => ⟨G, S, fun vs G2 H2 A s2 e2 r nd f => by
    show sp1 X.K ss (.exc C) (vs ++ []) H2 _ _
    rw [List.append_nil]
    refine ⟨G2, e2, ?_, fun H3 e3 => ⟨rfl, rfl, (S.step.h.trans s2.h).trans e3⟩⟩
    rw [← hK]
    exact slR_arg r hs⟩
end
end DL

set_option Elab.async false
set_option linter.all false
set_option maxRecDepth 100000
set_option maxHeartbeats 2000000
namespace DL
open PySem L2

structure En where
  nx : List Sl → Prop
  rt : OT → Prop
  bk : List Sl → Prop := fun _ => False
  ct : List Sl → Prop := fun _ => False
structure Okk (Γ : Gm) (G0 : Hp) (E : En) (D : Ends) : Prop where
  nx : ∀ (ρ : List Sl) (σ : L2.St) (G H : Hp), E.nx ρ → Sr Γ G H σ ρ → Ex G0 G → D.nx σ H
  bk : ∀ (ρ : List Sl) (σ : L2.St) (G H : Hp), E.bk ρ → Sr Γ G H σ ρ → Ex G0 G → D.bk σ H
  ct : ∀ (ρ : List Sl) (σ : L2.St) (G H : Hp), E.ct ρ → Sr Γ G H σ ρ → Ex G0 G → D.ct σ H
  rt : ∀ (t : OT) (v : V) (G H : Hp) (A : List Addr), E.rt t → Step Γ.G Γ.H G H → Ex G H → OwnT G H t v A → A.Nodup → (∀ a ∈ A, Γ.H a = none) → D.rt v H
theorem Okk.more {Γ : Gm} {G0 G1 : Hp} {E : En} {D : Ends} (k : Okk Γ G0 E D) (e : Ex G0 G1) : Okk Γ G1 E D :=
  ⟨fun ρ σ G H h S x => k.nx ρ σ G H h S (e.trans x), fun ρ σ G H h S x => k.bk ρ σ G H h S (e.trans x), fun ρ σ G H h S x => k.ct ρ σ G H h S (e.trans x), k.rt⟩
def tS (Γ : Gm) (ρ : List Sl) (E : En) : TS := fun D σ H => ∃ G, Sr Γ G H σ ρ ∧ Okk Γ G E D
def SS (X : Cx) (Γ : Gm) (ρ : List Sl) (sts : List Stmt) (E : En) : Prop := PSs X sts (tS Γ ρ E)
def S1 (X : Cx) (Γ : Gm) (ρ : List Sl) (st : Stmt) (E : En) : Prop := PS X st (tS Γ ρ E)

/-- knowing less -/
inductive Wk : List Sl → List Sl → Prop
  | nil : Wk [] []
  | same {s ρ ρ'} : Wk ρ ρ' → Wk (s :: ρ) (s :: ρ')
  | un {s ρ ρ'} : Wk ρ ρ' → Wk (s :: ρ) (.un :: ρ')
theorem Wk.refl : ∀ ρ, Wk ρ ρ
  | [] => .nil
  | _ :: ρ => .same (Wk.refl ρ)
theorem SlR.wk {K : Fg} {I G H : Hp} : ∀ {ρ ρ' : List Sl} {σ : L2.St} {A : List Addr}, Wk ρ ρ' → SlR K I G H σ ρ A → ∃ B, SlR K I G H σ ρ' B ∧ B.Sublist A
  | _, _, _, _, .nil, .nil => ⟨[], .nil, List.Sublist.refl _⟩
  | _, _, _, _, .same w, .cons (A := A0) h r => by
    obtain ⟨B, r', s⟩ := SlR.wk w r
    exact ⟨A0 ++ B, .cons h r', List.Sublist.append (List.Sublist.refl _) s⟩
  | _, _, _, _, .un w, .cons (A := A0) h r => by
    obtain ⟨B, r', s⟩ := SlR.wk w r
    exact ⟨[] ++ B, .cons .un r', List.Sublist.append (List.nil_sublist _) s⟩
section
variable {X : Cx} {Γ : Gm} {ρ ρ' : List Sl} {e a b c : Expr} {es : List Expr} {pos p p' : Pos} {κ κ' : Kd} {d d' : D} {x y z : V} {t : OT} {σ : L2.St} {G H G1 H1 G2 H2 : Hp} {E : En} {st : Stmt} {rest body : List Stmt} {n : Str} {i : Nat}
theorem Sr.wk (S : Sr Γ G H σ ρ) (w : Wk ρ ρ') : Sr Γ G H σ ρ' := by
  obtain ⟨A, r, nd, f⟩ := S.sl
  obtain ⟨B, r', s⟩ := r.wk w
  exact ⟨S.step, S.sub, B, r', nd.sublist s, fun a ha => f a (s.subset ha)⟩
theorem ss_wk (w : Wk ρ ρ') (h : SS X Γ ρ' rest E) : SS X Γ ρ rest E := h.weak fun D σ H ⟨G, S, k⟩ => ⟨G, S.wk w, k⟩
theorem ss_nil (h : E.nx ρ) : SS X Γ ρ [] E := pss_nil.weak fun D σ H ⟨G, S, k⟩ => k.nx ρ σ G H h S (Ex.refl _)
theorem ss_cons {M : List Sl → Prop} (h1 : S1 X Γ ρ st { E with nx := M }) (h2 : ∀ ρ', M ρ' → SS X Γ ρ' rest E) : SS X Γ ρ (st :: rest) E := by
  have h2' : PSs X rest (fun D σ H => ∃ ρ', M ρ' ∧ tS Γ ρ' E D σ H) := ⟨fun pins s σ H D I ⟨ρ', m, q⟩ => (h2 ρ' m).run pins s σ H D I q⟩
  exact (pss_cons h1 h2').weak fun D σ H ⟨G, S, k⟩ => ⟨G, S, ⟨fun ρ' σ' G' H' m S' eg => ⟨ρ', m, G', S', k.more eg⟩, k.bk, k.ct, k.rt⟩⟩
theorem s1_pass : S1 X Γ ρ (.Pass pos) { E with nx := fun ρ' => ρ' = ρ } := ps_pass.weak fun D σ H ⟨G, S, k⟩ => k.nx ρ σ G H rfl S (Ex.refl _)
theorem ss_doc {q : Str} {j} (h : SS X Γ ρ rest E) : SS X Γ ρ (.Expr (.Constant (.str q) j p) pos :: rest) E := ss_cons (M := fun ρ' => ρ' = ρ) (ps_doc.weak fun D σ H ⟨G, S, k⟩ => k.nx ρ σ G H rfl S (Ex.refl _)) fun ρ' e => e ▸ h
theorem ss_break (h : E.bk ρ) : SS X Γ ρ (.Break pos :: rest) E := ss_cons (M := fun _ => False) (ps_break.weak fun D σ H ⟨G, S, k⟩ => k.bk ρ σ G H h S (Ex.refl _)) fun _ e => e.elim
theorem ss_continue (h : E.ct ρ) : SS X Γ ρ (.Continue pos :: rest) E := ss_cons (M := fun _ => False) (ps_continue.weak fun D σ H ⟨G, S, k⟩ => k.ct ρ σ G H h S (Ex.refl _)) fun _ e => e.elim

/-! ### stores to names -/
theorem ss_set {P : Hp → Hp → Hp → V → Prop} {s : Sl} (i : Nat) (he : PE X e (tX Γ ρ P)) (hp : ∀ (σ : L2.St) (G H G2 H2 : Hp) (v : V), Sr Γ G H σ ρ → Step G H G2 H2 → Ex G2 H2 → P H G2 H2 v → ∃ A, SlS Γ.K Γ.H G2 H2 (some v) s A ∧ A.Nodup ∧ ∀ a ∈ A, H a = none)
    (hN : X.N.Nodup) (hi : X.N[i]? = some n) (hx : Loc X.env.scope n) (hs : swapsWith e (some (.Name n p')) pos.line X.env = pure false) (hf : X.fn n = true ∨ X.env.scope.names.lookup n = some .local) (hr : SS X Γ (ρ.set i s) rest E) :
    SS X Γ ρ (.Assign [.Name n p'] e pos :: rest) E := ss_cons (M := fun ρ' => ρ' = ρ.set i s) ((ps_set hN hi hx he hs hf).weak fun D σ H ⟨G, S, k⟩ => ⟨G, S, fun v G2 H2 st ex q => by
  obtain ⟨A, h1, h2, h3⟩ := hp σ G H G2 H2 v S st ex q
  exact k.nx _ _ G2 H2 rfl (S.store st ex h1 h2 h3) st.g⟩) fun ρ' e => e ▸ hr
theorem ss_v (i : Nat) (hN : X.N.Nodup) (he : DV X Γ ρ e x) (hr : SS X Γ (ρ.set i (.v x)) rest E) (hi : X.N[i]? = some n := by rfl) (hx : Loc X.env.scope n := by first | exact .inl rfl | exact .inr rfl) (hs : swapsWith e (some (.Name n p')) pos.line X.env = pure false := by rfl) (hf : X.fn n = true ∨ X.env.scope.names.lookup n = some .local := by first | exact .inl rfl | exact .inr rfl) :
    SS X Γ ρ (.Assign [.Name n p'] e pos :: rest) E := ss_set i he (fun _ _ _ _ _ v _ _ _ (q : v = x) => ⟨[], by rw [q]; exact .v, List.nodup_nil, fun _ z => by cases z⟩) hN hi hx hs hf hr
theorem ss_z (i : Nat) (hN : X.N.Nodup) (he : DE X Γ ρ e .z d) (hr : SS X Γ (ρ.set i (.sh d)) rest E) (hi : X.N[i]? = some n := by rfl) (hx : Loc X.env.scope n := by first | exact .inl rfl | exact .inr rfl) (hs : swapsWith e (some (.Name n p')) pos.line X.env = pure false := by rfl) (hf : X.fn n = true ∨ X.env.scope.names.lookup n = some .local := by first | exact .inl rfl | exact .inr rfl) :
    SS X Γ ρ (.Assign [.Name n p'] e pos :: rest) E := ss_set i he (fun _ _ _ _ _ v _ _ _ q => ⟨[], .sh q, List.nodup_nil, fun _ z => by cases z⟩) hN hi hx hs hf hr
theorem ss_r (i : Nat) (hN : X.N.Nodup) (he : DE X Γ ρ e .r d) (hr : SS X Γ (ρ.set i (.ro d)) rest E) (hi : X.N[i]? = some n := by rfl) (hx : Loc X.env.scope n := by first | exact .inl rfl | exact .inr rfl) (hs : swapsWith e (some (.Name n p')) pos.line X.env = pure false := by rfl) (hf : X.fn n = true ∨ X.env.scope.names.lookup n = some .local := by first | exact .inl rfl | exact .inr rfl) :
    SS X Γ ρ (.Assign [.Name n p'] e pos :: rest) E := ss_set i he (fun _ _ _ _ _ v _ _ _ q => ⟨[], .ro q, List.nodup_nil, fun _ z => by cases z⟩) hN hi hx hs hf hr
theorem ss_o (i : Nat) (hN : X.N.Nodup) (he : DO X Γ ρ e t) (hr : SS X Γ (ρ.set i (.ow t)) rest E) (hi : X.N[i]? = some n := by rfl) (hx : Loc X.env.scope n := by first | exact .inl rfl | exact .inr rfl) (hs : swapsWith e (some (.Name n p')) pos.line X.env = pure false := by rfl) (hf : X.fn n = true ∨ X.env.scope.names.lookup n = some .local := by first | exact .inl rfl | exact .inr rfl) :
    SS X Γ ρ (.Assign [.Name n p'] e pos :: rest) E := ss_set i he (fun _ _ _ _ _ v _ _ _ ⟨A, o, nd, f⟩ => ⟨A, .ow o, nd, f⟩) hN hi hx hs hf hr
/-- a name that holds an owned thing holds frozen data from here on -/
theorem Sr.frz {t : OT} (S : Sr Γ G H σ ρ) (h : ρ[i]? = some (.ow t)) : ∃ G2, Sr Γ G2 H σ (ρ.set i (.sh t.er)) ∧ Ex G G2 := by
  obtain ⟨A, r, nd, f⟩ := S.sl
  obtain ⟨o, A1, B, A2, h1, h2, rfl, h4⟩ := r.focus h
  cases h2 with
  | ow q =>
    rename_i v
    have gB : ∀ b ∈ B, G b = none := fun b hb => (q.mem b hb).1
    have e1 : Ex G (DL.frz G H B) := frz_ex gB
    have ndd := nd
    simp only [List.nodup_append, List.mem_append] at ndd
    have nB : ∀ b ∈ A1 ++ A2, b ∉ B := fun b hb hB => by
      rcases List.mem_append.mp hb with z | z
      · exact ndd.2.2 b z b (.inl hB) rfl
      · exact ndd.2.1.2.2 b hB b z rfl
    have st : Step Γ.G Γ.H (DL.frz G H B) H := ⟨S.step.g.trans e1, S.step.h, fun b u g1 g2 => by
      have nb : b ∉ B := fun z => by
        rw [f b (by simp [z])] at g2; cases g2
      rw [frz_out nb]
      exact S.step.f b u g1 g2⟩
    have e2 : σ.set i (some v) = σ := by
      obtain ⟨hi, e⟩ := List.getElem?_eq_some_iff.mp h1
      rw [← e]
      simp
    have := h4 (DL.frz G H B) H (some v) (.sh t.er) [] e1 (fun b hb g => by rw [frz_out (nB b hb)]; exact g) (fun _ _ => rfl) (.sh (q.frz e1 fun b hb => hb))
    rw [e2] at this
    refine ⟨DL.frz G H B, ⟨st, frz_sub S.sub, _, this, nd_swap nd List.nodup_nil (fun _ z => by cases z), fun x hx => f x ?_⟩, e1⟩
    simp only [List.nil_append, List.mem_append] at hx ⊢
    rcases hx with z | z
    · exact .inl z
    · exact .inr (.inr z)
/-- a name that holds an owned thing holds frozen data from here on -/
theorem ss_frz (i : Nat) {t : OT} (h : ρ[i]? = some (.ow t)) (hr : SS X Γ (ρ.set i (.sh t.er)) rest E) : SS X Γ ρ rest E := hr.weak fun D σ H ⟨G, S, k⟩ =>
  let ⟨G2, S2, e2⟩ := S.frz h
  ⟨G2, S2, k.more e2⟩
theorem ss_frzT (i : Nat) {α : Type} {g : α → OT} {f : α → D} [Er : Er g f] {xs : α} (h : ρ[i]? = some (.ow (g xs))) (hr : SS X Γ (ρ.set i (.sh (f xs))) rest E) : SS X Γ ρ rest E := ss_frz i h (by rw [Er.er]; exact hr)

/-! ### expressions alone, return, if -/
theorem ss_expr {P : Hp → Hp → Hp → V → Prop} (he : PE X e (tX Γ ρ P)) (hr : SS X Γ ρ rest E) (hs : swapsWith e none pos.line X.env = pure false := by rfl) : SS X Γ ρ (.Expr e pos :: rest) E :=
  ss_cons (M := fun ρ' => ρ' = ρ) ((ps_expr he hs).weak fun D σ H ⟨G, S, k⟩ => ⟨G, S, fun v G2 H2 st ex q => k.nx ρ σ G2 H2 rfl (S.more st ex) st.g⟩) fun ρ' e => e ▸ hr
theorem ss_exprN (he : DN X Γ ρ e) (hs : swapsWith e none pos.line X.env = pure false := by rfl) : SS X Γ ρ (.Expr e pos :: rest) E :=
  ss_cons (M := fun _ => False) ((ps_expr he hs).weak fun D σ H ⟨G, S, k⟩ => ⟨G, S, fun v G2 H2 st ex q => q.elim⟩) fun ρ' e => e.elim
theorem ss_ret (he : DO X Γ ρ e t) (h : E.rt t) : SS X Γ ρ (.Return (some e) pos :: rest) E :=
  ss_cons (M := fun _ => False) ((ps_ret he).weak fun D σ H ⟨G, S, k⟩ => ⟨G, S, fun v G2 H2 st ex ⟨A, o, nd, f⟩ => k.rt t v G2 H2 A h (S.step.trans st) ex o nd fun a ha => S.step.h.none (f a ha)⟩) fun ρ' e => e.elim
theorem ss_retZ (he : DE X Γ ρ e .z d) (h : E.rt (.fz d)) : SS X Γ ρ (.Return (some e) pos :: rest) E := ss_ret he.own h
theorem ss_retV (he : DV X Γ ρ e x) (h : E.rt (.fz (vD x))) (hv : vOk x = true := by rfl) : SS X Γ ρ (.Return (some e) pos :: rest) E := ss_ret (he.dat hv).own h
theorem ss_retN (he : DN X Γ ρ e) : SS X Γ ρ (.Return (some e) pos :: rest) E :=
  ss_cons (M := fun _ => False) ((ps_ret he).weak fun D σ H ⟨G, S, k⟩ => ⟨G, S, fun v G2 H2 st ex q => q.elim⟩) fun ρ' e => e.elim
theorem ss_ret0 (h : E.rt (.fz .none)) : SS X Γ ρ (.Return none pos :: rest) E :=
  ss_cons (M := fun _ => False) (ps_retN.weak fun D σ H ⟨G, S, k⟩ => k.rt (.fz .none) .non G H [] h S.step S.sub (.fz .non) List.nodup_nil fun _ z => by cases z) fun ρ' e => e.elim
variable {q : Bool} {bd el : List Stmt}
theorem ss_if {M : List Sl → Prop} (hc : DT X Γ ρ c q) (h1 : q = true → SS X Γ ρ bd { E with nx := M }) (h2 : q = false → SS X Γ ρ el { E with nx := M }) (hr : ∀ ρ', M ρ' → SS X Γ ρ' rest E) : SS X Γ ρ (.If c bd el pos :: rest) E := by
  refine ss_cons (M := M) ?_ hr
  cases q with
  | true => exact (ps_if hc (h1 rfl) pss_never).weak fun D σ H ⟨G, S, k⟩ => ⟨G, S, fun G2 H2 st ex => iteT ⟨G2, S.more st ex, k.more st.g⟩⟩
  | false => exact (ps_if hc pss_never (h2 rfl)).weak fun D σ H ⟨G, S, k⟩ => ⟨G, S, fun G2 H2 st ex => iteF ⟨G2, S.more st ex, k.more st.g⟩⟩
/-- if c: (a body that leaves) -/
theorem ss_ifL (hc : DT X Γ ρ c q) (h1 : q = true → SS X Γ ρ bd { E with nx := fun _ => False }) (h2 : q = false → SS X Γ ρ rest E) : SS X Γ ρ (.If c bd [] pos :: rest) E := by
  refine ss_if (M := fun ρ' => ρ' = ρ ∧ q = false) hc (fun e => (h1 e).weak fun D σ H ⟨G, S, k⟩ => ⟨G, S, ⟨fun _ _ _ _ z => z.elim, k.bk, k.ct, k.rt⟩⟩) (fun e => ss_nil ⟨rfl, e⟩) fun ρ' ⟨e, eq⟩ => e ▸ h2 eq
/-- an if whose test's answer is known -/
theorem ss_ifT (hc : DT X Γ ρ c true) (h1 : SS X Γ ρ bd { E with nx := fun ρ' => SS X Γ ρ' rest E }) : SS X Γ ρ (.If c bd el pos :: rest) E := ss_if hc (fun _ => h1) (fun z => by cases z) fun _ z => z
theorem ss_ifF (hc : DT X Γ ρ c false) (h1 : SS X Γ ρ el { E with nx := fun ρ' => SS X Γ ρ' rest E }) : SS X Γ ρ (.If c bd el pos :: rest) E := ss_if hc (fun z => by cases z) (fun _ => h1) fun _ z => z
theorem ss_ifF0 (hc : DT X Γ ρ c false) (h1 : SS X Γ ρ rest E) : SS X Γ ρ (.If c bd [] pos :: rest) E := ss_ifF hc (ss_nil h1)
/-- two ways that both go on -/
theorem ss_if2 (hc : DT X Γ ρ c q) (h1 : q = true → SS X Γ ρ bd { E with nx := fun ρ' => SS X Γ ρ' rest E }) (h2 : q = false → SS X Γ ρ el { E with nx := fun ρ' => SS X Γ ρ' rest E }) : SS X Γ ρ (.If c bd el pos :: rest) E := ss_if hc h1 h2 fun _ z => z
/-- raise of an own class, let -/
theorem ss_raise {C : Addr} {t : L2.St → Hp → XK → Prop} (hc : X.calm = true) (hx : RX X Γ C) (he : PMk X e t) (ht : ∀ σ H Q, Q (.ref C) none H → t σ H Q) : SS X Γ ρ (.Raise (some e) none pos :: rest) E := by
  obtain ⟨W, tk, hw⟩ := hx
  exact ss_cons (M := fun _ => False) ((ps_raise hc tk he).weak fun D σ H ⟨G, S, k⟩ => ht _ _ _ (hw σ H S.step.h)) fun ρ' e => e.elim
end
end DL

set_option Elab.async false
set_option linter.all false
set_option maxRecDepth 100000
set_option maxHeartbeats 2000000
namespace DL
open PySem L2

/-! ### a def by its body -/
theorem slr_start {K : Fg} {I G H : Hp} {N : List Str} {vs : List V} {ss : List Sl} {m : Nat} (r : SlR K I G H (vs.map some) ss []) (h : N.length - vs.length = m) : SlR K I G H (L2.start N vs) (ss ++ List.replicate m .un) [] := by
  unfold L2.start
  rw [h]
  exact r.app (SlR.uns m _ (by simp))
theorem slr_len {K : Fg} {I G H : Hp} {vs : List V} {ss : List Sl} {A} (r : SlR K I G H (vs.map some) ss A) : vs.length = ss.length := by
  have := r.len
  simpa using this
/-- what every def's body and block has -/
structure XO (X : Cx) : Prop where
  calm : X.calm = true
  nd : X.N.Nodup
  hu : X.A.units + 65 < cLine
theorem XO.hu64 {X : Cx} (x : XO X) : X.A.units + 64 < cLine := by have := x.hu; omega
section
variable {P : Program} {w : World} {K : Fg} {mg : Str → Option Value} {base : Heap}
theorem ok_def {x qual : Str} {st : Stmt} {f : Addr} {fd : FuncData} {N ps : List Str} {k m : Nat} {ss : List Sl} {o : Oc} (F : Fun K x qual st f fd) (S : FnScope N ps (defScope st)) (hl : ss.length = ps.length) (hm : N.length - ps.length = m)
    (hbody : ∀ (cdv : Value) (A : Around) (outer : List Env) (s : Shared) (G H : Hp) (E : XK), Room k (A.deeper (PyProof.Rows.envOfC qual (defScope st) s.heap.objs.size f cdv)) →
      XO (cxOf (L2.CX P w) P w K mg base N qual (defScope st) f cdv A outer s H E) →
      PassesOwn (model P w) (A.deeper (PyProof.Rows.envOfC qual (defScope st) s.heap.objs.size f cdv)) (PyProof.Rows.envOfC qual (defScope st) s.heap.objs.size f cdv) (cxOf (L2.CX P w) P w K mg base N qual (defScope st) f cdv A outer s H E).xe →
      (∀ C, o = .exc C → RX (cxOf (L2.CX P w) P w K mg base N qual (defScope st) f cdv A outer s H E) ⟨K, G, H⟩ C) →
      SS (cxOf (L2.CX P w) P w K mg base N qual (defScope st) f cdv A outer s H E) ⟨K, G, H⟩ (ss ++ List.replicate m .un) (defBody st) { nx := fun _ => o = .ret (.fz .none), rt := fun t => o = .ret t }) :
    FnOk P w K mg base (L2.CX P w) (k + 1) f fd ps (sp1 K ss o) := by
  have len : ∀ vs H Q E, sp1 K ss o vs H Q E → vs.length = ps.length := fun vs H Q E h => by
    cases o with
    | ret t =>
      obtain ⟨G, _, r, _⟩ := h
      rw [slr_len r, hl]
    | exc C =>
      obtain ⟨G, _, r, _⟩ := h
      rw [slr_len r, hl]
  refine F.okX S len (fun cdv A outer s H vs Q E hr h => ?_)
  have hv := len _ _ _ _ h
  have xo : XO (cxOf (L2.CX P w) P w K mg base N qual (defScope st) f cdv A outer s H E) := ⟨rfl, S.nd, by have := hr.un; show (A.deeper (PyProof.Rows.envOfC qual (defScope st) s.heap.objs.size f cdv)).units + 65 < cLine; omega⟩
  have hp : PassesOwn (model P w) (A.deeper (PyProof.Rows.envOfC qual (defScope st) s.heap.objs.size f cdv)) (PyProof.Rows.envOfC qual (defScope st) s.heap.objs.size f cdv) (cxOf (L2.CX P w) P w K mg base N qual (defScope st) f cdv A outer s H E).xe := passes_of (X := cxOf (L2.CX P w) P w K mg base N qual (defScope st) f cdv A outer s H E) rfl
  cases o with
  | ret t =>
    obtain ⟨G, eg, r, kk⟩ := h
    refine ⟨_, hbody cdv A outer s G H E hr xo hp (fun C z => by cases z), G, ⟨⟨Ex.refl _, Ex.refl _, fun _ _ e _ => e⟩, eg, [], slr_start r (by rw [hv, hm]), List.nodup_nil, fun _ z => by cases z⟩, ?_⟩
    refine ⟨fun ρ σ G' H' e S' _ => ?_, fun _ _ _ _ z => z.elim, fun _ _ _ _ z => z.elim, fun t' v G' H' A e st ex o nd f => ?_⟩
    · cases e
      exact kk .non G' H' [] S'.step S'.sub (.fz .non) List.nodup_nil fun _ z => by cases z
    · cases e
      exact kk v G' H' A st ex o nd f
  | exc C =>
    obtain ⟨G, eg, r, kk⟩ := h
    refine ⟨_, hbody cdv A outer s G H E hr xo hp (fun C' z => ?_), G, ⟨⟨Ex.refl _, Ex.refl _, fun _ _ e _ => e⟩, eg, [], slr_start r (by rw [hv, hm]), List.nodup_nil, fun _ z => by cases z⟩, ?_⟩
    · cases z
      exact ⟨_, takes_of rfl rfl rfl rfl, fun σ H2 e2 => kk H2 e2⟩
    · exact ⟨fun ρ σ G' H' e => (by cases e), fun _ _ _ _ z => z.elim, fun _ _ _ _ z => z.elim, fun t' v G' H' A e => (by cases e)⟩
end

/-! ### what is walked -/
structure Walk (Γ : Gm) (J : It) (G1 H1 : Hp) (n : Nat) (it : Nat → Sl) : Prop where
  go : ∀ i G H, Ex G1 G → Ex G H → Ex Γ.H H → i < n → J.go i H
  yld : ∀ i G H x H', Ex G1 G → Ex G H → Ex Γ.H H → i < n → J.yld i H x H' → ∃ G', Step G H G' H' ∧ Ex G' H' ∧ SlS Γ.K Γ.H G' H' (some x) (it i) []
  stop : ∀ i G H, Ex G1 G → Ex G H → Ex Γ.H H → n ≤ i → J.stop i H
def tIt (Γ : Gm) (ρ : List Sl) (n : Nat) (it : Nat → Sl) : TI := fun σ H R => ∃ G, Sr Γ G H σ ρ ∧ ∀ J G1 H1, Step G H G1 H1 → Ex G1 H1 → Walk Γ J G1 H1 n it → R J H1
def DI (X : Cx) (Γ : Gm) (ρ : List Sl) (tg e : Expr) (n : Nat) (it : Nat → Sl) : Prop := PI X tg e (tIt Γ ρ n it)
/-- an item as a slot holds it -/
inductive SubSl : D → Sl → Prop
  | v {d x} : dV d = some x → SubSl d (.v x)
  | sh {d} : SubSl d (.sh d)
theorem SubSl.sl {K : Fg} {I G H : Hp} {v : V} {d : D} {s : Sl} (h : SubSl d s) (r : Rep G v d) : SlS K I G H (some v) s [] := by
  cases h with
  | v e => rw [rep_dV r e]; exact .v
  | sh => exact .sh r
/-- .. of what is only read -/
inductive SubRo : D → Sl → Prop
  | v {d x} : dV d = some x → SubRo d (.v x)
  | ro {d} : SubRo d (.ro d)
theorem SubRo.sl {K : Fg} {I G H : Hp} {v : V} {d : D} {s : Sl} (h : SubRo d s) (r : Rep I v d) : SlS K I G H (some v) s [] := by
  cases h with
  | v e => rw [rep_dV r e]; exact .v
  | ro => exact .ro r
section
variable {X : Cx} {Γ : Gm} {ρ ρ' : List Sl} {e a b c tg : Expr} {es : List Expr} {pos p p' : Pos} {κ κ' : Kd} {d d' : D} {x y z : V} {t : OT} {σ : L2.St} {G H G1 H1 G2 H2 : Hp} {E : En} {st : Stmt} {rest body : List Stmt} {n : Str} {i : Nat} {α : Type} {f : α → D}
theorem di_list {ds : List D} {it : Nat → Sl} (h : DE X Γ ρ e .z (.list ds)) (hi : ∀ i d, ds[i]? = some d → SubSl d (it i)) : DI X Γ ρ tg e ds.length it :=
  (pi_list h).weak fun σ H R ⟨G, S, k⟩ => ⟨G, S, fun v G1 H1 s1 e1 q => by
    have q' : Rep G1 v (.list ds) := q
    cases q' with
    | @lst a xs _ hl r =>
      have ln := r.len
      refine ⟨a, rfl, ⟨xs, SqL.of (e1 _ _ hl)⟩, k _ G1 H1 s1 e1 ⟨fun i G' H' g1 g2 _ hi => ?_, fun i G' H' x H'' g1 g2 _ hlt hy => ?_, fun i G' H' g1 g2 _ hi => ⟨xs, SqL.of (g2 _ _ (g1 _ _ hl)), by omega⟩⟩⟩
      · exact ⟨xs, xs[i], SqL.of (g2 _ _ (g1 _ _ hl)), List.getElem?_eq_getElem (by omega)⟩
      · obtain ⟨rfl, hx⟩ := hy
        obtain ⟨d, h1, h2⟩ := (Reps.mono g1 r).getV (hx xs (SqL.of (g2 _ _ (g1 _ _ hl))))
        exact ⟨G', Step.refl _ _, g2, (hi i d h1).sl h2⟩⟩
theorem di_listR {ds : List D} {it : Nat → Sl} (h : DE X Γ ρ e .r (.list ds)) (hi : ∀ i d, ds[i]? = some d → SubRo d (it i)) : DI X Γ ρ tg e ds.length it :=
  (pi_list h).weak fun σ H R ⟨G, S, k⟩ => ⟨G, S, fun v G1 H1 s1 e1 q => by
    have q' : Rep Γ.H v (.list ds) := q
    cases q' with
    | @lst a xs _ hl r =>
      have ln := r.len
      refine ⟨a, rfl, ⟨xs, SqL.of ((S.step.trans s1).h _ _ hl)⟩, k _ G1 H1 s1 e1 ⟨fun i G' H' g1 g2 g3 hi => ?_, fun i G' H' x H'' g1 g2 g3 hlt hy => ?_, fun i G' H' g1 g2 g3 hi => ⟨xs, SqL.of (g3 _ _ hl), by omega⟩⟩⟩
      · exact ⟨xs, xs[i], SqL.of (g3 _ _ hl), List.getElem?_eq_getElem (by omega)⟩
      · obtain ⟨rfl, hx⟩ := hy
        obtain ⟨d, h1, h2⟩ := r.getV (hx xs (SqL.of (g3 _ _ hl)))
        exact ⟨G', Step.refl _ _, g2, (hi i d h1).sl h2⟩⟩
/-- items of typed lists -/
theorem map_at {β : Type} [Inhabited α] {g : α → β} {xs : List α} {i : Nat} {d : β} (h : (xs.map g)[i]? = some d) : d = g (xs.getD i default) := by
  rw [List.getElem?_map] at h
  cases e : xs[i]? with
  | none => rw [e] at h; cases h
  | some a =>
    rw [e] at h
    rw [List.getD_eq_getElem?_getD, e]
    exact (Option.some.inj h).symm
theorem di_z [Inhabited α] {xs : List α} (h : DE X Γ ρ e .z (dl f xs)) : DI X Γ ρ tg e xs.length (fun i => .sh (f (xs.getD i default))) := by
  have := di_list (tg := tg) (it := fun i => .sh (f (xs.getD i default))) h fun i d hd => by rw [map_at hd]; exact .sh
  rwa [List.length_map] at this
theorem di_r [Inhabited α] {xs : List α} (h : DE X Γ ρ e .r (dl f xs)) : DI X Γ ρ tg e xs.length (fun i => .ro (f (xs.getD i default))) := by
  have := di_listR (tg := tg) (it := fun i => .ro (f (xs.getD i default))) h fun i d hd => by rw [map_at hd]; exact .ro
  rwa [List.length_map] at this
theorem di_zI {xs : List Int} (h : DE X Γ ρ e .z (dl dI xs)) : DI X Γ ρ tg e xs.length (fun i => .v (.int (xs.getD i default))) := by
  have := di_list (tg := tg) (it := fun i => .v (.int (xs.getD i default))) h fun i d hd => by rw [map_at hd]; exact .v rfl
  rwa [List.length_map] at this
theorem di_rI {xs : List Int} (h : DE X Γ ρ e .r (dl dI xs)) : DI X Γ ρ tg e xs.length (fun i => .v (.int (xs.getD i default))) := by
  have := di_listR (tg := tg) (it := fun i => .v (.int (xs.getD i default))) h fun i d hd => by rw [map_at hd]; exact .v rfl
  rwa [List.length_map] at this
theorem di_range {m : Int} {pr : Pos} (ha : DV X Γ ρ a (.int m)) (hb : m < 2 ^ 62) (hb2 : -(2 ^ 62) ≤ m) (hm : X.mg "range" = none) (hg : Gl X "range" := by rfl) (hs1 : starEach [a] X.env = (false, eval a X.env) :: starEach [] X.env := by rfl) (hs : starEach [a] X.env = [(false, eval a X.env)] := by rfl) :
    DI X Γ ρ tg (.Call (.Name "range" p) [a] [] pos) m.toNat (fun i => .v (.int (i : Int))) :=
  (pi_range1 hg hm (pa_cons ha pa_nil hs1) hs).weak fun σ H R ⟨G, S, k⟩ => ⟨G, S, fun v G1 H1 s1 e1 (q : v = .int m) => by
    rw [q]
    exact ⟨m, rfl, hb2, hb, k _ G1 H1 s1 e1 ⟨fun _ _ _ _ _ _ h => h, fun i G' H' x H'' g1 g2 _ hlt hy => by
      obtain ⟨rfl, rfl⟩ := hy
      refine ⟨G', Step.refl _ _, g2, ?_⟩
      show SlS _ _ _ _ (some (V.int (0 + (i : Int)))) _ _
      rw [Int.zero_add]
      exact .v, fun _ _ _ _ _ _ h => h⟩⟩⟩
theorem di_range2 {m0 m : Int} {pr : Pos} (ha : DV X Γ ρ a (.int m0)) (hc : DV X Γ ρ b (.int m)) (hb : (-(2 ^ 62) ≤ m0 ∧ m0 < 2 ^ 62) ∧ -(2 ^ 62) ≤ m ∧ m < 2 ^ 62) (hm : X.mg "range" = none) (hg : Gl X "range" := by rfl) (hs1 : starEach [a, b] X.env = (false, eval a X.env) :: starEach [b] X.env := by rfl) (hs0 : starEach [b] X.env = (false, eval b X.env) :: starEach [] X.env := by rfl)
    (hs : starEach [a, b] X.env = [(false, eval a X.env), (false, eval b X.env)] := by rfl) (hs2 : starEach [b] X.env = [(false, eval b X.env)] := by rfl) :
    DI X Γ ρ tg (.Call (.Name "range" p) [a, b] [] pos) (m - m0).toNat (fun i => .v (.int (m0 + (i : Int)))) :=
  (pi_range2 hg hm (pa_cons ha (pa_cons hc pa_nil hs0) hs1) hs hs2).weak fun σ H R ⟨G, S, k⟩ => ⟨G, S, fun v G1 H1 s1 e1 (q : v = .int m0) => ⟨G1, S.more s1 e1, fun u G2 H2 s2 e2 (q2 : u = .int m) => by
    rw [q, q2]
    exact ⟨m0, m, rfl, ⟨hb.1.1, hb.1.2, hb.2.1, hb.2.2⟩, k _ G2 H2 (s1.trans s2) e2 ⟨fun _ _ _ _ _ _ h => h, fun i G' H' x H'' g1 g2 _ hlt hy => by
      obtain ⟨rfl, rfl⟩ := hy
      exact ⟨G', Step.refl _ _, g2, .v⟩, fun _ _ _ _ _ _ h => h⟩⟩⟩⟩
/-- targets: what they put where -/
def DG (X : Cx) (Γ : Gm) (tg : Expr) (s : Sl) (h : List Sl → List Sl) : Prop := ∃ g : TG, PG X tg g ∧ ∀ (ρ : List Sl) (σ : L2.St) (G H : Hp) (v : V) (Q : L2.St → Hp → Prop), Sr Γ G H σ ρ → SlS Γ.K Γ.H G H (some v) s [] → (∀ σ', Sr Γ G H σ' (h ρ) → Q σ' H) → g v σ H Q
theorem dg_name (j : Nat) {s : Sl} (hN : X.N.Nodup) (hj : X.N[j]? = some n := by rfl) (hx : Loc X.env.scope n := by first | exact .inl rfl | exact .inr rfl) (hf : X.fn n = true ∨ X.env.scope.names.lookup n = some .local := by first | exact .inl rfl | exact .inr rfl) : DG X Γ (.Name n pos) s (fun ρ => ρ.set j s) :=
  ⟨gName j, pg_name hN hj hx hf, fun ρ σ G H v Q S h k => k _ (S.store (Step.refl _ _) S.sub h List.nodup_nil fun _ z => by cases z)⟩
theorem dg_pair {tg1 tg2 : Expr} {kk} {d1 d2' : D} {s1 s2 : Sl} {h1 h2 : List Sl → List Sl} (hc : X.calm = true) (g1 : DG X Γ tg1 s1 h1) (g2 : DG X Γ tg2 s2 h2) (q1 : SubSl d1 s1) (q2 : SubSl d2' s2)
    (hs1 : (assignEach [tg1, tg2] X.env).map (·.2) = assign tg1 X.env :: (assignEach [tg2] X.env).map (·.2) := by rfl) (hs2 : (assignEach [tg2] X.env).map (·.2) = assign tg2 X.env :: (assignEach [] X.env).map (·.2) := by rfl)
    (hn : (assignEach [tg1, tg2] X.env).length = 2 := by rfl) (hst : (assignEach [tg1, tg2] X.env).findIdx? (·.1) = none := by rfl) : DG X Γ (.Tuple [tg1, tg2] kk pos) (.sh (.tuple [d1, d2'])) (fun ρ => h2 (h1 ρ)) := by
  obtain ⟨t1, p1, w1⟩ := g1
  obtain ⟨t2, p2, w2⟩ := g2
  refine ⟨_, pg_tup hc (pgs_cons p1 (pgs_cons p2 pgs_nil hs2) hs1) hn hst, fun ρ σ G H v Q S h k => ?_⟩
  cases h with
  | sh r =>
    cases r with
    | @tup a xs _ ht r =>
      cases r with
      | cons r1 r =>
        cases r with
        | cons r2 r =>
          cases r
          refine ⟨a, _, rfl, SqT.of (S.sub _ _ ht), rfl, _, _, rfl, ?_⟩
          refine w1 ρ σ G H _ _ S (q1.sl r1) fun σ1 S1 => ?_
          refine ⟨_, _, rfl, ?_⟩
          exact w2 _ σ1 G H _ _ S1 (q2.sl r2) fun σ2 S2 => ⟨rfl, k σ2 S2⟩

/-! ### for -/
theorem ss_for {m : Nat} {it : Nat → Sl} {hh : Nat → List Sl → List Sl} (hp : PassesOwn (model X.prog X.w) X.A X.env X.xe) (hc : X.calm = true) (hi : DI X Γ ρ tg e m it) {g : TG} (hg : PG X tg g)
    (hg2 : ∀ i, i < m → ∀ (ρ : List Sl) (σ : L2.St) (G H : Hp) (v : V) (Q : L2.St → Hp → Prop), Sr Γ G H σ ρ → SlS Γ.K Γ.H G H (some v) (it i) [] → (∀ σ', Sr Γ G H σ' (hh i ρ) → Q σ' H) → g v σ H Q)
    (Inv Bk : List Sl → Nat → Prop) (h0 : Inv ρ 0) (hs : ∀ i ρ', i < m → Inv ρ' i → SS X Γ (hh i ρ') body { E with nx := fun ρ2 => Inv ρ2 (i + 1), ct := fun ρ2 => Inv ρ2 (i + 1), bk := fun ρ2 => Bk ρ2 i })
    (hd : ∀ ρ', Inv ρ' m → SS X Γ ρ' rest E) (hb : ∀ ρ' i, i < m → Bk ρ' i → SS X Γ ρ' rest E) (hs2 : ∀ x, foldedSetIterable e X.env x = pure x := by intro _; rfl) : SS X Γ ρ (.For tg e body [] pos :: rest) E := by
  have hbody : PSs X body (fun D σ H => ∃ i ρ', i < m ∧ Inv ρ' i ∧ tS Γ (hh i ρ') { E with nx := fun ρ2 => Inv ρ2 (i + 1), ct := fun ρ2 => Inv ρ2 (i + 1), bk := fun ρ2 => Bk ρ2 i } D σ H) :=
    ⟨fun pins s σ H D I ⟨i, ρ', h1, h2, q⟩ => (hs i ρ' h1 h2).run pins s σ H D I q⟩
  refine ss_cons (M := fun ρ' => Inv ρ' m ∨ ∃ i, i < m ∧ Bk ρ' i) ((ps_for hp hc hi hg hbody hs2).weak fun D σ H ⟨G, S, k⟩ => ⟨G, S, fun J G1 H1 s1 e1 W => ?_⟩) fun ρ' h => h.elim (hd ρ') fun ⟨i, h1, h2⟩ => hb ρ' i h1 h2
  refine ⟨fun i μ σ H => μ = m - i ∧ i ≤ m ∧ ∃ ρ' G, Sr Γ G H σ ρ' ∧ Ex G1 G ∧ Inv ρ' i, ⟨m, rfl, Nat.zero_le _, ρ, G1, S.more s1 e1, Ex.refl _, h0⟩, ?_⟩
  rintro i μ σ' H' ⟨rfl, him, ρ', G', S', eg, inv⟩
  by_cases hlt : i < m
  · refine .inr ⟨W.go i G' H' eg S'.sub S'.step.h hlt, fun σ2 H2 => ∃ ρ2 G2, Sr Γ G2 H2 σ2 ρ2 ∧ Ex G1 G2 ∧ Inv ρ2 (i + 1), fun σ2 H2 ⟨ρ2, G2, S2, e2, inv2⟩ => ⟨m - (i + 1), by omega, rfl, hlt, ρ2, G2, S2, e2, inv2⟩, fun x H'' hy => ?_⟩
    obtain ⟨G3, s3, e3, sl⟩ := W.yld i G' H' x H'' eg S'.sub S'.step.h hlt hy
    refine hg2 i hlt ρ' σ' G3 H'' x _ (S'.more s3 e3) sl fun σ3 S3 => ?_
    exact ⟨i, ρ', hlt, inv, G3, S3, ⟨fun ρ2 σ2 G2 H2 h S2 x => ⟨ρ2, G2, S2, (eg.trans s3.g).trans x, h⟩, fun ρ2 σ2 G2 H2 h S2 x => k.nx ρ2 σ2 G2 H2 (.inr ⟨i, hlt, h⟩) S2 (s1.g.trans ((eg.trans s3.g).trans x)), fun ρ2 σ2 G2 H2 h S2 x => ⟨ρ2, G2, S2, (eg.trans s3.g).trans x, h⟩, k.rt⟩⟩
  · have e : i = m := by omega
    subst e
    exact .inl ⟨W.stop i G' H' eg S'.sub S'.step.h (Nat.le_refl _), k.nx ρ' σ' G' H' (.inl inv) S' (s1.g.trans eg)⟩
end
end DL

set_option Elab.async false
set_option linter.all false
set_option maxRecDepth 100000
set_option maxHeartbeats 2000000
namespace DL
open PySem L2

/-! ### places in owned trees -/
def OT.at : List Nat → OT → Option OT
  | [], t => some t
  | k :: p, .cell ts => (ts[k]?).bind fun u => OT.at p u
  | _ :: _, .fz _ => none
def OT.put : List Nat → OT → OT → OT
  | [], _, t' => t'
  | k :: p, .cell ts, t' => .cell (match ts[k]? with | some u => ts.set k (OT.put p u t') | none => ts)
  | _ :: _, .fz d, _ => .fz d
def PathV (H : Hp) : List Nat → V → V → Prop
  | [], v, w => v = w
  | k :: p, v, w => ∃ a vs u, v = .ref a ∧ H a = some (.lst vs) ∧ vs[k]? = some u ∧ PathV H p u w
theorem PathV.mono {H H' : Hp} (e : Ex H H') : ∀ {p : List Nat} {v w : V}, PathV H p v w → PathV H' p v w
  | [], _, _, h => h
  | _ :: _, _, _, ⟨a, vs, u, h1, h2, h3, h4⟩ => ⟨a, vs, u, h1, e _ _ h2, h3, PathV.mono e h4⟩
theorem PathV.snoc {H : Hp} {k : Nat} : ∀ {p : List Nat} {v w u : V} {a : Addr} {vs : List V}, PathV H p v w → w = .ref a → H a = some (.lst vs) → vs[k]? = some u → PathV H (p ++ [k]) v u
  | [], _, _, u, a, vs, h, e, h1, h2 => ⟨a, vs, u, h.trans e, h1, h2, rfl⟩
  | _ :: _, _, _, u, _, _, ⟨a, vs, u', h1, h2, h3, h4⟩, e, q1, q2 => ⟨a, vs, u', h1, h2, h3, PathV.snoc h4 e q1 q2⟩
section
variable {G H G2 H2 : Hp}
theorem OwnTs.focus : ∀ {k : Nat} {ts : List OT} {vs : List V} {A : List Addr} {t : OT}, OwnTs G H ts vs A → ts[k]? = some t → ∃ v A1 B A2, vs[k]? = some v ∧ OwnT G H t v B ∧ A = A1 ++ (B ++ A2) ∧
    ∀ (H' : Hp) (t' : OT) (B' : List Addr), (∀ b ∈ A1 ++ A2, H' b = H b) → OwnT G H' t' v B' → OwnTs G H' (ts.set k t') vs (A1 ++ (B' ++ A2))
  | 0, _, _, _, t, .cons (A := A0) (B := B0) h r, e => by
    obtain rfl := Option.some.inj e
    refine ⟨_, [], A0, B0, rfl, h, by simp, fun H' t' B' kk h' => ?_⟩
    simp only [List.nil_append]
    exact .cons h' (r.frame (Ex.refl _) (fun _ _ g => g) (fun b hb => kk b (by simpa using hb)))
  | k + 1, _, _, _, t, .cons (A := A0) (B := B0) h r, e => by
    obtain ⟨v, A1, B, A2, h1, h2, h3, h4⟩ := OwnTs.focus (k := k) (t := t) r (by simpa using e)
    refine ⟨v, A0 ++ A1, B, A2, by simpa using h1, h2, by rw [h3]; simp, fun H' t' B' kk h' => ?_⟩
    have := OwnTs.cons (h.frame (Ex.refl _) (fun _ _ g => g) (fun b hb => kk b (by simp [hb]))) (h4 H' t' B' (fun b hb => kk b (by
      rcases List.mem_append.mp hb with z | z
      · simp [z]
      · simp [z])) h')
    simpa using this
  | 0, _, _, _, t, .nil, e => by cases e
  | _ + 1, _, _, _, t, .nil, e => by cases e
theorem OwnT.path : ∀ {p : List Nat} {t : OT} {v : V} {A : List Addr} {ts : List OT} {a : Addr}, OwnT G H t v A → A.Nodup → OT.at p t = some (.cell ts) → PathV H p v (.ref a) →
    ∃ A1 B A2 vs, A = A1 ++ ((a :: B) ++ A2) ∧ G a = none ∧ H a = some (.lst vs) ∧ OwnTs G H ts vs B ∧
      ∀ (H' : Hp) (ts' : List OT) (vs' : List V) (B' : List Addr), (∀ b ∈ A1 ++ A2, H' b = H b) → H' a = some (.lst vs') → OwnTs G H' ts' vs' B' → OwnT G H' (OT.put p t (.cell ts')) v (A1 ++ ((a :: B') ++ A2))
  | [], t, v, A, ts, a, o, nd, hp, hv => by
    unfold OT.at at hp
    cases Option.some.inj hp
    have hv' : v = .ref a := hv
    subst hv'
    cases o with
    | @cell _ _ vs B hg hh r =>
      refine ⟨[], B, [], vs, by simp, hg, hh, r, fun H' ts' vs' B' _ h1 h2 => ?_⟩
      have := OwnT.cell hg h1 h2
      simpa [OT.put] using this
  | k :: p, t, v, A, ts, a, o, nd, hp, hv => by
    cases o with
    | fz _ => simp [OT.at] at hp
    | @cell us a0 vs0 A' hg hh r =>
      obtain ⟨a1, vs1, u1, e1, e2, e3, e4⟩ := hv
      cases e1
      rw [hh] at e2
      cases e2
      unfold OT.at at hp
      cases hk : us[k]? with
      | none => rw [hk] at hp; cases hp
      | some u =>
        rw [hk] at hp
        obtain ⟨v', A1, B, A2, h1, h2, h3, h4⟩ := r.focus hk
        rw [e3] at h1
        cases h1
        have nd' := nd
        rw [h3] at nd'
        have ndB : B.Nodup := by
          simp only [List.nodup_cons, List.nodup_append] at nd'
          exact nd'.2.2.1.1
        obtain ⟨A3, B3, A4, vs3, q1, q2, q3, q4, q5⟩ := OwnT.path h2 ndB hp e4
        refine ⟨a0 :: (A1 ++ A3), B3, A4 ++ A2, vs3, by rw [h3, q1]; simp, q2, q3, q4, fun H' ts' vs' B' k1 k2 k3 => ?_⟩
        have w1 := q5 H' ts' vs' B' (fun b hb => k1 b (by
          rcases List.mem_append.mp hb with z | z
          · simp [z]
          · simp [z])) k2 k3
        have w2 := h4 H' _ _ (fun b hb => k1 b (by
          rcases List.mem_append.mp hb with z | z
          · simp [z]
          · simp [z])) w1
        have w3 := OwnT.cell hg ((k1 a0 (by simp)).trans hh) w2
        have e5 : OT.put (k :: p) (.cell us) (.cell ts') = .cell (us.set k (OT.put p u (.cell ts'))) := by
          show OT.cell (match us[k]? with | some u => us.set k (OT.put p u (.cell ts')) | none => us) = _
          rw [hk]
        rw [e5]
        simpa using w3
end

/-! ### the state, its owned addresses told -/
structure SrA (Γ : Gm) (G H : Hp) (σ : L2.St) (ρ : List Sl) (A : List Addr) : Prop where
  step : Step Γ.G Γ.H G H
  sub : Ex G H
  sl : SlR Γ.K Γ.H G H σ ρ A
  nd : A.Nodup
  fr : ∀ a ∈ A, Γ.H a = none
section
variable {Γ : Gm} {G H G2 H2 : Hp} {σ : L2.St} {ρ : List Sl} {A : List Addr} {i : Nat} {t : OT} {p : List Nat} {ts : List OT} {a : Addr}
theorem SrA.sr (S : SrA Γ G H σ ρ A) : Sr Γ G H σ ρ := ⟨S.step, S.sub, A, S.sl, S.nd, S.fr⟩
theorem Sr.ad (S : Sr Γ G H σ ρ) : ∃ A, SrA Γ G H σ ρ A := let ⟨A, r, n, f⟩ := S.sl; ⟨A, S.step, S.sub, r, n, f⟩
theorem SrA.more (S : SrA Γ G H σ ρ A) (s : Step G H G2 H2) (e : Ex G2 H2) : SrA Γ G2 H2 σ ρ A := ⟨S.step.trans s, e, S.sl.more s, S.nd, S.fr⟩
theorem SrA.mem (S : SrA Γ G H σ ρ A) : ∀ b ∈ A, G b = none ∧ ∃ o, H b = some o := S.sl.mem
theorem nd_mid {A1 B A2 : List Addr} (h : (A1 ++ (B ++ A2)).Nodup) : B.Nodup ∧ ∀ b ∈ B, b ∉ A1 ++ A2 := by
  simp only [List.nodup_append, List.mem_append] at h
  refine ⟨h.2.1.1, fun b hb z => ?_⟩
  rcases List.mem_append.mp z with z | z
  · exact h.2.2 b z b (.inl hb) rfl
  · exact h.2.1.2.2 b hb b z rfl
theorem SrA.mut (S : SrA Γ G H σ ρ A) (h : ρ[i]? = some (.ow t)) (hp : OT.at p t = some (.cell ts)) {v0 : V} (h0 : σ[i]? = some (some v0)) (hv : PathV H p v0 (.ref a)) :
    ∃ vs B, H a = some (.lst vs) ∧ G a = none ∧ a ∈ A ∧ OwnTs G H ts vs B ∧ B.Nodup ∧ a ∉ B ∧ (∀ b ∈ B, b ∈ A) ∧
      ∀ (ts' : List OT) (vs' : List V) (B' : List Addr), OwnTs G H ts' vs' B' → B'.Nodup → a ∉ B' → (∀ b ∈ B', b ∈ B ∨ b ∉ A) → (∀ b ∈ B', Γ.H b = none) → Sr Γ G (upd H a (.lst vs')) σ (ρ.set i (.ow (OT.put p t (.cell ts')))) := by
  obtain ⟨o, A1, Bt, A2, h1, h2, e, h4⟩ := S.sl.focus h
  rw [h0] at h1
  cases h1
  have ndA := S.nd
  rw [e] at ndA
  obtain ⟨ndBt, dBt⟩ := nd_mid ndA
  cases h2 with
  | ow q =>
    obtain ⟨A3, B3, A4, vs, q1, q2, q3, q4, q5⟩ := q.path ndBt hp hv
    have ndBt' := ndBt
    rw [q1] at ndBt'
    obtain ⟨ndaB, daB⟩ := nd_mid ndBt'
    rw [List.nodup_cons] at ndaB
    have sub : ∀ b, b ∈ a :: B3 → b ∈ A := fun b hb => by
      rw [e, q1]
      simp only [List.mem_append]
      exact .inr (.inl (.inr (.inl hb)))
    refine ⟨vs, B3, q3, q2, sub a List.mem_cons_self, q4, ndaB.2, ndaB.1, fun b hb => sub b (List.mem_cons_of_mem _ hb), fun ts' vs' B' o' nd' na' d' f' => ?_⟩
    have dB' : ∀ b ∈ B', b ∉ A1 ++ A2 ∧ b ∉ A3 ++ A4 := fun b hb => by
      rcases d' b hb with z | z
      · refine ⟨dBt b (by rw [q1]; simp [z]), daB b (List.mem_cons_of_mem _ z)⟩
      · rw [e, q1] at z
        simp only [List.mem_append, not_or] at z ⊢
        exact ⟨⟨z.1, z.2.2⟩, ⟨z.2.1.1, z.2.1.2.2⟩⟩
    have aO : a ∉ A1 ++ A2 := dBt a (by rw [q1]; simp)
    have aI : a ∉ A3 ++ A4 := daB a List.mem_cons_self
    have w := q5 (upd H a (.lst vs')) ts' vs' B' (fun b hb => upd_ne (fun z => aI (z ▸ hb))) upd_same (o'.frame (Ex.refl _) (fun _ _ g => g) fun b hb => upd_ne (fun z => na' (z ▸ hb)))
    have w2 := h4 G (upd H a (.lst vs')) (some v0) (.ow (OT.put p t (.cell ts'))) _ (Ex.refl _) (fun _ _ g => g) (fun b hb => upd_ne (fun z => aO (z ▸ hb))) (.ow w)
    have e2 : σ.set i (some v0) = σ := by
      obtain ⟨hi, e⟩ := List.getElem?_eq_some_iff.mp h0
      rw [← e]
      simp
    rw [e2] at w2
    have aΓ : Γ.H a = none := S.fr a (sub a List.mem_cons_self)
    refine ⟨⟨S.step.g, S.step.h.mut aΓ, fun b u g1 g2 => S.step.f b u g1 g2⟩, S.sub.mut q2, _, w2, ?_, ?_⟩
    · refine nd_swap ndA ?_ fun b hb z => ?_
      · refine nd_swap ndBt' (List.nodup_cons.mpr ⟨na', nd'⟩) fun b hb z => ?_
        rcases List.mem_cons.mp hb with hb | hb
        · subst hb; exact aI z
        · exact (dB' b hb).2 z
      · simp only [List.mem_append] at hb
        rcases hb with hb | hb | hb
        · exact dBt b (by rw [q1]; simp [hb]) z
        · rcases List.mem_cons.mp hb with hb | hb
          · subst hb; exact aO z
          · exact (dB' b hb).1 z
        · exact dBt b (by rw [q1]; simp [hb]) z
    · intro x hx
      simp only [List.mem_append, List.mem_cons] at hx
      rcases hx with z | (z | (z | z) | z) | z
      · exact S.fr x (by rw [e]; simp [z])
      · exact S.fr x (by rw [e, q1]; simp [z])
      · subst z; exact aΓ
      · exact f' x z
      · exact S.fr x (by rw [e, q1]; simp [z])
      · exact S.fr x (by rw [e]; simp [z])
/-- an owned thing is taken out of its name -/
theorem SrA.take (S : SrA Γ G H σ ρ A) (h : ρ[i]? = some (.ow t)) : ∃ v B A', σ[i]? = some (some v) ∧ OwnT G H t v B ∧ B.Nodup ∧ SrA Γ G H σ (ρ.set i .un) A' ∧ (∀ b ∈ B, b ∉ A' ∧ b ∈ A) ∧ (∀ b ∈ B, Γ.H b = none) ∧ (∀ b ∈ A', b ∈ A) := by
  obtain ⟨o, A1, Bt, A2, h1, h2, e, h4⟩ := S.sl.focus h
  have ndA := S.nd
  rw [e] at ndA
  obtain ⟨ndBt, dBt⟩ := nd_mid ndA
  cases h2 with
  | @ow v _ _ q =>
    have w := h4 G H (some v) .un [] (Ex.refl _) (fun _ _ g => g) (fun _ _ => rfl) .un
    have e2 : σ.set i (some v) = σ := by
      obtain ⟨hi, e⟩ := List.getElem?_eq_some_iff.mp h1
      rw [← e]
      simp
    rw [e2] at w
    refine ⟨v, Bt, A1 ++ ([] ++ A2), h1, q, ndBt, ⟨S.step, S.sub, w, nd_swap ndA List.nodup_nil (fun _ z => by cases z), fun x hx => S.fr x ?_⟩, fun b hb => ⟨by simpa using dBt b hb, by rw [e]; simp [hb]⟩, fun b hb => S.fr b (by rw [e]; simp [hb]), fun x hx => ?_⟩
    · rw [e]
      simp only [List.nil_append, List.mem_append] at hx ⊢
      rcases hx with z | z
      · exact .inl z
      · exact .inr (.inr z)
    · rw [e]
      simp only [List.nil_append, List.mem_append] at hx ⊢
      rcases hx with z | z
      · exact .inl z
      · exact .inr (.inr z)
end
end DL

set_option Elab.async false
set_option linter.all false
set_option maxRecDepth 100000
set_option maxHeartbeats 2000000
namespace DL
open PySem L2

def tP (Γ : Gm) (ρ : List Sl) (i : Nat) (pa : List Nat) : TE := fun σ H Q => ∃ G, Sr Γ G H σ ρ ∧ ∀ v G2 H2, Step G H G2 H2 → Ex G2 H2 → (∃ v0, σ[i]? = some (some v0) ∧ PathV H2 pa v0 v) → Q v H2
def DPl (X : Cx) (Γ : Gm) (ρ : List Sl) (o : Expr) (i : Nat) (pa : List Nat) : Prop := PE X o (tP Γ ρ i pa)
theorem OwnT.pathRef {G H : Hp} : ∀ {pa : List Nat} {t : OT} {v w : V} {A : List Addr} {ts : List OT}, OwnT G H t v A → OT.at pa t = some (.cell ts) → PathV H pa v w → ∃ a, w = .ref a
  | [], t, v, w, A, ts, o, hp, hv => by
    unfold OT.at at hp
    cases Option.some.inj hp
    have hv' : v = w := hv
    subst hv'
    cases o with
    | cell hg hh r => exact ⟨_, rfl⟩
  | k :: pa, t, v, w, A, ts, o, hp, hv => by
    cases o with
    | fz _ => simp [OT.at] at hp
    | @cell us a0 vs0 A' hg hh r =>
      obtain ⟨a1, vs1, u1, e1, e2, e3, e4⟩ := hv
      cases e1
      rw [hh] at e2
      cases e2
      unfold OT.at at hp
      cases hk : us[k]? with
      | none => rw [hk] at hp; cases hp
      | some u =>
        rw [hk] at hp
        obtain ⟨v', A1, B, A2, h1, h2, _, _⟩ := r.focus hk
        rw [e3] at h1
        cases h1
        exact OwnT.pathRef h2 hp e4
section
variable {X : Cx} {Γ : Gm} {ρ ρ' : List Sl} {e a b c o : Expr} {es : List Expr} {pos p p' apos cpos : Pos} {κ κ' : Kd} {d d' : D} {x y z : V} {t t' : OT} {σ : L2.St} {G H G1 H1 G2 H2 : Hp} {E : En} {st : Stmt} {rest body : List Stmt} {n : Str} {i : Nat} {ts : List OT} {pa : List Nat}
theorem Sr.ref {v0 w : V} (S : Sr Γ G H σ ρ) (h : ρ[i]? = some (.ow t)) (hp : OT.at pa t = some (.cell ts)) (h0 : σ[i]? = some (some v0)) (hv : PathV H pa v0 w) : ∃ a, w = .ref a := by
  obtain ⟨ob, B, h1, h2⟩ := S.slot h
  rw [h0] at h1
  cases h1
  cases h2 with
  | ow q => exact q.pathRef hp hv
theorem dpl_var (i : Nat) (h : ρ[i]? = some (.ow t)) (hN : X.N[i]? = some n := by rfl) (hv : Vis X.env.scope n := by first | exact Or.inl rfl | exact Or.inr (Or.inl rfl) | exact Or.inr (Or.inr rfl)) (hd : (n == ("__debug__" : Str)) = false := by decide) (hcd : (n == ("__classdict__" : Str)) = false := by decide) :
    DPl X Γ ρ (.Name n pos) i [] := (pe_var hN hv hd hcd).weak fun σ H Q ⟨G, S, k⟩ => by
  obtain ⟨ob, B, h1, h2⟩ := S.slot h
  cases h2 with
  | ow q => exact ⟨_, h1, k _ G H (Step.refl _ _) S.sub ⟨_, h1, rfl⟩⟩
theorem dpl_ix {k : Int} {j : Nat} (ho : DPl X Γ ρ o i pa) (hb : DV X Γ ρ b (.int k)) (h : ρ[i]? = some (.ow t)) (hp : OT.at pa t = some (.cell ts)) (hk : ixN ts.length k = some j) (hj : j < ts.length) (hs : PlainIx b := by intro _ _; rfl) : DPl X Γ ρ (.Subscript o b pos) i (pa ++ [j]) :=
  (pe_ix ix_list ho hb hs).weak fun σ H Q ⟨G, S, kk⟩ => ⟨G, S, fun v G1 H1 s1 e1 ⟨v0, h0, hv⟩ => ⟨G1, S.more s1 e1, fun u G2 H2 s2 e2 (q : u = .int k) => by
    have S2 := (S.more s1 e1).more s2 e2
    have hv2 := hv.mono s2.h
    obtain ⟨a, rfl⟩ := S2.ref h hp h0 hv2
    obtain ⟨A, SA⟩ := S2.ad
    obtain ⟨vs, B, q1, _, _, q2, _⟩ := SA.mut h hp h0 hv2
    have ln := q2.len
    have hx : ∃ w, vs[j]? = some w := ⟨vs[j], List.getElem?_eq_getElem (by omega)⟩
    obtain ⟨w, hw⟩ := hx
    refine ⟨a, vs, k, w, rfl, q, SqL.of q1, ?_, kk w G2 H2 (s1.trans s2) e2 ⟨v0, h0, hv2.snoc rfl q1 hw⟩⟩
    unfold atI
    rw [ln, hk]
    exact hw⟩⟩
/-- the ways a list is changed, its value read as nothing -/
theorem ty_list {K : Fg} {a : Addr} {xs : List V} (h : H a = some (.lst xs)) : tyV K "list" (.ref a) H := Or.inl ⟨rfl, _, SqL.of h⟩
theorem ss_app (ho : DPl X Γ ρ o i pa) (he : DO X Γ ρ e t') (h : ρ[i]? = some (.ow t)) (hp : OT.at pa t = some (.cell ts)) (hl : ts.length < sizeLine) (hr : SS X Γ (ρ.set i (.ow (OT.put pa t (.cell (ts ++ [t']))))) rest E)
    (hbase : attributeBase o "append" X.env (eval o X.env) = eval o X.env := by rfl)
    (hfew : ((backTo cpos (starEach [e] X.env)).all (fun x => !x.1) && (backToKw cpos (keywordEach [] X.env)).all (fun x => x.1.isSome) && decide (([e] : List Expr).length + ([] : List Keyword).length + (if ([] : List Keyword).isEmpty then 0 else 1) < 30)) = true := by rfl)
    (hline : (apos.endLine == cpos.line) = true := by rfl) (hs : starEach [e] X.env = (false, eval e X.env) :: starEach [] X.env := by rfl) (hplain : (backTo cpos (starEach [] X.env)).any (·.1) = false := by rfl)
    (hsw : swapsWith (.Call (.Attribute o "append" apos) [e] [] cpos) none pos.line X.env = pure false := by rfl) : SS X Γ ρ (.Expr (.Call (.Attribute o "append" apos) [e] [] cpos) pos :: rest) E :=
  ss_cons (M := fun ρ' => ρ' = ρ.set i (.ow (OT.put pa t (.cell (ts ++ [t']))))) ((ps_expr (pe_bm PySem.F.plainAttrs_list PySem.F.slot_list_append PySem.F.type_list_append mt_append ho (pa_cons he pa_nil hs) hbase hfew hline hs hplain) hsw).weak fun D σ H ⟨G, S, k⟩ =>
    ⟨G, S, fun v G1 H1 s1 e1 ⟨v0, h0, hv⟩ => by
      obtain ⟨A, SA⟩ := (S.more s1 e1).ad
      obtain ⟨a, rfl⟩ := (S.more s1 e1).ref h hp h0 hv
      obtain ⟨vs1, B1, q1, _⟩ := SA.mut h hp h0 hv
      refine ⟨ty_list q1, G1, S.more s1 e1, fun w G2 H2 s2 e2 ⟨C, oc, ndC, fC⟩ => ?_⟩
      have SA2 := SA.more s2 e2
      obtain ⟨vs, B, q1, q2, q3, q4, q5, q6, q7, q8⟩ := SA2.mut h hp h0 (hv.mono s2.h)
      have ln := q4.len
      refine ⟨a, vs, w, rfl, rfl, q1, by omega, ?_⟩
      have CA : ∀ b ∈ C, b ∉ A := fun b hb z => by
        obtain ⟨_, u, hu⟩ := SA.mem b z
        rw [fC b hb] at hu; cases hu
      refine k.nx _ _ G2 _ rfl (q8 _ _ _ (q4.app (OwnTs.one oc)) (List.nodup_append.mpr ⟨q5, ndC, fun x hx y hy z => ?_⟩) ?_ ?_ ?_) (s1.g.trans s2.g)
      · subst z
        exact CA x hy (q7 x hx)
      · intro z
        rcases List.mem_append.mp z with z | z
        · exact q6 z
        · exact CA a z q3
      · intro b hb
        rcases List.mem_append.mp hb with z | z
        · exact .inl z
        · exact .inr (CA b z)
      · intro b hb
        rcases List.mem_append.mp hb with z | z
        · exact SA2.fr b (q7 b z)
        · exact (S.step.trans s1).h.none (fC b z)⟩) fun ρ' e => e ▸ hr
/-- the thing that a name holds goes into the list -/
theorem ss_appV (j : Nat) {m : Str} {p2 : Pos} (ho : DPl X Γ ρ o i pa) (h : ρ[i]? = some (.ow t)) (hp : OT.at pa t = some (.cell ts)) (hj : ρ[j]? = some (.ow t')) (hij : i ≠ j) (hl : ts.length < sizeLine) (hr : SS X Γ ((ρ.set j .un).set i (.ow (OT.put pa t (.cell (ts ++ [t']))))) rest E)
    (hN : X.N[j]? = some m := by rfl) (hvis : Vis X.env.scope m := by first | exact Or.inl rfl | exact Or.inr (Or.inl rfl) | exact Or.inr (Or.inr rfl)) (hd : (m == ("__debug__" : Str)) = false := by decide) (hcd : (m == ("__classdict__" : Str)) = false := by decide)
    (hbase : attributeBase o "append" X.env (eval o X.env) = eval o X.env := by rfl)
    (hfew : ((backTo cpos (starEach [.Name m p2] X.env)).all (fun x => !x.1) && (backToKw cpos (keywordEach [] X.env)).all (fun x => x.1.isSome) && decide (([.Name m p2] : List Expr).length + ([] : List Keyword).length + (if ([] : List Keyword).isEmpty then 0 else 1) < 30)) = true := by rfl)
    (hline : (apos.endLine == cpos.line) = true := by rfl) (hs : starEach [.Name m p2] X.env = (false, eval (.Name m p2) X.env) :: starEach [] X.env := by rfl) (hplain : (backTo cpos (starEach [] X.env)).any (·.1) = false := by rfl)
    (hsw : swapsWith (.Call (.Attribute o "append" apos) [.Name m p2] [] cpos) none pos.line X.env = pure false := by rfl) : SS X Γ ρ (.Expr (.Call (.Attribute o "append" apos) [.Name m p2] [] cpos) pos :: rest) E :=
  ss_cons (M := fun ρ' => ρ' = (ρ.set j .un).set i (.ow (OT.put pa t (.cell (ts ++ [t']))))) ((ps_expr (pe_bm PySem.F.plainAttrs_list PySem.F.slot_list_append PySem.F.type_list_append mt_append ho (pa_cons (pe_var hN hvis hd hcd) pa_nil hs) hbase hfew hline hs hplain) hsw).weak fun D σ H ⟨G, S, k⟩ =>
    ⟨G, S, fun v G1 H1 s1 e1 ⟨v0, h0, hv⟩ => by
      obtain ⟨A, SA⟩ := (S.more s1 e1).ad
      obtain ⟨a, rfl⟩ := (S.more s1 e1).ref h hp h0 hv
      obtain ⟨vs1, B1, q1, _⟩ := SA.mut h hp h0 hv
      obtain ⟨w, C, A', hw, oc, ndC, SA', dC, fC, sub⟩ := SA.take hj
      refine ⟨ty_list q1, w, hw, ?_⟩
      have h' : (ρ.set j .un)[i]? = some (.ow t) := by rw [List.getElem?_set_ne (Ne.symm hij)]; exact h
      obtain ⟨vs, B, q1, q2, q3, q4, q5, q6, q7, q8⟩ := SA'.mut h' hp h0 hv
      have ln := q4.len
      refine ⟨a, vs, w, rfl, rfl, q1, by omega, ?_⟩
      refine k.nx _ _ G1 _ rfl (q8 _ _ _ (q4.app (OwnTs.one oc)) (List.nodup_append.mpr ⟨q5, ndC, fun x hx y hy z => ?_⟩) ?_ ?_ ?_) s1.g
      · subst z
        exact (dC x hy).1 (q7 x hx)
      · intro z
        rcases List.mem_append.mp z with z | z
        · exact q6 z
        · exact (dC a z).1 q3
      · intro b hb
        rcases List.mem_append.mp hb with z | z
        · exact .inl z
        · exact .inr (dC b z).1
      · intro b hb
        rcases List.mem_append.mp hb with z | z
        · exact SA'.fr b (q7 b z)
        · exact fC b z⟩) fun ρ' e => e ▸ hr
theorem OwnTs.at {k : Nat} {vs : List V} {A : List Addr} {u : OT} (h : OwnTs G H ts vs A) (e : ts[k]? = some u) : ∃ v A1 B A2, vs[k]? = some v ∧ OwnT G H u v B ∧ A = A1 ++ (B ++ A2) ∧ ∀ (v' : V) (t' : OT) (B' : List Addr), OwnT G H t' v' B' → OwnTs G H (ts.set k t') (vs.set k v') (A1 ++ (B' ++ A2)) := by
  induction k generalizing ts vs A with
  | zero =>
    cases h with
    | nil => cases e
    | @cons _ _ _ _ A0 B0 h r =>
      obtain rfl := Option.some.inj e
      exact ⟨_, [], A0, B0, rfl, h, by simp, fun v' t' B' h' => by simpa using OwnTs.cons h' r⟩
  | succ k ih =>
    cases h with
    | nil => cases e
    | @cons _ _ _ _ A0 B0 h r =>
      obtain ⟨v, A1, B, A2, h1, h2, h3, h4⟩ := ih r (by simpa using e)
      refine ⟨v, A0 ++ A1, B, A2, by simpa using h1, h2, by rw [h3]; simp, fun v' t' B' h' => ?_⟩
      simpa using OwnTs.cons h (h4 v' t' B' h')
/-- o[i] = e -/
theorem ss_st {k : Int} {j : Nat} {u : OT} (ho : DPl X Γ ρ o i pa) (hb : DV X Γ ρ b (.int k)) (he : DO X Γ ρ e t') (h : ρ[i]? = some (.ow t)) (hp : OT.at pa t = some (.cell ts)) (hk : ixN ts.length k = some j) (hj : ts[j]? = some u) (hr : SS X Γ (ρ.set i (.ow (OT.put pa t (.cell (ts.set j t'))))) rest E)
    (ha : ∀ v, assign (.Subscript o b p) X.env v = (do
      let ov ← holding [v] (eval o X.env)
      let iv ← holding [v, ov] (eval b X.env)
      standAt p
      holding [v, ov, iv] (setItem ov iv v)
      release [v, ov, iv] []) := by intro _; rfl)
    (hs : swapsWithSole [.Subscript o b p] e pos.line X.env = pure false := by rfl) (hw : swappedStores [.Subscript o b p] e X.env = pure none := by rfl) (h1 : (assignEach [.Subscript o b p] X.env).map (·.2) = [assign (.Subscript o b p) X.env] := by rfl) :
    SS X Γ ρ (.Assign [.Subscript o b p] e pos :: rest) E :=
  ss_cons (M := fun ρ' => ρ' = ρ.set i (.ow (OT.put pa t (.cell (ts.set j t'))))) ((ps_asg he (pg_sub ho hb set_list ha) hs hw h1).weak fun D σ H ⟨G, S, kk⟩ => ⟨G, S, fun w G1 H1 s1 e1 ⟨C, oc, ndC, fC⟩ => ⟨G1, S.more s1 e1, fun v G2 H2 s2 e2 ⟨v0, h0, hv⟩ => ⟨G2, (S.more s1 e1).more s2 e2, fun iv G3 H3 s3 e3 (q : iv = .int k) => by
    obtain ⟨A, SA⟩ := S.ad
    have SA3 := ((SA.more s1 e1).more s2 e2).more s3 e3
    have hv3 := hv.mono s3.h
    obtain ⟨a, rfl⟩ := SA3.sr.ref h hp h0 hv3
    obtain ⟨vs, B, q1, q2, q3, q4, q5, q6, q7, q8⟩ := SA3.mut h hp h0 hv3
    have ln := q4.len
    obtain ⟨v', A1, B', A2, w1, w2, w3, w4⟩ := q4.at hj
    refine ⟨a, vs, k, j, rfl, q, q1, by rw [ln]; exact hk, ?_⟩
    have CA : ∀ b ∈ C, b ∉ A := fun b hb z => by
      obtain ⟨_, u, hu⟩ := SA.mem b z
      rw [fC b hb] at hu; cases hu
    have q5' := q5
    rw [w3] at q5'
    refine kk.nx _ _ G3 _ rfl (q8 _ _ _ (w4 w t' C ((oc.more s2).more s3)) (nd_swap q5' ndC fun b hb z => CA b hb (q7 b (by rw [w3]; simp only [List.mem_append] at z ⊢; rcases z with z | z; exact .inl z; exact .inr (.inr z)))) ?_ ?_ ?_) ((s1.g.trans s2.g).trans s3.g)
    · intro z
      simp only [List.mem_append] at z
      rcases z with z | z | z
      · exact q6 (by rw [w3]; simp [z])
      · exact CA a z q3
      · exact q6 (by rw [w3]; simp [z])
    · intro b hb
      simp only [List.mem_append] at hb
      rcases hb with z | z | z
      · exact .inl (by rw [w3]; simp [z])
      · exact .inr (CA b z)
      · exact .inl (by rw [w3]; simp [z])
    · intro b hb
      simp only [List.mem_append] at hb
      rcases hb with z | z | z
      · exact SA3.fr b (q7 b (by rw [w3]; simp [z]))
      · exact S.step.h.none (fC b z)
      · exact SA3.fr b (q7 b (by rw [w3]; simp [z]))⟩⟩⟩) fun ρ' e => e ▸ hr

/-! ### the same, by types -/
variable {α : Type} {g : α → OT}
theorem at_nil (t : OT) : OT.at [] t = some t := rfl
theorem ss_app0 (i : Nat) {xs : List α} {x : α} (ho : DPl X Γ ρ o i []) (he : DO X Γ ρ e (g x)) (h : ρ[i]? = some (.ow (tl g xs))) (hl : xs.length < 16000000) (hr : SS X Γ (ρ.set i (.ow (tl g (xs ++ [x])))) rest E)
    (hbase : attributeBase o "append" X.env (eval o X.env) = eval o X.env := by rfl)
    (hfew : ((backTo cpos (starEach [e] X.env)).all (fun x => !x.1) && (backToKw cpos (keywordEach [] X.env)).all (fun x => x.1.isSome) && decide (([e] : List Expr).length + ([] : List Keyword).length + (if ([] : List Keyword).isEmpty then 0 else 1) < 30)) = true := by rfl)
    (hline : (apos.endLine == cpos.line) = true := by rfl) (hs : starEach [e] X.env = (false, eval e X.env) :: starEach [] X.env := by rfl) (hplain : (backTo cpos (starEach [] X.env)).any (·.1) = false := by rfl)
    (hsw : swapsWith (.Call (.Attribute o "append" apos) [e] [] cpos) none pos.line X.env = pure false := by rfl) : SS X Γ ρ (.Expr (.Call (.Attribute o "append" apos) [e] [] cpos) pos :: rest) E :=
  ss_app ho he h (at_nil _) (by rw [List.length_map]; exact Nat.lt_of_lt_of_le hl (by decide)) (by
    have e1 : OT.put [] (tl g xs) (.cell (xs.map g ++ [g x])) = tl g (xs ++ [x]) := by unfold tl OT.put; rw [List.map_append]; rfl
    rw [e1]; exact hr) hbase hfew hline hs hplain hsw
theorem ss_app0V (i j : Nat) {m : Str} {p2 : Pos} {xs : List α} {x : α} (ho : DPl X Γ ρ o i []) (h : ρ[i]? = some (.ow (tl g xs))) (hj : ρ[j]? = some (.ow (g x))) (hij : i ≠ j) (hl : xs.length < 16000000) (hr : SS X Γ ((ρ.set j .un).set i (.ow (tl g (xs ++ [x])))) rest E)
    (hN : X.N[j]? = some m := by rfl) (hvis : Vis X.env.scope m := by first | exact Or.inl rfl | exact Or.inr (Or.inl rfl) | exact Or.inr (Or.inr rfl)) (hd : (m == ("__debug__" : Str)) = false := by decide) (hcd : (m == ("__classdict__" : Str)) = false := by decide)
    (hbase : attributeBase o "append" X.env (eval o X.env) = eval o X.env := by rfl)
    (hfew : ((backTo cpos (starEach [.Name m p2] X.env)).all (fun x => !x.1) && (backToKw cpos (keywordEach [] X.env)).all (fun x => x.1.isSome) && decide (([.Name m p2] : List Expr).length + ([] : List Keyword).length + (if ([] : List Keyword).isEmpty then 0 else 1) < 30)) = true := by rfl)
    (hline : (apos.endLine == cpos.line) = true := by rfl) (hs : starEach [.Name m p2] X.env = (false, eval (.Name m p2) X.env) :: starEach [] X.env := by rfl) (hplain : (backTo cpos (starEach [] X.env)).any (·.1) = false := by rfl)
    (hsw : swapsWith (.Call (.Attribute o "append" apos) [.Name m p2] [] cpos) none pos.line X.env = pure false := by rfl) : SS X Γ ρ (.Expr (.Call (.Attribute o "append" apos) [.Name m p2] [] cpos) pos :: rest) E :=
  ss_appV j ho h (at_nil _) hj hij (by rw [List.length_map]; exact Nat.lt_of_lt_of_le hl (by decide)) (by
    have e1 : OT.put [] (tl g xs) (.cell (xs.map g ++ [g x])) = tl g (xs ++ [x]) := by unfold tl OT.put; rw [List.map_append]; rfl
    rw [e1]; exact hr) hN hvis hd hcd hbase hfew hline hs hplain hsw
/-- a list's place changed -/
def pyIx (n : Nat) (k : Int) : Nat := if 0 ≤ k then k.toNat else (k + n).toNat
theorem ixN_pyIx {n : Nat} {k : Int} (h : inR n k) : ixN n k = some (pyIx n k) ∧ pyIx n k < n := by
  obtain ⟨h1, h2⟩ := h
  unfold ixN pyIx
  by_cases h0 : 0 ≤ k
  · rw [if_pos h0, if_pos h2, if_pos h0]
    exact ⟨rfl, by omega⟩
  · rw [if_neg h0, if_pos h1, if_neg h0]
    exact ⟨rfl, by omega⟩
theorem pyAt_ix [Inhabited α] (xs : List α) (k : Int) : pyAt xs k = xs.getD (pyIx xs.length k) default := by
  unfold pyAt pyIx
  split <;> rfl
def pySet (xs : List α) (k : Int) (x : α) : List α := xs.set (pyIx xs.length k) x
theorem ss_st0 (i : Nat) {xs : List α} {x : α} {k : Int} (ho : DPl X Γ ρ o i []) (hb : DV X Γ ρ b (.int k)) (he : DO X Γ ρ e (g x)) (h : ρ[i]? = some (.ow (tl g xs))) (hk : inR xs.length k) (hr : SS X Γ (ρ.set i (.ow (tl g (pySet xs k x)))) rest E)
    (ha : ∀ v, assign (.Subscript o b p) X.env v = (do
      let ov ← holding [v] (eval o X.env)
      let iv ← holding [v, ov] (eval b X.env)
      standAt p
      holding [v, ov, iv] (setItem ov iv v)
      release [v, ov, iv] []) := by intro _; rfl)
    (hs : swapsWithSole [.Subscript o b p] e pos.line X.env = pure false := by rfl) (hw : swappedStores [.Subscript o b p] e X.env = pure none := by rfl) (h1 : (assignEach [.Subscript o b p] X.env).map (·.2) = [assign (.Subscript o b p) X.env] := by rfl) :
    SS X Γ ρ (.Assign [.Subscript o b p] e pos :: rest) E := by
  obtain ⟨q1, q2⟩ := ixN_pyIx hk
  have e1 : (xs.map g)[pyIx xs.length k]? = some (g (xs[pyIx xs.length k]'q2)) := by simp [q2]
  exact ss_st ho hb he h (at_nil _) (by rw [List.length_map]; exact q1) e1 (by
    have e1 : OT.put [] (tl g xs) (.cell ((xs.map g).set (pyIx xs.length k) (g x))) = tl g (pySet xs k x) := by
      unfold tl OT.put pySet
      rw [List.map_set]
    rw [e1]; exact hr) ha hs hw h1
/-- .. of a list within a list -/
theorem at_one {xss : List (List α)} {j : Nat} (h : j < xss.length) : OT.at [j] (tl (tl g) xss) = some (.cell ((xss.getD j []).map g)) := by
  unfold tl OT.at
  rw [List.getElem?_map, List.getElem?_eq_getElem h]
  simp [OT.at, tl, List.getD_eq_getElem?_getD, h]
theorem put_one {xss : List (List α)} {j : Nat} {ys : List α} (h : j < xss.length) : OT.put [j] (tl (tl g) xss) (.cell (ys.map g)) = tl (tl g) (xss.set j ys) := by
  unfold tl OT.put
  rw [List.getElem?_map, List.getElem?_eq_getElem h]
  simp [OT.put, List.map_set]
theorem ss_app1 (i : Nat) {xss : List (List α)} {x : α} {j : Nat} (ho : DPl X Γ ρ o i [j]) (he : DO X Γ ρ e (g x)) (h : ρ[i]? = some (.ow (tl (tl g) xss))) (hj : j < xss.length) (hl : (xss.getD j []).length < 16000000) (hr : SS X Γ (ρ.set i (.ow (tl (tl g) (xss.set j (xss.getD j [] ++ [x]))))) rest E)
    (hbase : attributeBase o "append" X.env (eval o X.env) = eval o X.env := by rfl)
    (hfew : ((backTo cpos (starEach [e] X.env)).all (fun x => !x.1) && (backToKw cpos (keywordEach [] X.env)).all (fun x => x.1.isSome) && decide (([e] : List Expr).length + ([] : List Keyword).length + (if ([] : List Keyword).isEmpty then 0 else 1) < 30)) = true := by rfl)
    (hline : (apos.endLine == cpos.line) = true := by rfl) (hs : starEach [e] X.env = (false, eval e X.env) :: starEach [] X.env := by rfl) (hplain : (backTo cpos (starEach [] X.env)).any (·.1) = false := by rfl)
    (hsw : swapsWith (.Call (.Attribute o "append" apos) [e] [] cpos) none pos.line X.env = pure false := by rfl) : SS X Γ ρ (.Expr (.Call (.Attribute o "append" apos) [e] [] cpos) pos :: rest) E :=
  ss_app ho he h (at_one hj) (by rw [List.length_map]; exact Nat.lt_of_lt_of_le hl (by decide)) (by
    have e1 : (xss.getD j []).map g ++ [g x] = (xss.getD j [] ++ [x]).map g := by rw [List.map_append]; rfl
    rw [e1, put_one hj]; exact hr) hbase hfew hline hs hplain hsw
theorem ss_st1 (i : Nat) {xss : List (List α)} {x : α} {k : Int} {j : Nat} (ho : DPl X Γ ρ o i [j]) (hb : DV X Γ ρ b (.int k)) (he : DO X Γ ρ e (g x)) (h : ρ[i]? = some (.ow (tl (tl g) xss))) (hj : j < xss.length) (hk : inR (xss.getD j []).length k) (hr : SS X Γ (ρ.set i (.ow (tl (tl g) (xss.set j (pySet (xss.getD j []) k x))))) rest E)
    (ha : ∀ v, assign (.Subscript o b p) X.env v = (do
      let ov ← holding [v] (eval o X.env)
      let iv ← holding [v, ov] (eval b X.env)
      standAt p
      holding [v, ov, iv] (setItem ov iv v)
      release [v, ov, iv] []) := by intro _; rfl)
    (hs : swapsWithSole [.Subscript o b p] e pos.line X.env = pure false := by rfl) (hw : swappedStores [.Subscript o b p] e X.env = pure none := by rfl) (h1 : (assignEach [.Subscript o b p] X.env).map (·.2) = [assign (.Subscript o b p) X.env] := by rfl) :
    SS X Γ ρ (.Assign [.Subscript o b p] e pos :: rest) E := by
  obtain ⟨q1, q2⟩ := ixN_pyIx hk
  have e1 : ((xss.getD j []).map g)[pyIx (xss.getD j []).length k]? = some (g ((xss.getD j [])[pyIx (xss.getD j []).length k]'q2)) := by rw [List.getElem?_map, List.getElem?_eq_getElem q2] <;> rfl
  exact ss_st ho hb he h (at_one hj) (by rw [List.length_map]; exact q1) e1 (by
    have e1 : ((xss.getD j []).map g).set (pyIx (xss.getD j []).length k) (g x) = (pySet (xss.getD j []) k x).map g := by
      unfold pySet
      rw [List.map_set]
    rw [e1, put_one hj]; exact hr) ha hs hw h1
theorem dpl_ix1 (i : Nat) {xss : List (List α)} {k : Int} (ho : DPl X Γ ρ o i []) (hb : DV X Γ ρ b (.int k)) (h : ρ[i]? = some (.ow (tl (tl g) xss))) (hk : inR xss.length k) (hs : PlainIx b := by intro _ _; rfl) : DPl X Γ ρ (.Subscript o b pos) i [pyIx xss.length k] := by
  obtain ⟨q1, q2⟩ := ixN_pyIx hk
  exact dpl_ix (ts := xss.map (tl g)) ho hb h (at_nil _) (by rw [List.length_map]; exact q1) (by rw [List.length_map]; exact q2) hs
end
end DL

set_option Elab.async false
set_option linter.all false
set_option maxRecDepth 100000
set_option maxHeartbeats 2000000
namespace DL
open PySem L2

/-- the ints in order -/
def sortI (ns : List Int) : List Int := ns.mergeSort (fun a b => decide (a ≤ b))
theorem sortI_perm (ns : List Int) : (sortI ns).Perm ns := List.mergeSort_perm _ _
theorem sortI_sorted (ns : List Int) : (sortI ns).Pairwise (· ≤ ·) := by
  have := List.pairwise_mergeSort (le := fun a b : Int => decide (a ≤ b)) (fun a b c h1 h2 => by simp at *; omega) (fun a b => by simp; omega) ns
  exact this.imp fun h => by simpa using h
theorem sorted_uniq : ∀ {xs ys : List Int}, xs.Perm ys → xs.Pairwise (· ≤ ·) → ys.Pairwise (· ≤ ·) → xs = ys
  | [], ys, p, _, _ => by simpa using p.symm.eq_nil.symm
  | x :: xs, [], p, _, _ => by simpa using p.eq_nil
  | x :: xs, y :: ys, p, hx, hy => by
    rw [List.pairwise_cons] at hx hy
    have e : x = y := by
      have h1 : x ∈ y :: ys := p.subset List.mem_cons_self
      have h2 : y ∈ x :: xs := p.symm.subset List.mem_cons_self
      rcases List.mem_cons.mp h1 with z | z
      · exact z
      · rcases List.mem_cons.mp h2 with w | w
        · exact w.symm
        · have := hx.1 y w
          have := hy.1 x z
          omega
    subst e
    rw [sorted_uniq (List.Perm.cons_inv p) hx.2 hy.2]
theorem sortI_uniq {ns ms : List Int} (p : ms.Perm ns) (h : ms.Pairwise (· ≤ ·)) : ms = sortI ns := sorted_uniq (p.trans (sortI_perm ns).symm) h (sortI_sorted ns)
/-- the greatest, the least -/
def maxI : List Int → Int
  | [] => 0
  | x :: xs => xs.foldl max x
def minI : List Int → Int
  | [] => 0
  | x :: xs => xs.foldl min x
theorem foldl_max : ∀ (xs : List Int) (x : Int), xs.foldl max x ∈ x :: xs ∧ ∀ y ∈ x :: xs, y ≤ xs.foldl max x
  | [], x => by simp
  | z :: xs, x => by
    obtain ⟨h1, h2⟩ := foldl_max xs (max x z)
    rw [List.foldl_cons]
    refine ⟨?_, fun y hy => ?_⟩
    · rcases List.mem_cons.mp h1 with e | e
      · rw [e]
        by_cases q : x ≤ z
        · rw [Int.max_eq_right q]; simp
        · rw [Int.max_eq_left (by omega)]; simp
      · simp [e]
    · have h3 := h2 (max x z) List.mem_cons_self
      rcases List.mem_cons.mp hy with e | hy
      · subst e; have := Int.le_max_left y z; omega
      · rcases List.mem_cons.mp hy with e | hy
        · subst e; have := Int.le_max_right x y; omega
        · exact h2 y (List.mem_cons_of_mem _ hy)
theorem foldl_min : ∀ (xs : List Int) (x : Int), xs.foldl min x ∈ x :: xs ∧ ∀ y ∈ x :: xs, xs.foldl min x ≤ y
  | [], x => by simp
  | z :: xs, x => by
    obtain ⟨h1, h2⟩ := foldl_min xs (min x z)
    rw [List.foldl_cons]
    refine ⟨?_, fun y hy => ?_⟩
    · rcases List.mem_cons.mp h1 with e | e
      · rw [e]
        by_cases q : x ≤ z
        · rw [Int.min_eq_left q]; simp
        · rw [Int.min_eq_right (by omega)]; simp
      · simp [e]
    · have h3 := h2 (min x z) List.mem_cons_self
      rcases List.mem_cons.mp hy with e | hy
      · subst e; have := Int.min_le_left y z; omega
      · rcases List.mem_cons.mp hy with e | hy
        · subst e; have := Int.min_le_right x y; omega
        · exact h2 y (List.mem_cons_of_mem _ hy)
theorem maxI_mem {ns : List Int} (h : 0 < ns.length) : maxI ns ∈ ns := by
  cases ns with
  | nil => simp at h
  | cons x xs => exact (foldl_max xs x).1
theorem maxI_ge {ns : List Int} {y : Int} (h : y ∈ ns) : y ≤ maxI ns := by
  cases ns with
  | nil => simp at h
  | cons x xs => exact (foldl_max xs x).2 y h
theorem minI_mem {ns : List Int} (h : 0 < ns.length) : minI ns ∈ ns := by
  cases ns with
  | nil => simp at h
  | cons x xs => exact (foldl_min xs x).1
theorem minI_le {ns : List Int} {y : Int} (h : y ∈ ns) : minI ns ≤ y := by
  cases ns with
  | nil => simp at h
  | cons x xs => exact (foldl_min xs x).2 y h

section
variable {X : Cx} {Γ : Gm} {ρ ρ' : List Sl} {e a b c o : Expr} {es : List Expr} {pos p p' apos cpos : Pos} {κ κ' : Kd} {d d' : D} {x y z : V} {t t' : OT} {σ : L2.St} {G H G1 H1 G2 H2 : Hp} {n : Str} {i j : Int} {α : Type} {f : α → D} {g : α → OT}
theorem cb1 {r : List V → Hp → VK → Prop} {PA P : Hp → Hp → Hp → V → Prop} (h : PE X e (tCB r (tCons (tX Γ ρ PA) tNil)))
    (w : ∀ (σ : L2.St) (G H G1 H1 : Hp) (v : V) (Q : VK), Sr Γ G H σ ρ → Step G H G1 H1 → Ex G1 H1 → PA H G1 H1 v → (∀ w G2 H2, Step G1 H1 G2 H2 → Ex G2 H2 → P H G2 H2 w → Q w H2) → r [v] H1 Q) : PE X e (tX Γ ρ P) :=
  h.weak fun σ H Q ⟨G, S, k⟩ => ⟨G, S, fun v G1 H1 s1 e1 p1 => w σ G H G1 H1 v Q S s1 e1 p1 fun u G2 H2 s2 e2 p2 => k u G2 H2 (s1.trans s2) e2 p2⟩
theorem cb2 {r : List V → Hp → VK → Prop} {PA PB P : Hp → Hp → Hp → V → Prop} (h : PE X e (tCB r (tCons (tX Γ ρ PA) (tCons (tX Γ ρ PB) tNil))))
    (w : ∀ (σ : L2.St) (G H G1 H1 G2 H2 : Hp) (v u : V) (Q : VK), Sr Γ G H σ ρ → Step G H G1 H1 → Ex G1 H1 → PA H G1 H1 v → Step G1 H1 G2 H2 → Ex G2 H2 → PB H1 G2 H2 u → (∀ w G3 H3, Step G2 H2 G3 H3 → Ex G3 H3 → P H G3 H3 w → Q w H3) → r [v, u] H2 Q) : PE X e (tX Γ ρ P) :=
  h.weak fun σ H Q ⟨G, S, k⟩ => ⟨G, S, fun v G1 H1 s1 e1 p1 => ⟨G1, S.more s1 e1, fun u G2 H2 s2 e2 p2 => w σ G H G1 H1 G2 H2 v u Q S s1 e1 p1 s2 e2 p2 fun z G3 H3 s3 e3 p3 => k z G3 H3 ((s1.trans s2).trans s3) e3 p3⟩⟩
theorem Rep.l {ds : List D} {v : V} (r : Rep H v (.list ds)) : ∃ a xs, v = .ref a ∧ H a = some (.lst xs) ∧ Reps H xs ds := by
  cases r with
  | lst h r => exact ⟨_, _, rfl, h, r⟩
/-- len -/
theorem dv_lenD {ds : List D} (ha : DE X Γ ρ a κ (.list ds)) (hm : X.mg "len" = none) (hg : Gl X "len" := by rfl) (he : starEach [a] X.env = (false, eval a X.env) :: starEach [] X.env := by rfl) (hpl : (backTo pos (starEach [] X.env)).any (·.1) = false := by rfl) : DV X Γ ρ (.Call (.Name "len" p) [a] [] pos) (.int (ds.length : Int)) :=
  cb1 (pe_callB call_len_seq hg hm boot_len (pa_cons ha pa_nil he) (by decide) (by decide) he hpl) fun σ G H G1 H1 v Q S s1 e1 q k => by
    obtain ⟨a, xs, rfl, h, r⟩ := (pK_c S s1 e1 q).l
    exact ⟨a, xs, rfl, .inl (SqL.of h), by rw [r.len]; exact k _ G1 H1 (Step.refl _ _) e1 rfl⟩
theorem dv_len {xs : List α} (ha : DE X Γ ρ a κ (dl f xs)) (hm : X.mg "len" = none) (hg : Gl X "len" := by rfl) (he : starEach [a] X.env = (false, eval a X.env) :: starEach [] X.env := by rfl) (hpl : (backTo pos (starEach [] X.env)).any (·.1) = false := by rfl) : DV X Γ ρ (.Call (.Name "len" p) [a] [] pos) (.int (xs.length : Int)) := by
  have := dv_lenD (ds := xs.map f) (pos := pos) (p := p) ha hm hg he hpl
  rwa [List.length_map] at this
theorem dv_lenS {ns : List Int} (hK : Γ.K = X.K) (ha : DS_ X Γ ρ a ns) (hm : X.mg "len" = none) (hg : Gl X "len" := by rfl) (he : starEach [a] X.env = (false, eval a X.env) :: starEach [] X.env := by rfl) (hpl : (backTo pos (starEach [] X.env)).any (·.1) = false := by rfl) : DV X Γ ρ (.Call (.Name "len" p) [a] [] pos) (.int (ns.length : Int)) :=
  cb1 (pe_callB call_len_seq hg hm boot_len (pa_cons ha pa_nil he) (by decide) (by decide) he hpl) fun σ G H G1 H1 v Q S s1 e1 ⟨a, ev, q⟩ k => by
    rw [hK] at q
    exact ⟨a, _, by rw [ev], .inl q, by rw [List.length_map]; exact k _ G1 H1 (Step.refl _ _) e1 rfl⟩
theorem dv_lenT {u : Str} (ha : DV X Γ ρ a (.str u)) (hu : u.length ≤ sizeLine) (hm : X.mg "len" = none) (hg : Gl X "len" := by rfl) (he : starEach [a] X.env = (false, eval a X.env) :: starEach [] X.env := by rfl) (hpl : (backTo pos (starEach [] X.env)).any (·.1) = false := by rfl) : DV X Γ ρ (.Call (.Name "len" p) [a] [] pos) (.int (u.length : Int)) :=
  cb1 (pe_callB call_len_str hg hm boot_len (pa_cons ha pa_nil he) (by decide) (by decide) he hpl) fun σ G H G1 H1 v Q S s1 e1 q k => ⟨u, by rw [q], hu, k _ G1 H1 (Step.refl _ _) e1 rfl⟩
/-- sum, max, min of ints; all, any of truth values -/
theorem dv_sum {ns : List Int} (xo : XO X) (ha : DE X Γ ρ a κ (dl dI ns)) (hm : X.mg "sum" = none) (hg : Gl X "sum" := by rfl) (he : starEach [a] X.env = (false, eval a X.env) :: starEach [] X.env := by rfl) (hpl : (backTo pos (starEach [] X.env)).any (·.1) = false := by rfl) : DV X Γ ρ (.Call (.Name "sum" p) [a] [] pos) (.int ns.sum) :=
  cb1 (pe_callB (cr_sum xo.calm) hg hm (by decide +kernel) (pa_cons ha pa_nil he) (by decide) (by decide) he hpl) fun σ G H G1 H1 v Q S s1 e1 q k => by
    obtain ⟨a, xs, rfl, h, r⟩ := Rep.l (pK_c S s1 e1 q)
    exact ⟨a, ns, rfl, by rw [← r.ints]; exact SqL.of h, k _ G1 H1 (Step.refl _ _) e1 rfl⟩
theorem dv_max {ns : List Int} (xo : XO X) (ha : DE X Γ ρ a κ (dl dI ns)) (h0 : 0 < ns.length) (hm : X.mg "max" = none) (hg : Gl X "max" := by rfl) (he : starEach [a] X.env = (false, eval a X.env) :: starEach [] X.env := by rfl) (hpl : (backTo pos (starEach [] X.env)).any (·.1) = false := by rfl) : DV X Γ ρ (.Call (.Name "max" p) [a] [] pos) (.int (maxI ns)) :=
  cb1 (pe_callB (cr_max xo.calm) hg hm (by decide +kernel) (pa_cons ha pa_nil he) (by decide) (by decide) he hpl) fun σ G H G1 H1 v Q S s1 e1 q k => by
    obtain ⟨a, xs, rfl, h, r⟩ := Rep.l (pK_c S s1 e1 q)
    refine ⟨a, ns, rfl, by rw [← r.ints]; exact SqL.of h, h0, fun m hm1 hm2 => ?_⟩
    have e : m = maxI ns := by
      have h1 := maxI_ge hm1
      have h2 := hm2 _ (maxI_mem h0)
      omega
    rw [e]
    exact k _ G1 H1 (Step.refl _ _) e1 rfl
theorem dv_min {ns : List Int} (xo : XO X) (ha : DE X Γ ρ a κ (dl dI ns)) (h0 : 0 < ns.length) (hm : X.mg "min" = none) (hg : Gl X "min" := by rfl) (he : starEach [a] X.env = (false, eval a X.env) :: starEach [] X.env := by rfl) (hpl : (backTo pos (starEach [] X.env)).any (·.1) = false := by rfl) : DV X Γ ρ (.Call (.Name "min" p) [a] [] pos) (.int (minI ns)) :=
  cb1 (pe_callB (cr_min xo.calm) hg hm (by decide +kernel) (pa_cons ha pa_nil he) (by decide) (by decide) he hpl) fun σ G H G1 H1 v Q S s1 e1 q k => by
    obtain ⟨a, xs, rfl, h, r⟩ := Rep.l (pK_c S s1 e1 q)
    refine ⟨a, ns, rfl, by rw [← r.ints]; exact SqL.of h, h0, fun m hm1 hm2 => ?_⟩
    have e : m = minI ns := by
      have h1 := minI_le hm1
      have h2 := hm2 _ (minI_mem h0)
      omega
    rw [e]
    exact k _ G1 H1 (Step.refl _ _) e1 rfl
theorem dv_max2 (xo : XO X) (ha : DV X Γ ρ a (.int i)) (hb : DV X Γ ρ b (.int j)) (hm : X.mg "max" = none) (hg : Gl X "max" := by rfl) (he : starEach [a, b] X.env = (false, eval a X.env) :: starEach [b] X.env := by rfl) (he2 : starEach [b] X.env = (false, eval b X.env) :: starEach [] X.env := by rfl) (hpl : (backTo pos (starEach [b] X.env)).any (·.1) = false := by rfl) : DV X Γ ρ (.Call (.Name "max" p) [a, b] [] pos) (.int (max i j)) :=
  cb2 (pe_callB (call_max2 xo.calm) hg hm (by decide +kernel) (pa_cons ha (pa_cons hb pa_nil he2) he) (by decide) (by decide) he hpl) fun σ G H G1 H1 G2 H2 v u Q S s1 e1 q1 s2 e2 q2 k => ⟨i, j, by rw [q1, q2], by
    have : (if j > i then j else i) = max i j := by
      split
      · rw [Int.max_eq_right (by omega)]
      · rw [Int.max_eq_left (by omega)]
    rw [this]
    exact k _ G2 H2 (Step.refl _ _) e2 rfl⟩
theorem dv_min2 (xo : XO X) (ha : DV X Γ ρ a (.int i)) (hb : DV X Γ ρ b (.int j)) (hm : X.mg "min" = none) (hg : Gl X "min" := by rfl) (he : starEach [a, b] X.env = (false, eval a X.env) :: starEach [b] X.env := by rfl) (he2 : starEach [b] X.env = (false, eval b X.env) :: starEach [] X.env := by rfl) (hpl : (backTo pos (starEach [b] X.env)).any (·.1) = false := by rfl) : DV X Γ ρ (.Call (.Name "min" p) [a, b] [] pos) (.int (min i j)) :=
  cb2 (pe_callB (call_min2 xo.calm) hg hm (by decide +kernel) (pa_cons ha (pa_cons hb pa_nil he2) he) (by decide) (by decide) he hpl) fun σ G H G1 H1 G2 H2 v u Q S s1 e1 q1 s2 e2 q2 k => ⟨i, j, by rw [q1, q2], by
    have : (if j < i then j else i) = min i j := by
      split
      · rw [Int.min_eq_right (by omega)]
      · rw [Int.min_eq_left (by omega)]
    rw [this]
    exact k _ G2 H2 (Step.refl _ _) e2 rfl⟩
theorem dv_all {bs : List Bool} (xo : XO X) (ha : DE X Γ ρ a κ (dl .bool bs)) (hm : X.mg "all" = none) (hg : Gl X "all" := by rfl) (he : starEach [a] X.env = (false, eval a X.env) :: starEach [] X.env := by rfl) (hpl : (backTo pos (starEach [] X.env)).any (·.1) = false := by rfl) : DV X Γ ρ (.Call (.Name "all" p) [a] [] pos) (.bl (bs.all id)) :=
  cb1 (pe_callB (cr_all xo.calm) hg hm (by decide +kernel) (pa_cons ha pa_nil he) (by decide) (by decide) he hpl) fun σ G H G1 H1 v Q S s1 e1 q k => by
    obtain ⟨a, xs, rfl, h, r⟩ := Rep.l (pK_c S s1 e1 q)
    exact ⟨a, bs, rfl, by rw [← r.bools]; exact SqL.of h, k _ G1 H1 (Step.refl _ _) e1 rfl⟩
theorem dv_any {bs : List Bool} (xo : XO X) (ha : DE X Γ ρ a κ (dl .bool bs)) (hm : X.mg "any" = none) (hg : Gl X "any" := by rfl) (he : starEach [a] X.env = (false, eval a X.env) :: starEach [] X.env := by rfl) (hpl : (backTo pos (starEach [] X.env)).any (·.1) = false := by rfl) : DV X Γ ρ (.Call (.Name "any" p) [a] [] pos) (.bl (bs.any id)) :=
  cb1 (pe_callB (cr_any xo.calm) hg hm (by decide +kernel) (pa_cons ha pa_nil he) (by decide) (by decide) he hpl) fun σ G H G1 H1 v Q S s1 e1 q k => by
    obtain ⟨a, xs, rfl, h, r⟩ := Rep.l (pK_c S s1 e1 q)
    exact ⟨a, bs, rfl, by rw [← r.bools]; exact SqL.of h, k _ G1 H1 (Step.refl _ _) e1 rfl⟩
/-- int(a truth value), int(an int), str(an int) -/
theorem dv_intB {q : Bool} (ha : DV X Γ ρ a (.bl q)) (hm : X.mg "int" = none) (hg : Gl X "int" := by rfl) (he : starEach [a] X.env = (false, eval a X.env) :: starEach [] X.env := by rfl) (hpl : (backTo pos (starEach [] X.env)).any (·.1) = false := by rfl) : DV X Γ ρ (.Call (.Name "int" p) [a] [] pos) (.int (if q then 1 else 0)) :=
  cb1 (pe_callTy call_int1 hg hm PyProof.Rows.boot_int (pa_cons ha pa_nil he) (by decide) (by decide) he hpl) fun σ G H G1 H1 v Q S s1 e1 qv k => .inr ⟨q, by rw [qv], k _ G1 H1 (Step.refl _ _) e1 rfl⟩
theorem dv_str1 (ha : DV X Γ ρ a (.int i)) (hi : i.natAbs.log2 < 1920) (hm : X.mg "str" = none) (hg : Gl X "str" := by rfl) (he : starEach [a] X.env = (false, eval a X.env) :: starEach [] X.env := by rfl) (hpl : (backTo pos (starEach [] X.env)).any (·.1) = false := by rfl) : DV X Γ ρ (.Call (.Name "str" p) [a] [] pos) (.str (toString i)) :=
  cb1 (pe_callTy call_str_int hg hm PyProof.Rows.boot_str (pa_cons ha pa_nil he) (by decide) (by decide) he hpl) fun σ G H G1 H1 v Q S s1 e1 qv k => ⟨i, by rw [qv], hi, k _ G1 H1 (Step.refl _ _) e1 rfl⟩
/-- sorted of ints: a new list -/
theorem OwnTs.ints {ns : List Int} : OwnTs G H (ns.map tI) (ns.map V.int) [] := by
  induction ns with
  | nil => exact .nil
  | cons n ns ih => exact .cons (A := []) (B := []) (.fz (.int n)) ih
theorem OwnT.intsNew {ns : List Int} {q : Addr} (h : G q = none) (h2 : H q = some (.lst (ns.map V.int))) : OwnT G H (tl tI ns) (.ref q) [q] := .cell h h2 OwnTs.ints
theorem Step.laid {q : Addr} {o : HO} (h : H q = none) : Step G H G (upd H q o) := ⟨Ex.refl _, Ex.new h, fun _ _ e _ => e⟩
theorem do_new {ns : List Int} {q : Addr} {Q : VK} (ex : Ex G H) (hq : H q = none) (H0 : Hp) (e0 : Ex H0 H) (k : ∀ w G2 H2, Step G H G2 H2 → Ex G2 H2 → pO (tl tI ns) H0 G2 H2 w → Q w H2) : Q (.ref q) (upd H q (.lst (ns.map V.int))) :=
  k (.ref q) G _ (Step.laid hq) (ex.trans (Ex.new hq)) ⟨[q], .intsNew (ex.none hq) upd_same, by simp, fun a ha => by
    rw [List.mem_singleton.mp ha]
    exact e0.none hq⟩
theorem do_sorted {ns : List Int} (ha : DE X Γ ρ a κ (dl dI ns)) (hm : X.mg "sorted" = none) (hg : Gl X "sorted" := by rfl) (he : starEach [a] X.env = (false, eval a X.env) :: starEach [] X.env := by rfl) (hpl : (backTo pos (starEach [] X.env)).any (·.1) = false := by rfl) : DO X Γ ρ (.Call (.Name "sorted" p) [a] [] pos) (tl tI (sortI ns)) :=
  cb1 (pe_callB cr_sortedI hg hm PyProof.Rows.boot_sorted (pa_cons ha pa_nil he) (by decide) (by decide) he hpl) fun σ G H G1 H1 v Q S s1 e1 q k => by
    obtain ⟨a, xs, rfl, h, r⟩ := Rep.l (pK_c S s1 e1 q)
    refine ⟨a, ns, rfl, by rw [← r.ints]; exact SqL.of h, fun ns' q pr so hq => ?_⟩
    rw [sortI_uniq pr so]
    exact do_new e1 hq H s1.h k
/-- a new list of what an elder one holds -/
theorem OwnTs.fzs : ∀ {xs : List V} {ds : List D}, Reps G xs ds → OwnTs G H (ds.map OT.fz) xs []
  | _, _, .nil => .nil
  | _, _, .cons h r => .cons (A := []) (B := []) (.fz h) (OwnTs.fzs r)
theorem newF {xs : List V} {ds : List D} {q : Addr} {Q : VK} (ex : Ex G H) (hq : H q = none) (H0 : Hp) (e0 : Ex H0 H) (r : Reps G xs ds) (k : ∀ w G2 H2, Step G H G2 H2 → Ex G2 H2 → pO (.cell (ds.map OT.fz)) H0 G2 H2 w → Q w H2) : Q (.ref q) (upd H q (.lst xs)) :=
  k (.ref q) G _ (Step.laid hq) (ex.trans (Ex.new hq)) ⟨[q], .cell (ex.none hq) upd_same (OwnTs.fzs r), by simp, fun a ha => by
    rw [List.mem_singleton.mp ha]
    exact e0.none hq⟩
theorem tF_map {xs : List α} : OT.cell ((xs.map f).map OT.fz) = tl (tF f) xs := by
  unfold tl
  rw [List.map_map]
  rfl
theorem do_list {xs : List α} (ha : DE X Γ ρ a .z (dl f xs)) (hm : X.mg "list" = none) (hg : Gl X "list" := by rfl) (he : starEach [a] X.env = (false, eval a X.env) :: starEach [] X.env := by rfl) (hpl : (backTo pos (starEach [] X.env)).any (·.1) = false := by rfl) : DO X Γ ρ (.Call (.Name "list" p) [a] [] pos) (tl (tF f) xs) :=
  cb1 (pe_callTy call_list_of hg hm PyProof.Rows.boot_list (pa_cons ha pa_nil he) (by decide) (by decide) he hpl) fun σ G H G1 H1 v Q S s1 e1 q k => by
    obtain ⟨a, vs, rfl, h, r⟩ := Rep.l q
    refine ⟨a, vs, rfl, .inl (SqL.of (e1 _ _ h)), fun q hq => ?_⟩
    exact newF e1 hq H s1.h r (by rw [tF_map]; exact k)
theorem do_listI {ns : List Int} (ha : DE X Γ ρ a κ (dl dI ns)) (hm : X.mg "list" = none) (hg : Gl X "list" := by rfl) (he : starEach [a] X.env = (false, eval a X.env) :: starEach [] X.env := by rfl) (hpl : (backTo pos (starEach [] X.env)).any (·.1) = false := by rfl) : DO X Γ ρ (.Call (.Name "list" p) [a] [] pos) (tl tI ns) :=
  cb1 (pe_callTy call_list_of hg hm PyProof.Rows.boot_list (pa_cons ha pa_nil he) (by decide) (by decide) he hpl) fun σ G H G1 H1 v Q S s1 e1 q k => by
    obtain ⟨a, vs, rfl, h, r⟩ := Rep.l (pK_c S s1 e1 q)
    have ev : vs = ns.map V.int := r.ints
    subst ev
    exact ⟨a, _, rfl, .inl (SqL.of h), fun q hq => do_new e1 hq H s1.h k⟩
/-- list(range(n)) -/
def rgI (n : Nat) : List Int := (List.range n).map fun (i : Nat) => (i : Int)
theorem do_listRg {m : Int} (xo : XO X) {p2 pos2 : Pos} (ha : DV X Γ ρ a (.int m)) (hb : -(2 ^ 62) ≤ m ∧ m ≤ 16000000) (hm : X.mg "list" = none) (hm2 : X.mg "range" = none) (hg : Gl X "list" := by rfl) (hg2 : Gl X "range" := by rfl) (he : starEach [a] X.env = (false, eval a X.env) :: starEach [] X.env := by rfl)
    (he2 : starEach [.Call (.Name "range" p2) [a] [] pos2] X.env = (false, eval (.Call (.Name "range" p2) [a] [] pos2) X.env) :: starEach [] X.env := by rfl) : DO X Γ ρ (.Call (.Name "list" p) [.Call (.Name "range" p2) [a] [] pos2] [] pos) (tl tI (rgI m.toNat)) :=
  (pe_listRg xo.calm hg hm (prg_1 hg2 hm2 ha he) he2).weak fun σ H Q ⟨G, S, k⟩ => ⟨G, S, fun v G1 H1 s1 e1 (q : v = .int m) => ⟨m, q, ⟨by omega, by omega, by omega, by omega, by omega⟩, fun q hq => by
    have e : rgV 0 m = (rgI m.toNat).map V.int := by
      unfold rgV rgI
      rw [List.map_map]
      have : (m - 0).toNat = m.toNat := by rw [Int.sub_zero]
      rw [this]
      exact List.map_congr_left fun i _ => by simp
    rw [e]
    exact do_new e1 hq H s1.h fun w G2 H2 s2 e2 p2 => k w G2 H2 (s1.trans s2) e2 p2⟩⟩
/-- tuple(a list of ints) -/
theorem de_tuple {ns : List Int} (ha : DE X Γ ρ a κ (dl dI ns)) (hm : X.mg "tuple" = none) (hg : Gl X "tuple" := by rfl) (he : starEach [a] X.env = (false, eval a X.env) :: starEach [] X.env := by rfl) : DE X Γ ρ (.Call (.Name "tuple" p) [a] [] pos) .z (.tuple (ns.map dI)) :=
  (pe_tupleOf hg hm ha he).weak fun σ H Q ⟨G, S, k⟩ => ⟨G, S, fun v G1 H1 s1 e1 q => by
    obtain ⟨a, vs, rfl, h, r⟩ := Rep.l (pK_c S s1 e1 q)
    have ev : vs = ns.map V.int := r.ints
    subst ev
    refine .inl ⟨a, _, rfl, SqL.of h, fun q hq => k (.ref q) (upd G1 q (.tup (ns.map V.int))) _ (s1.trans ⟨Ex.new (e1.none hq), Ex.new hq, fun b o g1 g2 => ?_⟩) (fun b o hb => ?_) (.tup upd_same ?_)⟩
    · by_cases z : b = q
      · rw [z, hq] at g2; cases g2
      · rw [upd_ne z]; exact g1
    · by_cases z : b = q
      · rw [z] at hb ⊢; rw [upd_same] at hb ⊢; exact hb
      · rw [upd_ne z] at hb ⊢; exact e1 _ _ hb
    · exact Reps.mono (Ex.refl _) (reps_ints ns)⟩
/-- a tuple written out, of frozen things -/
def slD : Sl → D
  | .v x => vD x
  | .sh d => d
  | _ => .none
def slFz : Sl → Bool
  | .v x => vOk x
  | .sh _ => true
  | _ => false
theorem slR_reps {K : Fg} {I : Hp} : ∀ {vs : List V} {ss : List Sl} {A : List Addr}, SlR K I G H (vs.map some) ss A → ss.all slFz = true → Reps G vs (ss.map slD)
  | [], [], _, .nil, _ => .nil
  | v :: vs, s :: ss, _, .cons h r, q => by
    rw [List.all_cons, Bool.and_eq_true] at q
    refine .cons ?_ (slR_reps r q.2)
    cases h with
    | v => exact vD_rep q.1
    | sh z => exact z
    | un => cases q.1
    | ro _ => cases q.1
    | ow _ => cases q.1
    | sc _ => cases q.1
theorem de_tup {ss : List Sl} {kk} (ha : DA X Γ ρ es ss) (hs : ss.all slFz = true := by rfl) (hl : ss.length ≤ 1000 := by simp) : DE X Γ ρ (.Tuple es kk pos) .z (.tuple (ss.map slD)) :=
  (pe_tup ha).weak fun σ H Q ⟨G, S, k⟩ => ⟨G, S, fun vs G1 H1 A s1 e1 r nd f => by
    have r' := slR_reps r hs
    refine ⟨by rw [slr_len r]; exact Nat.le_trans hl (by decide), fun q hq => k (.ref q) (upd G1 q (.tup vs)) _ (s1.trans ⟨Ex.new (e1.none hq), Ex.new hq, fun b o g1 g2 => ?_⟩) (fun b o hb => ?_) (.tup upd_same (Reps.mono (Ex.new (e1.none hq)) r'))⟩
    · by_cases z : b = q
      · rw [z, hq] at g2; cases g2
      · rw [upd_ne z]; exact g1
    · by_cases z : b = q
      · rw [z] at hb ⊢; rw [upd_same] at hb ⊢; exact hb
      · rw [upd_ne z] at hb ⊢; exact e1 _ _ hb⟩
/-- a list written out -/
def slT : Sl → OT
  | .v x => .fz (vD x)
  | .sh d => .fz d
  | .ow t => t
  | _ => .fz .none
def slOw : Sl → Bool
  | .v x => vOk x
  | .sh _ => true
  | .ow _ => true
  | _ => false
theorem slR_owns {K : Fg} {I : Hp} : ∀ {vs : List V} {ss : List Sl} {A : List Addr}, SlR K I G H (vs.map some) ss A → ss.all slOw = true → OwnTs G H (ss.map slT) vs A
  | [], [], _, .nil, _ => .nil
  | v :: vs, s :: ss, _, .cons h r, q => by
    rw [List.all_cons, Bool.and_eq_true] at q
    refine .cons ?_ (slR_owns r q.2)
    cases h with
    | v => exact .fz (vD_rep q.1)
    | sh z => exact .fz z
    | un => cases q.1
    | ro _ => cases q.1
    | ow z => exact z
    | sc _ => cases q.1
theorem do_lst {ss : List Sl} (ha : DA X Γ ρ es ss) (hs : ss.all slOw = true := by rfl) (hl : ss.length ≤ 1000 := by simp) : DO X Γ ρ (.List es pos) (.cell (ss.map slT)) :=
  (pe_lst ha).weak fun σ H Q ⟨G, S, k⟩ => ⟨G, S, fun vs G1 H1 A s1 e1 r nd f => by
    have r' := slR_owns r hs
    refine ⟨by rw [slr_len r]; exact Nat.le_trans hl (by decide), fun q hq => ?_⟩
    have qA : q ∉ A := fun z => by
      obtain ⟨_, o, ho⟩ := r'.mem q z
      rw [hq] at ho; cases ho
    exact k (.ref q) G1 _ (s1.trans (Step.laid hq)) (e1.trans (Ex.new hq)) ⟨q :: A, .cell (e1.none hq) upd_same (r'.frame (Ex.refl _) (fun _ _ g => g) fun b hb => upd_ne fun z => qA (z ▸ hb)), List.nodup_cons.mpr ⟨qA, nd⟩, fun x hx => by
      rcases List.mem_cons.mp hx with z | z
      · rw [z]; exact s1.h.none hq
      · exact f x z⟩⟩
theorem do_nil (g : α → OT) : DO X Γ ρ (.List [] pos) (tl g []) := do_lst da_nil
/-- + of lists -/
theorem do_cat {xs ys : List α} (ha : DE X Γ ρ a .z (dl f xs)) (hb : DE X Γ ρ b .z (dl f ys)) (hl : xs.length + ys.length ≤ 16000000) : DO X Γ ρ (.BinOp a .Add b pos) (tl (tF f) (xs ++ ys)) :=
  bin_weak (ta := tC .non) (tb := tC .non) (pe_op op_cat ha hb) fun σ G H G1 H1 G2 H2 v u Q S s1 e1 p1 s2 e2 p2 k => by
    obtain ⟨q1, vs, rfl, h1, r1⟩ := Rep.l (Rep.mono s2.g p1)
    obtain ⟨q2, us, rfl, h2, r2⟩ := Rep.l p2
    have l1 := r1.len
    have l2 := r2.len
    rw [List.length_map] at l1 l2
    refine ⟨q1, q2, vs, us, rfl, rfl, e2 _ _ h1, e2 _ _ h2, by rw [l1, l2]; exact Nat.le_trans hl (by decide), fun q hq => ?_⟩
    have r := r1.app r2
    rw [← List.map_append] at r
    exact newF e2 hq H (s1.trans s2).h r (by rw [tF_map]; exact k)
theorem do_catI {xs ys : List Int} (ha : DE X Γ ρ a κ (dl dI xs)) (hb : DE X Γ ρ b κ' (dl dI ys)) (hl : xs.length + ys.length ≤ 16000000) : DO X Γ ρ (.BinOp a .Add b pos) (tl tI (xs ++ ys)) :=
  bin_weak (ta := tC .non) (tb := tC .non) (pe_op op_cat ha hb) fun σ G H G1 H1 G2 H2 v u Q S s1 e1 p1 s2 e2 p2 k => by
    obtain ⟨q1, vs, rfl, h1, r1⟩ := Rep.l (Rep.mono s2.h (pK_c S s1 e1 p1))
    obtain ⟨q2, us, rfl, h2, r2⟩ := Rep.l (pK_c (S.more s1 e1) s2 e2 p2)
    have ev : vs = xs.map V.int := r1.ints
    have eu : us = ys.map V.int := r2.ints
    subst ev eu
    refine ⟨q1, q2, _, _, rfl, rfl, h1, h2, by simp only [List.length_map]; exact Nat.le_trans hl (by decide), fun q hq => ?_⟩
    rw [← List.map_append]
    exact do_new e2 hq H (s1.trans s2).h k
/-- slices -/
def tOx (Γ : Gm) (ρ : List Sl) (o : Option Int) : TO := fun σ H Q => ∃ G, Sr Γ G H σ ρ ∧ ∀ G2 H2, Step G H G2 H2 → Ex G2 H2 → Q o H2
def DOx (X : Cx) (Γ : Gm) (ρ : List Sl) (e : Option Expr) (o : Option Int) : Prop := PO X e (tOx Γ ρ o)
end
end DL

set_option Elab.async false
set_option linter.all false
set_option maxRecDepth 100000
set_option maxHeartbeats 2000000
namespace DL
open PySem L2
section
variable {X : Cx} {Γ : Gm} {ρ ρ' : List Sl} {e a b c o : Expr} {es : List Expr} {pos p p' apos cpos : Pos} {κ κ' : Kd} {d d' : D} {x y z : V} {t t' : OT} {σ : L2.St} {G H G1 H1 G2 H2 : Hp} {n : Str} {i j : Int} {α β : Type} {f : α → D} {g : α → OT} {E : En} {rest body : List Stmt}
/-! ### slices -/
theorem ox_none : DOx X Γ ρ none none := ⟨fun pins s σ H Q I ⟨G, S, k⟩ => po_none.run pins s σ H Q I (k G H (Step.refl _ _) S.sub)⟩
theorem ox_some (h : DV X Γ ρ e (.int i)) : DOx X Γ ρ (some e) (some i) := ⟨fun pins s σ H Q I ⟨G, S, k⟩ => (po_some h).run pins s σ H Q I ⟨G, S, fun v G2 H2 st ex (q : v = .int i) => ⟨i, q, k G2 H2 st ex⟩⟩⟩
variable {lo hi : Option Expr} {l u : Option Int} {p2 : Pos}
theorem cut_pySl (xs : List V) (l u : Option Int) : cutV xs l u = pySl xs l u := rfl
theorem Reps.sl {xs : List V} {ds : List D} (r : Reps H xs ds) : Reps H (pySl xs l u) (pySl ds l u) := by
  unfold pySl
  rw [r.len]
  exact (r.drop _).take _
theorem slW {r : V → Option Int → Option Int → Hp → VK → Prop} {PA P : Hp → Hp → Hp → V → Prop} (h : PE X e (tSl r (tX Γ ρ PA) (tOx Γ ρ l) (tOx Γ ρ u)))
    (w : ∀ (σ : L2.St) (G H G1 H1 G2 H2 : Hp) (v : V) (Q : VK), Sr Γ G H σ ρ → Step G H G1 H1 → Ex G1 H1 → PA H G1 H1 v → Step G1 H1 G2 H2 → Ex G2 H2 → (∀ w G3 H3, Step G2 H2 G3 H3 → Ex G3 H3 → P H G3 H3 w → Q w H3) → r v l u H2 Q) : PE X e (tX Γ ρ P) :=
  h.weak fun σ H Q ⟨G, S, k⟩ => ⟨G, S, fun v G1 H1 s1 e1 p1 => ⟨G1, S.more s1 e1, fun G2 H2 s2 e2 => ⟨G2, (S.more s1 e1).more s2 e2, fun G3 H3 s3 e3 =>
    w σ G H G1 H1 G3 H3 v Q S s1 e1 p1 (s2.trans s3) e3 fun z G4 H4 s4 e4 p4 => k z G4 H4 (((s1.trans s2).trans s3).trans s4) e4 p4⟩⟩⟩
theorem do_sl {xs : List α} (ha : DE X Γ ρ a .z (dl f xs)) (hl : DOx X Γ ρ lo l) (hu : DOx X Γ ρ hi u) : DO X Γ ρ (.Subscript a (.Slice lo hi none p2) pos) (tl (tF f) (pySl xs l u)) :=
  slW (pe_slice sl_list ha hl hu) fun σ G H G1 H1 G2 H2 v Q S s1 e1 p1 s2 e2 k => by
    obtain ⟨q1, vs, rfl, h1, r1⟩ := Rep.l (Rep.mono s2.g p1)
    refine ⟨q1, vs, rfl, SqL.of (e2 _ _ h1), fun q hq => ?_⟩
    have r : Reps G2 (pySl vs l u) ((pySl xs l u).map f) := by rw [← pySl_map]; exact r1.sl
    exact newF e2 hq H (s1.trans s2).h r (by rw [tF_map]; exact k)
theorem do_slI {ns : List Int} (ha : DE X Γ ρ a κ (dl dI ns)) (hl : DOx X Γ ρ lo l) (hu : DOx X Γ ρ hi u) : DO X Γ ρ (.Subscript a (.Slice lo hi none p2) pos) (tl tI (pySl ns l u)) :=
  slW (pe_slice sl_list ha hl hu) fun σ G H G1 H1 G2 H2 v Q S s1 e1 p1 s2 e2 k => by
    obtain ⟨q1, vs, rfl, h1, r1⟩ := Rep.l (Rep.mono s2.h (pK_c S s1 e1 p1))
    have ev : vs = ns.map V.int := r1.ints
    subst ev
    refine ⟨q1, _, rfl, SqL.of h1, fun q hq => ?_⟩
    rw [cut_pySl, pySl_map]
    exact do_new e2 hq H (s1.trans s2).h k
theorem do_slS {ns : List Int} (hK : Γ.K = X.K) (ha : DS_ X Γ ρ a ns) (hl : DOx X Γ ρ lo l) (hu : DOx X Γ ρ hi u) : DO X Γ ρ (.Subscript a (.Slice lo hi none p2) pos) (tl tI (pySl ns l u)) :=
  slW (pe_slice sl_list ha hl hu) fun σ G H G1 H1 G2 H2 v Q S s1 e1 ⟨q1, ev, h1⟩ s2 e2 k => by
    rw [hK] at h1
    refine ⟨q1, _, ev, ex_l s2.h h1, fun q hq => ?_⟩
    rw [cut_pySl, pySl_map]
    exact do_new e2 hq H (s1.trans s2).h k

/-! ### comprehensions -/
structure WalkL (Γ : Gm) (J : It) (xs : List α) (s : α → Sl) : Prop where
  go : ∀ i G H, Ex Γ.G G → Ex G H → Ex Γ.H H → i < xs.length → J.go i H
  yld : ∀ i a G H x H', xs[i]? = some a → Ex Γ.G G → Ex G H → Ex Γ.H H → J.yld i H x H' → ∃ G', Step G H G' H' ∧ Ex G' H' ∧ SlS Γ.K Γ.H G' H' (some x) (s a) []
  stop : ∀ i G H, Ex Γ.G G → Ex G H → Ex Γ.H H → xs.length ≤ i → J.stop i H
def tIc (Γ : Gm) (ρ : List Sl) (xs : List α) (s : α → Sl) : TI := fun σ H R => ∃ G, Sr Γ G H σ ρ ∧ ∀ J G1 H1, Step G H G1 H1 → Ex G1 H1 → WalkL ⟨Γ.K, G1, H1⟩ J xs s → R J H1
def DIc (X : Cx) (Γ : Gm) (ρ : List Sl) (tg e : Expr) (xs : List α) (s : α → Sl) : Prop := PI X tg e (tIc Γ ρ xs s)
variable {tg : Expr}
theorem map_at' {f : α → β} {xs : List α} {i : Nat} {a : α} {b : β} (h : xs[i]? = some a) (hb : (xs.map f)[i]? = some b) : b = f a := by
  rw [List.getElem?_map, h] at hb
  exact (Option.some.inj hb).symm
theorem ic_z {xs : List α} (s : α → Sl) (h : DE X Γ ρ e .z (dl f xs)) (hs : ∀ a, SubSl (f a) (s a)) : DIc X Γ ρ tg e xs s :=
  (pi_list h).weak fun σ H R ⟨G, S, k⟩ => ⟨G, S, fun v G1 H1 s1 e1 q => by
    obtain ⟨a, vs, rfl, hl, r⟩ := Rep.l q
    have ln := r.len
    rw [List.length_map] at ln
    refine ⟨a, rfl, ⟨vs, SqL.of (e1 _ _ hl)⟩, k _ G1 H1 s1 e1 ⟨fun i G' H' g1 g2 _ hi => ?_, fun i a' G' H' x H'' hx g1 g2 _ hy => ?_, fun i G' H' g1 g2 _ hi => ⟨vs, SqL.of (g2 _ _ (g1 _ _ hl)), by omega⟩⟩⟩
    · exact ⟨vs, vs[i], SqL.of (g2 _ _ (g1 _ _ hl)), List.getElem?_eq_getElem (by omega)⟩
    · obtain ⟨rfl, hv⟩ := hy
      obtain ⟨d, h1, h2⟩ := (Reps.mono g1 r).getV (hv vs (SqL.of (g2 _ _ (g1 _ _ hl))))
      rw [map_at' hx h1] at h2
      exact ⟨G', Step.refl _ _, g2, (hs a').sl h2⟩⟩
theorem ic_c {xs : List α} (s : α → Sl) (h : DE X Γ ρ e κ (dl f xs)) (hs : ∀ a, SubRo (f a) (s a)) : DIc X Γ ρ tg e xs s :=
  (pi_list h).weak fun σ H R ⟨G, S, k⟩ => ⟨G, S, fun v G1 H1 s1 e1 q => by
    obtain ⟨a, vs, rfl, hl, r⟩ := Rep.l (pK_c S s1 e1 q)
    have ln := r.len
    rw [List.length_map] at ln
    refine ⟨a, rfl, ⟨vs, SqL.of hl⟩, k _ G1 H1 s1 e1 ⟨fun i G' H' g1 g2 g3 hi => ?_, fun i a' G' H' x H'' hx g1 g2 g3 hy => ?_, fun i G' H' g1 g2 g3 hi => ⟨vs, SqL.of (g3 _ _ hl), by omega⟩⟩⟩
    · exact ⟨vs, vs[i], SqL.of (g3 _ _ hl), List.getElem?_eq_getElem (by omega)⟩
    · obtain ⟨rfl, hv⟩ := hy
      obtain ⟨d, h1, h2⟩ := r.getV (hv vs (SqL.of (g3 _ _ hl)))
      rw [map_at' hx h1] at h2
      exact ⟨G', Step.refl _ _, g2, (hs a').sl h2⟩⟩
theorem ic_range {m : Int} (ha : DV X Γ ρ a (.int m)) (hb : -(2 ^ 62) ≤ m ∧ m < 2 ^ 62) (hm : X.mg "range" = none) (hg : Gl X "range" := by rfl) (hs1 : starEach [a] X.env = (false, eval a X.env) :: starEach [] X.env := by rfl) (hs : starEach [a] X.env = [(false, eval a X.env)] := by rfl) :
    DIc X Γ ρ tg (.Call (.Name "range" p) [a] [] pos) (List.range m.toNat) (fun i => .v (.int (i : Int))) :=
  (pi_range1 hg hm (pa_cons ha pa_nil hs1) hs).weak fun σ H R ⟨G, S, k⟩ => ⟨G, S, fun v G1 H1 s1 e1 (q : v = .int m) => by
    rw [q]
    exact ⟨m, rfl, hb.1, hb.2, k _ G1 H1 s1 e1 ⟨fun i _ _ _ _ _ h => by rwa [List.length_range] at h, fun i a' G' H' x H'' hx g1 g2 _ hy => by
      obtain ⟨rfl, rfl⟩ := hy
      have : a' = i := by
        obtain ⟨h1, h2⟩ := List.getElem?_eq_some_iff.mp hx
        rw [List.getElem_range] at h2
        exact h2.symm
      subst this
      refine ⟨G', Step.refl _ _, g2, ?_⟩
      show SlS _ _ _ _ (some (V.int (0 + (a' : Int)))) _ _
      rw [Int.zero_add]
      exact .v, fun i _ _ _ _ _ h => by rwa [List.length_range] at h⟩⟩⟩
/-- what a name holds, seen from within a block -/
def deo : Sl → Sl
  | .ow t => .ro t.er
  | s => s
def wipeS (ρ : List Sl) : List Nat → List Sl
  | [] => ρ
  | v :: vs => (wipeS ρ vs).set v .un
theorem SlS.deo {K : Fg} {I : Hp} {o s A} (ex : Ex G H) (ei : Ex I H) (h : SlS K I G H o s A) : SlS K H G H o (DL.deo s) [] := by
  cases h with
  | un => exact .un
  | v => exact .v
  | sh r => exact .sh r
  | ro r => exact .ro (r.mono ei)
  | ow q => exact .ro (q.rep ex)
  | sc q => exact .sc (ex_l ei q)
theorem SlR.deo {K : Fg} {I : Hp} (ex : Ex G H) (ei : Ex I H) : ∀ {σ ρ A}, SlR K I G H σ ρ A → SlR K H G H σ (ρ.map DL.deo) []
  | _, _, _, .nil => .nil
  | _, _, _, .cons h r => .cons (A := []) (B := []) (h.deo ex ei) (SlR.deo ex ei r)
theorem SlR.setN {K : Fg} {I : Hp} : ∀ {σ ρ} {k : Nat} {o : Option V} {s : Sl}, SlR K I G H σ ρ [] → SlS K I G H o s [] → SlR K I G H (σ.set k o) (ρ.set k s) []
  | _, _, k, o, s, r, h => by
    by_cases hk : k < ‹List Sl›.length
    · obtain ⟨s0, e0⟩ := r.nth hk
      obtain ⟨o0, A1, B, A2, h1, h2, h3, h4⟩ := r.focus e0
      have z : A1 = [] ∧ B = [] ∧ A2 = [] := by
        have := congrArg List.length h3
        simp only [List.length_nil, List.length_append] at this
        exact ⟨List.eq_nil_of_length_eq_zero (by omega), List.eq_nil_of_length_eq_zero (by omega), List.eq_nil_of_length_eq_zero (by omega)⟩
      obtain ⟨rfl, rfl, rfl⟩ := z
      exact h4 G H o s [] (Ex.refl _) (fun _ _ g => g) (fun _ _ => rfl) h
    · rw [List.set_eq_of_length_le (by rw [r.len]; omega), List.set_eq_of_length_le (by omega)]
      exact r
theorem SlR.wipe {K : Fg} {I : Hp} {σ ρ} (r : SlR K I G H σ ρ []) : ∀ vs : List Nat, SlR K I G H (wipe σ vs) (wipeS ρ vs) []
  | [] => r
  | v :: vs => by
    unfold L2.wipe wipeS
    exact (SlR.wipe r vs).setN .un
theorem wipe_get : ∀ (vs : List Nat) (σ : L2.St) (i : Nat), (wipe σ vs)[i]? = if i ∈ vs then σ[i]?.map (fun _ => none) else σ[i]?
  | [], σ, i => by simp [wipe]
  | v :: vs, σ, i => by
    unfold wipe
    by_cases h : v = i
    · subst h
      rw [if_pos List.mem_cons_self]
      by_cases hv : v < (wipe σ vs).length
      · rw [List.getElem?_set_self hv]
        rw [wipe_length] at hv
        rw [List.getElem?_eq_getElem hv]
        rfl
      · rw [wipe_length] at hv
        rw [List.getElem?_eq_none (by rw [List.length_set, wipe_length]; omega), List.getElem?_eq_none (by omega)]
        rfl
    · rw [List.getElem?_set_ne h, wipe_get vs σ i]
      by_cases q : i ∈ vs
      · rw [if_pos q, if_pos (List.mem_cons_of_mem _ q)]
      · rw [if_neg q, if_neg (fun z => by rcases List.mem_cons.mp z with z | z; exact h z.symm; exact q z)]
theorem wipe_set {vs : List Nat} {σ : L2.St} {j : Nat} {x : Option V} (h : j ∈ vs) : wipe (σ.set j x) vs = wipe σ vs := by
  refine List.ext_getElem? fun i => ?_
  rw [wipe_get, wipe_get]
  by_cases q : i ∈ vs
  · rw [if_pos q, if_pos q]
    by_cases e : j = i
    · subst e
      by_cases hj : j < σ.length
      · rw [List.getElem?_set_self hj, List.getElem?_eq_getElem hj]; rfl
      · rw [List.getElem?_eq_none (by rw [List.length_set]; omega), List.getElem?_eq_none (by omega)]
    · rw [List.getElem?_set_ne e]
  · rw [if_neg q, if_neg q, List.getElem?_set_ne (fun e => by subst e; exact q h)]
theorem wipe_wipe {vs : List Nat} {σ : L2.St} : wipe (wipe σ vs) vs = wipe σ vs := by
  refine List.ext_getElem? fun i => ?_
  rw [wipe_get, wipe_get]
  by_cases q : i ∈ vs
  · rw [if_pos q, if_pos q]
    cases σ[i]? <;> rfl
  · rw [if_neg q, if_neg q]
/-- where a block's target puts the item -/
def TgW (gg : TG) (K : Fg) (js : List Nat) (si : Sl) (h : List Sl → List Sl) : Prop := ∀ (I G H : Hp) (σ : L2.St) (ρ : List Sl) (v : V) (Q : L2.St → Hp → Prop), Ex G H → Ex I H → SlR K I G H σ ρ [] → SlS K I G H (some v) si [] →
  (∀ σ', SlR K I G H σ' (h ρ) [] → (∀ vs : List Nat, (∀ j ∈ js, j ∈ vs) → wipe σ' vs = wipe σ vs) → Q σ' H) → gg v σ H Q
theorem tgw_name (K : Fg) (j : Nat) (s : Sl) : TgW (gName j) K [j] s (fun ρ => ρ.set j s) := fun I G H σ ρ v Q ex ei r hs k => k _ (r.setN hs) fun vs hv => wipe_set (hv j (by simp))
theorem tgw_pair (K : Fg) (j1 j2 : Nat) {d1 d2' : D} {s1 s2 : Sl} (q1 : SubSl d1 s1) (q2 : SubSl d2' s2) : TgW (gTup K 2 (gCons (gName j1) (gCons (gName j2) gNil))) K [j1, j2] (.sh (.tuple [d1, d2'])) (fun ρ => (ρ.set j1 s1).set j2 s2) := fun I G H σ ρ v Q ex ei r hs k => by
  cases hs with
  | sh z =>
    cases z with
    | @tup a xs _ ht rr =>
      cases rr with
      | cons r1 rr =>
        cases rr with
        | cons r2 rr =>
          cases rr
          exact ⟨a, _, rfl, SqT.of (ex _ _ ht), rfl, _, _, rfl, _, _, rfl, rfl, k _ ((r.setN (q1.sl r1)).setN (q2.sl r2)) fun vs hv => by rw [wipe_set (hv j2 (by simp)), wipe_set (hv j1 (by simp))]⟩
theorem tgw_pairR (K : Fg) (j1 j2 : Nat) {d1 d2' : D} {s1 s2 : Sl} (q1 : SubRo d1 s1) (q2 : SubRo d2' s2) : TgW (gTup K 2 (gCons (gName j1) (gCons (gName j2) gNil))) K [j1, j2] (.ro (.tuple [d1, d2'])) (fun ρ => (ρ.set j1 s1).set j2 s2) := fun I G H σ ρ v Q ex ei r hs k => by
  cases hs with
  | ro z =>
    cases z with
    | @tup a xs _ ht rr =>
      cases rr with
      | cons r1 rr =>
        cases rr with
        | cons r2 rr =>
          cases rr
          exact ⟨a, _, rfl, SqT.of (ei _ _ ht), rfl, _, _, rfl, _, _, rfl, rfl, k _ ((r.setN (q1.sl r1)).setN (q2.sl r2)) fun vs hv => by rw [wipe_set (hv j2 (by simp)), wipe_set (hv j1 (by simp))]⟩
def uT (Γ : Gm) (xs : List α) (ρw : α → List Sl) (f : α → Bool) : TT := fun σ H Q => ∃ (Γ' : Gm) (a : α), Γ'.K = Γ.K ∧ a ∈ xs ∧ tT Γ' (ρw a) (f a) σ H Q
def uE (Γ : Gm) (xs : List α) (ρw : α → List Sl) (f : α → Bool) (q : α → OT) : TE := fun σ H Q => ∃ (Γ' : Gm) (a : α), Γ'.K = Γ.K ∧ a ∈ xs ∧ f a = true ∧ tX Γ' (ρw a) (pO (q a)) σ H Q
theorem lc_red {xs : List α} {s : α → Sl} {f : α → Bool} {q : α → OT} {gg : TG} {vs js : List Nat} {h : α → List Sl → List Sl} (hg : ∀ a ∈ xs, TgW gg Γ.K js (s a) (h a)) (hj : ∀ j ∈ js, j ∈ vs) (hl : xs.length ≤ 16000000) {Q : VK}
    (hq : tX Γ ρ (pO (tl q (xs.filter f))) σ H Q) : tLc (tIc Γ ρ xs s) gg (uT Γ xs (fun a => h a (wipeS (ρ.map deo) vs)) f) (uE Γ xs (fun a => h a (wipeS (ρ.map deo) vs)) f q) vs σ H Q := by
  obtain ⟨G, S, k⟩ := hq
  refine ⟨G, S, fun J G1 H1 s1 e1 W D hD => ?_⟩
  have S1 := S.more s1 e1
  obtain ⟨A1, SA1⟩ := S1.ad
  have r0 := (SA1.sl.deo e1 SA1.step.h).wipe vs
  have sz : 16000000 < sizeLine := by decide
  -- the word between the turns
  refine ⟨fun i m H' => m = xs.length - i ∧ i ≤ xs.length ∧ ∃ G' acc B, Step G1 H1 G' H' ∧ Ex G' H' ∧ SlR Γ.K H1 G' H' (wipe σ vs) (wipeS (ρ.map deo) vs) [] ∧ H' D = some (.lst acc) ∧ G' D = none ∧
    OwnTs G' H' (((xs.take i).filter f).map q) acc B ∧ B.Nodup ∧ D ∉ B ∧ (∀ b ∈ B, H1 b = none) ∧ acc.length ≤ i, ⟨xs.length, by simp, Nat.zero_le _, G1, [], [], Step.laid hD, e1.trans (Ex.new hD), ?_, upd_same, e1.none hD, by simpa using OwnTs.nil, List.nodup_nil, by simp, by simp, Nat.le_refl _⟩, ?_⟩
  · exact r0.more (Step.laid hD)
  rintro i m H' ⟨rfl, him, G', acc, B, st, ex, rr, hDl, gD, ow, nd, nDB, fB, al⟩
  by_cases hlt : i < xs.length
  · obtain ⟨a, ha⟩ : ∃ a, xs[i]? = some a := ⟨xs[i], List.getElem?_eq_getElem hlt⟩
    have ham : a ∈ xs := List.mem_of_getElem? ha
    have tk : xs.take (i + 1) = xs.take i ++ [a] := by rw [List.take_add_one, ha]; rfl
    refine .inr ⟨W.go i G' H' st.g ex st.h hlt, fun H2 => ∃ G2 acc B, Step G1 H1 G2 H2 ∧ Ex G2 H2 ∧ SlR Γ.K H1 G2 H2 (wipe σ vs) (wipeS (ρ.map deo) vs) [] ∧ H2 D = some (.lst acc) ∧ G2 D = none ∧
      OwnTs G2 H2 (((xs.take (i + 1)).filter f).map q) acc B ∧ B.Nodup ∧ D ∉ B ∧ (∀ b ∈ B, H1 b = none) ∧ acc.length ≤ i + 1, fun H2 z => ⟨xs.length - (i + 1), by omega, rfl, hlt, z⟩, fun x H2 hy => ?_⟩
    obtain ⟨G2, s2, e2, sl⟩ := W.yld i a G' H' x H2 ha st.g ex st.h hy
    refine hg a ham H1 G2 H2 (wipe σ vs) _ x _ e2 (st.trans s2).h (rr.more s2) sl fun σ' r' hw => ?_
    refine ⟨by rw [hw vs hj, wipe_wipe], ?_⟩
    have Sin : Sr ⟨Γ.K, G1, H1⟩ G2 H2 σ' (h a (wipeS (ρ.map deo) vs)) := ⟨st.trans s2, e2, [], r', List.nodup_nil, fun _ z => by cases z⟩
    refine ⟨⟨Γ.K, G1, H1⟩, a, rfl, ham, G2, Sin, fun G3 H3 s3 e3 => ?_⟩
    cases hf : f a with
    | false =>
      refine iteF ⟨G3, acc, B, (st.trans s2).trans s3, e3, (rr.more s2).more s3, s3.h _ _ (s2.h _ _ hDl), ?_, ?_, nd, nDB, fB, by omega⟩
      · exact s3.f _ _ (s2.f _ _ gD hDl) (s2.h _ _ hDl)
      · rw [tk, List.filter_append, List.map_append]
        simp only [List.filter_cons, hf, List.filter_nil, Bool.false_eq_true, if_false, List.map_nil, List.append_nil]
        exact (ow.more s2).more s3
    | true =>
      refine iteT ⟨⟨Γ.K, G1, H1⟩, a, rfl, ham, hf, G3, Sin.more s3 e3, fun y G4 H4 s4 e4 ⟨C, oc, ndC, fC⟩ => ?_⟩
      have s24 := (s2.trans s3).trans s4
      have hD4 := s24.h _ _ hDl
      have gD4 : G4 D = none := s24.f _ _ gD hDl
      have ow4 := ow.more s24
      have BC : ∀ b ∈ B, b ∉ C := fun b hb hc => by
        obtain ⟨_, o, ho⟩ := (ow.more (s2.trans s3)).mem b hb
        rw [fC b hc] at ho; cases ho
      have DC : D ∉ C := fun hc => by
        have := (s2.trans s3).h _ _ hDl
        rw [fC D hc] at this; cases this
      refine ⟨acc, hD4, by omega, G4, acc ++ [y], B ++ C, ?_, e4.mut gD4, ?_, upd_same, gD4, ?_, ?_, ?_, ?_, by simp; omega⟩
      · exact ⟨(st.trans s24).g, (st.trans s24).h.mut hD, (st.trans s24).f⟩
      · exact (rr.more s24).frame (Ex.refl _) (fun _ _ g => g) (fun _ z => by cases z)
      · rw [tk, List.filter_append, List.map_append]
        simp only [List.filter_cons, hf, List.filter_nil, if_true, List.map_cons, List.map_nil]
        refine OwnTs.frame (Ex.refl _) (fun _ _ g => g) (fun b hb => upd_ne fun z => ?_) (ow4.app (OwnTs.one oc))
        subst z
        rcases List.mem_append.mp hb with z | z
        · exact nDB z
        · exact DC z
      · exact List.nodup_append.mpr ⟨nd, ndC, fun x hx y hy z => BC x hx (z ▸ hy)⟩
      · intro z
        rcases List.mem_append.mp z with z | z
        · exact nDB z
        · exact DC z
      · intro b hb
        rcases List.mem_append.mp hb with z | z
        · exact fB b z
        · exact (st.trans (s2.trans s3)).h.none (fC b z)
  · have e : i = xs.length := by omega
    subst e
    rw [List.take_length] at ow
    refine .inl ⟨W.stop _ G' H' st.g ex st.h (Nat.le_refl _), k (.ref D) G' H' (s1.trans st) ex ⟨D :: B, .cell gD hDl ow, List.nodup_cons.mpr ⟨nDB, nd⟩, fun b hb => ?_⟩⟩
    rcases List.mem_cons.mp hb with z | z
    · rw [z]; exact s1.h.none hD
    · exact s1.h.none (fB b z)
/-- the tests of a clause -/
def DTs (X : Cx) (Γ : Gm) (ρ : List Sl) (ifs : List Expr) (b : Bool) : Prop := PTs X ifs (tT Γ ρ b)
theorem dts_nil : DTs X Γ ρ [] true := ⟨fun pins s σ H Q I ⟨G, S, k⟩ => pts_nil.run pins s σ H Q I (k G H (Step.refl _ _) S.sub)⟩
theorem dts_one {q : Bool} (h : DT X Γ ρ c q) : DTs X Γ ρ [c] q := pts_one h
variable {elt iter : Expr} {ifs : List Expr} {scope : Scope} {own : List (Str × Nat)} {xs : List α} {s : α → Sl} {ft : α → Bool} {q : α → OT} {gg : TG} {js : List Nat} {h : α → List Sl → List Sl}
theorem do_lc (xo : XO X) (own : List (Str × Nat)) (hi : DIc X Γ ρ tg iter xs s) (ok : BlkOk X.N X.env.scope scope own) (hgg : ∀ (s : Shared) (H : Hp) (C : Addr) (cl : List (Str × Addr)) (fp : List Addr), PG (X.blk s H scope (compEnvC scope cl C X.env) fp) tg gg)
    (hg : ∀ a ∈ xs, TgW gg Γ.K js (s a) (h a)) (hj : ∀ j ∈ js, j ∈ own.map (·.2))
    (ht : ∀ (Γ' : Gm), Γ'.K = Γ.K → ∀ a ∈ xs, ∀ (s : Shared) (H : Hp) (C : Addr) (cl : List (Str × Addr)) (fp : List Addr), XO (X.blk s H scope (compEnvC scope cl C X.env) fp) → DTs (X.blk s H scope (compEnvC scope cl C X.env) fp) Γ' (h a (wipeS (ρ.map deo) (own.map (·.2)))) ifs (ft a))
    (he : ∀ (Γ' : Gm), Γ'.K = Γ.K → ∀ a ∈ xs, ft a = true → ∀ (s : Shared) (H : Hp) (C : Addr) (cl : List (Str × Addr)) (fp : List Addr), XO (X.blk s H scope (compEnvC scope cl C X.env) fp) → DO (X.blk s H scope (compEnvC scope cl C X.env) fp) Γ' (h a (wipeS (ρ.map deo) (own.map (·.2)))) elt (q a))
    (hl : xs.length ≤ 16000000) (hs : ∀ x, foldedSetIterable iter X.env x = pure x := by intro _; rfl) : DO X Γ ρ (.ListComp elt [⟨tg, iter, ifs, 0⟩] scope pos) (tl q (xs.filter ft)) := by
  have xb : ∀ (s : Shared) (H : Hp) (C : Addr) (cl : List (Str × Addr)) (fp : List Addr), XO (X.blk s H scope (compEnvC scope cl C X.env) fp) := fun _ _ _ _ _ => ⟨xo.calm, xo.nd, xo.hu⟩
  exact (pe_lc xo.calm xo.nd hi ok hgg (fun s H C cl fp => ⟨fun pins s' σ H' Q I ⟨Γ', a, k1, k2, z⟩ => (ht Γ' k1 a k2 s H C cl fp (xb _ _ _ _ _)).run pins s' σ H' Q I z⟩) (fun s H C cl fp => ⟨fun pins s' σ H' Q I ⟨Γ', a, k1, k2, k3, z⟩ => (he Γ' k1 a k2 k3 s H C cl fp (xb _ _ _ _ _)).run pins s' σ H' Q I z⟩) hs).weak fun σ H Q z => lc_red hg hj hl z
/-- name = [..] -/
theorem ss_lc (i : Nat) {y : Str} {py spos : Pos} (xo : XO X) (own : List (Str × Nat)) (hi : DIc X Γ ρ tg iter xs s) (ok : BlkOk X.N X.env.scope scope own) (hgg : ∀ (s : Shared) (H : Hp) (C : Addr) (cl : List (Str × Addr)) (fp : List Addr), PG (X.blk s H scope (compEnvC scope cl C X.env) fp) tg gg)
    (hg : ∀ a ∈ xs, TgW gg Γ.K js (s a) (h a)) (hj : ∀ j ∈ js, j ∈ own.map (·.2))
    (ht : ∀ (Γ' : Gm), Γ'.K = Γ.K → ∀ a ∈ xs, ∀ (s : Shared) (H : Hp) (C : Addr) (cl : List (Str × Addr)) (fp : List Addr), XO (X.blk s H scope (compEnvC scope cl C X.env) fp) → DTs (X.blk s H scope (compEnvC scope cl C X.env) fp) Γ' (h a (wipeS (ρ.map deo) (own.map (·.2)))) ifs (ft a))
    (he : ∀ (Γ' : Gm), Γ'.K = Γ.K → ∀ a ∈ xs, ft a = true → ∀ (s : Shared) (H : Hp) (C : Addr) (cl : List (Str × Addr)) (fp : List Addr), XO (X.blk s H scope (compEnvC scope cl C X.env) fp) → DO (X.blk s H scope (compEnvC scope cl C X.env) fp) Γ' (h a (wipeS (ρ.map deo) (own.map (·.2)))) elt (q a))
    (hl : xs.length ≤ 16000000) (hr : SS X Γ (ρ.set i (.ow (tl q (xs.filter ft)))) rest E) (hy : X.N[i]? = some y := by rfl) (hyl : X.env.scope.names.lookup y = some .local := by rfl)
    (hsw : swapsWith (.ListComp elt [⟨tg, iter, ifs, 0⟩] scope pos) (some (.Name y py)) spos.line X.env = pure true := by exact sw_true rfl rfl rfl (by decide +kernel)) (hs : ∀ x, foldedSetIterable iter X.env x = pure x := by intro _; rfl) :
    SS X Γ ρ (.Assign [.Name y py] (.ListComp elt [⟨tg, iter, ifs, 0⟩] scope pos) spos :: rest) E := by
  have xb : ∀ (s : Shared) (H : Hp) (C : Addr) (cl : List (Str × Addr)) (fp : List Addr), XO (X.blk s H scope (compEnvC scope cl C X.env) fp) := fun _ _ _ _ _ => ⟨xo.calm, xo.nd, xo.hu⟩
  refine ss_cons (M := fun ρ' => ρ' = ρ.set i (.ow (tl q (xs.filter ft)))) ((ps_setLc (tt := uT Γ xs (fun a => h a (wipeS (ρ.map deo) (own.map (·.2)))) ft) (te := uE Γ xs (fun a => h a (wipeS (ρ.map deo) (own.map (·.2)))) ft q) xo.calm xo.nd hy hyl hsw hi ok hgg (fun s H C cl fp => ⟨fun pins s' σ H' Q I ⟨Γ', a, k1, k2, z⟩ => (ht Γ' k1 a k2 s H C cl fp (xb _ _ _ _ _)).run pins s' σ H' Q I z⟩) (fun s H C cl fp => ⟨fun pins s' σ H' Q I ⟨Γ', a, k1, k2, k3, z⟩ => (he Γ' k1 a k2 k3 s H C cl fp (xb _ _ _ _ _)).run pins s' σ H' Q I z⟩) hs).weak fun D σ H ⟨G, S, k⟩ => ?_) fun ρ' e => e ▸ hr
  exact lc_red hg hj hl ⟨G, S, fun v G2 H2 st ex ⟨A, o, nd, f⟩ => k.nx _ _ G2 H2 rfl (S.store st ex (.ow o) nd f) st.g⟩
end
end DL

set_option Elab.async false
set_option linter.all false
set_option maxRecDepth 100000
set_option maxHeartbeats 2000000
namespace DL
open PySem L2

/-! ### len(set(..)) of ints -/
def ddup (ns : List Int) : List Int := PyProof.Rows.firstMet (fun i => ns.getD i 0) ns.length
def tLenSetG (K : Fg) (ta : TE) : TE := fun σ H Q => ta σ H fun x H1 => ∃ (l : Addr) (ns : List Int), x = .ref l ∧ SqL K H1 l (ns.map V.int) ∧ ns.length ≤ 4000 ∧ Q (.int ((ddup ns).length : Nat)) H1
theorem pe_lenSetG {X : Cx} {a : Expr} {ta : TE} {p p2 q pos : Pos} (hg : Gl X "len") (hm : X.mg "len" = none) (hg2 : Gl X "set") (hm2 : X.mg "set" = none) (ha : PE X a ta) (hc : X.calm = true)
    (na : starEach [a] X.env = (false, eval a X.env) :: starEach [] X.env) : PE X (.Call (.Name "len" p) [.Call (.Name "set" p2) [a] [] q] [] pos) (tLenSetG X.K ta) := by
  refine ⟨fun pins s σ H Q I h => ?_⟩
  refine PyProof.Rows.Call_ (ld_blt I hg hm boot_len ?_)
  refine PyProof.Rows.callWith_builtin1 (PyProof.Rows.args_cons ?_ rfl) rfl rfl
  refine PyProof.Rows.Call_ (ld_blt I hg2 hm2 PyProof.Rows.boot_set ?_)
  refine PyProof.Rows.callWith_type1 (PyProof.Rows.args_cons (thn (ha.run pins s σ H _ I h) fun v s1 ⟨x, H1, I1, r1, q1⟩ => PyProof.Rows.args_nil ?_) na) na rfl
  obtain ⟨l, ns, rfl, hq, hl, q1⟩ := q1
  cases r1
  obtain ⟨its, r, pl, hz⟩ := I1.list hq
  have hlen : its.toArray.size = ns.length := by rw [List.size_toArray, ← r.length, List.length_map]
  refine call_set_list (I1.ok.hd hc) pl.isList (by simpa using RZ.intsAre_vals r) (by rw [hlen]; unfold scanBound; omega) fun h' tk hS hk => ?_
  refine PyProof.Rows.args_nil ?_
  rw [hlen] at hS
  have hle : (PyProof.Rows.firstMet (fun i => ns.getD i 0) ns.length).length ≤ ns.length := PyProof.Rows.firstMet_length_le _ _
  obtain ⟨o, es, ep, t, ho, hex, hd, _, _, _, hf, hn⟩ := hS
  have I2 : Inv X pins σ H1 { s1 with heap := h', toks := tk } := I1.kept fun b o e => hk b o (Heap.lt_size e) e
  exact call_len_set ho hex hd hf (by rw [hn] <;> omega) ⟨.int ((ddup ns).length : Nat), H1, I2.tok _, ⟨_, by rw [hn] <;> rfl⟩, q1⟩
theorem ddup_sub (ns : List Int) : ∀ k, k ≤ ns.length → (PyProof.Rows.firstMet (fun i => ns.getD i 0) k).Nodup ∧ ∀ x, x ∈ PyProof.Rows.firstMet (fun i => ns.getD i 0) k ↔ x ∈ ns.take k
  | 0, _ => by simp [PyProof.Rows.firstMet_zero]
  | k + 1, hk => by
    obtain ⟨h1, h2⟩ := ddup_sub ns k (by omega)
    have e : ns.getD k 0 = ns[k] := by simp [List.getD_eq_getElem?_getD, List.getElem?_eq_getElem (show k < ns.length by omega)]
    have tk : ns.take (k + 1) = ns.take k ++ [ns[k]] := by rw [List.take_add_one, List.getElem?_eq_getElem (by omega)]; rfl
    rw [PyProof.Rows.firstMet_succ]
    unfold PyProof.Rows.step_dedup
    rw [tk, e]
    split
    · rename_i hb
      obtain ⟨y, hy, ey⟩ := List.any_eq_true.mp hb
      have ey : y = ns[k] := eq_of_beq ey
      subst ey
      refine ⟨h1, fun x => ?_⟩
      rw [h2, List.mem_append, List.mem_singleton]
      refine ⟨.inl, fun z => z.elim id fun z => ?_⟩
      rw [z]
      exact (h2 _).mp hy
    · rename_i hb
      have nin : ns[k] ∉ PyProof.Rows.firstMet (fun i => ns.getD i 0) k := fun z => hb (List.any_eq_true.mpr ⟨_, z, beq_self_eq_true _⟩)
      refine ⟨List.nodup_append.mpr ⟨h1, by simp, fun x hx y hy z => ?_⟩, fun x => ?_⟩
      · rw [List.mem_singleton] at hy
        subst z hy
        exact nin hx
      · rw [List.mem_append, List.mem_append, h2]
theorem nodup_sub_len : ∀ {xs ys : List Int}, xs.Nodup → (∀ x ∈ xs, x ∈ ys) → xs.length ≤ ys.length
  | [], _, _, _ => Nat.zero_le _
  | x :: xs, ys, nd, h => by
    rw [List.nodup_cons] at nd
    have hx := h x List.mem_cons_self
    have := nodup_sub_len (xs := xs) (ys := ys.erase x) nd.2 fun z hz => (List.mem_erase_of_ne (fun e => by rw [e] at hz; exact nd.1 hz)).mpr (h z (List.mem_cons_of_mem _ hz))
    rw [List.length_erase_of_mem hx] at this
    have : 0 < ys.length := List.length_pos_of_mem hx
    simp only [List.length_cons]
    omega
theorem ddup_len (ns : List Int) : (ddup ns).length = ns.length ↔ ns.Nodup := by
  obtain ⟨h1, h2⟩ := ddup_sub ns ns.length (Nat.le_refl _)
  rw [List.take_length] at h2
  constructor
  · intro e
    induction ns with
    | nil => simp
    | cons n ns ih =>
      refine Classical.byContradiction fun hn => ?_
      -- some item stands twice: fewer different ones than items
      have key : ∀ (ms : List Int), ¬ ms.Nodup → ∃ z : List Int, (∀ x ∈ ms, x ∈ z) ∧ z.length < ms.length := by
        intro ms
        induction ms with
        | nil => intro h; exact absurd List.nodup_nil h
        | cons m ms ih2 =>
          intro h
          by_cases hm : m ∈ ms
          · exact ⟨ms, fun x hx => (List.mem_cons.mp hx).elim (fun e => by rw [e]; exact hm) id, by simp⟩
          · have : ¬ ms.Nodup := fun z => h (List.nodup_cons.mpr ⟨hm, z⟩)
            obtain ⟨z, z1, z2⟩ := ih2 this
            refine ⟨m :: z, fun x hx => (List.mem_cons.mp hx).elim (fun e => by simp [e]) fun q => List.mem_cons_of_mem _ (z1 x q), by simp; omega⟩
      obtain ⟨z, z1, z2⟩ := key _ hn
      have := nodup_sub_len h1 fun x hx => z1 x ((h2 x).mp hx)
      have e' : (PyProof.Rows.firstMet (fun i => (n :: ns).getD i 0) (n :: ns).length).length = (n :: ns).length := e
      omega
  · intro nd
    have a1 := nodup_sub_len h1 fun x hx => (h2 x).mp hx
    have a2 := nodup_sub_len nd fun x hx => (h2 x).mpr hx
    unfold ddup
    omega

/-! ### isinstance -/
def tyD : D → String
  | .none => "NoneType"
  | .bool _ => "bool"
  | .int _ => "int"
  | .str _ => "str"
  | .list _ => "list"
  | .tuple _ => "tuple"
  | .dict _ => "dict"
theorem rep_ty {K : Fg} {H : Hp} {v : V} {d : D} (h : Rep H v d) : TyX K H v (.type (tyD d)) := by
  cases h with
  | non => exact .base .non
  | bl b => exact .base (.bl b)
  | int b => exact .base (.int b)
  | str b => exact .base (.str b)
  | lst h _ => exact .base (.lst h)
  | tup h _ => exact .base (.tup h)
  | dct h => exact .base (.dK h)
def isInt : D → Bool
  | .int _ => true
  | .bool _ => true
  | _ => false
def isBool : D → Bool
  | .bool _ => true
  | _ => false
def isList : D → Bool
  | .list _ => true
  | _ => false
def isStr : D → Bool
  | .str _ => true
  | _ => false
def isTuple : D → Bool
  | .tuple _ => true
  | _ => false
theorem kit_int : ∀ d : D, kitB (tyD d) "int" = some (isInt d)
  | .none => by decide +kernel
  | .bool _ => by show kitB "bool" "int" = some true; decide +kernel
  | .int _ => by show kitB "int" "int" = some true; decide +kernel
  | .str _ => by show kitB "str" "int" = some false; decide +kernel
  | .list _ => by show kitB "list" "int" = some false; decide +kernel
  | .tuple _ => by show kitB "tuple" "int" = some false; decide +kernel
  | .dict _ => by show kitB "dict" "int" = some false; decide +kernel
theorem kit_bool : ∀ d : D, kitB (tyD d) "bool" = some (isBool d)
  | .none => by decide +kernel
  | .bool _ => by show kitB "bool" "bool" = some true; decide +kernel
  | .int _ => by show kitB "int" "bool" = some false; decide +kernel
  | .str _ => by show kitB "str" "bool" = some false; decide +kernel
  | .list _ => by show kitB "list" "bool" = some false; decide +kernel
  | .tuple _ => by show kitB "tuple" "bool" = some false; decide +kernel
  | .dict _ => by show kitB "dict" "bool" = some false; decide +kernel
theorem kit_list : ∀ d : D, kitB (tyD d) "list" = some (isList d)
  | .none => by decide +kernel
  | .bool _ => by show kitB "bool" "list" = some false; decide +kernel
  | .int _ => by show kitB "int" "list" = some false; decide +kernel
  | .str _ => by show kitB "str" "list" = some false; decide +kernel
  | .list _ => by show kitB "list" "list" = some true; decide +kernel
  | .tuple _ => by show kitB "tuple" "list" = some false; decide +kernel
  | .dict _ => by show kitB "dict" "list" = some false; decide +kernel
theorem kit_str : ∀ d : D, kitB (tyD d) "str" = some (isStr d)
  | .none => by decide +kernel
  | .bool _ => by show kitB "bool" "str" = some false; decide +kernel
  | .int _ => by show kitB "int" "str" = some false; decide +kernel
  | .str _ => by show kitB "str" "str" = some true; decide +kernel
  | .list _ => by show kitB "list" "str" = some false; decide +kernel
  | .tuple _ => by show kitB "tuple" "str" = some false; decide +kernel
  | .dict _ => by show kitB "dict" "str" = some false; decide +kernel
theorem kit_tuple : ∀ d : D, kitB (tyD d) "tuple" = some (isTuple d)
  | .none => by decide +kernel
  | .bool _ => by show kitB "bool" "tuple" = some false; decide +kernel
  | .int _ => by show kitB "int" "tuple" = some false; decide +kernel
  | .str _ => by show kitB "str" "tuple" = some false; decide +kernel
  | .list _ => by show kitB "list" "tuple" = some false; decide +kernel
  | .tuple _ => by show kitB "tuple" "tuple" = some true; decide +kernel
  | .dict _ => by show kitB "dict" "tuple" = some false; decide +kernel
section
variable {X : Cx} {Γ : Gm} {ρ ρ' : List Sl} {e a b c o : Expr} {es : List Expr} {pos p p' p2 q2 apos cpos : Pos} {κ κ' : Kd} {d d' : D} {x y z : V} {t t' : OT} {σ : L2.St} {G H G1 H1 G2 H2 : Hp} {n : Str} {i j : Int} {α β : Type} {f : α → D} {g : α → OT} {E : En} {rest body : List Stmt}
theorem dv_lenSet {ns : List Int} (xo : XO X) (ha : DE X Γ ρ a κ (dl dI ns)) (hl : ns.length ≤ 4000) (hm : X.mg "len" = none) (hm2 : X.mg "set" = none) (hg : Gl X "len" := by rfl) (hg2 : Gl X "set" := by rfl) (na : starEach [a] X.env = (false, eval a X.env) :: starEach [] X.env := by rfl) :
    DV X Γ ρ (.Call (.Name "len" p) [.Call (.Name "set" p2) [a] [] q2] [] pos) (.int ((ddup ns).length : Int)) :=
  (pe_lenSetG hg hm hg2 hm2 ha xo.calm na).weak fun σ H Q ⟨G, S, k⟩ => ⟨G, S, fun v G1 H1 s1 e1 q => by
    obtain ⟨a, xs, rfl, h, r⟩ := Rep.l (pK_c S s1 e1 q)
    exact ⟨a, ns, rfl, by rw [← r.ints]; exact SqL.of h, hl, k _ G1 H1 s1 e1 rfl⟩⟩
theorem dv_isi {T : String} {tn : Str} {r : Bool} (ha : DE X Γ ρ a κ d) (hq : kitB (tyD d) T = some r) (hm2 : X.mg tn = none) (hv2 : bootBuiltins tn = some (.type T)) (hm : X.mg "isinstance" = none) (hg : Gl X "isinstance" := by rfl) (hg2 : Gl X tn := by rfl) (hn : tn ≠ "__name__" := by decide) (hd : (tn == ("__debug__" : Str)) = false := by decide)
    (he : starEach [a, .Name tn p2] X.env = (false, eval a X.env) :: starEach [.Name tn p2] X.env := by rfl) (he2 : starEach [.Name tn p2] X.env = (false, eval (.Name tn p2) X.env) :: starEach [] X.env := by rfl) (hpl : (backTo pos (starEach [.Name tn p2] X.env)).any (·.1) = false := by rfl) :
    DV X Γ ρ (.Call (.Name "isinstance" p) [a, .Name tn p2] [] pos) (.bl r) :=
  cb2 (pe_callB call_isi hg hm PyProof.Rows.boot_isinstance (pa_cons ha (pa_cons (dv_bltn (x := .ty T) (Γ := Γ) (ρ := ρ) hg2 hm2 hv2 rfl hn hd) pa_nil he2) he) (by decide) (by decide) he hpl) fun σ G H G1 H1 G2 H2 v u Q S s1 e1 q1 s2 e2 q2 k =>
    ⟨v, u, _, _, r, rfl, by rw [q2]; exact .ty T, rep_ty (Rep.mono s2.h (pK_c S s1 e1 q1)), kit_ty hq, k _ G2 H2 (Step.refl _ _) e2 rfl⟩

/-! ### loops in short -/
theorem Wk.trans : ∀ {ρ1 ρ2 ρ3 : List Sl}, Wk ρ1 ρ2 → Wk ρ2 ρ3 → Wk ρ1 ρ3
  | _, _, _, .nil, .nil => .nil
  | _, _, _, .same w, .same w' => .same (Wk.trans w w')
  | _, _, _, .same w, .un w' => .un (Wk.trans w w')
  | _, _, _, .un w, .same w' => .un (Wk.trans w w')
  | _, _, _, .un w, .un w' => .un (Wk.trans w w')
theorem Wk.eq {s s' : Sl} {ρ ρ' : List Sl} (h : s = s') (w : Wk ρ ρ') : Wk (s :: ρ) (s' :: ρ') := h ▸ .same w
theorem Wk_set : ∀ {ρ ρ' : List Sl}, Wk ρ ρ' → ∀ (j : Nat) (s : Sl), Wk (ρ.set j s) (ρ'.set j s)
  | _, _, .nil, _, _ => .nil
  | _, _, .same w, 0, _ => .same w
  | _, _, .un w, 0, _ => .same w
  | _, _, .same w, j + 1, s => .same (Wk_set w j s)
  | _, _, .un w, j + 1, s => .un (Wk_set w j s)
theorem ss_for1 {m : Nat} {it : Nat → Sl} (xo : XO X) (hp : PassesOwn (model X.prog X.w) X.A X.env X.xe) (j : Nat) (hi : DI X Γ ρ (.Name n p) e m it) (u : Nat → List Sl → List Sl) (I : Nat → Prop) (w0 : Wk ρ (u 0 ρ)) (i0 : I 0)
    (hs : ∀ i, i < m → I i → SS X Γ ((u i ρ).set j (it i)) body { E with nx := fun ρ2 => Wk ρ2 (u (i + 1) ρ) ∧ I (i + 1), ct := fun ρ2 => Wk ρ2 (u (i + 1) ρ) ∧ I (i + 1), bk := fun _ => False })
    (hd : I m → SS X Γ (u m ρ) rest E) (hj : X.N[j]? = some n := by rfl) (hx : Loc X.env.scope n := by first | exact .inl rfl | exact .inr rfl) (hf : X.fn n = true ∨ X.env.scope.names.lookup n = some .local := by first | exact .inl rfl | exact .inr rfl)
    (hs2 : ∀ x, foldedSetIterable e X.env x = pure x := by intro _; rfl) : SS X Γ ρ (.For (.Name n p) e body [] pos :: rest) E :=
  ss_for (hh := fun i ρ => ρ.set j (it i)) hp xo.calm hi (pg_name xo.nd hj hx hf) (fun i _ ρ σ G H v Q S h k => k _ (S.store (Step.refl _ _) S.sub h List.nodup_nil fun _ z => by cases z))
    (fun ρ' i => Wk ρ' (u i ρ) ∧ I i) (fun _ _ => False) ⟨w0, i0⟩ (fun i ρ' h1 ⟨h2, h3⟩ => ss_wk (Wk_set h2 j (it i)) (hs i h1 h3)) (fun ρ' ⟨h1, h2⟩ => ss_wk h1 (hd h2)) (fun _ _ _ z => z.elim) hs2
/-- for a, b in .. -/
theorem ss_for2 {m : Nat} {d1 d2' : Nat → D} {s1 s2 : Nat → Sl} {n1 n2 : Str} {p1 p2 : Pos} {kk} (xo : XO X) (hp : PassesOwn (model X.prog X.w) X.A X.env X.xe) (j1 j2 : Nat) (hi : DI X Γ ρ (.Tuple [.Name n1 p1, .Name n2 p2] kk p) e m (fun i => .sh (.tuple [d1 i, d2' i]))) (q1 : ∀ i, SubSl (d1 i) (s1 i)) (q2 : ∀ i, SubSl (d2' i) (s2 i))
    (u : Nat → List Sl → List Sl) (I : Nat → Prop) (w0 : Wk ρ (u 0 ρ)) (i0 : I 0)
    (hs : ∀ i, i < m → I i → SS X Γ (((u i ρ).set j1 (s1 i)).set j2 (s2 i)) body { E with nx := fun ρ2 => Wk ρ2 (u (i + 1) ρ) ∧ I (i + 1), ct := fun ρ2 => Wk ρ2 (u (i + 1) ρ) ∧ I (i + 1), bk := fun _ => False })
    (hd : I m → SS X Γ (u m ρ) rest E) (hj1 : X.N[j1]? = some n1 := by rfl) (hx1 : Loc X.env.scope n1 := by first | exact .inl rfl | exact .inr rfl) (hf1 : X.fn n1 = true ∨ X.env.scope.names.lookup n1 = some .local := by first | exact .inl rfl | exact .inr rfl)
    (hj2 : X.N[j2]? = some n2 := by rfl) (hx2 : Loc X.env.scope n2 := by first | exact .inl rfl | exact .inr rfl) (hf2 : X.fn n2 = true ∨ X.env.scope.names.lookup n2 = some .local := by first | exact .inl rfl | exact .inr rfl)
    (ha1 : (assignEach [.Name n1 p1, .Name n2 p2] X.env).map (·.2) = assign (.Name n1 p1) X.env :: (assignEach [.Name n2 p2] X.env).map (·.2) := by rfl) (ha2 : (assignEach [.Name n2 p2] X.env).map (·.2) = assign (.Name n2 p2) X.env :: (assignEach [] X.env).map (·.2) := by rfl)
    (hn : (assignEach [.Name n1 p1, .Name n2 p2] X.env).length = 2 := by rfl) (hst : (assignEach [.Name n1 p1, .Name n2 p2] X.env).findIdx? (·.1) = none := by rfl)
    (hs2 : ∀ x, foldedSetIterable e X.env x = pure x := by intro _; rfl) : SS X Γ ρ (.For (.Tuple [.Name n1 p1, .Name n2 p2] kk p) e body [] pos :: rest) E :=
  ss_for (hh := fun i ρ => (ρ.set j1 (s1 i)).set j2 (s2 i)) hp xo.calm hi (pg_tup xo.calm (pgs_cons (pg_name xo.nd hj1 hx1 hf1) (pgs_cons (pg_name xo.nd hj2 hx2 hf2) pgs_nil ha2) ha1) hn hst)
    (fun i _ ρ σ G H v Q S h k => by
      cases h with
      | sh r =>
        cases r with
        | @tup a xs _ ht r =>
          cases r with
          | cons r1 r =>
            cases r with
            | cons r2 r =>
              cases r
              exact ⟨a, _, rfl, SqT.of (S.sub _ _ ht), rfl, _, _, rfl, _, _, rfl, rfl, k _ ((S.store (Step.refl _ _) S.sub ((q1 i).sl r1) List.nodup_nil fun _ z => by cases z).store (Step.refl _ _) S.sub ((q2 i).sl r2) List.nodup_nil fun _ z => by cases z)⟩)
    (fun ρ' i => Wk ρ' (u i ρ) ∧ I i) (fun _ _ => False) ⟨w0, i0⟩ (fun i ρ' h1 ⟨h2, h3⟩ => ss_wk (Wk_set (Wk_set h2 j1 (s1 i)) j2 (s2 i)) (hs i h1 h3)) (fun ρ' ⟨h1, h2⟩ => ss_wk h1 (hd h2)) (fun _ _ _ z => z.elim) hs2
/-- while: τ the state, b the test's answer, μ falls -/
theorem ss_while {τ : Type} (xo : XO X) (hp : PassesOwn (model X.prog X.w) X.A X.env X.xe) (uu : τ → List Sl → List Sl) (I : τ → Prop) (μ : τ → Nat) (bb : τ → Bool) (t0 : τ) (w0 : Wk ρ (uu t0 ρ)) (i0 : I t0) (hc : ∀ t, I t → DT X Γ (uu t ρ) c (bb t))
    (hb : ∀ t, I t → bb t = true → SS X Γ (uu t ρ) body { E with nx := fun ρ2 => ∃ t', I t' ∧ μ t' < μ t ∧ Wk ρ2 (uu t' ρ), ct := fun ρ2 => ∃ t', I t' ∧ μ t' < μ t ∧ Wk ρ2 (uu t' ρ), bk := fun _ => False })
    (hd : ∀ t, I t → bb t = false → SS X Γ (uu t ρ) rest E) : SS X Γ ρ (.While c body [] pos :: rest) E := by
  have hC : PT X c (fun σ H Q => ∃ t, I t ∧ tT Γ (uu t ρ) (bb t) σ H Q) := ⟨fun pins s σ H Q II ⟨t, h, q⟩ => (hc t h).run pins s σ H Q II q⟩
  have hB : PSs X body (fun D σ H => ∃ t, I t ∧ bb t = true ∧ tS Γ (uu t ρ) { E with nx := fun ρ2 => ∃ t', I t' ∧ μ t' < μ t ∧ Wk ρ2 (uu t' ρ), ct := fun ρ2 => ∃ t', I t' ∧ μ t' < μ t ∧ Wk ρ2 (uu t' ρ), bk := fun _ => False } D σ H) := ⟨fun pins s σ H D II ⟨t, h1, h2, q⟩ => (hb t h1 h2).run pins s σ H D II q⟩
  refine ss_wk w0 (ss_cons (M := fun ρ' => ∃ t, I t ∧ bb t = false ∧ ρ' = uu t ρ) ((ps_while hp hC hB).weak fun D σ H ⟨G0, S0, k⟩ => ?_) fun ρ' ⟨t, h1, h2, h3⟩ => h3 ▸ hd t h1 h2)
  refine ⟨fun m σ H => ∃ t G, μ t = m ∧ I t ∧ Sr Γ G H σ (uu t ρ) ∧ Ex G0 G, ⟨_, t0, G0, rfl, i0, S0, Ex.refl _⟩, ?_⟩
  rintro m σ1 H1 ⟨t, G, rfl, it, S, eg⟩
  refine ⟨t, it, G, S, fun G2 H2 st2 ex => ?_⟩
  cases hbt : bb t with
  | true =>
    refine iteT ⟨fun σ3 H3 => ∃ t' G3, I t' ∧ μ t' < μ t ∧ Sr Γ G3 H3 σ3 (uu t' ρ) ∧ Ex G0 G3, fun σ3 H3 ⟨t', G3, h1, h2, h3, h4⟩ => ⟨μ t', h2, t', G3, rfl, h1, h3, h4⟩, ?_⟩
    exact ⟨t, it, hbt, G2, S.more st2 ex, ⟨fun ρ3 σ3 G3 H3 ⟨t', h1, h2, h3⟩ S3 x => ⟨t', G3, h1, h2, S3.wk h3, (eg.trans st2.g).trans x⟩, fun _ _ _ _ z => z.elim, fun ρ3 σ3 G3 H3 ⟨t', h1, h2, h3⟩ S3 x => ⟨t', G3, h1, h2, S3.wk h3, (eg.trans st2.g).trans x⟩, k.rt⟩⟩
  | false => exact iteF (k.nx _ _ G2 H2 ⟨t, it, hbt, rfl⟩ (S.more st2 ex) (eg.trans st2.g))

/-! ### more changes of lists of ints -/
theorem OwnTs.intsV {ns : List Int} {vs : List V} {B : List Addr} (h : OwnTs G H (ns.map tI) vs B) : vs = ns.map V.int ∧ B = [] := by
  induction ns generalizing vs B with
  | nil => cases h; exact ⟨rfl, rfl⟩
  | cons n ns ih =>
    rw [List.map_cons] at h
    unfold tI at h
    cases h with
    | cons h r =>
      cases h with
      | fz hr =>
        cases hr
        obtain ⟨e1, e2⟩ := ih r
        rw [e1, e2]
        exact ⟨rfl, rfl⟩
/-- left.remove(k) -/
theorem ss_rem (i : Nat) {ns : List Int} {k : Int} (ho : DPl X Γ ρ o i []) (he : DV X Γ ρ e (.int k)) (h : ρ[i]? = some (.ow (tl tI ns))) (hk : k ∈ ns) (hr : SS X Γ (ρ.set i (.ow (tl tI (ns.erase k)))) rest E)
    (hbase : attributeBase o "remove" X.env (eval o X.env) = eval o X.env := by rfl)
    (hfew : ((backTo cpos (starEach [e] X.env)).all (fun x => !x.1) && (backToKw cpos (keywordEach [] X.env)).all (fun x => x.1.isSome) && decide (([e] : List Expr).length + ([] : List Keyword).length + (if ([] : List Keyword).isEmpty then 0 else 1) < 30)) = true := by rfl)
    (hline : (apos.endLine == cpos.line) = true := by rfl) (hs : starEach [e] X.env = (false, eval e X.env) :: starEach [] X.env := by rfl) (hplain : (backTo cpos (starEach [] X.env)).any (·.1) = false := by rfl)
    (hsw : swapsWith (.Call (.Attribute o "remove" apos) [e] [] cpos) none pos.line X.env = pure false := by rfl) : SS X Γ ρ (.Expr (.Call (.Attribute o "remove" apos) [e] [] cpos) pos :: rest) E :=
  ss_cons (M := fun ρ' => ρ' = ρ.set i (.ow (tl tI (ns.erase k)))) ((ps_expr (pe_bm PySem.F.plainAttrs_list PySem.F.slot_list_remove PySem.F.type_list_remove mt_remove ho (pa_cons he pa_nil hs) hbase hfew hline hs hplain) hsw).weak fun D σ H ⟨G, S, kk⟩ =>
    ⟨G, S, fun v G1 H1 s1 e1 ⟨v0, h0, hv⟩ => by
      obtain ⟨A, SA⟩ := (S.more s1 e1).ad
      obtain ⟨a, rfl⟩ := (S.more s1 e1).ref (ts := ns.map tI) h (at_nil _) h0 hv
      obtain ⟨vs1, B1, q1, _⟩ := SA.mut (ts := ns.map tI) h (at_nil _) h0 hv
      refine ⟨ty_list q1, G1, S.more s1 e1, fun w G2 H2 s2 e2 (qw : w = .int k) => ?_⟩
      have SA2 := SA.more s2 e2
      obtain ⟨vs, B, q1, q2, q3, q4, q5, q6, q7, q8⟩ := SA2.mut (ts := ns.map tI) h (at_nil _) h0 (hv.mono s2.h)
      obtain ⟨ev, eB⟩ := q4.intsV
      subst ev eB
      have hj : ns.idxOf k < ns.length := List.idxOf_lt_length_iff.mpr hk
      refine ⟨a, ns, k, ns.idxOf k, rfl, by rw [qw], q1, ?_, fun m hm hx => ?_, ?_⟩
      · rw [List.getElem?_eq_getElem hj]
        simp
      · have hml : m < ns.length := by omega
        have h1 : ns[m] = k := by rw [List.getElem?_eq_getElem hml] at hx; exact Option.some.inj hx
        have h2 := List.not_of_lt_findIdx (p := (· == k)) (xs := ns) (i := m) hm
        rw [h1] at h2
        simp at h2
      · rw [← List.erase_eq_eraseIdx_of_idxOf rfl]
        have w := q8 ((ns.erase k).map tI) ((ns.erase k).map V.int) [] OwnTs.ints List.nodup_nil (by simp) (by simp) (by simp)
        exact kk.nx _ _ G2 _ rfl w (s1.g.trans s2.g)⟩) fun ρ' e => e ▸ hr
/-- xs.clear() -/
theorem ss_clear (i : Nat) {ts : List OT} (ho : DPl X Γ ρ o i []) (h : ρ[i]? = some (.ow (.cell ts))) (hr : SS X Γ (ρ.set i (.ow (.cell []))) rest E)
    (hbase : attributeBase o "clear" X.env (eval o X.env) = eval o X.env := by rfl) (hline : (apos.endLine == cpos.line) = true := by rfl)
    (hsw : swapsWith (.Call (.Attribute o "clear" apos) [] [] cpos) none pos.line X.env = pure false := by rfl) : SS X Γ ρ (.Expr (.Call (.Attribute o "clear" apos) [] [] cpos) pos :: rest) E :=
  ss_cons (M := fun ρ' => ρ' = ρ.set i (.ow (.cell []))) ((ps_expr (pe_bm0 PySem.F.plainAttrs_list PySem.F.slot_list_clear PySem.F.type_list_clear mt_clear ho hbase hline) hsw).weak fun D σ H ⟨G, S, kk⟩ =>
    ⟨G, S, fun v G1 H1 s1 e1 ⟨v0, h0, hv⟩ => by
      obtain ⟨A, SA⟩ := (S.more s1 e1).ad
      obtain ⟨a, rfl⟩ := (S.more s1 e1).ref (ts := ts) h (at_nil _) h0 hv
      obtain ⟨vs, B, q1, q2, q3, q4, q5, q6, q7, q8⟩ := SA.mut (ts := ts) h (at_nil _) h0 hv
      refine ⟨ty_list q1, a, vs, rfl, rfl, q1, ?_⟩
      exact kk.nx _ _ G1 _ rfl (q8 [] [] [] .nil List.nodup_nil (by simp) (by simp) (by simp)) s1.g⟩) fun ρ' e => e ▸ hr
theorem eraseIdx_map' {α β : Type} (f : α → β) : ∀ (xs : List α) (k : Nat), (xs.map f).eraseIdx k = (xs.eraseIdx k).map f
  | [], _ => by simp
  | x :: xs, 0 => by simp
  | x :: xs, k + 1 => by simp [eraseIdx_map' f xs k]
/-- x.append(y.pop(k)), both of ints -/
theorem ss_appPop (i j : Nat) {o2 ek : Expr} {apos2 cpos2 : Pos} {ns ms : List Int} {k : Int} (ho : DPl X Γ ρ o i []) (ho2 : DPl X Γ ρ o2 j []) (hk : DV X Γ ρ ek (.int k)) (h : ρ[i]? = some (.ow (tl tI ns))) (h2 : ρ[j]? = some (.ow (tl tI ms))) (hij : i ≠ j) (hl : ns.length < 16000000) (hr0 : 0 ≤ k ∧ k < ms.length) (hb : k < 2 ^ 63)
    (hr : SS X Γ ((ρ.set j (.ow (tl tI (ms.eraseIdx k.toNat)))).set i (.ow (tl tI (ns ++ [ms.getD k.toNat 0])))) rest E)
    (hbase : attributeBase o "append" X.env (eval o X.env) = eval o X.env := by rfl)
    (hfew : ((backTo cpos (starEach [.Call (.Attribute o2 "pop" apos2) [ek] [] cpos2] X.env)).all (fun x => !x.1) && (backToKw cpos (keywordEach [] X.env)).all (fun x => x.1.isSome) && decide (([.Call (.Attribute o2 "pop" apos2) [ek] [] cpos2] : List Expr).length + ([] : List Keyword).length + (if ([] : List Keyword).isEmpty then 0 else 1) < 30)) = true := by rfl)
    (hline : (apos.endLine == cpos.line) = true := by rfl) (hs : starEach [.Call (.Attribute o2 "pop" apos2) [ek] [] cpos2] X.env = (false, eval (.Call (.Attribute o2 "pop" apos2) [ek] [] cpos2) X.env) :: starEach [] X.env := by rfl) (hplain : (backTo cpos (starEach [] X.env)).any (·.1) = false := by rfl)
    (hbase2 : attributeBase o2 "pop" X.env (eval o2 X.env) = eval o2 X.env := by rfl)
    (hfew2 : ((backTo cpos2 (starEach [ek] X.env)).all (fun x => !x.1) && (backToKw cpos2 (keywordEach [] X.env)).all (fun x => x.1.isSome) && decide (([ek] : List Expr).length + ([] : List Keyword).length + (if ([] : List Keyword).isEmpty then 0 else 1) < 30)) = true := by rfl)
    (hline2 : (apos2.endLine == cpos2.line) = true := by rfl) (hs2 : starEach [ek] X.env = (false, eval ek X.env) :: starEach [] X.env := by rfl) (hplain2 : (backTo cpos2 (starEach [] X.env)).any (·.1) = false := by rfl)
    (hsw : swapsWith (.Call (.Attribute o "append" apos) [.Call (.Attribute o2 "pop" apos2) [ek] [] cpos2] [] cpos) none pos.line X.env = pure false := by rfl) :
    SS X Γ ρ (.Expr (.Call (.Attribute o "append" apos) [.Call (.Attribute o2 "pop" apos2) [ek] [] cpos2] [] cpos) pos :: rest) E :=
  ss_cons (M := fun ρ' => ρ' = (ρ.set j (.ow (tl tI (ms.eraseIdx k.toNat)))).set i (.ow (tl tI (ns ++ [ms.getD k.toNat 0])))) ((ps_expr (pe_bm PySem.F.plainAttrs_list PySem.F.slot_list_append PySem.F.type_list_append mt_append ho
      (pa_cons (pe_bm PySem.F.plainAttrs_list PySem.F.slot_list_pop PySem.F.type_list_pop mt_popAt ho2 (pa_cons hk pa_nil hs2) hbase2 hfew2 hline2 hs2 hplain2) pa_nil hs) hbase hfew hline hs hplain) hsw).weak fun D σ H ⟨G, S, kk⟩ =>
    ⟨G, S, fun v G1 H1 s1 e1 ⟨v0, h0, hv⟩ => by
      have S1 := S.more s1 e1
      obtain ⟨A, SA⟩ := S1.ad
      obtain ⟨a, rfl⟩ := S1.ref (ts := ns.map tI) h (at_nil _) h0 hv
      obtain ⟨vs1, B1, q1, _⟩ := SA.mut (ts := ns.map tI) h (at_nil _) h0 hv
      refine ⟨ty_list q1, G1, S1, fun v2 G2 H2 s2 e2 ⟨w0, g0, gv⟩ => ?_⟩
      have S2 := S1.more s2 e2
      obtain ⟨b, rfl⟩ := S2.ref (ts := ms.map tI) h2 (at_nil _) g0 gv
      have SA2 := SA.more s2 e2
      obtain ⟨us1, C1, z1, _⟩ := SA2.mut (ts := ms.map tI) h2 (at_nil _) g0 gv
      refine ⟨ty_list z1, G2, S2, fun w G3 H3 s3 e3 (qw : w = .int k) => ?_⟩
      have SA3 := SA2.more s3 e3
      obtain ⟨us, C, z1, z2, z3, z4, z5, z6, z7, z8⟩ := SA3.mut (ts := ms.map tI) h2 (at_nil _) g0 (gv.mono s3.h)
      obtain ⟨eu, eC⟩ := z4.intsV
      subst eu eC
      have hkl : k.toNat < ms.length := by omega
      have eg : (ms.map V.int)[k.toNat]? = some (.int (ms.getD k.toNat 0)) := by
        rw [List.getElem?_map, List.getElem?_eq_getElem hkl]
        simp [List.getD_eq_getElem?_getD, hkl]
      refine ⟨b, _, k, k.toNat, _, rfl, by rw [qw], z1, by omega, hb, ?_, eg, ?_⟩
      · rw [PySem.seqIndex_of hr0.1 (by rw [List.length_map]; exact hr0.2)]
      have S4 := z8 ((ms.eraseIdx k.toNat).map tI) ((ms.map V.int).eraseIdx k.toNat) [] (by rw [eraseIdx_map']; exact OwnTs.ints) List.nodup_nil (by simp) (by simp) (by simp)
      have h' : (ρ.set j (.ow (OT.put [] (tl tI ms) (.cell ((ms.eraseIdx k.toNat).map tI)))))[i]? = some (.ow (tl tI ns)) := by rw [List.getElem?_set_ne (Ne.symm hij)]; exact h
      obtain ⟨A4, SA4⟩ := S4.ad
      have hva : v0 = .ref a := hv
      obtain ⟨vs, B, y1, y2, y3, y4, y5, y6, y7, y8⟩ := SA4.mut (p := []) (a := a) (ts := ns.map tI) h' (at_nil _) h0 hva
      obtain ⟨ev, eB⟩ := y4.intsV
      subst ev eB
      refine ⟨a, _, _, rfl, rfl, y1, by rw [List.length_map]; exact Nat.lt_of_lt_of_le hl (by decide), ?_⟩
      have w := y8 ((ns ++ [ms.getD k.toNat 0]).map tI) ((ns.map V.int) ++ [.int (ms.getD k.toNat 0)]) [] (by
        have : (ns.map V.int) ++ [V.int (ms.getD k.toNat 0)] = (ns ++ [ms.getD k.toNat 0]).map V.int := by rw [List.map_append]; rfl
        rw [this]; exact OwnTs.ints) List.nodup_nil (by simp) (by simp) (by simp)
      exact kk.nx _ _ G3 _ rfl w ((s1.g.trans s2.g).trans s3.g)⟩) fun ρ' e => e ▸ hr
/-- xs.index(k) of ints -/
theorem dv_index {ns : List Int} {k : Int} (ho : DE X Γ ρ o κ (dl dI ns)) (he : DV X Γ ρ e (.int k)) (hk : k ∈ ns)
    (hbase : attributeBase o "index" X.env (eval o X.env) = eval o X.env := by rfl)
    (hfew : ((backTo cpos (starEach [e] X.env)).all (fun x => !x.1) && (backToKw cpos (keywordEach [] X.env)).all (fun x => x.1.isSome) && decide (([e] : List Expr).length + ([] : List Keyword).length + (if ([] : List Keyword).isEmpty then 0 else 1) < 30)) = true := by rfl)
    (hline : (apos.endLine == cpos.line) = true := by rfl) (hs : starEach [e] X.env = (false, eval e X.env) :: starEach [] X.env := by rfl) (hplain : (backTo cpos (starEach [] X.env)).any (·.1) = false := by rfl) :
    DV X Γ ρ (.Call (.Attribute o "index" apos) [e] [] cpos) (.int (ns.idxOf k : Int)) :=
  (pe_bm PySem.F.plainAttrs_list PySem.F.slot_list_index PySem.F.type_list_index mt_index ho (pa_cons he pa_nil hs) hbase hfew hline hs hplain).weak fun σ H Q ⟨G, S, kk⟩ => ⟨G, S, fun v G1 H1 s1 e1 q => by
    obtain ⟨a, xs, rfl, h, r⟩ := Rep.l (pK_c S s1 e1 q)
    have ev : xs = ns.map V.int := r.ints
    subst ev
    refine ⟨ty_list h, G1, S.more s1 e1, fun w G2 H2 s2 e2 (qw : w = .int k) => ?_⟩
    have hj : ns.idxOf k < ns.length := List.idxOf_lt_length_iff.mpr hk
    refine ⟨a, _, .int k, ns.idxOf k, .int k, rfl, by rw [qw], SqL.of (s2.h _ _ h), rfl, ?_, ?_, ?_, fun m z hm hx => ?_, kk _ G2 H2 (s1.trans s2) e2 rfl⟩
    · simp [flatV]
    · rw [List.getElem?_map, List.getElem?_eq_getElem hj]
      simp
    · simp [eqV]
    · have hml : m < ns.length := by omega
      rw [List.getElem?_map, List.getElem?_eq_getElem hml] at hx
      obtain rfl := Option.some.inj hx
      have h2 := List.not_of_lt_findIdx (p := (· == k)) (xs := ns) (i := m) hm
      simpa [eqV] using h2⟩
end
end DL
namespace DL
open PySem L2
section
variable {X : Cx} {Γ : Gm} {ρ ρ' : List Sl} {e a b c o : Expr} {es : List Expr} {pos p p' p2 q2 apos cpos : Pos} {κ κ' : Kd} {d d' : D} {x y z : V} {t t' : OT} {σ : L2.St} {G H G1 H1 G2 H2 : Hp} {n : Str} {i j : Int} {α β : Type} {f : α → D} {g : β → OT} {E : En} {rest body : List Stmt}
variable {tg elt iter : Expr} {ifs : List Expr} {scope : Scope} {own : List (Str × Nat)} {xs : List α} {s : α → Sl} {ft : α → Bool} {k : α → β} {gg : TG} {js : List Nat} {h : α → List Sl → List Sl}
theorem DV.oI (h : DV X Γ ρ e (.int i)) : DO X Γ ρ e (tI i) := h.dat.own
theorem DV.oB {q : Bool} (h : DV X Γ ρ e (.bl q)) : DO X Γ ρ e (tF PyData.bool q) := h.dat.own
theorem DV.oS {q : Str} (h : DV X Γ ρ e (.str q)) : DO X Γ ρ e (tF PyData.str q) := h.dat.own
theorem DE.oF {x : α} (h : DE X Γ ρ e .z (f x)) : DO X Γ ρ e (tF f x) := h.own
theorem DO.vI (h : DO X Γ ρ e (tI i)) : DV X Γ ρ e (.int i) := h.fzv.int
theorem DO.vB {q : Bool} (h : DO X Γ ρ e (.fz (.bool q))) : DV X Γ ρ e (.bl q) := h.fzv.bool
theorem DO.vS {q : Str} (h : DO X Γ ρ e (.fz (.str q))) : DV X Γ ρ e (.str q) := h.fzv.str
theorem DO.vN (h : DO X Γ ρ e (.fz .none)) : DV X Γ ρ e .non := h.fzv.val rfl
theorem tl_mapf (ys : List α) : tl (fun a => g (k a)) ys = tl g (ys.map k) := by
  unfold tl
  rw [List.map_map]
  rfl
theorem filter_all (xs : List α) : xs.filter (fun _ => true) = xs := by simp
theorem do_lcM (xo : XO X) (own : List (Str × Nat)) (hi : DIc X Γ ρ tg iter xs s) (ok : BlkOk X.N X.env.scope scope own) (hgg : ∀ (s : Shared) (H : Hp) (C : Addr) (cl : List (Str × Addr)) (fp : List Addr), PG (X.blk s H scope (compEnvC scope cl C X.env) fp) tg gg)
    (hg : ∀ a ∈ xs, TgW gg Γ.K js (s a) (h a)) (hj : ∀ j ∈ js, j ∈ own.map (·.2))
    (ht : ∀ (Γ' : Gm), Γ'.K = Γ.K → ∀ a ∈ xs, ∀ (s : Shared) (H : Hp) (C : Addr) (cl : List (Str × Addr)) (fp : List Addr), XO (X.blk s H scope (compEnvC scope cl C X.env) fp) → DTs (X.blk s H scope (compEnvC scope cl C X.env) fp) Γ' (h a (wipeS (ρ.map deo) (own.map (·.2)))) ifs (ft a))
    (he : ∀ (Γ' : Gm), Γ'.K = Γ.K → ∀ a ∈ xs, ft a = true → ∀ (s : Shared) (H : Hp) (C : Addr) (cl : List (Str × Addr)) (fp : List Addr), XO (X.blk s H scope (compEnvC scope cl C X.env) fp) → DO (X.blk s H scope (compEnvC scope cl C X.env) fp) Γ' (h a (wipeS (ρ.map deo) (own.map (·.2)))) elt (g (k a)))
    (hl : xs.length ≤ 16000000) (hs : ∀ x, foldedSetIterable iter X.env x = pure x := by intro _; rfl) : DO X Γ ρ (.ListComp elt [⟨tg, iter, ifs, 0⟩] scope pos) (tl g ((xs.filter ft).map k)) := by
  rw [← tl_mapf]
  exact do_lc xo own hi ok hgg hg hj ht he hl hs
theorem do_lcM0 (xo : XO X) (own : List (Str × Nat)) (hi : DIc X Γ ρ tg iter xs s) (ok : BlkOk X.N X.env.scope scope own) (hgg : ∀ (s : Shared) (H : Hp) (C : Addr) (cl : List (Str × Addr)) (fp : List Addr), PG (X.blk s H scope (compEnvC scope cl C X.env) fp) tg gg)
    (hg : ∀ a ∈ xs, TgW gg Γ.K js (s a) (h a)) (hj : ∀ j ∈ js, j ∈ own.map (·.2))
    (he : ∀ (Γ' : Gm), Γ'.K = Γ.K → ∀ a ∈ xs, ∀ (s : Shared) (H : Hp) (C : Addr) (cl : List (Str × Addr)) (fp : List Addr), XO (X.blk s H scope (compEnvC scope cl C X.env) fp) → DO (X.blk s H scope (compEnvC scope cl C X.env) fp) Γ' (h a (wipeS (ρ.map deo) (own.map (·.2)))) elt (g (k a)))
    (hl : xs.length ≤ 16000000) (hs : ∀ x, foldedSetIterable iter X.env x = pure x := by intro _; rfl) : DO X Γ ρ (.ListComp elt [⟨tg, iter, [], 0⟩] scope pos) (tl g (xs.map k)) := by
  have := do_lcM (ft := fun _ => true) (pos := pos) xo own hi ok hgg hg hj (fun _ _ _ _ _ _ _ _ _ _ => dts_nil) (fun Γ' q a ha _ => he Γ' q a ha) hl hs
  rwa [filter_all] at this
theorem ss_lcM (i : Nat) {y : Str} {py spos : Pos} (xo : XO X) (own : List (Str × Nat)) (hi : DIc X Γ ρ tg iter xs s) (ok : BlkOk X.N X.env.scope scope own) (hgg : ∀ (s : Shared) (H : Hp) (C : Addr) (cl : List (Str × Addr)) (fp : List Addr), PG (X.blk s H scope (compEnvC scope cl C X.env) fp) tg gg)
    (hg : ∀ a ∈ xs, TgW gg Γ.K js (s a) (h a)) (hj : ∀ j ∈ js, j ∈ own.map (·.2))
    (ht : ∀ (Γ' : Gm), Γ'.K = Γ.K → ∀ a ∈ xs, ∀ (s : Shared) (H : Hp) (C : Addr) (cl : List (Str × Addr)) (fp : List Addr), XO (X.blk s H scope (compEnvC scope cl C X.env) fp) → DTs (X.blk s H scope (compEnvC scope cl C X.env) fp) Γ' (h a (wipeS (ρ.map deo) (own.map (·.2)))) ifs (ft a))
    (he : ∀ (Γ' : Gm), Γ'.K = Γ.K → ∀ a ∈ xs, ft a = true → ∀ (s : Shared) (H : Hp) (C : Addr) (cl : List (Str × Addr)) (fp : List Addr), XO (X.blk s H scope (compEnvC scope cl C X.env) fp) → DO (X.blk s H scope (compEnvC scope cl C X.env) fp) Γ' (h a (wipeS (ρ.map deo) (own.map (·.2)))) elt (g (k a)))
    (hl : xs.length ≤ 16000000) (hr : SS X Γ (ρ.set i (.ow (tl g ((xs.filter ft).map k)))) rest E) (hy : X.N[i]? = some y := by rfl) (hyl : X.env.scope.names.lookup y = some .local := by rfl)
    (hsw : swapsWith (.ListComp elt [⟨tg, iter, ifs, 0⟩] scope pos) (some (.Name y py)) spos.line X.env = pure true := by exact sw_true rfl rfl rfl (by decide +kernel)) (hs : ∀ x, foldedSetIterable iter X.env x = pure x := by intro _; rfl) :
    SS X Γ ρ (.Assign [.Name y py] (.ListComp elt [⟨tg, iter, ifs, 0⟩] scope pos) spos :: rest) E :=
  ss_lc i xo own hi ok hgg hg hj ht he hl (by rw [tl_mapf]; exact hr) hy hyl hsw hs
theorem ss_lcM0 (i : Nat) {y : Str} {py spos : Pos} (xo : XO X) (own : List (Str × Nat)) (hi : DIc X Γ ρ tg iter xs s) (ok : BlkOk X.N X.env.scope scope own) (hgg : ∀ (s : Shared) (H : Hp) (C : Addr) (cl : List (Str × Addr)) (fp : List Addr), PG (X.blk s H scope (compEnvC scope cl C X.env) fp) tg gg)
    (hg : ∀ a ∈ xs, TgW gg Γ.K js (s a) (h a)) (hj : ∀ j ∈ js, j ∈ own.map (·.2))
    (he : ∀ (Γ' : Gm), Γ'.K = Γ.K → ∀ a ∈ xs, ∀ (s : Shared) (H : Hp) (C : Addr) (cl : List (Str × Addr)) (fp : List Addr), XO (X.blk s H scope (compEnvC scope cl C X.env) fp) → DO (X.blk s H scope (compEnvC scope cl C X.env) fp) Γ' (h a (wipeS (ρ.map deo) (own.map (·.2)))) elt (g (k a)))
    (hl : xs.length ≤ 16000000) (hr : SS X Γ (ρ.set i (.ow (tl g (xs.map k)))) rest E) (hy : X.N[i]? = some y := by rfl) (hyl : X.env.scope.names.lookup y = some .local := by rfl)
    (hsw : swapsWith (.ListComp elt [⟨tg, iter, [], 0⟩] scope pos) (some (.Name y py)) spos.line X.env = pure true := by exact sw_true rfl rfl rfl (by decide +kernel)) (hs : ∀ x, foldedSetIterable iter X.env x = pure x := by intro _; rfl) :
    SS X Γ ρ (.Assign [.Name y py] (.ListComp elt [⟨tg, iter, [], 0⟩] scope pos) spos :: rest) E :=
  ss_lcM (ft := fun _ => true) i xo own hi ok hgg hg hj (fun _ _ _ _ _ _ _ _ _ _ => dts_nil) (fun Γ' q a ha _ => he Γ' q a ha) hl (by rw [filter_all]; exact hr) hy hyl hsw hs
theorem de_roT (i : Nat) {α : Type} {g : α → OT} {f : α → D} [E : Er g f] {xs : α} {n : Str} (h : ρ[i]? = some (.ro (g xs).er)) (hN : X.N[i]? = some n := by rfl) (hv : Vis X.env.scope n := by first | exact Or.inl rfl | exact Or.inr (Or.inl rfl) | exact Or.inr (Or.inr rfl)) (hd : (n == ("__debug__" : Str)) = false := by decide) (hcd : (n == ("__classdict__" : Str)) = false := by decide) :
    DE X Γ ρ (.Name n pos) .r (f xs) := E.er xs ▸ de_ro i h hN hv hd hcd
end
end DL
namespace DL
open PySem L2
section
variable {X : Cx} {Γ : Gm} {ρ ρ' : List Sl} {e : Expr} {pos p : Pos} {t : OT} {σ : L2.St} {G H : Hp} {n : Str} {E : En} {rest : List Stmt}
/-- an owned name handed back -/
theorem ss_retOw (i : Nat) (h : ρ[i]? = some (.ow t)) (hE : E.rt t) (hN : X.N[i]? = some n := by rfl) (hv : Vis X.env.scope n := by first | exact Or.inl rfl | exact Or.inr (Or.inl rfl) | exact Or.inr (Or.inr rfl)) (hd : (n == ("__debug__" : Str)) = false := by decide) (hcd : (n == ("__classdict__" : Str)) = false := by decide) : SS X Γ ρ (.Return (some (.Name n p)) pos :: rest) E :=
  ss_cons (M := fun _ => False) ((ps_ret (pe_var hN hv hd hcd)).weak fun D σ H ⟨G, S, k⟩ => by
    obtain ⟨A, SA⟩ := S.ad
    obtain ⟨v, B, A', h1, h2, h3, h4, h5, h6, h7⟩ := SA.take h
    exact ⟨v, h1, k.rt t v G H B hE S.step S.sub h2 h3 h6⟩) fun ρ' e => e.elim
end
end DL
namespace DL
open PySem L2
/-! ### a law's end -/
def spLaw (K : Fg) : Sp := fun vs H Q _ => ∃ (a : Addr) (ns : List Int), vs = [.ref a] ∧ SqL K H a (ns.map V.int) ∧ ns.length ≤ 63 ∧ ∀ H', Q (.bl true) H'
theorem law_ok {P : Program} {w : World} {K : Fg} {mg : Str → Option Value} {base : Heap} {k : Nat} {f : Addr} {fd : FuncData} {ps : List Str} (F : ∀ ns : List Int, ns.length ≤ 63 → FnOk P w K mg base (L2.CX P w) k f fd ps (sp1 K [.sc ns] (.ret (.fz (.bool true))))) :
    FnOk P w K mg base (L2.CX P w) k f fd ps (spLaw K) := by
  have key : ∀ (vs : List V) (H : Hp) (Q : VK) (E : XK), spLaw K vs H Q E → ∃ ns : List Int, ns.length ≤ 63 ∧ sp1 K [.sc ns] (.ret (.fz (.bool true))) vs H Q E := fun vs H Q E h => by
    obtain ⟨a, ns, rfl, hS, hl, k⟩ := h
    refine ⟨ns, hl, fun _ => none, (fun _ _ z => by cases z), SlR.cons (A := []) (B := []) (SlS.sc hS) SlR.nil, fun v G2 H2 A st ex o nd f => ?_⟩
    cases o with
    | fz r =>
      cases r
      exact k H2
  refine ⟨fun vs H Q E h => ?_, fun A outer s H args us vs Q E hr he hb hv h => ?_⟩
  · obtain ⟨ns, hl, h'⟩ := key vs H Q E h
    exact (F ns hl).len vs H Q E h'
  · obtain ⟨ns, hl, h'⟩ := key vs H Q E h
    exact (F ns hl).run A outer s H args us vs Q E hr he hb hv h'
theorem law_walk {l : PySem.W.OpenLaw} {q : Program} {loose : List Str} {XP : (Str → Option Value) → Heap → Prop} {YP : World → Heap → Prop} {d : DefRec} {K : Params → Fg} {k : Nat} {x : Str} (hn : l.most = some 63) (hdf : d.params.defaults = []) (hr : Room k callerA)
    (hY : ∀ (w : World) (h : Heap), YP w h → (K w.params).In h)
    (F : ∀ (w : World) (mg : Str → Option Value) (fa : Addr) (h : Heap), (K w.params).In h → h.Ns mainGlobals mg → mg d.name = some (.ref fa) →
      ∃ fd : FuncData, (∀ (s : Shared) (u : Value), BindsTo s fd ⟨[u], []⟩ [(x, u)]) ∧ ∀ base : Heap, (K w.params).In base → base.Ns mainGlobals mg → FnOk l.prog w (K w.params) mg base (L2.CX l.prog w) k fa fd [x] (spLaw (K w.params))) :
    PySem.W.WalkO q loose XP YP l.row.toRowW d [] (fun f vs => PySem.call f vs) :=
  L2.walk_of (n := 63) (k := k) (x := x) (CX := fun w => L2.CX l.prog w) (sp := fun w => spLaw (K w.params)) hn (by decide) hdf hr hY F (fun _ _ a ns hl _ hS => ⟨a, ns, rfl, hS, hl, fun _ => rfl⟩)
    fun w H s e s' h => by
      obtain ⟨_, _, _, _, _, _, _, _, _, _, _, _, z⟩ := h
      exact z
end DL

namespace DL
open PySem L2
section
variable {X : Cx} {Γ : Gm} {ρ ρ' : List Sl} {e a tg : Expr} {pos p : Pos}
theorem di_rangeN {m : Nat} (ha : DV X Γ ρ a (.int (m : Int))) (hb : m < 16000000) (hm : X.mg "range" = none) (hg : Gl X "range" := by rfl) (hs1 : starEach [a] X.env = (false, eval a X.env) :: starEach [] X.env := by rfl) (hs : starEach [a] X.env = [(false, eval a X.env)] := by rfl) :
    DI X Γ ρ tg (.Call (.Name "range" p) [a] [] pos) m (fun i => .v (.int (i : Int))) := by
  have := di_range (tg := tg) (p := p) (pos := pos) (pr := ⟨0, 0, 0, 0⟩) ha (by omega) (by omega) hm hg hs1 hs
  rwa [Int.toNat_natCast] at this
theorem ic_rangeN {m : Nat} (ha : DV X Γ ρ a (.int (m : Int))) (hb : m < 16000000) (hm : X.mg "range" = none) (hg : Gl X "range" := by rfl) (hs1 : starEach [a] X.env = (false, eval a X.env) :: starEach [] X.env := by rfl) (hs : starEach [a] X.env = [(false, eval a X.env)] := by rfl) :
    DIc X Γ ρ tg (.Call (.Name "range" p) [a] [] pos) (List.range m) (fun i => .v (.int (i : Int))) := by
  have := ic_range (tg := tg) (p := p) (pos := pos) ha (by omega) hm hg hs1 hs
  rwa [Int.toNat_natCast] at this
theorem do_listRgN {m : Nat} (xo : XO X) {p2 pos2 : Pos} (ha : DV X Γ ρ a (.int (m : Int))) (hb : m ≤ 16000000) (hm : X.mg "list" = none) (hm2 : X.mg "range" = none) (hg : Gl X "list" := by rfl) (hg2 : Gl X "range" := by rfl) (he : starEach [a] X.env = (false, eval a X.env) :: starEach [] X.env := by rfl)
    (he2 : starEach [.Call (.Name "range" p2) [a] [] pos2] X.env = (false, eval (.Call (.Name "range" p2) [a] [] pos2) X.env) :: starEach [] X.env := by rfl) : DO X Γ ρ (.Call (.Name "list" p) [.Call (.Name "range" p2) [a] [] pos2] [] pos) (tl tI (rgI m)) := by
  have := do_listRg (p := p) (pos := pos) (p2 := p2) (pos2 := pos2) xo ha (by omega) hm hm2 hg hg2 he he2
  rwa [Int.toNat_natCast] at this
end
end DL

namespace DL
open PySem L2
/-! ### comparisons as tests -/
section
variable {X : Cx} {Γ : Gm} {ρ : List Sl} {e a b c : Expr} {pos : Pos} {κ κ' : Kd} {d : D} {x y : V} {i j k : Int} {α : Type} {f : α → D}
theorem binT_weak {r : R2} {PA PB : Hp → Hp → Hp → V → Prop} {q : Bool} (h : PT X e (tTest (tOp r (tX Γ ρ PA) (tX Γ ρ PB))))
    (w : ∀ (σ : L2.St) (G H G1 H1 G2 H2 : Hp) (v u : V) (Q : VK), Sr Γ G H σ ρ → Step G H G1 H1 → Ex G1 H1 → PA H G1 H1 v → Step G1 H1 G2 H2 → Ex G2 H2 → PB H1 G2 H2 u →
      (∀ w G3 H3, Step G2 H2 G3 H3 → Ex G3 H3 → w = .bl q → Q w H3) → r v u H2 Q) : DT X Γ ρ e q :=
  h.weak fun σ H Q ⟨G, S, k⟩ => ⟨G, S, fun v G1 H1 s1 e1 p1 => ⟨G1, S.more s1 e1, fun u G2 H2 s2 e2 p2 => w σ G H G1 H1 G2 H2 v u _ S s1 e1 p1 s2 e2 p2 fun x G3 H3 s3 e3 p3 => ⟨q, p3, k G3 H3 ((s1.trans s2).trans s3) e3⟩⟩⟩
theorem dt_cmpR {op : CmpOp} {r : R2} {q : Bool} (ho : OpR X (compareOp op) r) (ha : DV X Γ ρ a x) (hb : DV X Γ ρ b y) (hm : behindInMarks op b = false) (hr : ∀ (H : Hp) (Q : VK), Q (.bl q) H → r x y H Q) : DT X Γ ρ (.Compare a [op] [b] pos) q :=
  binT_weak (pt_cmpR ho ha hb hm) fun σ G H G1 H1 G2 H2 v u Q S s1 e1 p1 s2 e2 p2 k => by
    have p1' : v = x := p1
    have p2' : u = y := p2
    rw [p1', p2']
    exact hr _ _ (k _ G2 H2 (Step.refl _ _) e2 rfl)
theorem dt_lt (ha : DV X Γ ρ a (.int i)) (hb : DV X Γ ρ b (.int j)) : DT X Γ ρ (.Compare a [.Lt] [b] pos) (decide (i < j)) := dt_cmpR op_lt ha hb (nomark _) fun _ _ q => ⟨_, _, rfl, rfl, q⟩
theorem dt_le (ha : DV X Γ ρ a (.int i)) (hb : DV X Γ ρ b (.int j)) : DT X Γ ρ (.Compare a [.LtE] [b] pos) (decide (i ≤ j)) := dt_cmpR op_le ha hb (nomark _) fun _ _ q => ⟨_, _, rfl, rfl, q⟩
theorem dt_gt (ha : DV X Γ ρ a (.int i)) (hb : DV X Γ ρ b (.int j)) : DT X Γ ρ (.Compare a [.Gt] [b] pos) (decide (j < i)) := dt_cmpR op_gt ha hb (nomark _) fun _ _ q => ⟨_, _, rfl, rfl, q⟩
theorem dt_ge (ha : DV X Γ ρ a (.int i)) (hb : DV X Γ ρ b (.int j)) : DT X Γ ρ (.Compare a [.GtE] [b] pos) (decide (j ≤ i)) := dt_cmpR op_ge ha hb (nomark _) fun _ _ q => ⟨_, _, rfl, rfl, q⟩
theorem dt_eqS (ha : DV X Γ ρ a x) (hb : DV X Γ ρ b y) (hs : scal x y = true := by rfl) : DT X Γ ρ (.Compare a [.Eq] [b] pos) (decide (x = y)) := dt_cmpR op_eq ha hb (nomark _) fun _ _ q => ⟨hs, q⟩
theorem dt_neS (ha : DV X Γ ρ a x) (hb : DV X Γ ρ b y) (hs : scal x y = true := by rfl) : DT X Γ ρ (.Compare a [.NotEq] [b] pos) (!decide (x = y)) := dt_cmpR op_ne ha hb (nomark _) fun _ _ q => ⟨hs, q⟩
theorem dt_eq (ha : DV X Γ ρ a (.int i)) (hb : DV X Γ ρ b (.int j)) : DT X Γ ρ (.Compare a [.Eq] [b] pos) (decide (i = j)) := dec_i ▸ dt_eqS ha hb
theorem dt_ne (ha : DV X Γ ρ a (.int i)) (hb : DV X Γ ρ b (.int j)) : DT X Γ ρ (.Compare a [.NotEq] [b] pos) (!decide (i = j)) := dec_i ▸ dt_neS ha hb
theorem dt_eqStr {i j : Str} (ha : DV X Γ ρ a (.str i)) (hb : DV X Γ ρ b (.str j)) : DT X Γ ρ (.Compare a [.Eq] [b] pos) (decide (i = j)) := dec_s ▸ dt_eqS ha hb
theorem dt_neStr {i j : Str} (ha : DV X Γ ρ a (.str i)) (hb : DV X Γ ρ b (.str j)) : DT X Γ ρ (.Compare a [.NotEq] [b] pos) (!decide (i = j)) := dec_s ▸ dt_neS ha hb
theorem dt_eqBl {i j : Bool} (ha : DV X Γ ρ a (.bl i)) (hb : DV X Γ ρ b (.bl j)) : DT X Γ ρ (.Compare a [.Eq] [b] pos) (decide (i = j)) := dec_b ▸ dt_eqS ha hb
theorem dt_neBl {i j : Bool} (ha : DV X Γ ρ a (.bl i)) (hb : DV X Γ ρ b (.bl j)) : DT X Γ ρ (.Compare a [.NotEq] [b] pos) (!decide (i = j)) := dec_b ▸ dt_neS ha hb
theorem dt_isNv (ha : DV X Γ ρ a x) {j q} : DT X Γ ρ (.Compare a [.Is] [.Constant .none j q] pos) (decide (x = .non)) := dt_cmpR op_isN ha dv_non (nomark _) fun _ _ q => ⟨rfl, q⟩
theorem dt_notNv (ha : DV X Γ ρ a x) {j q} : DT X Γ ρ (.Compare a [.IsNot] [.Constant .none j q] pos) (!decide (x = .non)) := dt_cmpR op_notN ha dv_non (nomark _) fun _ _ q => ⟨rfl, q⟩
theorem dt_isN (ha : DE X Γ ρ a κ d) {j q} : DT X Γ ρ (.Compare a [.Is] [.Constant .none j q] pos) (isN d) :=
  binT_weak (pt_cmpR op_isN ha (dv_non (Γ := Γ) (ρ := ρ)) (nomark _)) fun σ G H G1 H1 G2 H2 v u Q S s1 e1 p1 s2 e2 p2 k => by
    have p2' : u = .non := p2
    refine ⟨p2', ?_⟩
    rw [rep_isN (pK_c S s1 e1 p1)]
    exact k _ G2 H2 (Step.refl _ _) e2 rfl
theorem dt_notN (ha : DE X Γ ρ a κ d) {j q} : DT X Γ ρ (.Compare a [.IsNot] [.Constant .none j q] pos) (!isN d) :=
  binT_weak (pt_cmpR op_notN ha (dv_non (Γ := Γ) (ρ := ρ)) (nomark _)) fun σ G H G1 H1 G2 H2 v u Q S s1 e1 p1 s2 e2 p2 k => by
    have p2' : u = .non := p2
    refine ⟨p2', ?_⟩
    rw [rep_isN (pK_c S s1 e1 p1)]
    exact k _ G2 H2 (Step.refl _ _) e2 rfl
theorem shp {n : Nat} [E : EqN f n] (hn : n ≤ 64) (z : α) : SeqAt.shaped (f z) = true := by
  have := E.dep z
  simp only [SeqAt.shaped, E.lay, Bool.true_and, decide_eq_true_eq]
  omega
theorem dt_eqD {xs ys : α} {n : Nat} [DecidableEq α] [E : EqN f n] (hu : X.A.units + 64 < cLine) (ha : DE X Γ ρ a κ (f xs)) (hb : DE X Γ ρ b κ' (f ys)) (hn : n ≤ 64 := by decide) : DT X Γ ρ (.Compare a [.Eq] [b] pos) (decide (xs = ys)) :=
  binT_weak (pt_cmpR (op_eqD hu) ha hb (nomark _)) fun σ G H G1 H1 G2 H2 v u Q S s1 e1 p1 s2 e2 p2 k => by
    have q1 := Rep.mono s2.h (pK_c S s1 e1 p1)
    have q2 := pK_c (S.more s1 e1) s2 e2 p2
    refine ⟨_, _, rep_dp q1 (E.lay _), rep_dp q2 (E.lay _), shp hn _, shp hn _, k _ G2 H2 (Step.refl _ _) e2 ?_⟩
    congr 1
    rw [Bool.eq_iff_iff]
    simp [E.eqv]
theorem dt_neD {xs ys : α} {n : Nat} [DecidableEq α] [E : EqN f n] (hu : X.A.units + 64 < cLine) (ha : DE X Γ ρ a κ (f xs)) (hb : DE X Γ ρ b κ' (f ys)) (hn : n ≤ 64 := by decide) : DT X Γ ρ (.Compare a [.NotEq] [b] pos) (!decide (xs = ys)) :=
  binT_weak (pt_cmpR (op_neD hu) ha hb (nomark _)) fun σ G H G1 H1 G2 H2 v u Q S s1 e1 p1 s2 e2 p2 k => by
    have q1 := Rep.mono s2.h (pK_c S s1 e1 p1)
    have q2 := pK_c (S.more s1 e1) s2 e2 p2
    refine ⟨_, _, rep_dp q1 (E.lay _), rep_dp q2 (E.lay _), shp hn _, shp hn _, k _ G2 H2 (Step.refl _ _) e2 ?_⟩
    congr 2
    rw [Bool.eq_iff_iff]
    simp [E.eqv]
theorem dt_inD {xs : α} {ys : List α} {n : Nat} [DecidableEq α] [E : EqN f n] (hu : X.A.units + 65 < cLine) (ha : DE X Γ ρ a κ (f xs)) (hb : DE X Γ ρ b κ' (dl f ys)) (hm : behindInMarks .In b = false := by rfl) (hn : n + 1 ≤ 64 := by decide) : DT X Γ ρ (.Compare a [.In] [b] pos) (decide (xs ∈ ys)) :=
  binT_weak (pt_cmpR (op_inD hu) ha hb hm) fun σ G H G1 H1 G2 H2 v u Q S s1 e1 p1 s2 e2 p2 k => by
    have q1 := Rep.mono s2.h (pK_c S s1 e1 p1)
    have q2 := pK_c (S.more s1 e1) s2 e2 p2
    have E2 : EqN (dl f) (n + 1) := inferInstance
    refine ⟨_, _, rep_dp q1 (E.lay _), rep_dp q2 (E2.lay _), shp (by omega) _, shp (f := dl f) hn _, k _ G2 H2 (Step.refl _ _) e2 ?_⟩
    rw [eqvAny]
theorem dt_notInD {xs : α} {ys : List α} {n : Nat} [DecidableEq α] [E : EqN f n] (hu : X.A.units + 65 < cLine) (ha : DE X Γ ρ a κ (f xs)) (hb : DE X Γ ρ b κ' (dl f ys)) (hm : behindInMarks .NotIn b = false := by rfl) (hn : n + 1 ≤ 64 := by decide) : DT X Γ ρ (.Compare a [.NotIn] [b] pos) (!decide (xs ∈ ys)) :=
  binT_weak (pt_cmpR (op_notInD hu) ha hb hm) fun σ G H G1 H1 G2 H2 v u Q S s1 e1 p1 s2 e2 p2 k => by
    have q1 := Rep.mono s2.h (pK_c S s1 e1 p1)
    have q2 := pK_c (S.more s1 e1) s2 e2 p2
    have E2 : EqN (dl f) (n + 1) := inferInstance
    refine ⟨_, _, rep_dp q1 (E.lay _), rep_dp q2 (E2.lay _), shp (by omega) _, shp (f := dl f) hn _, k _ G2 H2 (Step.refl _ _) e2 ?_⟩
    rw [eqvAny]
theorem dt_in {ys : List Int} (hu : X.A.units + 65 < cLine) (ha : DV X Γ ρ a (.int i)) (hb : DE X Γ ρ b κ (dl dI ys)) (hm : behindInMarks .In b = false := by rfl) : DT X Γ ρ (.Compare a [.In] [b] pos) (decide (i ∈ ys)) := dt_inD (f := dI) hu (DV.dat ha) hb hm
theorem dt_notIn {ys : List Int} (hu : X.A.units + 65 < cLine) (ha : DV X Γ ρ a (.int i)) (hb : DE X Γ ρ b κ (dl dI ys)) (hm : behindInMarks .NotIn b = false := by rfl) : DT X Γ ρ (.Compare a [.NotIn] [b] pos) (!decide (i ∈ ys)) := dt_notInD (f := dI) hu (DV.dat ha) hb hm
theorem dt_chain {op op' : CmpOp} {f g : Int → Int → Bool} (ho : OpR X (compareOp op) (rI0 fun i j => .bl (f i j))) (ho' : OpR X (compareOp op') (rI0 fun i j => .bl (g i j))) (ha : DV X Γ ρ a (.int i)) (hb : DV X Γ ρ b (.int j)) (hc : DV X Γ ρ c (.int k))
    (hm : lastMarks [op, op'] [b, c] = false := by with_unfolding_all rfl) : DT X Γ ρ (.Compare a [op, op'] [b, c] pos) (f i j && g j k) :=
  (pt_chain ho ho' ha hb hc hm).weak fun σ H Q ⟨G, S, kk⟩ => ⟨G, S, fun v G1 H1 s1 e1 p1 => ⟨G1, S.more s1 e1, fun u G2 H2 s2 e2 p2 => ⟨i, j, p1, p2, f i j, rfl, by
    cases hf : f i j with
    | true =>
      rw [if_pos rfl]
      exact ⟨G2, (S.more s1 e1).more s2 e2, fun w G3 H3 s3 e3 p3 => ⟨j, k, p2, p3, g j k, rfl, by have := kk G3 H3 ((s1.trans s2).trans s3) e3; rwa [hf] at this⟩⟩
    | false =>
      rw [if_neg Bool.false_ne_true]
      exact ⟨false, rfl, by have := kk G2 H2 (s1.trans s2) e2; rwa [hf] at this⟩⟩⟩⟩
theorem dt_leLe (ha : DV X Γ ρ a (.int i)) (hb : DV X Γ ρ b (.int j)) (hc : DV X Γ ρ c (.int k)) (hm : lastMarks [.LtE, .LtE] [b, c] = false := by with_unfolding_all rfl) : DT X Γ ρ (.Compare a [.LtE, .LtE] [b, c] pos) (decide (i ≤ j) && decide (j ≤ k)) := dt_chain op_le op_le ha hb hc hm
theorem dt_leLt (ha : DV X Γ ρ a (.int i)) (hb : DV X Γ ρ b (.int j)) (hc : DV X Γ ρ c (.int k)) (hm : lastMarks [.LtE, .Lt] [b, c] = false := by with_unfolding_all rfl) : DT X Γ ρ (.Compare a [.LtE, .Lt] [b, c] pos) (decide (i ≤ j) && decide (j < k)) := dt_chain op_le op_lt ha hb hc hm
end
end DL

set_option Elab.async false
set_option linter.all false
set_option maxRecDepth 100000
/-! the program's own looks, as plain functions -/
namespace Th
open PySem L2 DL
instance : Inhabited D := ⟨.none⟩
theorem take_succ_map {α β : Type} [Inhabited α] (f : α → β) (xs : List α) {i : Nat} (hi : i < xs.length) : (xs.take (i + 1)).map f = (xs.take i).map f ++ [f (xs.getD i default)] := by
  have e : xs.getD i default = xs[i] := by simp [List.getD_eq_getElem?_getD, hi]
  rw [List.take_add_one, List.getElem?_eq_getElem hi, List.map_append, e]
  rfl
def iOf : D → Int
  | .int i => i
  | _ => 0
def dsOf : D → List D
  | .list ds => ds
  | _ => []
theorem dV_iOf {d : D} (h : isInt d = true) (h2 : isBool d = false) : dV d = some (.int (iOf d)) := by
  cases d <;> simp [isInt, isBool, dV, iOf] at *
theorem d_iOf {d : D} (h : isInt d = true) (h2 : isBool d = false) : d = .int (iOf d) := by
  cases d <;> simp [isInt, isBool, iOf] at *
theorem d_dsOf {d : D} (h : isList d = true) : d = .list (dsOf d) := by
  cases d <;> simp [isList, dsOf] at *
theorem d_dl {d : D} (h : isList d = true) : d = dl (fun x => x) (dsOf d) := by
  unfold dl
  simpa using d_dsOf h
def isAmong (d : D) (lo hi : Int) : Bool := isInt d && (!isBool d && (decide (lo ≤ iOf d) && decide (iOf d ≤ hi)))
theorem isAmong_int {i lo hi : Int} : isAmong (.int i) lo hi = (decide (lo ≤ i) && decide (i ≤ hi)) := rfl
theorem isAmong_d {d : D} {lo hi : Int} (h : isAmong d lo hi = true) : d = .int (iOf d) ∧ lo ≤ iOf d ∧ iOf d ≤ hi := by
  simp [isAmong] at h
  exact ⟨d_iOf h.1 h.2.1, h.2.2.1, h.2.2.2⟩
def nums (d : D) : List Int := (dsOf d).map iOf
theorem nums_dL (ns : List Int) : nums (dL ns) = ns := by
  show (ns.map dI).map iOf = ns
  rw [List.map_map]
  exact (List.map_congr_left fun a _ => rfl).trans (List.map_id _)
theorem d_nums {d : D} {lo hi : Int} (h : isList d = true) (h2 : ((dsOf d).map fun x => isAmong x lo hi).all id = true) : d = dL (nums d) := by
  have e := d_dsOf h
  have e2 : dL (nums d) = .list (dsOf d) := by
    show PyData.list (((dsOf d).map iOf).map dI) = _
    rw [List.map_map]
    congr 1
    refine (List.map_congr_left fun a ha => ?_).trans (List.map_id _)
    have := List.all_eq_true.mp h2 (isAmong a lo hi) (List.mem_map.mpr ⟨a, ha, rfl⟩)
    exact (isAmong_d (by simpa using this)).1.symm
  rw [e2]
  exact e
def isRow (d : D) (many : Int) : Bool := isList d && (decide (((dsOf d).length : Int) = many) && ((dsOf d).map fun x => isAmong x 0 1000000).all id)
def hdD (d : D) : D := (dsOf d).getD 0 .none
def isTable (d : D) : Bool :=
  if (!isList d || (!(decide (1 ≤ ((dsOf d).length : Int)) && decide (((dsOf d).length : Int) ≤ 8)) || !isList (hdD d))) = true then false
  else decide (((dsOf (hdD d)).length : Int) ≤ 40) && ((dsOf d).map fun r => isRow r ((dsOf (hdD d)).length : Int)).all id
def areThings (d : D) (many : Int) : Bool :=
  if (!isList d || !((dsOf d).map fun x => isAmong x 0 (many - 1)).all id) = true then false
  else decide (((ddup (nums d)).length : Int) = ((nums d).length : Int))
def told (d : D) : List Int := ((dsOf d).map nums).flatten
def areShares (d : D) (heirs things : Int) : Bool :=
  if (!isList d || !decide (((dsOf d).length : Int) = heirs)) = true then false
  else if (!((dsOf d).map fun s => areThings s things && decide (nums s = sortI (nums s))).all id) = true then false
  else decide (((ddup (told d)).length : Int) = ((told d).length : Int))
theorem areThings_d {d : D} {many : Int} (h : areThings d many = true) : isList d = true ∧ d = dL (nums d) ∧ (∀ x ∈ nums d, 0 ≤ x ∧ x < many) ∧ (nums d).Nodup := by
  unfold areThings at h
  split at h
  · cases h
  rename_i q
  simp only [Bool.or_eq_true, Bool.not_eq_true', not_or, Bool.not_eq_false] at q
  refine ⟨q.1, d_nums q.1 q.2, fun x hx => ?_, ?_⟩
  · unfold nums at hx
    obtain ⟨a, ha, rfl⟩ := List.mem_map.mp hx
    have := List.all_eq_true.mp q.2 (isAmong a 0 (many - 1)) (List.mem_map.mpr ⟨a, ha, rfl⟩)
    have := isAmong_d (by simpa using this)
    omega
  · have := of_decide_eq_true h
    exact (ddup_len _).mp (by omega)
/-- a good table of typed worths -/
structure GoodT (t : List (List Int)) (m : Nat) : Prop where
  n1 : 1 ≤ t.length
  n8 : t.length ≤ 8
  m40 : m ≤ 40
  len : ∀ r ∈ t, r.length = m
  wor : ∀ r ∈ t, ∀ x ∈ r, 0 ≤ x ∧ x ≤ 1000000
/-- good shares of it -/
structure GoodS (s : List (List Int)) (n m : Nat) : Prop where
  n : s.length = n
  bd : ∀ r ∈ s, ∀ x ∈ r, 0 ≤ x ∧ x < (m : Int)
  up : ∀ r ∈ s, r.Pairwise (· < ·)
  nd : s.flatten.Nodup
theorem dsOf_dLL {α : Type} (f : α → D) (t : List α) : dsOf (dl f t) = t.map f := rfl
theorem all_true {α : Type} {xs : List α} {p : α → Bool} (h : ∀ x ∈ xs, p x = true) : (xs.map p).all id = true := by
  rw [List.all_eq_true]
  intro b hb
  obtain ⟨x, hx, rfl⟩ := List.mem_map.mp hb
  exact h x hx
theorem isRow_y {r : List Int} {m : Nat} (hl : r.length = m) (hw : ∀ x ∈ r, 0 ≤ x ∧ x ≤ 1000000) : isRow (dL r) m = true := by
  unfold isRow
  rw [dsOf_dLL, List.length_map, hl, List.map_map]
  simp only [dl, isList, decide_true, Bool.true_and]
  exact all_true fun x hx => by
    show isAmong (.int x) 0 1000000 = true
    rw [isAmong_int]
    simp [hw x hx]
theorem GoodT.hd {t : List (List Int)} {m : Nat} (h : GoodT t m) : ∃ r, hdD (dLL t) = dL r ∧ r ∈ t := by
  have := h.n1
  refine ⟨t[0], ?_, List.getElem_mem _⟩
  show (t.map dL).getD 0 .none = _
  simp [List.getD_eq_getElem?_getD, List.getElem?_map, List.getElem?_eq_getElem this]
theorem GoodT.isTable {t : List (List Int)} {m : Nat} (h : GoodT t m) : isTable (dLL t) = true := by
  obtain ⟨r, e, hr⟩ := h.hd
  unfold Th.isTable
  rw [e, dsOf_dLL, dsOf_dLL, List.length_map, List.length_map, h.len r hr, List.map_map]
  have h1 := h.n1
  have h8 := h.n8
  have h40 := h.m40
  have a : (t.map ((fun r => isRow r (m : Int)) ∘ dL)).all id = true := all_true fun x hx => isRow_y (h.len x hx) (h.wor x hx)
  rw [a]
  have e1 : isList (dLL t) = true := rfl
  have e2 : isList (dL r) = true := rfl
  rw [e1, e2]
  simp
  omega
theorem GoodT.dsz {t : List (List Int)} {m : Nat} (h : GoodT t m) : ∀ x ∈ dsOf (dLL t), (dsOf x).length ≤ 16000000 := fun x hx => by
  rw [dsOf_dLL] at hx
  obtain ⟨r, hr, rfl⟩ := List.mem_map.mp hx
  rw [dsOf_dLL, List.length_map, h.len r hr]
  have := h.m40
  omega
theorem GoodT.m0 {t : List (List Int)} {m : Nat} (h : GoodT t m) : (pyAt t 0).length = m := by
  have := h.n1
  unfold pyAt
  rw [if_pos (by omega)]
  exact h.len _ (by simp [List.getD_eq_getElem?_getD, show 0 < t.length by omega])
theorem pyAt_mem {α : Type} [Inhabited α] {xs : List α} {i : Int} (h : inR xs.length i) : pyAt xs i ∈ xs := by
  rw [pyAt_ix]
  have := (ixN_pyIx h).2
  simp [List.getD_eq_getElem?_getD, this]
theorem pyAt_nat {α : Type} [Inhabited α] (xs : List α) (i : Nat) : pyAt xs (i : Int) = xs.getD i default := by
  unfold pyAt
  rw [if_pos (by omega), Int.toNat_natCast]
theorem GoodT.at {t : List (List Int)} {m : Nat} (h : GoodT t m) {i : Int} (hi : inR t.length i) : (pyAt t i).length = m := h.len _ (pyAt_mem hi)
theorem areThings_y {ts : List Int} {m : Nat} (hb : ∀ x ∈ ts, 0 ≤ x ∧ x < (m : Int)) (nd : ts.Nodup) : areThings (dL ts) m = true := by
  unfold areThings
  rw [dsOf_dLL, List.map_map, nums_dL]
  have a : (ts.map ((fun x => isAmong x 0 ((m : Int) - 1)) ∘ dI)).all id = true := all_true fun x hx => by
    show isAmong (.int x) 0 _ = true
    rw [isAmong_int]
    have := hb x hx
    simp
    omega
  rw [a]
  have e1 : isList (dL ts) = true := rfl
  rw [e1, (ddup_len ts).mpr nd]
  simp
theorem told_dLL (s : List (List Int)) : told (dLL s) = s.flatten := by
  unfold told
  rw [dsOf_dLL, List.map_map]
  congr 1
  exact (List.map_congr_left fun a _ => nums_dL a).trans (List.map_id _)
theorem up_sorted {r : List Int} (h : r.Pairwise (· < ·)) : r = sortI r := sortI_uniq (List.Perm.refl _) (h.imp fun h => by omega)
theorem nodup_bd {xs : List Int} {m : Nat} (nd : xs.Nodup) (h : ∀ x ∈ xs, 0 ≤ x ∧ x < (m : Int)) : xs.length ≤ m := by
  have := nodup_sub_len (ys := (List.range m).map fun (i : Nat) => (i : Int)) nd fun x hx => by
    have := h x hx
    exact List.mem_map.mpr ⟨x.toNat, List.mem_range.mpr (by omega), by omega⟩
  simpa using this
theorem GoodS.fl {s : List (List Int)} {n m : Nat} (h : GoodS s n m) : s.flatten.length ≤ m := nodup_bd h.nd fun x hx => by
  obtain ⟨r, hr, hx⟩ := List.mem_flatten.mp hx
  exact h.bd r hr x hx
theorem nodup_of_up {r : List Int} (h : r.Pairwise (· < ·)) : r.Nodup := by
  rw [List.nodup_iff_pairwise_ne]
  exact h.imp fun h => by omega
theorem GoodS.row {s : List (List Int)} {n m : Nat} (h : GoodS s n m) {r : List Int} (hr : r ∈ s) : r.length ≤ m := nodup_bd (nodup_of_up (h.up r hr)) (h.bd r hr)
theorem GoodS.areShares {s : List (List Int)} {n m : Nat} (h : GoodS s n m) : areShares (dLL s) n m = true := by
  unfold Th.areShares
  rw [told_dLL, dsOf_dLL, List.length_map, h.n, List.map_map]
  have a : (s.map ((fun s => areThings s (m : Int) && decide (nums s = sortI (nums s))) ∘ dL)).all id = true := all_true fun x hx => by
    show (areThings (dL x) (m : Int) && decide (nums (dL x) = sortI (nums (dL x)))) = true
    rw [nums_dL, areThings_y (h.bd x hx) (nodup_of_up (h.up x hx))]
    simp [← up_sorted (h.up x hx)]
  rw [a]
  have e1 : isList (dLL s) = true := rfl
  rw [e1, (ddup_len _).mpr h.nd]
  simp
theorem GoodS.z1 {s : List (List Int)} {n m : Nat} (h : GoodS s n m) {t : List (List Int)} (ht : GoodT t m) (e : n = t.length := by rfl) : (dsOf (dLL s)).length ≤ 4000 := by
  rw [dsOf_dLL, List.length_map, h.n, e]
  have := ht.n8
  omega
theorem GoodS.z2 {s : List (List Int)} {n m : Nat} (h : GoodS s n m) {t : List (List Int)} (ht : GoodT t m) : ∀ x ∈ dsOf (dLL s), (dsOf x).length ≤ 4000 := fun x hx => by
  rw [dsOf_dLL] at hx
  obtain ⟨r, hr, rfl⟩ := List.mem_map.mp hx
  rw [dsOf_dLL, List.length_map]
  have := h.row hr
  have := ht.m40
  omega
theorem GoodS.z3 {s : List (List Int)} {n m : Nat} (h : GoodS s n m) {t : List (List Int)} (ht : GoodT t m) : (told (dLL s)).length ≤ 4000 := by
  rw [told_dLL]
  have := h.fl
  have := ht.m40
  omega
end Th

set_option Elab.async false
set_option linter.all false
set_option maxRecDepth 100000
/-! the laws' own helpers, as plain functions -/
namespace Th
open PySem L2 DL
def lAt (s : List Int) (k : Int) : Int := if k < s.length then pyAt s k else 0
def lMixed (c k : Int) : Int := (c + 7919 * k + 17) * 48271 % 2147483647
def lHeirs (c : Int) : Int := if c / 5 % 8 = 1 then 1 + c / 40 % 8 else 1 + c % 5
def lThings (c : Int) : Int := if c / 9 % 8 = 1 then 9 + c / 72 % 6 else c % 9
def lWorth (n m : Int) : Int := if m = 0 then n % 1000001 else if m = 1 then 1000000 - n % 3 else n % pyAt [7, 2, 40] (m - 2)
theorem lHeirs_bd (c : Int) : 1 ≤ lHeirs c ∧ lHeirs c ≤ 8 := by unfold lHeirs; split <;> omega
theorem lThings_bd (c : Int) : 0 ≤ lThings c ∧ lThings c ≤ 14 := by unfold lThings; split <;> omega
def lCell (s : List Int) (m : Int) (k : Int) : Int := lWorth (lMixed (lAt s (4 + k % 36)) k / 3) m
/-- a row of the law's table -/
def lRow (s : List Int) (many : Nat) (m : Int) (h : Nat) (j : Nat) : List Int := (List.range j).map fun (t : Nat) => lCell s m ((h : Int) * many + t)
def lTable (s : List Int) (n many : Nat) : List (List Int) := (List.range n).map fun h => lRow s many (lAt s 2 % 5) h many
theorem lWorth_bd {n m : Int} (hn : 0 ≤ n) (h : 0 ≤ m ∧ m < 5) : 0 ≤ lWorth n m ∧ lWorth n m ≤ 1000000 := by
  unfold lWorth
  split
  · omega
  split
  · omega
  have : m = 2 ∨ m = 3 ∨ m = 4 := by omega
  rcases this with e | e | e <;> subst e <;> simp [pyAt] <;> omega
theorem lMixed_bd (c k : Int) : 0 ≤ lMixed c k ∧ lMixed c k < 2147483647 := by unfold lMixed; omega
theorem lCell_bd (s : List Int) {m : Int} (h : 0 ≤ m ∧ m < 5) (k : Int) : 0 ≤ lCell s m k ∧ lCell s m k ≤ 1000000 := by
  unfold lCell
  have := (lMixed_bd (lAt s (4 + k % 36)) k).1
  exact lWorth_bd (by omega) h
theorem lTable_good (s : List Int) {n many : Nat} (h1 : 1 ≤ n) (h8 : n ≤ 8) (hm : many ≤ 40) : GoodT (lTable s n many) many where
  n1 := by simp [lTable]; omega
  n8 := by simp [lTable]; omega
  m40 := hm
  len := fun r hr => by
    simp only [lTable, List.mem_map] at hr
    obtain ⟨h, _, rfl⟩ := hr
    simp [lRow]
  wor := fun r hr x hx => by
    simp only [lTable, List.mem_map] at hr
    obtain ⟨h, _, rfl⟩ := hr
    simp only [lRow, List.mem_map] at hx
    obtain ⟨t, _, rfl⟩ := hx
    exact lCell_bd s (by omega) _
end Th
namespace Th
open PySem L2 DL
/-- to whom the law's shares give a thing -/
def lShTo (s : List Int) (n : Nat) (t : Nat) : Int := lMixed (lAt s (40 + (t : Int) % 8)) t / 5 % ((n : Int) + 1 - (if decide (lAt s 3 % 3 = 1) = true then 1 else 0))
def lShares (s : List Int) (n k : Nat) : List (List Int) := (List.range n).map fun (h : Nat) => ((List.range k).filter fun t => decide (lShTo s n t = (h : Int))).map fun (t : Nat) => (t : Int)
theorem lShTo_nn (s : List Int) {n : Nat} (t : Nat) (hn : 1 ≤ n) : 0 ≤ lShTo s n t := by
  unfold lShTo
  apply Int.emod_nonneg
  split <;> omega
theorem getD_map_range {α : Type} (f : Nat → α) {n j : Nat} (h : j < n) (d : α) : ((List.range n).map f).getD j d = f j := by
  simp [List.getD_eq_getElem?_getD, h]
theorem set_map_range {α : Type} (f g : Nat → α) {n j : Nat} (h : ∀ i, i < n → i ≠ j → f i = g i) : ((List.range n).map f).set j (g j) = (List.range n).map g := by
  refine List.ext_getElem (by simp) fun i h1 h2 => ?_
  simp at h1 h2
  by_cases e : j = i
  · subst e; simp
  · rw [List.getElem_set_ne e]
    simpa using h i h2 (Ne.symm e)
theorem pyIx_nat {n j : Nat} : pyIx n (j : Int) = j := by unfold pyIx; rw [if_pos (by omega)]; omega
theorem lShares_yes (s : List Int) {n k : Nat} (h0 : 0 ≤ lShTo s n k) (h1 : lShTo s n k < n) : (lShares s n k).set (pyIx (lShares s n k).length (lShTo s n k)) ((lShares s n k).getD (pyIx (lShares s n k).length (lShTo s n k)) [] ++ [(k : Int)]) = lShares s n (k + 1) := by
  obtain ⟨j, hj⟩ : ∃ j : Nat, lShTo s n k = j := ⟨(lShTo s n k).toNat, by omega⟩
  have hjn : j < n := by omega
  rw [hj, pyIx_nat]
  unfold lShares
  rw [getD_map_range _ hjn]
  have e : ((List.range k).filter fun t => decide (lShTo s n t = (j : Int))).map (fun (t : Nat) => (t : Int)) ++ [(k : Int)] = (fun (h : Nat) => ((List.range (k + 1)).filter fun t => decide (lShTo s n t = (h : Int))).map fun (t : Nat) => (t : Int)) j := by
    simp [List.range_succ, List.filter_append, hj]
  rw [e]
  refine set_map_range (g := fun (h : Nat) => ((List.range (k + 1)).filter fun t => decide (lShTo s n t = (h : Int))).map fun (t : Nat) => (t : Int)) _ fun i hi hne => ?_
  have : ¬ (lShTo s n k = (i : Int)) := by omega
  simp [List.range_succ, List.filter_append, this]
theorem lShares_no (s : List Int) {n k : Nat} (h1 : ¬ lShTo s n k < n) : lShares s n k = lShares s n (k + 1) := by
  unfold lShares
  refine List.map_congr_left fun i hi => ?_
  have : i < n := List.mem_range.mp hi
  have : ¬ (lShTo s n k = (i : Int)) := by omega
  simp [List.range_succ, List.filter_append, this]
def summed (row things : List Int) : Int := (things.map fun t => pyAt row t).sum
/-- the law's choice of things -/
def lSomeS (c : Int) (m : Nat) : Nat → List Int × List Int
  | 0 => (rgI m, [])
  | k + 1 => let p := lSomeS c m k
    let i := lMixed c k / 7 % (p.1.length : Int)
    (p.1.eraseIdx i.toNat, p.2 ++ [p.1.getD i.toNat 0])
def lSome (c : Int) (m : Nat) : List Int := (lSomeS c m (c % ((m : Int) + 1)).toNat).2
theorem lSomeS_len (c : Int) (m : Nat) : ∀ k, k ≤ m → (lSomeS c m k).1.length = m - k ∧ (lSomeS c m k).2.length = k
  | 0, _ => by simp [lSomeS, rgI]
  | k + 1, h => by
    obtain ⟨h1, h2⟩ := lSomeS_len c m k (by omega)
    have hp : 0 < (lSomeS c m k).1.length := by omega
    have hi : (lMixed c k / 7 % ((lSomeS c m k).1.length : Int)).toNat < (lSomeS c m k).1.length := by
      have := Int.emod_lt_of_pos (lMixed c k / 7) (show (0 : Int) < ((lSomeS c m k).1.length : Int) by omega)
      have := Int.emod_nonneg (lMixed c k / 7) (show ((lSomeS c m k).1.length : Int) ≠ 0 by omega)
      omega
    simp only [lSomeS, List.length_eraseIdx, List.length_append, List.length_singleton]
    rw [if_pos hi]
    omega
theorem rgI_len (m : Nat) : (rgI m).length = m := by simp [rgI]
theorem rgI_mem {m : Nat} {x : Int} : x ∈ rgI m ↔ 0 ≤ x ∧ x < m := by
  simp only [rgI, List.mem_map, List.mem_range]
  constructor
  · rintro ⟨a, h, rfl⟩; omega
  · rintro ⟨h1, h2⟩; exact ⟨x.toNat, by omega, by omega⟩
theorem rgI_nodup (m : Nat) : (rgI m).Nodup := by
  unfold rgI
  rw [List.nodup_iff_pairwise_ne, List.pairwise_map]
  exact List.nodup_range.imp fun h => by omega
theorem erase_perm {α : Type} {xs : List α} {i : Nat} {d : α} (h : i < xs.length) : (xs.eraseIdx i ++ [xs.getD i d]).Perm xs := by
  have e : xs.getD i d = xs[i] := by simp [List.getD_eq_getElem?_getD, h]
  rw [e]
  have : (xs[i] :: xs.eraseIdx i).Perm xs := by
    rw [List.eraseIdx_eq_take_drop_succ]
    have h2 : xs = xs.take i ++ xs[i] :: xs.drop (i + 1) := by simp
    conv => rhs; rw [h2]
    exact List.perm_middle.symm
  exact (List.perm_append_singleton _ _).trans this
theorem lSomeS_perm (c : Int) (m : Nat) : ∀ k, k ≤ m → ((lSomeS c m k).1 ++ (lSomeS c m k).2).Perm (rgI m)
  | 0, _ => by simp [lSomeS]
  | k + 1, h => by
    have ih := lSomeS_perm c m k (by omega)
    obtain ⟨h1, h2⟩ := lSomeS_len c m k (by omega)
    have hp : 0 < (lSomeS c m k).1.length := by omega
    have hi : (lMixed c k / 7 % ((lSomeS c m k).1.length : Int)).toNat < (lSomeS c m k).1.length := by
      have := Int.emod_lt_of_pos (lMixed c k / 7) (show (0 : Int) < ((lSomeS c m k).1.length : Int) by omega)
      have := Int.emod_nonneg (lMixed c k / 7) (show ((lSomeS c m k).1.length : Int) ≠ 0 by omega)
      omega
    refine List.Perm.trans ?_ ih
    simp only [lSomeS]
    refine (List.Perm.append_left _ List.perm_append_comm).trans ?_
    rw [← List.append_assoc]
    exact (erase_perm hi).append_right _
theorem lSome_sub (c : Int) (m : Nat) : (lSome c m).Nodup ∧ ∀ x ∈ lSome c m, 0 ≤ x ∧ x < m := by
  have hk : (c % ((m : Int) + 1)).toNat ≤ m := by
    have := Int.emod_lt_of_pos c (show (0 : Int) < (m : Int) + 1 by omega)
    omega
  have p := lSomeS_perm c m _ hk
  have nd := p.nodup_iff.mpr (rgI_nodup m)
  exact ⟨(List.nodup_append.mp nd).2.1, fun x hx => rgI_mem.mp (p.subset (List.mem_append_right _ hx))⟩
theorem lSome_len (c : Int) (m : Nat) : (lSome c m).length ≤ m := by
  have hk : (c % ((m : Int) + 1)).toNat ≤ m := by
    have := Int.emod_lt_of_pos c (show (0 : Int) < (m : Int) + 1 by omega)
    omega
  have := (lSomeS_len c m _ hk).2
  unfold lSome
  omega
end Th

namespace Th
open PySem L2 DL
theorem lw_inR {m : Int} (hm : 0 ≤ m ∧ m < 5) (h1 : decide (m = 0) = false) (h2 : decide (m = 1) = false) : inR [7, 2, 40].length (m - 2) := by
  have := of_decide_eq_false h1
  have := of_decide_eq_false h2
  exact ⟨by simp; omega, by simp; omega⟩
theorem lw_mod {m : Int} (hm : 0 ≤ m ∧ m < 5) (h1 : decide (m = 0) = false) (h2 : decide (m = 1) = false) : 0 < (pyAt [7, 2, 40] (m - 2) : Int) := by
  have := of_decide_eq_false h1
  have := of_decide_eq_false h2
  have : m = 2 ∨ m = 3 ∨ m = 4 := by omega
  rcases this with e | e | e <;> subst e <;> simp [pyAt]
theorem lSh_inR {s : List Int} {n i : Nat} {x : Int} (h0 : 0 ≤ x) (h1 : x < n) : inR (lShares s n i).length x := by
  have : (lShares s n i).length = n := by simp [lShares]
  rw [this]
  exact ⟨by omega, h1⟩
theorem lSh_row (s : List Int) (n i : Nat) : ∀ r ∈ lShares s n i, r.length ≤ i := fun r hr => by
  simp only [lShares, List.mem_map] at hr
  obtain ⟨h, _, rfl⟩ := hr
  rw [List.length_map]
  exact Nat.le_trans (List.length_filter_le _ _) (by simp)
theorem lSh_sz {s : List Int} {n i j : Nat} (hi : i < 1000) : ((lShares s n i).getD j []).length < 16000000 := by
  by_cases h : j < (lShares s n i).length
  · have := lSh_row s n i ((lShares s n i).getD j []) (by simp [List.getD_eq_getElem?_getD, h])
    omega
  · rw [List.getD_eq_getElem?_getD, List.getElem?_eq_none (by omega)]
    simp
theorem getD_mem {xs : List Int} {i : Nat} (h : i < xs.length) : xs.getD i default ∈ xs := by simp [List.getD_eq_getElem?_getD, h]
theorem summed_take {row things : List Int} {i : Nat} (hi : i < things.length) : summed row (things.take (i + 1)) = summed row (things.take i) + pyAt row (things.getD i default) := by
  unfold summed
  have e : things.getD i default = things[i] := by simp [List.getD_eq_getElem?_getD, hi]
  rw [List.take_add_one, List.getElem?_eq_getElem hi, e, List.map_append, List.sum_append]
  simp only [Option.toList, List.map_cons, List.map_nil, List.sum_cons, List.sum_nil, Int.add_zero]
theorem lSome_k (c : Int) (m : Nat) : (c % ((m : Int) + 1)).toNat ≤ m := by
  have := Int.emod_lt_of_pos c (show (0 : Int) < (m : Int) + 1 by omega)
  omega
def nH (s : List Int) : Nat := (lHeirs (lAt s 0)).toNat
def nM (s : List Int) : Nat := (lThings (lAt s 1)).toNat
theorem nH_eq (s : List Int) : V.int (lHeirs (lAt s 0)) = V.int (nH s) := by
  have := lHeirs_bd (lAt s 0)
  unfold nH
  congr 1
  omega
theorem nM_eq (s : List Int) : V.int (lThings (lAt s 1)) = V.int (nM s) := by
  have := lThings_bd (lAt s 1)
  unfold nM
  congr 1
  omega
theorem nH_bd (s : List Int) : 1 ≤ nH s ∧ nH s ≤ 8 := by
  have := lHeirs_bd (lAt s 0)
  unfold nH
  omega
theorem nM_bd (s : List Int) : nM s ≤ 14 := by
  have := lThings_bd (lAt s 1)
  unfold nM
  omega
theorem lShares_good (s : List Int) {n many : Nat} (hn : 1 ≤ n) : GoodS (lShares s n many) n many where
  n := by simp [lShares]
  bd := fun r hr x hx => by
    simp only [lShares, List.mem_map] at hr
    obtain ⟨h, _, rfl⟩ := hr
    obtain ⟨t, ht, rfl⟩ := List.mem_map.mp hx
    have := List.mem_range.mp (List.mem_filter.mp ht).1
    omega
  up := fun r hr => by
    simp only [lShares, List.mem_map] at hr
    obtain ⟨h, _, rfl⟩ := hr
    rw [List.pairwise_map]
    have : (List.range many).Pairwise (· < ·) := List.pairwise_lt_range
    exact (this.filter _).imp fun h => by omega
  nd := by
    unfold lShares
    rw [List.nodup_iff_pairwise_ne, List.pairwise_flatten]
    refine ⟨fun r hr => ?_, ?_⟩
    · obtain ⟨h, _, rfl⟩ := List.mem_map.mp hr
      rw [List.pairwise_map]
      have : (List.range many).Pairwise (· < ·) := List.pairwise_lt_range
      exact (this.filter _).imp fun h => by omega
    · rw [List.pairwise_map]
      have : (List.range n).Pairwise (· < ·) := List.pairwise_lt_range
      refine this.imp fun {a b} hab => ?_
      intro x hx y hy e
      obtain ⟨t, ht, rfl⟩ := List.mem_map.mp hx
      obtain ⟨u, hu, e2⟩ := List.mem_map.mp hy
      have h1 := of_decide_eq_true (List.mem_filter.mp ht).2
      have h2 := of_decide_eq_true (List.mem_filter.mp hu).2
      have : t = u := by omega
      subst this
      omega
theorem k01_sum {t : List (List Int)} {m : Nat} (g : GoodT t m) {ts : List Int} (hb : ∀ x ∈ ts, 0 ≤ x ∧ x < (m : Int)) {h : Int} (hh : inR t.length h) : ∀ x ∈ ts, inR (pyAt t h).length x := fun x hx => by
  rw [g.at hh]
  have := hb x hx
  exact ⟨by omega, this.2⟩
end Th

set_option Elab.async false
set_option linter.all false
set_option maxRecDepth 100000
set_option maxHeartbeats 2000000
/-! DL, last: a whole number or None; tuples walked; places two deep; a walk that appends to what it walks. -/
namespace DL
open PySem L2
def dO : Option Int → D
  | none => .none
  | some i => .int i
instance : EqN dO 0 := ⟨fun x y => by cases x <;> cases y <;> simp [dO, PyData.eqv], fun x => by cases x <;> simp [dO, PyData.canLay0], fun x => by cases x <;> simp [dO, PyData.depth]⟩
theorem Rep.t {H : Hp} {v : V} {ds : List D} (h : Rep H v (.tuple ds)) : ∃ a vs, v = .ref a ∧ H a = some (.tup vs) ∧ Reps H vs ds := by
  cases h with
  | tup h r => exact ⟨_, _, rfl, h, r⟩
section
variable {X : Cx} {Γ : Gm} {ρ ρ' : List Sl} {e a b c o tg : Expr} {es : List Expr} {pos p p' apos cpos : Pos} {κ κ' : Kd} {d d' : D} {x y z : V} {t t' : OT} {σ : L2.St} {G H G1 H1 G2 H2 : Hp} {E : En} {st : Stmt} {rest body : List Stmt} {n : Str} {i : Nat} {ts : List OT} {pa : List Nat} {α β : Type} {f : α → D} {g : α → OT}
theorem ic_t {xs : List α} (s : α → Sl) (h : DE X Γ ρ e κ (.tuple (xs.map f))) (hs : ∀ a, SubRo (f a) (s a)) : DIc X Γ ρ tg e xs s :=
  (pi_tup h).weak fun σ H R ⟨G, S, k⟩ => ⟨G, S, fun v G1 H1 s1 e1 q => by
    obtain ⟨a, vs, rfl, hl, r⟩ := Rep.t (pK_c S s1 e1 q)
    have ln := r.len
    rw [List.length_map] at ln
    refine ⟨a, rfl, ⟨vs, SqT.of hl⟩, k _ G1 H1 s1 e1 ⟨fun i G' H' g1 g2 g3 hi => ?_, fun i a' G' H' x H'' hx g1 g2 g3 hy => ?_, fun i G' H' g1 g2 g3 hi => ⟨vs, SqT.of (g3 _ _ hl), by omega⟩⟩⟩
    · exact ⟨vs, vs[i], SqT.of (g3 _ _ hl), List.getElem?_eq_getElem (by omega)⟩
    · obtain ⟨rfl, hv⟩ := hy
      obtain ⟨d, h1, h2⟩ := r.getV (hv vs (SqT.of (g3 _ _ hl)))
      rw [map_at' hx h1] at h2
      exact ⟨G', Step.refl _ _, g2, (hs a').sl h2⟩⟩
theorem at_two {x3 : List (List (List α))} {j k : Nat} (h1 : j < x3.length) (h2 : k < (x3.getD j []).length) : OT.at [j, k] (tl (tl (tl g)) x3) = some (.cell (((x3.getD j []).getD k []).map g)) := by
  have e : x3.getD j [] = x3[j] := by simp [List.getD_eq_getElem?_getD, h1]
  rw [e] at h2 ⊢
  unfold tl OT.at
  rw [List.getElem?_map, List.getElem?_eq_getElem h1]
  exact at_one (g := g) h2
theorem put_two {x3 : List (List (List α))} {j k : Nat} {ys : List α} (h1 : j < x3.length) (h2 : k < (x3.getD j []).length) : OT.put [j, k] (tl (tl (tl g)) x3) (.cell (ys.map g)) = tl (tl (tl g)) (x3.set j ((x3.getD j []).set k ys)) := by
  have e : x3.getD j [] = x3[j] := by simp [List.getD_eq_getElem?_getD, h1]
  rw [e] at h2 ⊢
  have := put_one (g := g) (ys := ys) h2
  unfold tl OT.put at *
  rw [List.getElem?_map, List.getElem?_eq_getElem h1]
  simp only [Option.map_some]
  rw [List.map_set]
  congr 2
theorem dpl_ix2 (i : Nat) {x3 : List (List (List α))} {j : Nat} {k : Int} (ho : DPl X Γ ρ o i [j]) (hb : DV X Γ ρ b (.int k)) (h : ρ[i]? = some (.ow (tl (tl (tl g)) x3))) (hj : j < x3.length) (hk : inR (x3.getD j []).length k) (hs : PlainIx b := by intro _ _; rfl) : DPl X Γ ρ (.Subscript o b pos) i [j, pyIx (x3.getD j []).length k] := by
  obtain ⟨q1, q2⟩ := ixN_pyIx hk
  exact dpl_ix (ts := (x3.getD j []).map (tl g)) ho hb h (at_one hj) (by rw [List.length_map]; exact q1) (by rw [List.length_map]; exact q2) hs
theorem ss_st2 (i : Nat) {x3 : List (List (List α))} {x : α} {q : Int} {j k : Nat} (ho : DPl X Γ ρ o i [j, k]) (hb : DV X Γ ρ b (.int q)) (he : DO X Γ ρ e (g x)) (h : ρ[i]? = some (.ow (tl (tl (tl g)) x3))) (hj : j < x3.length) (hk : k < (x3.getD j []).length) (hq : inR ((x3.getD j []).getD k []).length q) (hr : SS X Γ (ρ.set i (.ow (tl (tl (tl g)) (x3.set j ((x3.getD j []).set k (pySet ((x3.getD j []).getD k []) q x)))))) rest E)
    (ha : ∀ v, assign (.Subscript o b p) X.env v = (do
      let ov ← holding [v] (eval o X.env)
      let iv ← holding [v, ov] (eval b X.env)
      standAt p
      holding [v, ov, iv] (setItem ov iv v)
      release [v, ov, iv] []) := by intro _; rfl)
    (hs : swapsWithSole [.Subscript o b p] e pos.line X.env = pure false := by rfl) (hw : swappedStores [.Subscript o b p] e X.env = pure none := by rfl) (h1 : (assignEach [.Subscript o b p] X.env).map (·.2) = [assign (.Subscript o b p) X.env] := by rfl) :
    SS X Γ ρ (.Assign [.Subscript o b p] e pos :: rest) E := by
  obtain ⟨q1, q2⟩ := ixN_pyIx hq
  have e1 : (((x3.getD j []).getD k []).map g)[pyIx ((x3.getD j []).getD k []).length q]? = some (g (((x3.getD j []).getD k [])[pyIx ((x3.getD j []).getD k []).length q]'q2)) := by rw [List.getElem?_map, List.getElem?_eq_getElem q2] <;> rfl
  exact ss_st ho hb he h (at_two hj hk) (by rw [List.length_map]; exact q1) e1 (by
    have e1 : (((x3.getD j []).getD k []).map g).set (pyIx ((x3.getD j []).getD k []).length q) (g x) = (pySet ((x3.getD j []).getD k []) q x).map g := by
      unfold pySet
      rw [List.map_set]
    rw [e1, put_two hj hk]; exact hr) ha hs hw h1

/-! ### for v in n: v.append(e) -/
def Al (H : Hp) (σ : L2.St) (j i : Nat) (pa : List Nat) : Prop := ∃ v0 w, σ[i]? = some (some v0) ∧ σ[j]? = some (some w) ∧ PathV H pa v0 w
theorem ps_appA {j : Nat} (he : DO X Γ ρ e t') (h : ρ[i]? = some (.ow t)) (hp : OT.at pa t = some (.cell ts)) (hl : ts.length < sizeLine)
    (hN : X.N[j]? = some n := by rfl) (hv : Vis X.env.scope n := by first | exact Or.inl rfl | exact Or.inr (Or.inl rfl) | exact Or.inr (Or.inr rfl)) (hd : (n == ("__debug__" : Str)) = false := by decide) (hcd : (n == ("__classdict__" : Str)) = false := by decide)
    (hbase : attributeBase (.Name n p) "append" X.env (eval (.Name n p) X.env) = eval (.Name n p) X.env := by rfl)
    (hfew : ((backTo cpos (starEach [e] X.env)).all (fun x => !x.1) && (backToKw cpos (keywordEach [] X.env)).all (fun x => x.1.isSome) && decide (([e] : List Expr).length + ([] : List Keyword).length + (if ([] : List Keyword).isEmpty then 0 else 1) < 30)) = true := by rfl)
    (hline : (apos.endLine == cpos.line) = true := by rfl) (hs : starEach [e] X.env = (false, eval e X.env) :: starEach [] X.env := by rfl) (hplain : (backTo cpos (starEach [] X.env)).any (·.1) = false := by rfl)
    (hsw : swapsWith (.Call (.Attribute (.Name n p) "append" apos) [e] [] cpos) none pos.line X.env = pure false := by rfl) : PS X (.Expr (.Call (.Attribute (.Name n p) "append" apos) [e] [] cpos) pos) (fun D σ H => ∃ G, Sr Γ G H σ ρ ∧ Al H σ j i pa ∧ ∀ G2 H2, Sr Γ G2 H2 σ (ρ.set i (.ow (OT.put pa t (.cell (ts ++ [t']))))) → Ex G G2 → D.nx σ H2) :=
  (ps_expr (pe_bm PySem.F.plainAttrs_list PySem.F.slot_list_append PySem.F.type_list_append mt_append (pe_var hN hv hd hcd) (pa_cons he pa_nil hs) hbase hfew hline hs hplain) hsw).weak fun D σ H ⟨G, S, ⟨v0, w0, h0, hw0, hv⟩, k⟩ =>
    ⟨w0, hw0, by
      obtain ⟨A, SA⟩ := S.ad
      obtain ⟨a, rfl⟩ := S.ref h hp h0 hv
      obtain ⟨vs1, B1, q1, _⟩ := SA.mut h hp h0 hv
      refine ⟨ty_list q1, G, S, fun w G2 H2 s2 e2 ⟨C, oc, ndC, fC⟩ => ?_⟩
      have SA2 := SA.more s2 e2
      obtain ⟨vs, B, q1, q2, q3, q4, q5, q6, q7, q8⟩ := SA2.mut h hp h0 (hv.mono s2.h)
      have ln := q4.len
      refine ⟨a, vs, w, rfl, rfl, q1, by omega, ?_⟩
      have CA : ∀ b ∈ C, b ∉ A := fun b hb z => by
        obtain ⟨_, u, hu⟩ := SA.mem b z
        rw [fC b hb] at hu; cases hu
      refine k G2 _ (q8 _ _ _ (q4.app (OwnTs.one oc)) (List.nodup_append.mpr ⟨q5, ndC, fun x hx y hy z => ?_⟩) ?_ ?_ ?_) s2.g
      · subst z
        exact CA x hy (q7 x hx)
      · intro z
        rcases List.mem_append.mp z with z | z
        · exact q6 z
        · exact CA a z q3
      · intro b hb
        rcases List.mem_append.mp hb with z | z
        · exact .inl z
        · exact .inr (CA b z)
      · intro b hb
        rcases List.mem_append.mp hb with z | z
        · exact SA2.fr b (q7 b z)
        · exact S.step.h.none (fC b z)⟩
theorem ss_forApp (i j : Nat) {m : Str} {pn pv : Pos} {xss : List (List α)} {x : α} (xo : XO X) (hpo : PassesOwn (model X.prog X.w) X.A X.env X.xe) (h : ρ[i]? = some (.ow (tl (tl g) xss))) (hij : i ≠ j) (hj : j < ρ.length) (he : ∀ ρ', DO X Γ ρ' e (g x)) (hl : ∀ r ∈ xss, r.length < 16000000)
    (hr : SS X Γ ((ρ.set j .un).set i (.ow (tl (tl g) (xss.map (· ++ [x]))))) rest E)
    (hN : X.N[j]? = some n := by rfl) (hM : X.N[i]? = some m := by rfl) (hv : Vis X.env.scope n := by first | exact Or.inl rfl | exact Or.inr (Or.inl rfl) | exact Or.inr (Or.inr rfl)) (hd : (n == ("__debug__" : Str)) = false := by decide) (hcd : (n == ("__classdict__" : Str)) = false := by decide)
    (hv2 : Vis X.env.scope m := by first | exact Or.inl rfl | exact Or.inr (Or.inl rfl) | exact Or.inr (Or.inr rfl)) (hd2 : (m == ("__debug__" : Str)) = false := by decide) (hcd2 : (m == ("__classdict__" : Str)) = false := by decide)
    (hx : Loc X.env.scope n := by first | exact .inl rfl | exact .inr rfl) (hf : X.fn n = true ∨ X.env.scope.names.lookup n = some .local := by first | exact .inl rfl | exact .inr rfl)
    (hs2 : ∀ x, foldedSetIterable (.Name m pn) X.env x = pure x := by intro _; rfl)
    (hbase : attributeBase (.Name n p) "append" X.env (eval (.Name n p) X.env) = eval (.Name n p) X.env := by rfl)
    (hfew : ((backTo cpos (starEach [e] X.env)).all (fun x => !x.1) && (backToKw cpos (keywordEach [] X.env)).all (fun x => x.1.isSome) && decide (([e] : List Expr).length + ([] : List Keyword).length + (if ([] : List Keyword).isEmpty then 0 else 1) < 30)) = true := by rfl)
    (hline : (apos.endLine == cpos.line) = true := by rfl) (hs : starEach [e] X.env = (false, eval e X.env) :: starEach [] X.env := by rfl) (hplain : (backTo cpos (starEach [] X.env)).any (·.1) = false := by rfl)
    (hsw : swapsWith (.Call (.Attribute (.Name n p) "append" apos) [e] [] cpos) none pos.line X.env = pure false := by rfl) :
    SS X Γ ρ (.For (.Name n pv) (.Name m pn) [.Expr (.Call (.Attribute (.Name n p) "append" apos) [e] [] cpos) pos] [] p' :: rest) E := by
  let up : Nat → List (List α) := fun k => (xss.take k).map (· ++ [x]) ++ xss.drop k
  let R : Nat → List Sl := fun k => (ρ.set j .un).set i (.ow (tl (tl g) (up k)))
  have upl : ∀ k, (up k).length = xss.length := fun k => by simp [up]; omega
  have hil : i < ρ.length := by
    obtain ⟨q, _⟩ := List.getElem?_eq_some_iff.mp h
    exact q
  have ri : ∀ k, (R k)[i]? = some (.ow (tl (tl g) (up k))) := fun k => by simp [R, hil]
  have upk : ∀ k (hk : k < xss.length), (up k).getD k [] = xss[k] := fun k hk => by
    simp [up, List.getD_eq_getElem?_getD, List.getElem?_append, Nat.min_eq_left (Nat.le_of_lt hk), hk]
  have ups : ∀ k (hk : k < xss.length), (up k).set k (xss[k] ++ [x]) = up (k + 1) := fun k hk => by
    have hlen : ((xss.take k).map (· ++ [x])).length = k := by simp; omega
    simp only [up]
    rw [List.set_append_right _ _ (by omega), hlen, Nat.sub_self, List.drop_eq_getElem_cons hk, List.set_cons_zero, List.take_add_one, List.getElem?_eq_getElem hk, List.map_append, List.append_assoc]
    rfl
  have hbody : PSs X [.Expr (.Call (.Attribute (.Name n p) "append" apos) [e] [] cpos) pos] (fun D σ H => ∃ k, k < xss.length ∧ ∃ G, Sr Γ G H σ (R k) ∧ Al H σ j i [k] ∧ ∀ G2 H2, Sr Γ G2 H2 σ (R (k + 1)) → Ex G G2 → D.nx σ H2) := by
    refine ⟨fun pins s σ H D I ⟨k, hk, G, S, al, ok⟩ => ?_⟩
    have hku : k < (up k).length := by rw [upl]; exact hk
    have Pk := ps_appA (X := X) (Γ := Γ) (ρ := R k) (p := p) (apos := apos) (cpos := cpos) (pos := pos) (n := n) (j := j) (he (R k)) (ri k) (at_one hku) (by rw [List.length_map, upk k hk]; exact Nat.lt_of_lt_of_le (hl _ (List.getElem_mem hk)) (by decide)) hN hv hd hcd hbase hfew hline hs hplain hsw
    have e1 : (R k).set i (.ow (OT.put [k] (tl (tl g) (up k)) (.cell (((up k).getD k []).map g ++ [g x])))) = R (k + 1) := by
      have e2 : ((up k).getD k []).map g ++ [g x] = ((up k).getD k [] ++ [x]).map g := by rw [List.map_append]; rfl
      rw [e2, put_one hku, upk k hk, ups k hk]
      simp [R]
    rw [e1] at Pk
    have := (pss_cons Pk (pss_nil (X := X))).run pins s σ H D I ⟨G, S, al, ok⟩
    exact this
  refine ss_cons (M := fun ρ' => ρ' = R xss.length) ((ps_for hpo xo.calm (pi_list (pe_var hM hv2 hd2 hcd2)) (pg_name xo.nd hN hx hf) hbody hs2).weak fun D σ H ⟨G, S, k⟩ => ?_) fun ρ' e => by
    have e3 : up xss.length = xss.map (· ++ [x]) := by simp only [up, List.take_length, List.drop_length, List.append_nil]
    rw [e]
    simp only [R]
    rw [e3]
    exact hr
  obtain ⟨ob, B, h1, h2⟩ := S.slot h
  cases h2 with
  | @ow v0 _ _ q =>
    obtain ⟨a, rfl⟩ : ∃ a, v0 = .ref a := by
      unfold tl at q
      cases q with
      | cell hg hh r => exact ⟨_, rfl⟩
    have look : ∀ {k : Nat} {G' H' : Hp} {σ' : L2.St}, Sr Γ G' H' σ' (R k) → σ'[i]? = some (some (.ref a)) → ∃ vs, H' a = some (.lst vs) ∧ vs.length = xss.length := fun {k G' H' σ'} S' hσ => by
      obtain ⟨ob', B', h1', h2'⟩ := S'.slot (ri k)
      rw [hσ] at h1'
      cases h1'
      cases h2' with
      | ow q' =>
        unfold tl at q'
        cases q' with
        | cell hg hh r =>
          have := r.len
          rw [List.length_map, upl] at this
          exact ⟨_, hh, this⟩
    have S0 : Sr Γ G H σ (R 0) := by
      have w : Wk ρ (R 0) := by
        have e0 : R 0 = ρ.set j .un := by
          have eu : up 0 = xss := by simp [up]
          simp only [R]
          rw [eu]
          refine List.ext_getElem? fun q => ?_
          by_cases hq : i = q
          · subst hq
            rw [List.getElem?_set_self (by simpa using hil), List.getElem?_set_ne (Ne.symm hij), h]
          · rw [List.getElem?_set_ne hq]
        rw [e0]
        have go : ∀ (ρ : List Sl) (j : Nat), Wk ρ (ρ.set j .un) := fun ρ => by
          induction ρ with
          | nil => intro j; exact .nil
          | cons s ρ ih =>
            intro j
            cases j with
            | zero => exact .un (Wk.refl _)
            | succ j => exact .same (ih j)
        exact go ρ j
      exact S.wk w
    obtain ⟨vs0, hv0, ln0⟩ := look S0 h1
    refine ⟨_, h1, a, rfl, ⟨vs0, SqL.of hv0⟩, fun k μ σ H => μ = xss.length - k ∧ k ≤ xss.length ∧ σ[i]? = some (some (.ref a)) ∧ ∃ G1, Sr Γ G1 H σ (R k) ∧ Ex G G1, ⟨_, rfl, Nat.zero_le _, h1, G, S0, Ex.refl _⟩, ?_⟩
    rintro k' μ σ' H' ⟨rfl, him, hσ, G', S', eg⟩
    obtain ⟨vs, hvs, ln⟩ := look S' hσ
    by_cases hlt : k' < xss.length
    · refine .inr ⟨⟨vs, vs[k'], SqL.of hvs, List.getElem?_eq_getElem (by omega)⟩, fun σ2 H2 => σ2[i]? = some (some (.ref a)) ∧ ∃ G2, Sr Γ G2 H2 σ2 (R (k' + 1)) ∧ Ex G G2, fun σ2 H2 ⟨h3, G2, S2, e2⟩ => ⟨xss.length - (k' + 1), by omega, rfl, hlt, h3, G2, S2, e2⟩, fun x' H'' hy => ?_⟩
      obtain ⟨rfl, hx'⟩ := hy
      have hx2 := hx' vs (SqL.of hvs)
      have hji : j ≠ i := fun z => hij z.symm
      have eR : (R k').set j .un = R k' := by
        simp only [R]
        rw [List.set_comm _ _ hij, List.set_set, List.set_comm _ _ hji]
      have S3 : Sr Γ G' H'' (σ'.set j (some x')) (R k') := eR ▸ S'.store (s := .un) (Step.refl _ _) S'.sub .un List.nodup_nil fun _ z => by cases z
      have hσ2 : (σ'.set j (some x'))[i]? = some (some (.ref a)) := by rw [List.getElem?_set_ne hji]; exact hσ
      refine ⟨k', hlt, G', S3, ⟨.ref a, x', hσ2, ?_, ⟨a, vs, x', rfl, hvs, hx2, rfl⟩⟩, fun G2 H2 S2 e2 => ⟨hσ2, G2, S2, eg.trans e2⟩⟩
      have hjl : j < σ'.length := by
        obtain ⟨A, r, _⟩ := S'.sl
        have := r.len
        rw [this]
        simpa [R] using hj
      rw [List.getElem?_set_self hjl]
    · have e : k' = xss.length := by omega
      subst e
      exact .inl ⟨⟨vs, SqL.of hvs, by omega⟩, k.nx _ _ _ _ rfl S' eg⟩
end
end DL
namespace DL
open PySem L2
section
variable {X : Cx} {Γ : Gm} {ρ : List Sl} {c : Expr} {pos : Pos} {E : En} {q : Bool} {bd el rest : List Stmt}
/-- two ways that meet -/
theorem ss_ifJ (u : List Sl → List Sl) (hc : DT X Γ ρ c q) (h1 : q = true → SS X Γ ρ bd { E with nx := fun ρ' => Wk ρ' (u ρ) }) (h2 : q = false → SS X Γ ρ el { E with nx := fun ρ' => Wk ρ' (u ρ) }) (hr : SS X Γ (u ρ) rest E) : SS X Γ ρ (.If c bd el pos :: rest) E :=
  ss_if hc h1 h2 fun _ w => ss_wk w hr
end
end DL
namespace DL
open PySem L2
/-- a list written out of things that are only looked at -/
def slC : Sl → D
  | .v x => vD x
  | .sh d => d
  | .ro d => d
  | _ => .none
def slRd : Sl → Bool
  | .v x => vOk x
  | .sh _ => true
  | .ro _ => true
  | _ => false
theorem slR_repsC {K : Fg} {I G H : Hp} (e : Ex G I) : ∀ {vs : List V} {ss : List Sl} {A : List Addr}, SlR K I G H (vs.map some) ss A → ss.all slRd = true → Reps I vs (ss.map slC)
  | [], _, _, .nil, _ => .nil
  | v :: vs, s :: ss, _, .cons h r, q => by
    simp only [List.all_cons, Bool.and_eq_true] at q
    refine .cons ?_ (slR_repsC e r q.2)
    cases h with
    | v => exact vD_rep q.1
    | sh h => exact Rep.mono e h
    | ro h => exact h
    | un => cases q.1
    | ow _ => cases q.1
    | sc _ => cases q.1
section
variable {X : Cx} {Γ : Gm} {ρ : List Sl} {es : List Expr} {pos : Pos}
theorem de_lstC {ss : List Sl} (ha : DA X Γ ρ es ss) (hs : ss.all slRd = true := by rfl) (hl : ss.length ≤ 1000 := by simp) : DE X Γ ρ (.List es pos) .c (.list (ss.map slC)) :=
  (pe_lst ha).weak fun σ H Q ⟨G, S, k⟩ => ⟨G, S, fun vs G1 H1 A s1 e1 r nd f => by
    have r' := slR_repsC e1 r hs
    refine ⟨by rw [slr_len r]; exact Nat.le_trans hl (by decide), fun q hq => ?_⟩
    exact k (.ref q) G1 _ (s1.trans (Step.laid hq)) (e1.trans (Ex.new hq)) (.lst upd_same (Reps.mono (Ex.new hq) r'))⟩
end
end DL
namespace DL
open PySem L2
theorem ss_re {X : Cx} {Γ : Gm} {ρ : List Sl} {E : En} {rest : List Stmt} (u : List Sl → List Sl) (w : Wk ρ (u ρ)) (h : SS X Γ (u ρ) rest E) : SS X Γ ρ rest E := ss_wk w h
end DL

set_option Elab.async false
set_option linter.all false
set_option maxRecDepth 100000
/-! envies, dearest things, spares, bearing -/
namespace Th
open PySem L2 DL
theorem GoodS.at {s : List (List Int)} {n m : Nat} (hs : GoodS s n m) {o : Int} (ho : inR n o) : pyAt s o ∈ s := pyAt_mem (by rw [hs.n]; exact ho)
theorem gs_b {t s : List (List Int)} {m : Nat} (g : GoodT t m) (hs : GoodS s t.length m) {h o : Int} (hh : inR t.length h) (ho : inR t.length o) : ∀ x ∈ pyAt s o, inR (pyAt t h).length x := k01_sum g (hs.bd _ (hs.at ho)) hh
theorem gs_l {t s : List (List Int)} {m : Nat} (g : GoodT t m) (hs : GoodS s t.length m) {o : Int} (ho : inR t.length o) : (pyAt s o).length ≤ 40 := by
  have := hs.row (hs.at ho)
  have := g.m40
  omega
def feels (t s : List (List Int)) (h o : Int) : Bool := decide (summed (pyAt t h) (pyAt s h) < summed (pyAt t h) (pyAt s o))
def pRow (t s : List (List Int)) (h j : Nat) : List (Int × Int) := ((List.range j).filter fun (o : Nat) => feels t s h o).map fun (o : Nat) => ((h : Int), (o : Int))
def pAll (t s : List (List Int)) (n i : Nat) : List (Int × Int) := (List.range i).flatMap fun h => pRow t s h n
def pairsOf (t s : List (List Int)) : List (Int × Int) := pAll t s t.length t.length
theorem pRow_0 (t s : List (List Int)) (i : Nat) : pRow t s i 0 = [] := rfl
theorem pRow_yes {t s : List (List Int)} {i j : Nat} (h : feels t s i j = true) : pRow t s i (j + 1) = pRow t s i j ++ [((i : Int), (j : Int))] := by
  unfold pRow
  rw [List.range_succ, List.filter_append, List.map_append]
  simp [h]
theorem pRow_no {t s : List (List Int)} {i j : Nat} (h : feels t s i j = false) : pRow t s i (j + 1) = pRow t s i j := by
  unfold pRow
  rw [List.range_succ, List.filter_append, List.map_append]
  simp [h]
theorem pAll_succ (t s : List (List Int)) (n i : Nat) : pAll t s n (i + 1) = pAll t s n i ++ pRow t s i n := by
  unfold pAll
  rw [List.range_succ, List.flatMap_append]
  simp
theorem mem_pairsOf {t s : List (List Int)} {p : Int × Int} : p ∈ pairsOf t s ↔ ∃ h o : Nat, p = ((h : Int), (o : Int)) ∧ h < t.length ∧ o < t.length ∧ feels t s h o = true := by
  unfold pairsOf pAll pRow
  simp only [List.mem_flatMap, List.mem_range, List.mem_map, List.mem_filter]
  constructor
  · rintro ⟨h, hh, o, ⟨ho, hf⟩, rfl⟩
    exact ⟨h, o, rfl, hh, ho, hf⟩
  · rintro ⟨h, o, rfl, hh, ho, hf⟩
    exact ⟨h, hh, o, ⟨ho, hf⟩, rfl⟩
theorem summed_nn {row things : List Int} (hn : ∀ x ∈ row, 0 ≤ x) (hb : ∀ x ∈ things, inR row.length x) : 0 ≤ summed row things := by
  unfold summed
  induction things with
  | nil => simp
  | cons a as ih =>
    rw [List.map_cons, List.sum_cons]
    have h1 := hn _ (pyAt_mem (hb a (by simp)))
    have h2 := ih fun x hx => hb x (by simp [hx])
    omega
theorem GoodT.nn {t : List (List Int)} {m : Nat} (g : GoodT t m) {h : Int} (hh : inR t.length h) : ∀ x ∈ pyAt t h, 0 ≤ x := fun x hx => (g.wor _ (pyAt_mem hh) x hx).1
theorem more_pos {row own others : List Int} (hn : ∀ x ∈ row, 0 ≤ x) (hb : ∀ x ∈ own, inR row.length x) (h : summed row own < summed row others) : 0 < others.length := by
  have := summed_nn hn hb
  cases others with
  | nil => simp [summed] at h this; omega
  | cons a as => simp
theorem feels_pos {t s : List (List Int)} {m : Nat} (g : GoodT t m) (hs : GoodS s t.length m) {h o : Int} (hh : inR t.length h) (ho : inR t.length o) (hf : feels t s h o = true) : 0 < (pyAt s o).length :=
  more_pos (g.nn hh) (gs_b g hs hh hh) (of_decide_eq_true hf)
def dearF (row things : List Int) (k : Nat) : Int := (things.take k).foldl (fun b t => if pyAt row b < pyAt row t then t else b) (pyAt things 0)
def dearest (row things : List Int) : Int := dearF row things things.length
theorem dearF_succ {row things : List Int} {i : Nat} (hi : i < things.length) : dearF row things (i + 1) = if pyAt row (dearF row things i) < pyAt row (things.getD i default) then things.getD i default else dearF row things i := by
  unfold dearF
  have e : things.getD i default = things[i] := by simp [List.getD_eq_getElem?_getD, hi]
  rw [List.take_add_one, List.getElem?_eq_getElem hi, List.foldl_append, e]
  rfl
theorem dearF_yes {row things : List Int} {i : Nat} (hi : i < things.length) (h : decide (pyAt row (dearF row things i) < pyAt row (things.getD i default)) = true) : things.getD i default = dearF row things (i + 1) := by
  rw [dearF_succ hi, if_pos (of_decide_eq_true h)]
theorem dearF_no {row things : List Int} {i : Nat} (hi : i < things.length) (h : decide (pyAt row (dearF row things i) < pyAt row (things.getD i default)) = false) : dearF row things i = dearF row things (i + 1) := by
  rw [dearF_succ hi, if_neg (of_decide_eq_false h)]
theorem pyAt_0 {α : Type} [Inhabited α] (xs : List α) : pyAt xs 0 = xs.getD 0 default := pyAt_nat xs 0
/-- what the best so far is -/
theorem dearF_spec {row things : List Int} (h0 : 0 < things.length) (up : things.Pairwise (· < ·)) : ∀ i, i ≤ things.length → dearF row things i ∈ things ∧ (∀ x ∈ things.take i, pyAt row x ≤ pyAt row (dearF row things i)) ∧ ∀ x ∈ things, pyAt row x = pyAt row (dearF row things i) → dearF row things i ≤ x ∨ x ∉ things.take i ∧ dearF row things i < x := by
  intro i
  induction i with
  | zero =>
    intro _
    have e : dearF row things 0 = things[0] := by
      unfold dearF
      rw [List.take_zero]
      show pyAt things 0 = _
      rw [pyAt_0]
      simp [List.getD_eq_getElem?_getD, h0]
    rw [e]
    refine ⟨List.getElem_mem _, fun x hx => by simp at hx, fun x hx _ => ?_⟩
    obtain ⟨j, hj, rfl⟩ := List.mem_iff_getElem.mp hx
    by_cases hj0 : j = 0
    · subst hj0; exact .inl (Int.le_refl _)
    · exact .inl (Int.le_of_lt (List.pairwise_iff_getElem.mp up 0 j h0 hj (by omega)))
  | succ i ih =>
    intro hi
    have hi' : i < things.length := by omega
    obtain ⟨h1, h2, h3⟩ := ih (by omega)
    have e : things.getD i default = things[i] := by simp [List.getD_eq_getElem?_getD, hi']
    have tk : things.take (i + 1) = things.take i ++ [things[i]] := by
      rw [List.take_add_one, List.getElem?_eq_getElem hi']; rfl
    rw [dearF_succ hi', e]
    split
    · rename_i hlt
      refine ⟨List.getElem_mem _, fun x hx => ?_, fun x hx hq => ?_⟩
      · rw [tk] at hx
        rcases List.mem_append.mp hx with z | z
        · have := h2 x z; omega
        · simp at z; subst z; exact Int.le_refl _
      · obtain ⟨j, hj, rfl⟩ := List.mem_iff_getElem.mp hx
        rcases Nat.lt_trichotomy j i with z | z | z
        · have hm : things[j] ∈ things.take i := List.mem_iff_getElem.mpr ⟨j, by simp; omega, by simp⟩
          have := h2 _ hm
          omega
        · subst z; exact .inl (Int.le_refl _)
        · exact .inl (Int.le_of_lt (List.pairwise_iff_getElem.mp up i j hi' hj z))
    · rename_i hlt
      refine ⟨h1, fun x hx => ?_, fun x hx hq => ?_⟩
      · rw [tk] at hx
        rcases List.mem_append.mp hx with z | z
        · exact h2 x z
        · simp at z; subst z; omega
      · rcases h3 x hx hq with z | z
        · exact .inl z
        · exact .inl (Int.le_of_lt z.2)
theorem dearest_spec {row things : List Int} (h0 : 0 < things.length) (up : things.Pairwise (· < ·)) : dearest row things ∈ things ∧ (∀ x ∈ things, pyAt row x ≤ pyAt row (dearest row things)) ∧ ∀ x ∈ things, pyAt row x = pyAt row (dearest row things) → dearest row things ≤ x := by
  obtain ⟨h1, h2, h3⟩ := dearF_spec (row := row) h0 up things.length (Nat.le_refl _)
  rw [List.take_length] at h2 h3
  exact ⟨h1, h2, fun x hx hq => (h3 x hx hq).elim id fun z => absurd hx z.1⟩
theorem dearF_mem {row things : List Int} (h0 : 0 < things.length) : ∀ i, i ≤ things.length → dearF row things i ∈ things := by
  intro i
  induction i with
  | zero =>
    intro _
    unfold dearF
    rw [List.take_zero]
    show pyAt things 0 ∈ _
    exact pyAt_mem ⟨by omega, by omega⟩
  | succ i ih =>
    intro hi
    rw [dearF_succ (by omega)]
    split
    · exact getD_mem (by omega)
    · exact ih (by omega)
def spareOf (t s : List (List Int)) (h o : Int) : Option Int := if feels t s h o = true then some (dearest (pyAt t h) (pyAt s o)) else none
def lSpare (row own others : List Int) : Option Int := if summed row others ≤ summed row own then none else some (minI (others.filter fun t => decide (pyAt row t = maxI (others.map fun t => pyAt row t))))
theorem lSpare_pos {row others : List Int} (h : 0 < others.length) : 0 < (others.filter fun t => decide (pyAt row t = maxI (others.map fun t => pyAt row t))).length := by
  have := maxI_mem (ns := others.map fun t => pyAt row t) (by simpa using h)
  obtain ⟨t, ht, e⟩ := List.mem_map.mp this
  exact List.length_pos_of_mem (List.mem_filter.mpr ⟨ht, by simpa using e⟩)
theorem lSpare_some {row others : List Int} (h0 : 0 < others.length) (up : others.Pairwise (· < ·)) : minI (others.filter fun t => decide (pyAt row t = maxI (others.map fun t => pyAt row t))) = dearest row others := by
  obtain ⟨d1, d2, d3⟩ := dearest_spec (row := row) h0 up
  have em : maxI (others.map fun t => pyAt row t) = pyAt row (dearest row others) := by
    have h1 := maxI_mem (ns := others.map fun t => pyAt row t) (by simpa using h0)
    obtain ⟨t, ht, e⟩ := List.mem_map.mp h1
    have := d2 t ht
    have := maxI_ge (ns := others.map fun t => pyAt row t) (List.mem_map.mpr ⟨_, d1, rfl⟩)
    omega
  have hp := lSpare_pos (row := row) h0
  have h1 := minI_mem hp
  have h2 := List.mem_filter.mp h1
  have h3 := d3 _ h2.1 (by rw [← em]; exact of_decide_eq_true h2.2)
  have h4 := minI_le (ns := others.filter fun t => decide (pyAt row t = maxI (others.map fun t => pyAt row t))) (List.mem_filter.mpr ⟨d1, by simp [em]⟩)
  omega
theorem lSpare_eq {t s : List (List Int)} {m : Nat} (g : GoodT t m) (hs : GoodS s t.length m) {h o : Int} (hh : inR t.length h) (ho : inR t.length o) : lSpare (pyAt t h) (pyAt s h) (pyAt s o) = spareOf t s h o := by
  unfold lSpare spareOf
  by_cases hf : feels t s h o = true
  · have hf' := of_decide_eq_true hf
    rw [if_pos hf, if_neg (by omega), lSpare_some (feels_pos g hs hh ho hf) (hs.up _ (hs.at ho))]
  · rw [if_neg hf, if_pos]
    unfold feels at hf
    simpa using hf
/-- bearing -/
def bOk (t s : List (List Int)) (p : Int × Int) : Bool := !decide (summed (pyAt t p.1) (pyAt s p.1) < summed (pyAt t p.1) (pyAt s p.2) - pyAt (pyAt t p.1) (dearest (pyAt t p.1) (pyAt s p.2)))
def borneB (t s : List (List Int)) : Bool := (pairsOf t s).all (bOk t s)
def lbOk (t s : List (List Int)) (p : Int × Int) : Bool := !decide (summed (pyAt t p.1) (pyAt s p.1) < minI ((pyAt s p.2).map fun x => summed (pyAt t p.1) (pyAt s p.2) - pyAt (pyAt t p.1) x))
def lBorne (t s : List (List Int)) : Bool := (pairsOf t s).all (lbOk t s)
theorem lbOk_eq {t s : List (List Int)} {m : Nat} (g : GoodT t m) (hs : GoodS s t.length m) {p : Int × Int} (hp : p ∈ pairsOf t s) : lbOk t s p = bOk t s p := by
  obtain ⟨h, o, rfl, hh, ho, hf⟩ := mem_pairsOf.mp hp
  have hh' : inR t.length (h : Int) := ⟨by omega, by omega⟩
  have ho' : inR t.length (o : Int) := ⟨by omega, by omega⟩
  have h0 := feels_pos g hs hh' ho' hf
  obtain ⟨d1, d2, d3⟩ := dearest_spec (row := pyAt t (h : Int)) h0 (hs.up _ (hs.at ho'))
  have e : minI ((pyAt s (o : Int)).map fun x => summed (pyAt t (h : Int)) (pyAt s (o : Int)) - pyAt (pyAt t (h : Int)) x) = summed (pyAt t (h : Int)) (pyAt s (o : Int)) - pyAt (pyAt t (h : Int)) (dearest (pyAt t (h : Int)) (pyAt s (o : Int))) := by
    have h1 := minI_mem (ns := (pyAt s (o : Int)).map fun x => summed (pyAt t (h : Int)) (pyAt s (o : Int)) - pyAt (pyAt t (h : Int)) x) (by simpa using h0)
    obtain ⟨x, hx, ex⟩ := List.mem_map.mp h1
    have h2 := d2 x hx
    have h3 := minI_le (ns := (pyAt s (o : Int)).map fun x => summed (pyAt t (h : Int)) (pyAt s (o : Int)) - pyAt (pyAt t (h : Int)) x) (List.mem_map.mpr ⟨_, d1, rfl⟩)
    omega
  unfold lbOk bOk
  rw [e]
theorem lBorne_eq {t s : List (List Int)} {m : Nat} (g : GoodT t m) (hs : GoodS s t.length m) : lBorne t s = borneB t s := by
  unfold lBorne borneB
  rw [Bool.eq_iff_iff, List.all_eq_true, List.all_eq_true]
  constructor
  · intro h p hp; rw [← lbOk_eq g hs hp]; exact h p hp
  · intro h p hp; rw [lbOk_eq g hs hp]; exact h p hp
theorem all_step {α : Type} [Inhabited α] {xs : List α} {q : α → Prop} {i : Nat} (hi : i < xs.length) (h : ∀ p ∈ xs.take i, q p) (h2 : q (xs.getD i default)) : ∀ p ∈ xs.take (i + 1), q p := fun p hp => by
  have e : xs.getD i default = xs[i] := by simp [List.getD_eq_getElem?_getD, hi]
  rw [List.take_add_one, List.getElem?_eq_getElem hi] at hp
  rcases List.mem_append.mp hp with z | z
  · exact h p z
  · simp at z; subst z; rwa [e] at h2
theorem getD_memA {α : Type} [Inhabited α] {xs : List α} {i : Nat} (h : i < xs.length) : xs.getD i default ∈ xs := by simp [List.getD_eq_getElem?_getD, h]
theorem all_false {α : Type} {xs : List α} {q : α → Bool} {a : α} (h : a ∈ xs) (h2 : q a = false) : xs.all q = false := by
  rw [List.all_eq_false]
  exact ⟨a, h, by simp [h2]⟩
/-- both of a pair of envy are heirs -/
theorem pair_in {t s : List (List Int)} {p : Int × Int} (h : p ∈ pairsOf t s) : inR t.length p.1 ∧ inR t.length p.2 ∧ feels t s p.1 p.2 = true := by
  obtain ⟨a, b, rfl, ha, hb, hf⟩ := mem_pairsOf.mp h
  exact ⟨⟨by omega, by omega⟩, ⟨by omega, by omega⟩, hf⟩
end Th
namespace Th
open PySem L2 DL
theorem pRow_len (t s : List (List Int)) (h j : Nat) : (pRow t s h j).length ≤ j := by
  unfold pRow
  rw [List.length_map]
  exact Nat.le_trans (List.length_filter_le _ _) (by simp)
theorem pAll_len (t s : List (List Int)) (n : Nat) : ∀ i, (pAll t s n i).length ≤ i * n
  | 0 => by simp [pAll]
  | i + 1 => by
    rw [pAll_succ, List.length_append, Nat.succ_mul]
    have := pAll_len t s n i
    have := pRow_len t s i n
    omega
theorem pr_sz {t s : List (List Int)} {m : Nat} (g : GoodT t m) {i j : Nat} (hi : i ≤ t.length) (hj : j ≤ t.length) : (pAll t s t.length i ++ pRow t s i j).length < 16000000 := by
  have h1 := pAll_len t s t.length i
  have h2 := pRow_len t s i j
  have h8 := g.n8
  have : i * t.length ≤ 8 * 8 := Nat.mul_le_mul (by omega) (by omega)
  rw [List.length_append]
  omega
end Th

set_option Elab.async false
set_option linter.all false
set_option maxRecDepth 100000
namespace Th
open PySem L2 DL
theorem pySl_tail {α : Type} (xs : List α) : pySl xs (some 1) none = xs.drop 1 := by
  unfold pySl
  have h1 : HT.sIx xs.length 0 (some 1) = min 1 xs.length := HT.sIx_nat _ _ 1
  have h2 : HT.sIx xs.length xs.length none = xs.length := HT.sIx_none _ _
  rw [h1, h2]
  cases xs with
  | nil => simp
  | cons a as => simp
theorem pySl_init {α : Type} (xs : List α) : pySl xs none (some (-1)) = xs.take (xs.length - 1) := by
  unfold pySl
  have h1 : HT.sIx xs.length 0 none = 0 := HT.sIx_none _ _
  have h2 : HT.sIx xs.length xs.length (some (-1)) = xs.length - 1 := by
    unfold HT.sIx
    simp
    omega
  rw [h1, h2]
  simp
theorem set_good {t : List (List Int)} {m : Nat} (g : GoodT t m) {one k : Nat} {v : Int} (hv : 0 ≤ v ∧ v ≤ 1000000) : GoodT (t.set one ((t.getD one []).set k v)) m where
  n1 := by rw [List.length_set]; exact g.n1
  n8 := by rw [List.length_set]; exact g.n8
  m40 := g.m40
  len := fun r hr => by
    by_cases h : one < t.length
    · rcases List.mem_or_eq_of_mem_set hr with z | z
      · exact g.len r z
      · rw [z, List.length_set]
        exact g.len _ (by simp [List.getD_eq_getElem?_getD, h])
    · rw [List.set_eq_of_length_le (by omega)] at hr
      exact g.len r hr
  wor := fun r hr x hx => by
    by_cases h : one < t.length
    · rcases List.mem_or_eq_of_mem_set hr with z | z
      · exact g.wor r z x hx
      · rw [z] at hx
        rcases List.mem_or_eq_of_mem_set hx with y | y
        · exact g.wor _ (by simp [List.getD_eq_getElem?_getD, h]) x y
        · rw [y]; exact hv
    · rw [List.set_eq_of_length_le (by omega)] at hr
      exact g.wor r hr x hx
/-- a share made smaller -/
theorem sub_good {s : List (List Int)} {n m : Nat} (h : GoodS s n m) {one : Nat} {r : List Int} (hr : r.Sublist (s.getD one [])) : GoodS (s.set one r) n m := by
  by_cases ho : one < s.length
  · have hm : s.getD one [] ∈ s := by simp [List.getD_eq_getElem?_getD, ho]
    have e : s.getD one [] = s[one] := by simp [List.getD_eq_getElem?_getD, ho]
    refine ⟨by rw [List.length_set]; exact h.n, fun q hq x hx => ?_, fun q hq => ?_, ?_⟩
    · rcases List.mem_or_eq_of_mem_set hq with z | z
      · exact h.bd q z x hx
      · rw [z] at hx; exact h.bd _ hm x (hr.subset hx)
    · rcases List.mem_or_eq_of_mem_set hq with z | z
      · exact h.up q z
      · rw [z]; exact (h.up _ hm).sublist hr
    · have : (s.set one r).flatten.Sublist s.flatten := by
        have e1 : s = s.take one ++ s[one] :: s.drop (one + 1) := by simp
        have e2 : s.set one r = s.take one ++ r :: s.drop (one + 1) := by
          rw [List.set_eq_take_append_cons_drop, if_pos ho]
        rw [e2]
        conv => rhs; rw [e1]
        rw [List.flatten_append, List.flatten_append, List.flatten_cons, List.flatten_cons]
        rw [e] at hr
        exact (List.Sublist.refl _).append (hr.append (List.Sublist.refl _))
      exact h.nd.sublist this
  · rw [List.set_eq_of_length_le (by omega)]; exact h
/-- a thing's number within what is there -/
theorem mod_in (x : Int) {n : Nat} (h : 0 < n) : 0 ≤ x % (n : Int) ∧ x % (n : Int) < n := ⟨Int.emod_nonneg _ (by omega), Int.emod_lt_of_pos _ (by omega)⟩
theorem pyIx_pos {n : Nat} {i : Int} (h : 0 ≤ i) : pyIx n i = i.toNat := by unfold pyIx; rw [if_pos h]
def k5one (ns : List Int) : Int := lAt ns 48 % (nH ns : Int)
def k5T (ns : List Int) : List (List Int) :=
  let t := lTable ns (nH ns) (nM ns)
  if 0 < (nM ns : Int) then t.set (k5one ns).toNat ((t.getD (k5one ns).toNat []).set (lAt ns 49 % (nM ns : Int)).toNat (lAt ns 50 % 1000001)) else t
def k5S (ns : List Int) : List (List Int) :=
  let s := lShares ns (nH ns) (nM ns)
  s.set (k5one ns).toNat ((s.getD (k5one ns).toNat []).drop 1)
theorem k5one_bd (ns : List Int) : 0 ≤ k5one ns ∧ k5one ns < nH ns := mod_in _ (nH_bd ns).1
theorem k5T_good (ns : List Int) : GoodT (k5T ns) (nM ns) := by
  have b1 := nH_bd ns
  have g := lTable_good ns (n := nH ns) (many := nM ns) b1.1 b1.2 (by have := nM_bd ns; omega)
  unfold k5T
  simp only
  split
  · exact set_good g (by omega)
  · exact g
theorem k5T_len (ns : List Int) : (k5T ns).length = nH ns := by
  unfold k5T
  simp only
  split <;> simp [lTable]
theorem k5S_good (ns : List Int) : GoodS (k5S ns) (k5T ns).length (nM ns) := by
  rw [k5T_len]
  exact sub_good (lShares_good ns (nH_bd ns).1) (List.drop_sublist _ _)
theorem k5_in1 (ns : List Int) : inR (lTable ns (nH ns) (nM ns)).length (lAt ns 48 % (nH ns : Int)) := by
  have := k5one_bd ns
  unfold k5one at this
  have e : (lTable ns (nH ns) (nM ns)).length = nH ns := by simp [lTable]
  exact ⟨by omega, by omega⟩
theorem k5_in3 (ns : List Int) : inR (lShares ns (nH ns) (nM ns)).length (lAt ns 48 % (nH ns : Int)) := by
  have := k5one_bd ns
  unfold k5one at this
  have e : (lShares ns (nH ns) (nM ns)).length = nH ns := by simp [lShares]
  exact ⟨by omega, by omega⟩
theorem k5_in2 (ns : List Int) (h : 0 < (nM ns : Int)) : inR ((lTable ns (nH ns) (nM ns)).getD (pyIx (lTable ns (nH ns) (nM ns)).length (lAt ns 48 % (nH ns : Int))) []).length (lAt ns 49 % (nM ns : Int)) := by
  have b1 := nH_bd ns
  have g := lTable_good ns (n := nH ns) (many := nM ns) b1.1 b1.2 (by have := nM_bd ns; omega)
  have h2 := (ixN_pyIx (k5_in1 ns)).2
  have e := g.len _ (show (lTable ns (nH ns) (nM ns)).getD (pyIx (lTable ns (nH ns) (nM ns)).length (lAt ns 48 % (nH ns : Int))) [] ∈ _ by simp [List.getD_eq_getElem?_getD, h2])
  rw [e]
  have := mod_in (lAt ns 49) (n := nM ns) (by omega)
  exact ⟨by omega, by omega⟩
theorem k5T_yes (ns : List Int) (h : 0 < (nM ns : Int)) : (lTable ns (nH ns) (nM ns)).set (pyIx (lTable ns (nH ns) (nM ns)).length (lAt ns 48 % (nH ns : Int))) (pySet ((lTable ns (nH ns) (nM ns)).getD (pyIx (lTable ns (nH ns) (nM ns)).length (lAt ns 48 % (nH ns : Int))) []) (lAt ns 49 % (nM ns : Int)) (lAt ns 50 % 1000001)) = k5T ns := by
  have h1 := (k5one_bd ns).1
  have h2 := (mod_in (lAt ns 49) (n := nM ns) (by omega)).1
  unfold k5T pySet
  rw [if_pos h, pyIx_pos h2]
  unfold k5one at *
  rw [pyIx_pos h1]
theorem k5T_no (ns : List Int) (h : ¬ 0 < (nM ns : Int)) : lTable ns (nH ns) (nM ns) = k5T ns := by
  unfold k5T
  rw [if_neg h]
theorem k5S_eq (ns : List Int) : pySet (lShares ns (nH ns) (nM ns)) (lAt ns 48 % (nH ns : Int)) (pySl (pyAt (lShares ns (nH ns) (nM ns)) (lAt ns 48 % (nH ns : Int))) (some 1) none) = k5S ns := by
  have h1 := (k5one_bd ns).1
  unfold k5S pySet
  rw [pySl_tail, pyAt_ix]
  unfold k5one at *
  rw [pyIx_pos h1]
  rfl
theorem pairs_len {t s : List (List Int)} {m : Nat} (g : GoodT t m) : (pairsOf t s).length < 16000000 := by
  have := pr_sz (s := s) g (i := t.length) (j := 0) (Nat.le_refl _) (by omega)
  rw [pRow_0, List.append_nil] at this
  exact this
theorem k5_sz (ns : List Int) : (pairsOf (k5T ns) (k5S ns)).length < 16000000 := pairs_len (k5T_good ns)
end Th

set_option Elab.async false
set_option linter.all false
set_option maxRecDepth 100000
namespace Th
open PySem L2 DL
/-- things go one by one to who has least -/
def lSums (t f : List (List Int)) (n : Nat) : List Int := (List.range n).map fun (h : Nat) => summed (pyAt t (h : Int)) (pyAt f (h : Int))
def evTo (t f : List (List Int)) : Nat := (lSums t f t.length).idxOf (minI (lSums t f t.length))
def lEven (t : List (List Int)) : Nat → List (List Int)
  | 0 => t.map fun _ => []
  | k + 1 => (lEven t k).set (evTo t (lEven t k)) ((lEven t k).getD (evTo t (lEven t k)) [] ++ [(k : Int)])
theorem lEven_len (t : List (List Int)) : ∀ k, (lEven t k).length = t.length
  | 0 => by simp [lEven]
  | k + 1 => by simp [lEven, lEven_len t k]
theorem evTo_lt {t f : List (List Int)} (h : 0 < t.length) : evTo t f < t.length := by
  have hl : (lSums t f t.length).length = t.length := by simp [lSums]
  have := minI_mem (ns := lSums t f t.length) (by omega)
  have := List.idxOf_lt_length_iff.mpr this
  unfold evTo
  omega
theorem flat_set {s : List (List Int)} {j : Nat} {x : Int} (h : j < s.length) : ((s.set j (s.getD j [] ++ [x])).flatten).Perm (s.flatten ++ [x]) := by
  have e : s.getD j [] = s[j] := by simp [List.getD_eq_getElem?_getD, h]
  have e1 : s = s.take j ++ s[j] :: s.drop (j + 1) := by simp
  have e2 : s.set j (s[j] ++ [x]) = s.take j ++ (s[j] ++ [x]) :: s.drop (j + 1) := by
    rw [List.set_eq_take_append_cons_drop, if_pos h]
  rw [e, e2]
  have e3 : s.flatten = (s.take j).flatten ++ (s[j] ++ (s.drop (j + 1)).flatten) := by
    conv => lhs; rw [e1]
    rw [List.flatten_append, List.flatten_cons]
  rw [e3, List.flatten_append, List.flatten_cons, List.append_assoc, List.append_assoc, List.append_assoc]
  exact List.Perm.append_left _ (List.Perm.append_left _ (List.perm_append_comm (l₁ := [x])))
theorem lEven_good {t : List (List Int)} {m : Nat} (g : GoodT t m) : ∀ k, GoodS (lEven t k) t.length k
  | 0 => by
    have e0 : ∀ r ∈ lEven t 0, r = [] := fun r hr => by
      simp only [lEven, List.mem_map] at hr
      obtain ⟨_, _, rfl⟩ := hr
      rfl
    refine ⟨lEven_len t 0, fun r hr x hx => ?_, fun r hr => ?_, ?_⟩
    · rw [e0 r hr] at hx; cases hx
    · rw [e0 r hr]; exact List.Pairwise.nil
    · rw [List.flatten_eq_nil_iff.mpr e0]; exact List.nodup_nil
  | k + 1 => by
    have ih := lEven_good g k
    have hj : evTo t (lEven t k) < (lEven t k).length := by rw [lEven_len]; exact evTo_lt g.n1
    have hm : (lEven t k).getD (evTo t (lEven t k)) [] ∈ lEven t k := by simp [List.getD_eq_getElem?_getD, hj]
    refine ⟨lEven_len t (k + 1), fun r hr x hx => ?_, fun r hr => ?_, ?_⟩
    · unfold lEven at hr
      rcases List.mem_or_eq_of_mem_set hr with z | z
      · have := ih.bd r z x hx; omega
      · rw [z] at hx
        rcases List.mem_append.mp hx with y | y
        · have := ih.bd _ hm x y; omega
        · simp at y; omega
    · unfold lEven at hr
      rcases List.mem_or_eq_of_mem_set hr with z | z
      · exact ih.up r z
      · rw [z, List.pairwise_append]
        refine ⟨ih.up _ hm, by simp, fun a ha b hb => ?_⟩
        simp at hb
        have := ih.bd _ hm a ha
        omega
    · unfold lEven
      have p := flat_set (x := (k : Int)) hj
      rw [p.nodup_iff, List.nodup_append]
      refine ⟨ih.nd, by simp, fun a ha b hb => ?_⟩
      simp at hb
      obtain ⟨r, hr, hx⟩ := List.mem_flatten.mp ha
      have := ih.bd r hr a hx
      omega
theorem GoodS.mono {s : List (List Int)} {n m m' : Nat} (h : GoodS s n m) (hm : m ≤ m') : GoodS s n m' := ⟨h.n, fun r hr x hx => by have := h.bd r hr x hx; omega, h.up, h.nd⟩
theorem ev_in {t : List (List Int)} {m : Nat} (g : GoodT t m) {k : Nat} (hk : k ≤ m) {h : Nat} (hh : h < t.length) : ∀ x ∈ pyAt (lEven t k) (h : Int), inR (pyAt t (h : Int)).length x :=
  gs_b g ((lEven_good g k).mono hk) ⟨by omega, by omega⟩ ⟨by omega, by omega⟩
theorem lSums_pos {t f : List (List Int)} {m : Nat} (g : GoodT t m) : 0 < (lSums t f t.length).length := by
  have := g.n1
  simp [lSums]
  omega
theorem evTo_in {t : List (List Int)} {m : Nat} (g : GoodT t m) (k : Nat) : inR (lEven t k).length ((evTo t (lEven t k) : Nat) : Int) := by
  rw [lEven_len]
  have := evTo_lt (f := lEven t k) g.n1
  exact ⟨by omega, by omega⟩
theorem lEven_sz {t : List (List Int)} {m : Nat} (g : GoodT t m) {k : Nat} (hk : k ≤ m) (j : Nat) : ((lEven t k).getD j []).length < 16000000 := by
  by_cases h : j < (lEven t k).length
  · have := (lEven_good g k).row (show (lEven t k).getD j [] ∈ lEven t k by simp [List.getD_eq_getElem?_getD, h])
    have := g.m40
    omega
  · rw [List.getD_eq_getElem?_getD, List.getElem?_eq_none (by omega)]
    simp
theorem lEven_step (t : List (List Int)) (k : Nat) {j : Int} (hj : j = ((evTo t (lEven t k) : Nat) : Int)) : (lEven t k).set (pyIx (lEven t k).length j) ((lEven t k).getD (pyIx (lEven t k).length j) [] ++ [(k : Int)]) = lEven t (k + 1) := by
  rw [hj, pyIx_nat]
  rfl
def k6S (ns : List Int) : List (List Int) := if lAt ns 48 % 2 = 1 then lEven (lTable ns (nH ns) (nM ns)) (nM ns) else lShares ns (nH ns) (nM ns)
theorem k6S_good (ns : List Int) : GoodS (k6S ns) (lTable ns (nH ns) (nM ns)).length (nM ns) := by
  have b1 := nH_bd ns
  have g := lTable_good ns (n := nH ns) (many := nM ns) b1.1 b1.2 (by have := nM_bd ns; omega)
  unfold k6S
  split
  · exact lEven_good g _
  · have e : (lTable ns (nH ns) (nM ns)).length = nH ns := by simp [lTable]
    rw [e]
    exact lShares_good ns b1.1
/-- the table changed at one place -/
def k6T (ns : List Int) : List (List Int) :=
  let t := lTable ns (nH ns) (nM ns)
  t.set (pyIx t.length (lAt ns 49 % (nH ns : Int))) (pySet (t.getD (pyIx t.length (lAt ns 49 % (nH ns : Int))) []) (lAt ns 50 % (nM ns : Int)) (lAt ns 51 % 1000001))
theorem k6_in1 (ns : List Int) : inR (lTable ns (nH ns) (nM ns)).length (lAt ns 49 % (nH ns : Int)) := by
  have := mod_in (lAt ns 49) (nH_bd ns).1
  have e : (lTable ns (nH ns) (nM ns)).length = nH ns := by simp [lTable]
  exact ⟨by omega, by omega⟩
theorem k6_in2 (ns : List Int) (h : 0 < (nM ns : Int)) : inR ((lTable ns (nH ns) (nM ns)).getD (pyIx (lTable ns (nH ns) (nM ns)).length (lAt ns 49 % (nH ns : Int))) []).length (lAt ns 50 % (nM ns : Int)) := by
  have b1 := nH_bd ns
  have g := lTable_good ns (n := nH ns) (many := nM ns) b1.1 b1.2 (by have := nM_bd ns; omega)
  have h2 := (ixN_pyIx (k6_in1 ns)).2
  have e := g.len _ (show (lTable ns (nH ns) (nM ns)).getD (pyIx (lTable ns (nH ns) (nM ns)).length (lAt ns 49 % (nH ns : Int))) [] ∈ _ by simp [List.getD_eq_getElem?_getD, h2])
  rw [e]
  have := mod_in (lAt ns 50) (n := nM ns) (by omega)
  exact ⟨by omega, by omega⟩
theorem k6T_good (ns : List Int) : GoodT (k6T ns) (nM ns) := by
  have b1 := nH_bd ns
  have g := lTable_good ns (n := nH ns) (many := nM ns) b1.1 b1.2 (by have := nM_bd ns; omega)
  unfold k6T pySet
  exact set_good g (by omega)
theorem k6T_len (ns : List Int) : (k6T ns).length = (lTable ns (nH ns) (nM ns)).length := by simp [k6T]
theorem k6_none {t s : List (List Int)} {n : Nat} (hs : GoodS s n 0) : borneB t s = true := by
  have e : pairsOf t s = [] := by
    rw [List.eq_nil_iff_forall_not_mem]
    intro p hp
    obtain ⟨h, o, rfl, hh, ho, hf⟩ := mem_pairsOf.mp hp
    have z : ∀ i : Int, summed (pyAt t (h : Int)) (pyAt s i) = 0 := fun i => by
      have : pyAt s i = [] := by
        unfold pyAt
        have q : ∀ j : Nat, s.getD j default = [] := fun j => by
          by_cases hj : j < s.length
          · have := hs.row (show s.getD j default ∈ s by simp [List.getD_eq_getElem?_getD, hj])
            exact List.eq_nil_of_length_eq_zero (by omega)
          · rw [List.getD_eq_getElem?_getD, List.getElem?_eq_none (by omega)]; rfl
        split <;> exact q _
      rw [this]; rfl
    unfold feels at hf
    rw [z, z] at hf
    simp at hf
  unfold borneB
  rw [e]; rfl
end Th

set_option Elab.async false
set_option linter.all false
set_option maxRecDepth 100000
set_option maxHeartbeats 2000000
/-! return [name.pop(e) for k in range(n)], the name's list being of ints and the only owned thing -/
namespace DL
open PySem L2
def popS (idx : Nat → List Int → Int) (ms : List Int) : Nat → List Int × List Int
  | 0 => (ms, [])
  | k + 1 => ((popS idx ms k).1.eraseIdx (idx k (popS idx ms k).1).toNat, (popS idx ms k).2 ++ [(popS idx ms k).1.getD (idx k (popS idx ms k).1).toNat 0])
def slNo : Sl → Bool
  | .ow _ => false
  | _ => true
section
variable {Γ : Gm} {G H G2 H2 : Hp} {σ : L2.St} {ρ : List Sl} {A : List Addr} {i j : Nat} {a : Addr} {ls : List Int}
theorem SlR.noA {K : Fg} {I : Hp} : ∀ {σ ρ A}, SlR K I G H σ ρ A → ρ.all slNo = true → A = []
  | _, _, _, .nil, _ => rfl
  | _, _, _, .cons h r, q => by
    simp only [List.all_cons, Bool.and_eq_true] at q
    have e := SlR.noA r q.2
    subst e
    cases h with
    | ow _ => cases q.1
    | un => rfl
    | v => rfl
    | sh _ => rfl
    | ro _ => rfl
    | sc _ => rfl
theorem SlR.unset {K : Fg} {I : Hp} : ∀ {σ ρ A} (k : Nat), SlR K I G H σ ρ A → ∃ B, SlR K I G H (σ.set k none) (ρ.set k .un) B ∧ B.Sublist A
  | _, _, _, _, .nil => ⟨[], .nil, List.Sublist.refl _⟩
  | _, _, _, 0, .cons (A := A0) h r => ⟨[] ++ _, .cons .un r, List.Sublist.append (List.nil_sublist _) (List.Sublist.refl _)⟩
  | _, _, _, k + 1, .cons (A := A0) h r => by
    obtain ⟨B, r', s⟩ := SlR.unset k r
    exact ⟨A0 ++ B, .cons h r', List.Sublist.append (List.Sublist.refl _) s⟩
/-- the one owned list -/
theorem SlR.one {K : Fg} {I : Hp} (r : SlR K I G H σ ρ A) (h : ρ[i]? = some (.ow (tl tI ls))) (hno : (ρ.set i .un).all slNo = true) : ∃ a, A = [a] ∧ σ[i]? = some (some (.ref a)) ∧ G a = none ∧ H a = some (.lst (ls.map V.int)) ∧
    ∀ G2 H2 ls', Ex G G2 → G2 a = none → H2 a = some (.lst (ls'.map V.int)) → SlR K I G2 H2 σ (ρ.set i (.ow (tl tI ls'))) [a] := by
  obtain ⟨o, A1, B, A2, h1, h2, h3, h4⟩ := r.focus h
  have z := (h4 G H none .un [] (Ex.refl _) (fun _ _ g => g) (fun _ _ => rfl) .un).noA hno
  have z1 : A1 = [] ∧ A2 = [] := by simpa using z
  obtain ⟨rfl, rfl⟩ := z1
  cases h2 with
  | @ow v _ _ q =>
    unfold tl at q
    cases q with
    | @cell _ a vs B0 hg hh r0 =>
      obtain ⟨e1, e2⟩ := r0.intsV
      subst e1 e2
      refine ⟨a, by simpa using h3, h1, hg, hh, fun G2 H2 ls' eg g2 h2 => ?_⟩
      have w := h4 G2 H2 (some (.ref a)) (.ow (tl tI ls')) [a] eg (fun b hb => by simp at hb) (fun b hb => by simp at hb) (.ow (OwnT.intsNew g2 h2))
      have e2 : σ.set i (some (V.ref a)) = σ := by
        obtain ⟨hi, e⟩ := List.getElem?_eq_some_iff.mp h1
        rw [← e]
        simp
      rw [e2] at w
      simpa using w
end
section
variable {X : Cx} {Γ : Gm} {ρ : List Sl} {a ek : Expr} {pos p p' apos cpos lpos : Pos} {E : En} {rest : List Stmt} {n : Str} {i j : Nat}
def RP (ρ : List Sl) (i j : Nat) (t : Nat) (ls : List Int) : List Sl := ((ρ.set j .un).set i (.ow (tl tI ls))).set j (.v (.int t))
def tePop (Γ : Gm) (ρ : List Sl) (i j m : Nat) (ms : List Int) (idx : Nat → List Int → Int) : TE := fun σ H Q => ∃ (t : Nat) (ls : List Int) (G : Hp) (a : Addr), t < m ∧ ls.length = ms.length - t ∧ SrA Γ G H σ (RP ρ i j t ls) [a] ∧
  ∀ G2 H2, Ex G G2 → SrA Γ G2 H2 σ (RP ρ i j t (ls.eraseIdx (idx t ls).toNat)) [a] → (∀ b o, b ≠ a → H b = some o → H2 b = some o) → (∀ b o, b ≠ a → G b = none → H b = some o → G2 b = none) → Q (.int (ls.getD (idx t ls).toNat 0)) H2
theorem RP_i {ρ : List Sl} (hij : i ≠ j) (hi : i < ρ.length) (t : Nat) (ls : List Int) : (RP ρ i j t ls)[i]? = some (.ow (tl tI ls)) := by
  unfold RP
  rw [List.getElem?_set_ne (Ne.symm hij)]
  simp [hi]
theorem RP_set {ρ : List Sl} (hij : i ≠ j) (t : Nat) (ls ls' : List Int) : (RP ρ i j t ls).set i (.ow (tl tI ls')) = RP ρ i j t ls' := by
  unfold RP
  rw [List.set_comm _ _ (Ne.symm hij), List.set_set]
theorem RP_no {ρ : List Sl} (hij : i ≠ j) (hno : (ρ.set i .un).all slNo = true) (t : Nat) (ls : List Int) : ((RP ρ i j t ls).set i .un).all slNo = true := by
  unfold RP
  rw [List.set_comm _ _ (Ne.symm hij), List.set_set]
  rw [List.all_eq_true] at hno ⊢
  intro s hs
  rcases List.mem_or_eq_of_mem_set hs with z | z
  · rw [List.set_comm _ _ (Ne.symm hij)] at z
    rcases List.mem_or_eq_of_mem_set z with y | y
    · exact hno s y
    · rw [y]; rfl
  · rw [z]; rfl
theorem pe_popK {X' : Cx} {m : Nat} {ms : List Int} {idx : Nat → List Int → Int} (hij : i ≠ j) (hil : i < ρ.length) (hno : (ρ.set i .un).all slNo = true)
    (hN : X'.N[i]? = some n) (hv : Vis X'.env.scope n) (hd : (n == ("__debug__" : Str)) = false) (hcd : (n == ("__classdict__" : Str)) = false)
    (hek : ∀ t ls, t < m → ls.length = ms.length - t → DV X' Γ (RP ρ i j t ls) ek (.int (idx t ls))) (hbd : ∀ t ls, t < m → ls.length = ms.length - t → 0 ≤ idx t ls ∧ idx t ls < ls.length ∧ idx t ls < 2 ^ 63)
    (hbase2 : attributeBase (.Name n p) "pop" X'.env (eval (.Name n p) X'.env) = eval (.Name n p) X'.env)
    (hfew2 : ((backTo cpos (starEach [ek] X'.env)).all (fun x => !x.1) && (backToKw cpos (keywordEach [] X'.env)).all (fun x => x.1.isSome) && decide (([ek] : List Expr).length + ([] : List Keyword).length + (if ([] : List Keyword).isEmpty then 0 else 1) < 30)) = true)
    (hline2 : (apos.endLine == cpos.line) = true) (hs2 : starEach [ek] X'.env = (false, eval ek X'.env) :: starEach [] X'.env) (hplain2 : (backTo cpos (starEach [] X'.env)).any (·.1) = false) :
    PE X' (.Call (.Attribute (.Name n p) "pop" apos) [ek] [] cpos) (tePop Γ ρ i j m ms idx) := by
  let tK : TE := fun σ H Q => ∃ (t : Nat) (ls : List Int) (G : Hp) (a : Addr), t < m ∧ ls.length = ms.length - t ∧ SrA Γ G H σ (RP ρ i j t ls) [a] ∧ ∀ G2 H2, Step G H G2 H2 → Ex G2 H2 → Q (.int (idx t ls)) H2
  have hK : PE X' ek tK := ⟨fun pins s σ H Q I ⟨t, ls, G, a, h1, h2, S, k⟩ => (hek t ls h1 h2).run pins s σ H Q I ⟨G, S.sr, fun v G2 H2 st ex (e : v = _) => by rw [e]; exact k G2 H2 st ex⟩⟩
  refine (pe_bm PySem.F.plainAttrs_list PySem.F.slot_list_pop PySem.F.type_list_pop mt_popAt (pe_var hN hv hd hcd) (pa_cons hK pa_nil hs2) hbase2 hfew2 hline2 hs2 hplain2).weak fun σ H Q ⟨t, ls, G, a, h1, h2, S, k⟩ => ?_
  obtain ⟨a', ea, e1, e2, e3, e4⟩ := S.sl.one (RP_i hij hil t ls) (RP_no hij hno t ls)
  cases ea
  refine ⟨_, e1, ty_list e3, t, ls, G, a, h1, h2, S, fun G2 H2 st ex => ?_⟩
  obtain ⟨q1, q2, q3⟩ := hbd t ls h1 h2
  have hkl : (idx t ls).toNat < ls.length := by omega
  have eg : (ls.map V.int)[(idx t ls).toNat]? = some (.int (ls.getD (idx t ls).toNat 0)) := by
    rw [List.getElem?_map, List.getElem?_eq_getElem hkl]
    simp [List.getD_eq_getElem?_getD, hkl]
  refine ⟨a, _, idx t ls, (idx t ls).toNat, _, rfl, rfl, st.h _ _ e3, by omega, q3, ?_, eg, ?_⟩
  · rw [PySem.seqIndex_of q1 (by rw [List.length_map]; exact q2)]
  have ga : G2 a = none := st.f _ _ e2 e3
  have aΓ : Γ.H a = none := S.fr a (by simp)
  have S2 := S.more st ex
  have w := e4 G2 (upd H2 a (.lst ((ls.map V.int).eraseIdx (idx t ls).toNat))) (ls.eraseIdx (idx t ls).toNat) st.g ga (by rw [upd_same, eraseIdx_map'])
  rw [RP_set hij] at w
  refine k G2 _ st.g ⟨⟨S2.step.g, S2.step.h.mut aΓ, S2.step.f⟩, ex.mut ga, w, by simp, by simpa using aΓ⟩ (fun b o hb ho => by rw [upd_ne hb]; exact st.h _ _ ho) (fun b o hb g0 ho => st.f _ _ g0 ho)
theorem ss_retPop (i j m : Nat) {kn : Str} {pn pr : Pos} {scope : Scope} {ms : List Int} (idx : Nat → List Int → Int) (xo : XO X) (h : ρ[i]? = some (.ow (tl tI ms))) (hij : i ≠ j) (hno : (ρ.set i .un).all slNo = true)
    (ha : DV X Γ ρ a (.int (m : Int))) (hm0 : m < 16000000) (hm : X.mg "range" = none)
    (ok : BlkOk X.N X.env.scope scope [(kn, j)])
    (hgg : ∀ (s : Shared) (H : Hp) (C : Addr) (cl : List (Str × Addr)) (fp : List Addr), PG (X.blk s H scope (compEnvC scope cl C X.env) fp) (.Name kn pn) (gName j))
    (hek : ∀ t ls, t < m → ls.length = ms.length - t → ∀ (s : Shared) (H : Hp) (C : Addr) (cl : List (Str × Addr)) (fp : List Addr), XO (X.blk s H scope (compEnvC scope cl C X.env) fp) → DV (X.blk s H scope (compEnvC scope cl C X.env) fp) Γ (RP ρ i j t ls) ek (.int (idx t ls))) (hbd : ∀ t ls, t < m → ls.length = ms.length - t → 0 ≤ idx t ls ∧ idx t ls < ls.length ∧ idx t ls < 2 ^ 63)
    (hE : E.rt (tl tI (popS idx ms m).2)) (hml : m ≤ ms.length)
    (hN : ∀ (s : Shared) (H : Hp) (C : Addr) (cl : List (Str × Addr)) (fp : List Addr), (X.blk s H scope (compEnvC scope cl C X.env) fp).N[i]? = some n := by intros; rfl)
    (hv : ∀ (s : Shared) (H : Hp) (C : Addr) (cl : List (Str × Addr)) (fp : List Addr), Vis (X.blk s H scope (compEnvC scope cl C X.env) fp).env.scope n := by intros; first | exact Or.inl rfl | exact Or.inr (Or.inl rfl) | exact Or.inr (Or.inr rfl)) (hd : (n == ("__debug__" : Str)) = false := by decide) (hcd : (n == ("__classdict__" : Str)) = false := by decide)
    (hbase2 : ∀ (s : Shared) (H : Hp) (C : Addr) (cl : List (Str × Addr)) (fp : List Addr), attributeBase (.Name n p) "pop" (X.blk s H scope (compEnvC scope cl C X.env) fp).env (eval (.Name n p) (X.blk s H scope (compEnvC scope cl C X.env) fp).env) = eval (.Name n p) (X.blk s H scope (compEnvC scope cl C X.env) fp).env := by intros; rfl)
    (hfew2 : ∀ (s : Shared) (H : Hp) (C : Addr) (cl : List (Str × Addr)) (fp : List Addr), ((backTo cpos (starEach [ek] (X.blk s H scope (compEnvC scope cl C X.env) fp).env)).all (fun x => !x.1) && (backToKw cpos (keywordEach [] (X.blk s H scope (compEnvC scope cl C X.env) fp).env)).all (fun x => x.1.isSome) && decide (([ek] : List Expr).length + ([] : List Keyword).length + (if ([] : List Keyword).isEmpty then 0 else 1) < 30)) = true := by intros; rfl)
    (hline2 : (apos.endLine == cpos.line) = true := by rfl) (hs2 : ∀ (s : Shared) (H : Hp) (C : Addr) (cl : List (Str × Addr)) (fp : List Addr), starEach [ek] (X.blk s H scope (compEnvC scope cl C X.env) fp).env = (false, eval ek (X.blk s H scope (compEnvC scope cl C X.env) fp).env) :: starEach [] (X.blk s H scope (compEnvC scope cl C X.env) fp).env := by intros; rfl)
    (hplain2 : ∀ (s : Shared) (H : Hp) (C : Addr) (cl : List (Str × Addr)) (fp : List Addr), (backTo cpos (starEach [] (X.blk s H scope (compEnvC scope cl C X.env) fp).env)).any (·.1) = false := by intros; rfl)
    (hg : Gl X "range" := by rfl) (hs1 : starEach [a] X.env = (false, eval a X.env) :: starEach [] X.env := by rfl) (hs : starEach [a] X.env = [(false, eval a X.env)] := by rfl)
    (hs3 : ∀ x, foldedSetIterable (.Call (.Name "range" p') [a] [] pr) X.env x = pure x := by intro _; rfl) :
    SS X Γ ρ (.Return (some (.ListComp (.Call (.Attribute (.Name n p) "pop" apos) [ek] [] cpos) [⟨.Name kn pn, .Call (.Name "range" p') [a] [] pr, [], 0⟩] scope lpos)) pos :: rest) E := by
  have hil : i < ρ.length := (List.getElem?_eq_some_iff.mp h).1
  have xb : ∀ (s : Shared) (H : Hp) (C : Addr) (cl : List (Str × Addr)) (fp : List Addr), XO (X.blk s H scope (compEnvC scope cl C X.env) fp) := fun _ _ _ _ _ => ⟨xo.calm, xo.nd, xo.hu⟩
  have he := fun s H C cl fp => pe_popK (X' := X.blk s H scope (compEnvC scope cl C X.env) fp) (Γ := Γ) (m := m) (ms := ms) (idx := idx) (p := p) (apos := apos) (cpos := cpos) hij hil hno (hN s H C cl fp) (hv s H C cl fp) hd hcd (fun t ls h1 h2 => hek t ls h1 h2 s H C cl fp (xb _ _ _ _ _)) hbd (hbase2 s H C cl fp) (hfew2 s H C cl fp) hline2 (hs2 s H C cl fp) (hplain2 s H C cl fp)
  have hit : PI X (.Name kn pn) (.Call (.Name "range" p') [a] [] pr) (fun σ H R => ∃ G, Sr Γ G H σ ρ ∧ ∀ G1 H1, Step G H G1 H1 → Ex G1 H1 → R (Itr 0 m) H1) :=
    (pi_range1 hg hm (pa_cons ha pa_nil hs1) hs).weak fun σ H R ⟨G, S, k⟩ => ⟨G, S, fun v G1 H1 s1 e1 (q : v = .int m) => by
      rw [q]
      refine ⟨m, rfl, by omega, by omega, ?_⟩
      have := k G1 H1 s1 e1
      rwa [show ((m : Int)).toNat = m by omega]⟩
  have plen : ∀ k, k ≤ m → (popS idx ms k).1.length = ms.length - k := by
    intro k
    induction k with
    | zero => intro _; simp [popS]
    | succ k ih =>
      intro hk
      have ih := ih (by omega)
      obtain ⟨q1, q2, q3⟩ := hbd k (popS idx ms k).1 (by omega) ih
      simp only [popS, List.length_eraseIdx]
      rw [if_pos (by omega)]
      omega
  have plen2 : ∀ k, (popS idx ms k).2.length = k := by
    intro k
    induction k with
    | zero => simp [popS]
    | succ k ih => simp only [popS, List.length_append, ih]; rfl
  let Rw : Nat → List Sl := fun k => (ρ.set j .un).set i (.ow (tl tI (popS idx ms k).1))
  have RwP : ∀ k, (Rw k).set j (.v (.int (k : Int))) = RP ρ i j k (popS idx ms k).1 := fun k => rfl
  have RwU : ∀ k, (RP ρ i j k ((popS idx ms k).1.eraseIdx (idx k (popS idx ms k).1).toNat)).set j .un = Rw (k + 1) := fun k => by
    show (((ρ.set j .un).set i _).set j _).set j .un = (ρ.set j .un).set i _
    rw [List.set_set, List.set_comm _ _ hij, List.set_set]
    rfl
  refine ss_cons (M := fun _ => False) ((ps_ret (pe_lc xo.calm xo.nd hit ok hgg (fun _ _ _ _ _ => pts_nil) he hs3)).weak fun D σ H ⟨G, S, k⟩ => ?_) fun _ e => e.elim
  refine ⟨G, S, fun G1 H1 s1 e1 Dd hD => ?_⟩
  have S1 := S.more s1 e1
  obtain ⟨A, SA⟩ := S1.ad
  obtain ⟨a', eA, o0, g0, h0, _⟩ := SA.sl.one h hno
  subst eA
  have hne : Dd ≠ a' := fun z => by rw [z, h0] at hD; cases hD
  have DΓ : Γ.H Dd = none := S1.step.h.none hD
  have aΓ : Γ.H a' = none := SA.fr a' (by simp)
  have w0 : SlR Γ.K Γ.H G1 H1 (σ.set j none) (Rw 0) [a'] := by
    obtain ⟨B, r, sub⟩ := SA.sl.unset j
    have hi' : (ρ.set j .un)[i]? = some (.ow (tl tI ms)) := by rw [List.getElem?_set_ne (Ne.symm hij)]; exact h
    have hno' : ((ρ.set j .un).set i .un).all slNo = true := by
      rw [List.all_eq_true] at hno ⊢
      intro s hs
      rw [List.set_comm _ _ (Ne.symm hij)] at hs
      rcases List.mem_or_eq_of_mem_set hs with y | y
      · exact hno s y
      · rw [y]; rfl
    obtain ⟨a2, eB, o2, g2, h2, kk⟩ := r.one hi' hno'
    have : a2 = a' := by
      rw [eB] at sub
      simpa using sub
    subst this
    exact kk G1 H1 ms (Ex.refl _) g2 h2
  refine ⟨fun k μ H' => μ = m - k ∧ k ≤ m ∧ ∃ G', SrA Γ G' H' (σ.set j none) (Rw k) [a'] ∧ H' Dd = some (.lst ((popS idx ms k).2.map V.int)) ∧ G' Dd = none, ⟨m, by simp, Nat.zero_le _, G1, ⟨S1.step.trans (Step.laid hD), e1.trans (Ex.new hD), w0.more (Step.laid hD), by simp, by simpa using aΓ⟩, upd_same, e1.none hD⟩, ?_⟩
  rintro kq μ H' ⟨rfl, him, G', S', hDl, gD⟩
  by_cases hlt : kq < m
  · refine .inr ⟨hlt, fun H2 => ∃ G2, SrA Γ G2 H2 (σ.set j none) (Rw (kq + 1)) [a'] ∧ H2 Dd = some (.lst ((popS idx ms (kq + 1)).2.map V.int)) ∧ G2 Dd = none, fun H2 z => ⟨m - (kq + 1), by omega, rfl, hlt, z⟩, fun x H'' hy => ?_⟩
    obtain ⟨rfl, rfl⟩ := hy
    have hw1 : wipe σ [j] = σ.set j none := rfl
    refine ⟨?_, ?_⟩
    · show wipe ((wipe σ [j]).set j _) [j] = wipe σ [j]
      rw [wipe_set (by simp), wipe_wipe]
    simp only [tYes, if_true]
    have hun : (Rw kq)[j]? = some .un ∨ (Rw kq)[j]? = none := by
      by_cases hj : j < ρ.length
      · exact .inl (by simp only [Rw]; rw [List.getElem?_set_ne hij, List.getElem?_set_self hj])
      · exact .inr (List.getElem?_eq_none (by simp [Rw]; omega))
    have S3 : SrA Γ G' H'' ((σ.set j none).set j (some (V.int (0 + (kq : Int))))) (RP ρ i j kq (popS idx ms kq).1) [a'] := by
      rw [← RwP, Int.zero_add]
      refine ⟨S'.step, S'.sub, ?_, S'.nd, S'.fr⟩
      rcases hun with z | z
      · obtain ⟨o, A1, B, A2, q1, q2, q3, q4⟩ := S'.sl.focus z
        cases q2
        have := q4 G' H'' (some (.int (kq : Int))) (.v (.int (kq : Int))) [] (Ex.refl _) (fun _ _ g => g) (fun _ _ => rfl) .v
        rw [← q3] at this
        exact this
      · have l1 := S'.sl.len
        have l2 : (Rw kq).length ≤ j := List.getElem?_eq_none_iff.mp z
        rw [List.length_set] at l1
        have e1 : (σ.set j none).set j (some (V.int (kq : Int))) = σ.set j none := List.set_eq_of_length_le (by rw [List.length_set]; omega)
        rw [e1, List.set_eq_of_length_le l2]
        exact S'.sl
    refine ⟨kq, _, G', a', hlt, plen kq him, S3, fun G2 H2 eg S2 kk kg => ?_⟩
    have hD2 := kk Dd _ hne hDl
    have gD2 := kg Dd _ hne gD hDl
    refine ⟨_, hD2, by rw [List.length_map, plen2]; exact Nat.lt_trans hlt (Nat.lt_trans hm0 (by decide)), G2, ⟨⟨S2.step.g, S2.step.h.mut DΓ, S2.step.f⟩, S2.sub.mut gD2, ?_, by simp, by simpa using aΓ⟩, by rw [upd_same]; simp only [popS, List.map_append]; rfl, gD2⟩
    obtain ⟨B, r, sub⟩ := S2.sl.unset j
    rw [RwU, List.set_set] at r
    change SlR Γ.K Γ.H G2 H2 ((σ.set j none).set j none) (Rw (kq + 1)) B at r
    rw [List.set_set] at r
    have hi' : (Rw (kq + 1))[i]? = some (.ow (tl tI (popS idx ms (kq + 1)).1)) := by simp [Rw, hil]
    have hno' : ((Rw (kq + 1)).set i .un).all slNo = true := by
      simp only [Rw]
      rw [List.set_set]
      rw [List.all_eq_true] at hno ⊢
      intro s hs
      rw [List.set_comm _ _ (Ne.symm hij)] at hs
      rcases List.mem_or_eq_of_mem_set hs with y | y
      · exact hno s y
      · rw [y]; rfl
    obtain ⟨a2, eB, o2, g2, h2, _⟩ := r.one hi' hno'
    have : a2 = a' := by
      rw [eB] at sub
      simpa using sub
    subst this
    rw [eB] at r
    exact r.frame (Ex.refl _) (fun _ _ g => g) (fun b hb => upd_ne fun z => hne (by simp at hb; rw [← z, hb]))
  · have e : kq = m := by omega
    subst e
    exact .inl ⟨Nat.le_refl _, k.rt _ (.ref Dd) G' H' [Dd] hE S'.step S'.sub (OwnT.intsNew gD hDl) (by simp) (by simpa using DΓ)⟩
end
end DL

set_option Elab.async false
set_option linter.all false
set_option maxRecDepth 100000
set_option maxHeartbeats 2000000
/-! lists of two or three things of several kinds -/
namespace DL
open PySem L2
def dH2 {α β : Type} (f : α → D) (g : β → D) (p : α × β) : D := .list [f p.1, g p.2]
def dH3 {α β γ : Type} (f : α → D) (g : β → D) (h : γ → D) (p : α × β × γ) : D := .list [f p.1, g p.2.1, h p.2.2]
def tH2 {α β : Type} (f : α → OT) (g : β → OT) (p : α × β) : OT := .cell [f p.1, g p.2]
def tH3 {α β γ : Type} (f : α → OT) (g : β → OT) (h : γ → OT) (p : α × β × γ) : OT := .cell [f p.1, g p.2.1, h p.2.2]
theorem er_cell (ts : List OT) : (OT.cell ts).er = .list (ts.map OT.er) := by
  unfold OT.er
  rw [ers_map]
instance {α β : Type} (f : α → OT) (g : β → OT) (f' : α → D) (g' : β → D) [h : Er f f'] [k : Er g g'] : Er (tH2 f g) (dH2 f' g') := ⟨fun x => by
  unfold tH2 dH2
  rw [er_cell]
  simp [h.er, k.er]⟩
instance {α β γ : Type} (f : α → OT) (g : β → OT) (q : γ → OT) (f' : α → D) (g' : β → D) (q' : γ → D) [h : Er f f'] [k : Er g g'] [l : Er q q'] : Er (tH3 f g q) (dH3 f' g' q') := ⟨fun x => by
  unfold tH3 dH3
  rw [er_cell]
  simp [h.er, k.er, l.er]⟩
instance {α β : Type} (f : α → D) (g : β → D) (n m : Nat) [h : EqN f n] [k : EqN g m] : EqN (dH2 f g) (n + m + 1) := ⟨fun x y => by
    unfold dH2
    simp only [PyData.eqv, PyData.eqvAll, Bool.and_eq_true, h.eqv, k.eqv, Prod.ext_iff, and_true], fun x => by simp [dH2, PyData.canLay0, PyData.canLayAll0, h.lay, k.lay], fun x => by
    have := h.dep x.1
    have := k.dep x.2
    simp only [dH2, PyData.depth, PyData.depthAll]
    omega⟩
instance {α β γ : Type} (f : α → D) (g : β → D) (q : γ → D) (n m l : Nat) [h : EqN f n] [k : EqN g m] [j : EqN q l] : EqN (dH3 f g q) (n + m + l + 1) := ⟨fun x y => by
    unfold dH3
    simp only [PyData.eqv, PyData.eqvAll, Bool.and_eq_true, h.eqv, k.eqv, j.eqv, Prod.ext_iff, and_true], fun x => by simp [dH3, PyData.canLay0, PyData.canLayAll0, h.lay, k.lay, j.lay], fun x => by
    have := h.dep x.1
    have := k.dep x.2.1
    have := j.dep x.2.2
    simp only [dH3, PyData.depth, PyData.depthAll]
    omega⟩
section
variable {X : Cx} {Γ : Gm} {ρ : List Sl} {e a b : Expr} {pos : Pos} {κ : Kd} {α β γ : Type} {f : α → D} {g : β → D} {q : γ → D}
theorem de_H0 {p : α × β} (ha : DE X Γ ρ a κ (dH2 f g p)) (hb : DV X Γ ρ b (.int 0)) (hs : PlainIx b := by intro _ _; rfl) : DE X Γ ρ (.Subscript a b pos) κ (f p.1) := de_at ha hb rfl hs
theorem de_H1 {p : α × β} (ha : DE X Γ ρ a κ (dH2 f g p)) (hb : DV X Γ ρ b (.int 1)) (hs : PlainIx b := by intro _ _; rfl) : DE X Γ ρ (.Subscript a b pos) κ (g p.2) := de_at ha hb rfl hs
theorem de_J0 {p : α × β × γ} (ha : DE X Γ ρ a κ (dH3 f g q p)) (hb : DV X Γ ρ b (.int 0)) (hs : PlainIx b := by intro _ _; rfl) : DE X Γ ρ (.Subscript a b pos) κ (f p.1) := de_at ha hb rfl hs
theorem de_J1 {p : α × β × γ} (ha : DE X Γ ρ a κ (dH3 f g q p)) (hb : DV X Γ ρ b (.int 1)) (hs : PlainIx b := by intro _ _; rfl) : DE X Γ ρ (.Subscript a b pos) κ (g p.2.1) := de_at ha hb rfl hs
theorem de_J2 {p : α × β × γ} (ha : DE X Γ ρ a κ (dH3 f g q p)) (hb : DV X Γ ρ b (.int 2)) (hs : PlainIx b := by intro _ _; rfl) : DE X Γ ρ (.Subscript a b pos) κ (q p.2.2) := de_at ha hb rfl hs
end
end DL

set_option Elab.async false
set_option linter.all false
set_option maxRecDepth 100000
/-! picked in turn -/
namespace Th
open PySem L2 DL
def withThing (s : List (List Int)) (h x : Int) : List (List Int) := pySet s h (sortI (pyAt s h ++ [x]))
def pk (t : List (List Int)) (ord : List Int) (m : Nat) : Nat → List Int × List (List Int)
  | 0 => (rgI m, t.map fun _ => [])
  | k + 1 => ((pk t ord m k).1.erase (dearest (pyAt t (pyAt ord ((k : Int) % (ord.length : Int)))) (pk t ord m k).1), withThing (pk t ord m k).2 (pyAt ord ((k : Int) % (ord.length : Int))) (dearest (pyAt t (pyAt ord ((k : Int) % (ord.length : Int)))) (pk t ord m k).1))
/-- an order of all heirs -/
structure GoodO (ord : List Int) (n : Nat) : Prop where
  len : ord.length = n
  bd : ∀ x ∈ ord, 0 ≤ x ∧ x < (n : Int)
  nd : ord.Nodup
section
variable {t : List (List Int)} {ord : List Int} {m : Nat}
/-- whose turn it is -/
def tn (ord : List Int) (k : Nat) : Int := pyAt ord ((k : Int) % (ord.length : Int))
/-- what is picked at a turn -/
def px (t : List (List Int)) (ord : List Int) (m k : Nat) : Int := dearest (pyAt t (tn ord k)) (pk t ord m k).1
theorem pk_s (k : Nat) : pk t ord m (k + 1) = ((pk t ord m k).1.erase (px t ord m k), withThing (pk t ord m k).2 (tn ord k) (px t ord m k)) := rfl
theorem tn_in (g : GoodT t m) (o : GoodO ord t.length) (k : Nat) : inR ord.length ((k : Int) % (ord.length : Int)) := by
  have := mod_in (k : Int) (n := ord.length) (by rw [o.len]; exact g.n1)
  exact ⟨by omega, by omega⟩
theorem tn_bd (g : GoodT t m) (o : GoodO ord t.length) (k : Nat) : 0 ≤ tn ord k ∧ tn ord k < (t.length : Int) := o.bd _ (pyAt_mem (tn_in g o k))
theorem tn_inR (g : GoodT t m) (o : GoodO ord t.length) (k : Nat) : inR t.length (tn ord k) := by have := tn_bd g o k; exact ⟨by omega, by omega⟩
theorem sub_bd {l : List Int} (h : l.Sublist (rgI m)) : ∀ x ∈ l, 0 ≤ x ∧ x < (m : Int) := fun x hx => rgI_mem.mp (h.subset hx)
theorem rgI_up (m : Nat) : (rgI m).Pairwise (· < ·) := by
  unfold rgI
  rw [List.pairwise_map]
  have : (List.range m).Pairwise (· < ·) := List.pairwise_lt_range
  exact this.imp fun h => by omega
theorem pk_left (g : GoodT t m) (o : GoodO ord t.length) : ∀ k, k ≤ m → (pk t ord m k).1.length = m - k ∧ (pk t ord m k).1.Sublist (rgI m) ∧ (k < m → px t ord m k ∈ (pk t ord m k).1)
  | 0, _ => by
    have hx : 0 < m → px t ord m 0 ∈ (pk t ord m 0).1 := fun h => dearF_mem (by show 0 < (rgI m).length; rw [rgI_len]; exact h) _ (Nat.le_refl _)
    exact ⟨by simp [pk, rgI], List.Sublist.refl _, hx⟩
  | k + 1, h => by
    obtain ⟨h1, h2, h3⟩ := pk_left g o k (by omega)
    have e : (pk t ord m (k + 1)).1.length = m - (k + 1) := by
      rw [pk_s]
      show ((pk t ord m k).1.erase (px t ord m k)).length = _
      rw [List.length_erase_of_mem (h3 (by omega)), h1]
      omega
    exact ⟨e, (List.erase_sublist).trans h2, fun hk => dearF_mem (by rw [e]; omega) _ (Nat.le_refl _)⟩
theorem withThing_len (s : List (List Int)) (h x : Int) : (withThing s h x).length = s.length := by simp [withThing, pySet]
theorem pk_len (g : GoodT t m) : ∀ k, (pk t ord m k).2.length = t.length
  | 0 => by simp [pk]
  | k + 1 => by rw [pk_s]; show (withThing _ _ _).length = _; rw [withThing_len]; exact pk_len g k
theorem withThing_perm {s : List (List Int)} {h x : Int} (hh : inR s.length h) : (withThing s h x).flatten.Perm (s.flatten ++ [x]) := by
  have hj := (ixN_pyIx hh).2
  unfold withThing pySet
  rw [pyAt_ix]
  have e : s.getD (pyIx s.length h) default = s[pyIx s.length h] := by simp [List.getD_eq_getElem?_getD, hj]
  have e1 : s = s.take (pyIx s.length h) ++ s[pyIx s.length h] :: s.drop (pyIx s.length h + 1) := by simp
  rw [List.set_eq_take_append_cons_drop, if_pos hj]
  have e3 : s.flatten = (s.take (pyIx s.length h)).flatten ++ (s[pyIx s.length h] ++ (s.drop (pyIx s.length h + 1)).flatten) := by
    conv => lhs; rw [e1]
    rw [List.flatten_append, List.flatten_cons]
  rw [e3, List.flatten_append, List.flatten_cons, List.append_assoc, List.append_assoc, e]
  refine List.Perm.append_left _ (((sortI_perm _).append_right _).trans ?_)
  rw [List.append_assoc]
  exact List.Perm.append_left _ List.perm_append_comm
theorem pk_perm (g : GoodT t m) (o : GoodO ord t.length) : ∀ k, k ≤ m → ((pk t ord m k).1 ++ (pk t ord m k).2.flatten).Perm (rgI m)
  | 0, _ => by
    have : (t.map fun _ => ([] : List Int)).flatten = [] := by
      rw [List.flatten_eq_nil_iff]
      intro l hl
      obtain ⟨_, _, rfl⟩ := List.mem_map.mp hl
      rfl
    show (rgI m ++ (t.map fun _ => ([] : List Int)).flatten).Perm _
    rw [this, List.append_nil]
  | k + 1, h => by
    obtain ⟨h1, h2, h3⟩ := pk_left g o k (by omega)
    refine List.Perm.trans ?_ (pk_perm g o k (by omega))
    rw [pk_s]
    show ((pk t ord m k).1.erase (px t ord m k) ++ (withThing _ _ _).flatten).Perm _
    have p1 := withThing_perm (x := px t ord m k) (show inR (pk t ord m k).2.length (tn ord k) by rw [pk_len g]; exact tn_inR g o k)
    refine (List.Perm.append_left _ p1).trans ?_
    have p2 : (px t ord m k :: (pk t ord m k).1.erase (px t ord m k)).Perm (pk t ord m k).1 := (List.perm_cons_erase (h3 (by omega))).symm
    refine List.Perm.trans ?_ (p2.append_right _)
    rw [← List.append_assoc]
    exact List.perm_append_singleton _ _
end
end Th
namespace Th
open PySem L2 DL
/-- what is taken at the places of one kind -/
def Vs (n : Nat) (y : Nat → Int) (c k : Nat) : Int := (((List.range k).filter fun j => decide (j % n = c)).map y).sum
theorem Vs_succ (n : Nat) (y : Nat → Int) (c k : Nat) : Vs n y c (k + 1) = Vs n y c k + if k % n = c then y k else 0 := by
  unfold Vs
  rw [List.range_succ, List.filter_append, List.map_append, List.sum_append]
  by_cases h : k % n = c <;> simp [h]
theorem mod_step {n k : Nat} (hn : 0 < n) : (k % n + 1 = n ∧ (k + 1) % n = 0) ∨ (k % n + 1 < n ∧ (k + 1) % n = k % n + 1) := by
  have h := Nat.mod_lt k hn
  by_cases e : k % n + 1 = n
  · left
    refine ⟨e, ?_⟩
    by_cases h1 : n = 1
    · subst h1; omega
    · rw [Nat.add_mod, Nat.mod_eq_of_lt (show 1 < n by omega), e, Nat.mod_self]
  · right
    refine ⟨by omega, ?_⟩
    rw [Nat.add_mod, Nat.mod_eq_of_lt (show 1 < n by omega), Nat.mod_eq_of_lt (show k % n + 1 < n by omega)]
theorem ahead {n : Nat} {y : Nat → Int} {a b M : Nat} (hab : a < b) (hb : b < n) (nn : ∀ j, j < M → 0 ≤ y j) (pref : ∀ i j, i < j → j < M → i % n = a → y j ≤ y i) :
    ∀ k, k ≤ M → Vs n y b k ≤ Vs n y a k ∧ (a < k % n → k % n ≤ b → ∃ i, i < k ∧ i % n = a ∧ Vs n y b k + y i ≤ Vs n y a k) := by
  intro k
  induction k with
  | zero => intro _; exact ⟨Int.le_refl _, fun h => by simp at h⟩
  | succ k ih =>
    intro hk
    obtain ⟨h1, h2⟩ := ih (by omega)
    have hy := nn k (by omega)
    have ms := mod_step (n := n) (k := k) (by omega)
    rw [Vs_succ, Vs_succ]
    by_cases ra : k % n = a
    · clear h2 ih
      rw [if_pos ra, if_neg (by omega)]
      exact ⟨by omega, fun _ _ => ⟨k, by omega, ra, by omega⟩⟩
    · rw [if_neg ra]
      by_cases rb : k % n = b
      · rw [if_pos rb]
        obtain ⟨i, q1, q2, q3⟩ := h2 (by clear h2 ih; omega) (by clear h2 ih; omega)
        have := pref i k q1 (by omega) q2
        clear h2 ih
        exact ⟨by omega, fun z1 z2 => by omega⟩
      · rw [if_neg rb]
        refine ⟨(by clear h2 ih; omega), fun z1 z2 => ?_⟩
        obtain ⟨i, q1, q2, q3⟩ := h2 (by clear h2 ih; omega) (by clear h2 ih; omega)
        clear h2 ih
        exact ⟨i, by omega, q2, by omega⟩
theorem Vs_0 {n : Nat} {y : Nat → Int} {a : Nat} (ha : a < n) : ∀ k, k ≤ a → Vs n y a k = 0 := by
  intro k
  induction k with
  | zero => intro _; rfl
  | succ k ih =>
    intro hk
    rw [Vs_succ, ih (by omega), Nat.mod_eq_of_lt (by omega), if_neg (by omega)]
    rfl
theorem Vs_nn {n : Nat} {y : Nat → Int} {M : Nat} (nn : ∀ j, j < M → 0 ≤ y j) (c : Nat) : ∀ k, k ≤ M → 0 ≤ Vs n y c k := by
  intro k
  induction k with
  | zero => intro _; exact Int.le_refl _
  | succ k ih =>
    intro hk
    have := ih (by omega)
    have := nn k (by omega)
    rw [Vs_succ]
    split <;> omega
theorem bears {n : Nat} {y : Nat → Int} {a b M : Nat} (hab : a < b) (hb : b < n) (nn : ∀ j, j < M → 0 ≤ y j) (pref : ∀ i j, i < j → j < M → i % n = b → y j ≤ y i) :
    ∀ k, a < k → k ≤ M → Vs n y a k - y a ≤ Vs n y b k ∧ (b < k % n ∨ k % n ≤ a → ∃ i, i < k ∧ i % n = b ∧ Vs n y a k - y a + y i ≤ Vs n y b k) := by
  intro k
  induction k with
  | zero => intro h; omega
  | succ k ih =>
    intro hak hk
    have hy := nn k (by omega)
    have ms := mod_step (n := n) (k := k) (by omega)
    by_cases e : k = a
    · clear ih
      subst e
      have hr : k % n = k := Nat.mod_eq_of_lt (by omega)
      have h0 := Vs_0 (y := y) (show k < n by omega) k (Nat.le_refl _)
      have hb0 := Vs_nn nn b k (n := n) (by omega)
      rw [Vs_succ, Vs_succ, hr, if_pos rfl, if_neg (by omega)]
      refine ⟨by omega, fun z => ?_⟩
      omega
    obtain ⟨h1, h2⟩ := ih (by omega) (by omega)
    rw [Vs_succ, Vs_succ]
    by_cases rb : k % n = b
    · clear h2 ih
      rw [if_pos rb, if_neg (by omega)]
      exact ⟨by omega, fun _ => ⟨k, by omega, rb, by omega⟩⟩
    · rw [if_neg rb]
      by_cases ra : k % n = a
      · rw [if_pos ra]
        obtain ⟨i, q1, q2, q3⟩ := h2 (by clear h2 ih; omega)
        have := pref i k q1 (by omega) q2
        clear h2 ih
        exact ⟨by omega, fun z => by omega⟩
      · rw [if_neg ra]
        refine ⟨(by clear h2 ih; omega), fun z => ?_⟩
        obtain ⟨i, q1, q2, q3⟩ := h2 (by clear h2 ih; omega)
        clear h2 ih
        exact ⟨i, by omega, q2, by omega⟩
theorem sum_perm {xs ys : List Int} (h : xs.Perm ys) : xs.sum = ys.sum := by
  induction h with
  | nil => rfl
  | cons a _ ih => rw [List.sum_cons, List.sum_cons, ih]
  | swap a b l => simp only [List.sum_cons]; omega
  | trans _ _ h1 h2 => rw [h1, h2]
theorem summed_perm {row : List Int} {xs ys : List Int} (h : xs.Perm ys) : summed row xs = summed row ys := sum_perm (h.map _)
theorem pyAt_set {α : Type} [Inhabited α] {s : List α} {h h' : Int} {v : α} (h0 : 0 ≤ h) (h1 : h < s.length) (h0' : 0 ≤ h') : pyAt (pySet s h v) h' = if h = h' then v else pyAt s h' := by
  obtain ⟨a, rfl⟩ : ∃ a : Nat, h = a := ⟨h.toNat, by omega⟩
  obtain ⟨b, rfl⟩ : ∃ b : Nat, h' = b := ⟨h'.toNat, by omega⟩
  unfold pySet
  rw [pyIx_nat, pyAt_nat, pyAt_nat]
  by_cases e : a = b
  · subst e
    rw [if_pos rfl]
    simp [List.getD_eq_getElem?_getD, show a < s.length by omega]
  · rw [if_neg (by omega)]
    simp only [List.getD_eq_getElem?_getD]
    rw [List.getElem?_set_ne e]
theorem perm_of_nd {xs ys : List Int} (h1 : xs.Nodup) (h2 : ∀ x ∈ xs, x ∈ ys) (h3 : ys.length = xs.length) : xs.Perm ys := by
  induction xs generalizing ys with
  | nil => rw [List.eq_nil_of_length_eq_zero h3]
  | cons a as ih =>
    have ha := h2 a (by simp)
    have nd := List.nodup_cons.mp h1
    have := ih (ys := ys.erase a) nd.2 (fun x hx => (List.mem_erase_of_ne (fun (z : x = a) => nd.1 (z ▸ hx))).mpr (h2 x (by simp [hx]))) (by rw [List.length_erase_of_mem ha]; simp at h3; omega)
    exact (this.cons a).trans (List.perm_cons_erase ha).symm
section
variable {t : List (List Int)} {ord : List Int} {m : Nat}
theorem tn_at (ord : List Int) (k : Nat) : tn ord k = ord.getD (k % ord.length) default := by
  unfold tn
  rw [← pyAt_nat]
  congr 1
theorem tn_eq (g : GoodT t m) (o : GoodO ord t.length) {a k : Nat} (ha : a < ord.length) : tn ord k = ord.getD a default ↔ k % ord.length = a := by
  rw [tn_at]
  have hk : k % ord.length < ord.length := Nat.mod_lt _ (by omega)
  constructor
  · intro h
    simp only [List.getD_eq_getElem?_getD, List.getElem?_eq_getElem hk, List.getElem?_eq_getElem ha, Option.getD_some] at h
    exact (List.getElem_inj o.nd).mp h
  · intro h; rw [h]
theorem row_perm (g : GoodT t m) (o : GoodO ord t.length) {a : Nat} (ha : a < ord.length) : ∀ k, k ≤ m → (pyAt (pk t ord m k).2 (ord.getD a default)).Perm (((List.range k).filter fun j => decide (j % ord.length = a)).map fun j => px t ord m j)
  | 0, _ => by
    have e : pyAt (pk t ord m 0).2 (ord.getD a default) = [] := by
      unfold pyAt pk
      have q : ∀ j : Nat, (t.map fun _ => ([] : List Int)).getD j default = [] := fun j => by
        rw [List.getD_eq_getElem?_getD, List.getElem?_map]
        cases t[j]? <;> rfl
      split <;> exact q _
    rw [e]
    exact List.Perm.refl _
  | k + 1, h => by
    have ih := row_perm g o ha k (by omega)
    have ho := o.bd _ (show ord.getD a default ∈ ord by simp [List.getD_eq_getElem?_getD, ha])
    have ht := tn_bd g o k
    rw [pk_s, List.range_succ, List.filter_append, List.map_append]
    show (pyAt (withThing _ _ _) _).Perm _
    unfold withThing
    rw [pyAt_set ht.1 (by rw [pk_len g]; exact ht.2) ho.1]
    by_cases e : k % ord.length = a
    · have e2 := (tn_eq g o ha).mpr e
      rw [if_pos e2, e2]
      simp only [List.filter_cons, e, decide_true, if_true, List.filter_nil, List.map_cons, List.map_nil]
      exact (sortI_perm _).trans (ih.append_right _)
    · rw [if_neg (fun z => e ((tn_eq g o ha).mp z))]
      simp only [List.filter_cons, e, decide_false, Bool.false_eq_true, if_false, List.filter_nil, List.map_nil, List.append_nil]
      exact ih
theorem row_sum (g : GoodT t m) (o : GoodO ord t.length) {a : Nat} (ha : a < ord.length) (row : List Int) {k : Nat} (hk : k ≤ m) : summed row (pyAt (pk t ord m k).2 (ord.getD a default)) = Vs ord.length (fun j => pyAt row (px t ord m j)) a k := by
  rw [summed_perm (row_perm g o ha k hk)]
  unfold summed Vs
  rw [List.map_map]
  rfl
theorem px_mem (g : GoodT t m) (o : GoodO ord t.length) {j : Nat} (hj : j < m) : px t ord m j ∈ pyAt (pk t ord m m).2 (tn ord j) := by
  have ha : j % ord.length < ord.length := Nat.mod_lt _ (by rw [o.len]; exact g.n1)
  rw [tn_at]
  refine (row_perm g o ha m (Nat.le_refl _)).mem_iff.mpr ?_
  exact List.mem_map.mpr ⟨j, List.mem_filter.mpr ⟨List.mem_range.mpr hj, by simp⟩, rfl⟩
theorem pk_sub (g : GoodT t m) (o : GoodO ord t.length) {i j : Nat} (h : i ≤ j) : (pk t ord m j).1.Sublist (pk t ord m i).1 := by
  induction j with
  | zero => have : i = 0 := by omega
            subst this; exact List.Sublist.refl _
  | succ j ih =>
    by_cases e : i = j + 1
    · subst e; exact List.Sublist.refl _
    · exact (List.erase_sublist).trans (ih (by omega))
theorem px_pref (g : GoodT t m) (o : GoodO ord t.length) {c : Nat} (hc : c < ord.length) : ∀ i j, i < j → j < m → i % ord.length = c → pyAt (pyAt t (ord.getD c default)) (px t ord m j) ≤ pyAt (pyAt t (ord.getD c default)) (px t ord m i) := fun i j hij hj hi => by
  have li := pk_left g o i (by omega)
  have lj := pk_left g o j (by omega)
  have hx := (pk_sub g o (Nat.le_of_lt hij)).subset (lj.2.2 hj)
  have sp := dearest_spec (row := pyAt t (tn ord i)) (things := (pk t ord m i).1) (by rw [li.1]; omega) ((rgI_up m).sublist li.2.1)
  rw [← (tn_eq g o hc).mpr hi]
  exact sp.2.1 _ hx
theorem px_bd (g : GoodT t m) (o : GoodO ord t.length) {j : Nat} (hj : j < m) : 0 ≤ px t ord m j ∧ px t ord m j < (m : Int) := by
  have l := pk_left g o j (by omega)
  exact sub_bd l.2.1 _ (l.2.2 hj)
theorem px_nn (g : GoodT t m) (o : GoodO ord t.length) {h : Int} (hh : inR t.length h) : ∀ j, j < m → 0 ≤ pyAt (pyAt t h) (px t ord m j) := fun j hj => by
  have := px_bd g o hj
  exact g.nn hh _ (pyAt_mem (by rw [g.at hh]; exact ⟨by omega, by omega⟩))
theorem pk_good (g : GoodT t m) (o : GoodO ord t.length) {k : Nat} (hk : k ≤ m) : GoodS (pk t ord m k).2 t.length m := by
  have p := pk_perm g o k hk
  have nd := (p.nodup_iff.mpr (rgI_nodup m))
  have nd2 := (List.nodup_append.mp nd).2.1
  have sorted : ∀ k, ∀ r ∈ (pk t ord m k).2, r.Pairwise (· ≤ ·) := by
    intro k
    induction k with
    | zero =>
      intro r hr
      obtain ⟨_, _, rfl⟩ := List.mem_map.mp hr
      exact List.Pairwise.nil
    | succ k ih =>
      intro r hr
      rw [pk_s] at hr
      rcases List.mem_or_eq_of_mem_set hr with z | z
      · exact ih r z
      · rw [z]; exact sortI_sorted _
  refine ⟨pk_len g k, fun r hr x hx => rgI_mem.mp (p.subset (List.mem_append_right _ (List.mem_flatten.mpr ⟨r, hr, hx⟩))), fun r hr => ?_, nd2⟩
  have n1 : r.Nodup := nd2.sublist (List.sublist_flatten_of_mem hr)
  have := (sorted k r hr).and (List.nodup_iff_pairwise_ne.mp n1)
  exact this.imp fun h => by omega
theorem pk_all (g : GoodT t m) (o : GoodO ord t.length) : sortI (pk t ord m m).2.flatten = rgI m := by
  have l := (pk_left g o m (Nat.le_refl _)).1
  have e : (pk t ord m m).1 = [] := List.eq_nil_of_length_eq_zero (by omega)
  have p := pk_perm g o m (Nat.le_refl _)
  rw [e, List.nil_append] at p
  exact (sortI_uniq p.symm ((rgI_up m).imp fun h => by omega)).symm
/-- who stands ahead doesn't envy -/
theorem pk_ahead (g : GoodT t m) (o : GoodO ord t.length) {p : Int × Int} (hp : p ∈ pairsOf t (pk t ord m m).2) : ord.idxOf p.2 < ord.idxOf p.1 := by
  obtain ⟨h1, h2, hf⟩ := pair_in hp
  obtain ⟨x, y, rfl, hx, hy, _⟩ := mem_pairsOf.mp hp
  have hf' := of_decide_eq_true hf
  have full : ∀ z : Nat, z < t.length → (z : Int) ∈ ord := fun z hz => by
    have pm : ord.Perm ((List.range t.length).map fun (i : Nat) => (i : Int)) := by
      refine perm_of_nd o.nd (fun x hx => ?_) (by simp [o.len])
      have := o.bd x hx
      exact List.mem_map.mpr ⟨x.toNat, List.mem_range.mpr (by omega), by omega⟩
    exact pm.mem_iff.mpr (List.mem_map.mpr ⟨z, List.mem_range.mpr hz, rfl⟩)
  have i1 := List.idxOf_lt_length_iff.mpr (full x hx)
  have i2 := List.idxOf_lt_length_iff.mpr (full y hy)
  have e1 : ord.getD (ord.idxOf (x : Int)) default = (x : Int) := by simp [List.getD_eq_getElem?_getD, i1]
  have e2 : ord.getD (ord.idxOf (y : Int)) default = (y : Int) := by simp [List.getD_eq_getElem?_getD, i2]
  have s1 := row_sum g o i1 (pyAt t (x : Int)) (Nat.le_refl m)
  have s2 := row_sum g o i2 (pyAt t (x : Int)) (Nat.le_refl m)
  rw [e1] at s1
  rw [e2] at s2
  show ord.idxOf (y : Int) < ord.idxOf (x : Int)
  rcases Nat.lt_trichotomy (ord.idxOf (y : Int)) (ord.idxOf (x : Int)) with z | z | z
  · exact z
  · exfalso
    rw [z] at s2
    simp only at hf'
    omega
  · exfalso
    have pr := px_pref g o i1
    rw [e1] at pr
    have := (ahead (y := fun j => pyAt (pyAt t (x : Int)) (px t ord m j)) z i2 (px_nn g o h1) pr m (Nat.le_refl _)).1
    simp only at hf'
    omega
theorem pk_bears (g : GoodT t m) (o : GoodO ord t.length) : borneB t (pk t ord m m).2 = true := by
  have gs := pk_good g o (Nat.le_refl m)
  unfold borneB
  rw [List.all_eq_true]
  intro p hp
  obtain ⟨x, y, rfl, hx, hy, hf⟩ := mem_pairsOf.mp hp
  have ah : ord.idxOf (y : Int) < ord.idxOf (x : Int) := pk_ahead g o hp
  have h1 : inR t.length (x : Int) := ⟨by omega, by omega⟩
  have h2 : inR t.length (y : Int) := ⟨by omega, by omega⟩
  have h0 := feels_pos g gs h1 h2 hf
  have sp := dearest_spec (row := pyAt t (x : Int)) h0 (gs.up _ (gs.at h2))
  have full : ∀ z : Nat, z < t.length → (z : Int) ∈ ord := fun z hz => by
    have pm : ord.Perm ((List.range t.length).map fun (i : Nat) => (i : Int)) := by
      refine perm_of_nd o.nd (fun x hx => ?_) (by simp [o.len])
      have := o.bd x hx
      exact List.mem_map.mpr ⟨x.toNat, List.mem_range.mpr (by omega), by omega⟩
    exact pm.mem_iff.mpr (List.mem_map.mpr ⟨z, List.mem_range.mpr hz, rfl⟩)
  have i1 := List.idxOf_lt_length_iff.mpr (full x hx)
  have i2 := List.idxOf_lt_length_iff.mpr (full y hy)
  have e1 : ord.getD (ord.idxOf (x : Int)) default = (x : Int) := by simp [List.getD_eq_getElem?_getD, i1]
  have e2 : ord.getD (ord.idxOf (y : Int)) default = (y : Int) := by simp [List.getD_eq_getElem?_getD, i2]
  have s1 := row_sum g o i1 (pyAt t (x : Int)) (Nat.le_refl m)
  have s2 := row_sum g o i2 (pyAt t (x : Int)) (Nat.le_refl m)
  rw [e1] at s1
  rw [e2] at s2
  have ham : ord.idxOf (y : Int) < m := by
    rcases Nat.lt_or_ge (ord.idxOf (y : Int)) m with z | z
    · exact z
    · exfalso
      have rp := row_perm g o i2 m (Nat.le_refl _)
      rw [e2] at rp
      have := rp.length_eq
      have e0 : ((List.range m).filter fun j => decide (j % ord.length = ord.idxOf (y : Int))) = [] := by
        rw [List.filter_eq_nil_iff]
        intro j hj
        have := List.mem_range.mp hj
        rw [Nat.mod_eq_of_lt (by omega)]
        simp
        omega
      rw [e0, List.map_nil, List.length_nil] at this
      omega
  have pr := px_pref g o i1
  rw [e1] at pr
  have b := (bears (y := fun j => pyAt (pyAt t (x : Int)) (px t ord m j)) ah i1 (px_nn g o h1) pr m ham (Nat.le_refl _)).1
  have pm := px_mem g o ham
  have et : tn ord (ord.idxOf (y : Int)) = (y : Int) := by rw [(tn_eq g o i2).mpr (Nat.mod_eq_of_lt i2), e2]
  rw [et] at pm
  have := sp.2.1 _ pm
  unfold bOk
  simp only [Bool.not_eq_true', decide_eq_false_iff_not]
  omega
end
end Th
namespace Th
open PySem L2 DL
section
variable {t : List (List Int)} {ord : List Int} {m : Nat}
theorem ord_full (o : GoodO ord t.length) {z : Int} (hz : 0 ≤ z ∧ z < (t.length : Int)) : z ∈ ord := by
  have pm : ord.Perm ((List.range t.length).map fun (i : Nat) => (i : Int)) := by
    refine perm_of_nd o.nd (fun x hx => ?_) (by simp [o.len])
    have := o.bd x hx
    exact List.mem_map.mpr ⟨x.toNat, List.mem_range.mpr (by omega), by omega⟩
  exact pm.mem_iff.mpr (List.mem_map.mpr ⟨z.toNat, List.mem_range.mpr (by omega), by omega⟩)
theorem pk_lt (g : GoodT t m) (o : GoodO ord t.length) {k : Nat} (hk : k ≤ m) (hb : (!decide ((pk t ord m k).1 = [])) = true) : k < m := by
  have l := (pk_left g o k hk).1
  rcases Nat.lt_or_ge k m with z | z
  · exact z
  · have : (pk t ord m k).1 = [] := List.eq_nil_of_length_eq_zero (by omega)
    rw [this] at hb
    simp at hb
theorem pk_end (g : GoodT t m) (o : GoodO ord t.length) {k : Nat} (hk : k ≤ m) (hb : (!decide ((pk t ord m k).1 = [])) = false) : k = m := by
  have l := (pk_left g o k hk).1
  simp only [Bool.not_eq_false', decide_eq_true_eq] at hb
  rw [hb] at l
  simp at l
  omega
theorem pk_heir (g : GoodT t m) (o : GoodO ord t.length) {k : Nat} (hk : k ≤ m) : pyAt ord ((((pyAt t 0).length : Int) - ((pk t ord m k).1.length : Int)) % (ord.length : Int)) = tn ord k := by
  rw [g.m0, (pk_left g o k hk).1]
  unfold tn
  congr 2
  omega
theorem mod_inR {x : Int} {n : Nat} (h : 0 < n) : inR n (x % (n : Int)) := by
  have := mod_in x h
  exact ⟨by omega, by omega⟩
theorem ord_pos (g : GoodT t m) (o : GoodO ord t.length) : 0 < ord.length := by rw [o.len]; exact g.n1
theorem pk_row (g : GoodT t m) (o : GoodO ord t.length) {k : Nat} (hk : k ≤ m) : ∀ r ∈ (pk t ord m k).2, r.length < 16000000 := fun r hr => by
  have := (pk_good g o hk).row hr
  have := g.m40
  omega
theorem best_eq {row l : List Int} (h0 : 0 < l.length) (up : l.Pairwise (· < ·)) : pyAt ((l.filter fun a => decide (pyAt row a = maxI (l.map fun a => pyAt row a))).map fun a => a) 0 = dearest row l := by
  rw [List.map_id']
  have e := lSpare_some (row := row) h0 up
  have hp := lSpare_pos (row := row) h0
  rw [← e, pyAt_0]
  have s : (l.filter fun a => decide (pyAt row a = maxI (l.map fun a => pyAt row a))).Pairwise (· < ·) := up.filter _
  revert hp s
  generalize (l.filter fun a => decide (pyAt row a = maxI (l.map fun a => pyAt row a))) = f
  intro hp s
  cases f with
  | nil => simp at hp
  | cons a as =>
    show a = minI (a :: as)
    have h1 := minI_mem hp
    have h2 := minI_le (ns := a :: as) (y := a) (by simp)
    rcases List.mem_cons.mp h1 with z | z
    · exact z.symm
    · have := List.rel_of_pairwise_cons s z
      omega
theorem best_pos {row l : List Int} (h0 : 0 < l.length) : inR ((l.filter fun a => decide (pyAt row a = maxI (l.map fun a => pyAt row a))).map fun a => a).length 0 := by
  rw [List.length_map]
  have := lSpare_pos (row := row) h0
  exact ⟨by omega, by omega⟩
theorem pk_next (g : GoodT t m) (o : GoodO ord t.length) {k : Nat} (hk : k < m) : ((pk t ord m k).1.filter fun a => !decide (a = px t ord m k)).map (fun a => a) = (pk t ord m (k + 1)).1 := by
  rw [List.map_id', pk_s]
  have nd := (rgI_nodup m).sublist (pk_left g o k (by omega)).2.1
  show _ = (pk t ord m k).1.erase (px t ord m k)
  rw [nd.erase_eq_filter]
  refine List.filter_congr fun x _ => ?_
  by_cases h : x = px t ord m k <;> simp [h]
theorem take_fl {s : List (List Int)} {i : Nat} (hi : i < s.length) : (s.take (i + 1)).flatten = (s.take i).flatten ++ s.getD i default := by
  have e : s.getD i default = s[i] := by simp [List.getD_eq_getElem?_getD, hi]
  rw [List.take_add_one, List.getElem?_eq_getElem hi, List.flatten_append, e]
  simp
theorem take_fl_len {s : List (List Int)} {i : Nat} (hi : i < s.length) : (s.take i).flatten.length + (s.getD i default).length ≤ s.flatten.length := by
  rw [← List.length_append, ← take_fl hi]
  conv => rhs; rw [← List.take_append_drop (i + 1) s, List.flatten_append, List.length_append]
  omega
end
theorem pair_nn {t s : List (List Int)} {p : Int × Int} (h : p ∈ pairsOf t s) : 0 ≤ p.1 ∧ 0 ≤ p.2 := by
  obtain ⟨a, b, rfl, _⟩ := mem_pairsOf.mp h
  exact ⟨by simp, by simp⟩
/-- the law's order -/
def oIx (c : Int) : Nat → List Int → Int := fun t ls => lMixed c t / 7 % (ls.length : Int)
def lOrder (c : Int) (n : Nat) : List Int := (popS (oIx c) (rgI n) n).2
theorem popS_perm (idx : Nat → List Int → Int) (ms : List Int) (hb : ∀ t ls, t < ms.length → ls.length = ms.length - t → 0 ≤ idx t ls ∧ idx t ls < ls.length) : ∀ k, k ≤ ms.length → (popS idx ms k).1.length = ms.length - k ∧ ((popS idx ms k).1 ++ (popS idx ms k).2).Perm ms
  | 0, _ => by simp [popS]
  | k + 1, h => by
    obtain ⟨h1, h2⟩ := popS_perm idx ms hb k (by omega)
    obtain ⟨q1, q2⟩ := hb k _ (by omega) h1
    have hi : (idx k (popS idx ms k).1).toNat < (popS idx ms k).1.length := by omega
    refine ⟨by simp only [popS, List.length_eraseIdx]; rw [if_pos hi]; omega, List.Perm.trans ?_ h2⟩
    simp only [popS]
    refine (List.Perm.append_left _ List.perm_append_comm).trans ?_
    rw [← List.append_assoc]
    exact (erase_perm hi).append_right _
theorem oIx_bd {c : Int} {n : Nat} : ∀ t ls, t < n → ls.length = (rgI n).length - t → 0 ≤ oIx c t ls ∧ oIx c t ls < ls.length := fun t ls h1 h2 => by
  rw [rgI_len] at h2
  exact ⟨Int.emod_nonneg _ (by omega), Int.emod_lt_of_pos _ (by omega)⟩
theorem lOrder_good (c : Int) (n : Nat) : GoodO (lOrder c n) n := by
  have p := popS_perm (oIx c) (rgI n) (fun t ls h1 h2 => oIx_bd t ls (by rwa [rgI_len] at h1) h2) n (by rw [rgI_len]; exact Nat.le_refl _)
  rw [rgI_len] at p
  have e : (popS (oIx c) (rgI n) n).1 = [] := List.eq_nil_of_length_eq_zero (by omega)
  rw [e, List.nil_append] at p
  have p2 : (lOrder c n).Perm (rgI n) := p.2
  exact ⟨by rw [p2.length_eq, rgI_len], fun x hx => rgI_mem.mp (p2.subset hx), p2.nodup_iff.mpr (rgI_nodup n)⟩
end Th

set_option Elab.async false
set_option linter.all false
set_option maxRecDepth 100000
set_option maxHeartbeats 2000000
/-! list(reversed(a list of ints)) -/
namespace DL
open PySem PySem.Spec PyProof.Rows L2 RT
section
variable {prog : Program} {w : World} {A : Around} {E : Value → Shared → Prop} {s : Shared} {R : Result → Shared → Prop}
theorem grow_rev {it l S : Addr} {items : Array Value} {n0 : Nat} (hh : A.handled = none) (hit : s.heap.IsRevIter it l ((items.size : Int) - 1)) (hl : s.heap.IsList l items) (hne : l ≠ it) (hn : items.size ≤ sizeLine) (hSi : S ≠ it) (hSl : S ≠ l) (hS : s.heap.get? S = some { cls := .type "list", data := .seq #[] n0 })
    (hR : ∀ (h' : Heap) (tk : Nat) (acc : Array Value) (c : Nat), (∀ b o, b ≠ S → b ≠ it → s.heap.get? b = some o → h'.get? b = some o) → h'.get? S = some { cls := .type "list", dict := none, data := .seq acc c, slots := #[] } → ItemsOf (fun i v => items[items.size - 1 - i]? = some v) acc items.size → R (.ok (.ret .none)) { s with heap := h', toks := tk }) :
    wpAny (model prog w) A.in1 (Builtin.List.listExtendWith (.ref S) (.ref it) .none) (fun fin s' => match fin with | .done f => R (.ok f) s' | .again c' => c'.quiet = true ∧ codeAny (model prog w) A c' R s') (fun e s' => R (.error e) s') s := by
  have W := (Walks.listRev (prog := prog) (w := w) (A := A.in1) hh it l hne items).toS
  have hSf : S ∉ [it, l] := by simp [hSi, hSl]
  have hT : s.TypeIs (.ref it) "list_reverseiterator" := Heap.IsRevIter.typeIs hit
  have h1 : Builtin.List.listSameRef (.ref S) (.ref it) = false := by simp [Builtin.List.listSameRef, hSi]
  unfold Builtin.List.listExtendWith; refine wpAny_bind (wpAny_typeOf hT ?_); rw [if_neg (by rw [h1]; decide)]; refine wpAny_bind (wpAny_pyIter_revIter hit ?_); refine wpAny_bind (wpAny_holding ?_); unfold Builtin.List.listLengthHint
  refine wpAny_bind (wpAny_specialOf hT nolen_lri ?_); show wpAny _ A.in1 (specialOf (Value.ref it) (Str.ofString "__length_hint__") >>= _) _ _ _
  refine wpAny_bind (wpAny_specialOf hT hint_lri ?_); generalize hid : ("list_reverseiterator.__length_hint__" : String) = idd
  wp_delta
  rw [show splitId idd = some ("list_reverseiterator", "__length_hint__") from by subst hid; decide +kernel]; subst hid
  refine wpAny_bind (wpAny_isInstance (b := true) hT (by rw [isSubtype_type]; kernel_rfl) ?_); refine wpAny_pure ?_
  rw [if_neg (by decide)]; have e0 : ((items.size : Nat) : Int) - 1 - ((0 : Nat) : Int) = (items.size : Int) - 1 := by omega
  refine wpAny_pure ⟨plainId_quiet F.plain_extend_loop _, codeAny_extend_loopS W hn S hSf .none items.size 0 _ _ _ rfl (Nat.zero_le _) ⟨Nat.zero_le _, by rw [e0]; exact hit, hl⟩ hS (ItemsOf.nil _) fun s' acc' c' hm hS' hacc => ?_⟩
  rw [Moved.eq_with hm]
  refine hR s'.heap s'.toks acc' c' (fun b o hb hb2 e => hm.heap b o (fun hmem => ?_) e) hS' hacc
  rcases List.mem_cons.mp hmem with z | z
  · exact hb z
  · exact hb2 (List.mem_singleton.mp z)
theorem init_rev {it l S : Addr} {items : Array Value} (hh : A.handled = none) (hit : s.heap.IsRevIter it l ((items.size : Int) - 1)) (hl : s.heap.IsList l items) (hne : l ≠ it) (hn : items.size ≤ sizeLine) (hSi : S ≠ it) (hSl : S ≠ l) (hS : s.heap.get? S = some { cls := .type "list", data := .seq #[] })
    (hR : ∀ (h' : Heap) (tk : Nat) (acc : Array Value) (c : Nat), (∀ b o, b ≠ S → b ≠ it → s.heap.get? b = some o → h'.get? b = some o) → h'.get? S = some { cls := .type "list", dict := none, data := .seq acc c, slots := #[] } → ItemsOf (fun i v => items[items.size - 1 - i]? = some v) acc items.size → R (.ok (.ret .none)) { s with heap := h', toks := tk }) :
    wpAny (model prog w) A.in1 (Builtin.«list.__init__» ⟨[.ref S, .ref it], []⟩) (fun fin s' => match fin with | .done f => R (.ok f) s' | .again c' => c'.quiet = true ∧ codeAny (model prog w) A c' R s') (fun e s' => R (.error e) s') s := by
  show wpAny _ A.in1 (Builtin.List.listItems (.ref S) >>= fun old => Builtin.List.listUpdate (.ref S) (fun _ => #[]) >>= fun _ => letGo old.toList.reverse >>= fun _ => Builtin.List.listExtendWith (.ref S) (.ref it) .none) _ _ s
  refine wpAny_bind ?_
  unfold Builtin.List.listItems; refine wpAny_bind (wpAny_seqItems hS rfl (wpAny_pure ?_)); show wpAny _ A.in1 (updateSeq S (fun _ => #[]) >>= fun _ => letGo (#[] : Array Value).toList.reverse >>= fun _ => Builtin.List.listExtendWith (.ref S) (.ref it) .none) _ _ s
  refine wpAny_bind (wpAny_updateSeq hS rfl ?_); have hS2 := Heap.get?_update_self (Obj.mapSeq (fun _ => (#[] : Array Value))) hS rfl
  have oth : ∀ b o, b ≠ S → s.heap.get? b = some o → (s.heap.update S (Obj.mapSeq (fun _ => (#[] : Array Value)))).get? b = some o := fun b o hb e => (Heap.get?_update_other _ _ (Ne.symm hb)).trans e
  refine wpAny_bind (wpAny_letGo ?_)
  obtain ⟨ol, q1, q2, qn, q3⟩ := hl
  have hl2 : (s.heap.update S (Obj.mapSeq (fun _ => (#[] : Array Value)))).IsList l items := ⟨ol, oth l ol (Ne.symm hSl) q1, q2, qn, q3⟩
  refine grow_rev (s := { s with heap := s.heap.update S (Obj.mapSeq (fun _ => (#[] : Array Value))) }) hh (hit.at fun o e => oth it o (Ne.symm hSi) e) hl2 hne hn hSi hSl hS2 fun h' tk acc c hk hS' ha => ?_
  exact hR h' tk acc c (fun b o hb hb2 e => hk b o hb hb2 (oth b o hb e)) hS' ha
theorem list_rev {it l : Addr} {items : Array Value} {Q : Value → Shared → Prop} (hh : A.handled = none) (hit : s.heap.IsRevIter it l ((items.size : Int) - 1)) (hl : s.heap.IsList l items) (hne : l ≠ it) (hn : items.size ≤ sizeLine)
    (hQ : ∀ (h' : Heap) (tk : Nat) (acc : Array Value) (c : Nat), (∀ b o, b ≠ it → s.heap.get? b = some o → h'.get? b = some o) → h'.get? s.heap.objs.size = some { cls := .type "list", dict := none, data := .seq acc c, slots := #[] } → ItemsOf (fun i v => items[items.size - 1 - i]? = some v) acc items.size → Q (.ref s.heap.objs.size) { s with heap := h', toks := tk }) :
    wpAny (model prog w) A (call (.type "list") [.ref it]) Q E s := by
  obtain ⟨oi, hoi, hoi2⟩ := id hit
  obtain ⟨ol, hol, q2⟩ := id hl
  refine callType_codes (Q₁ := fun obj t => obj = .ref s.heap.objs.size ∧ t = { s with heap := s.heap.push { cls := .type "list", data := .seq #[] } }) F.called_list (F.typeCall_list_1 _) F.entry_list_init (code_list_new _ ⟨rfl, rfl⟩) fun obj t ht => ?_
  obtain ⟨rfl, rfl⟩ := ht
  have hS : (s.heap.push { cls := .type "list", data := .seq #[] }).get? s.heap.objs.size = some { cls := .type "list", data := .seq #[] } := Heap.get?_push_size _ rfl
  refine ⟨⟨_, hS, rfl⟩, F.args_list_init_2 _ _, init_rev (A := A.in1) (s := { s with heap := s.heap.push { cls := .type "list", data := .seq #[] } }) hh (hit.at fun o e => Heap.get?_push_of_some _ e) (hl.push _) hne hn (Nat.ne_of_gt (Heap.lt_size hoi)) (Nat.ne_of_gt (Heap.lt_size hol)) hS fun h' tk acc c hk hS' ha => ?_⟩
  exact ⟨rfl, hQ h' tk acc c (fun b o hb e => hk b o (Nat.ne_of_lt (Heap.lt_size e)) hb (Heap.get?_push_of_some _ e)) hS' ha⟩
end
/-- list(reversed(x)), x a list: a new list -/
def tLstRev (K : PySem.W.Frag) (te : TE) : TE := fun σ H Q => te σ H fun v H1 => ∃ (a : Addr) (xs : List V), v = .ref a ∧ SqL K H1 a xs ∧ ∀ q, H1 q = none → Q (.ref q) (upd H1 q (.lst xs.reverse))
theorem pe_lstRev {X : Cx} {e : Expr} {te : TE} {p p2 pos pos2 : Pos} (hc : X.calm = true) (hg : Gl X "list") (hm : X.mg "list" = none) (hg2 : Gl X "reversed") (hm2 : X.mg "reversed" = none) (he : PE X e te) (hs : starEach [e] X.env = (false, eval e X.env) :: starEach [] X.env)
    (hs2 : starEach [.Call (.Name "reversed" p2) [e] [] pos2] X.env = (false, eval (.Call (.Name "reversed" p2) [e] [] pos2) X.env) :: starEach [] X.env) : PE X (.Call (.Name "list" p) [.Call (.Name "reversed" p2) [e] [] pos2] [] pos) (tLstRev X.K te) := by
  refine ⟨fun pins s σ H Q I h => ?_⟩
  refine Call_ (ld_blt I hg hm boot_list (PyProof.Rows.callWith_type1 (args_cons (Call_ (ld_blt I hg2 hm2 PyProof.Rows.boot_reversed (PyProof.Rows.callWith_type1 (args_cons (thn (he.run pins s σ H _ I h) fun u s1 ⟨v, H1, I1, r1, q1⟩ => args_nil ?_) hs) hs rfl))) hs2) hs2 rfl))
  obtain ⟨a, xs, ev, hq, q⟩ := q1
  subst ev
  obtain rfl : u = Value.ref a := r1
  obtain ⟨its, rv, p', hz⟩ := I1.list hq
  refine call_reversed_list p'.isList (args_nil ?_)
  have hl := p'.isList
  obtain ⟨ol, hol, _⟩ := id hl
  have hne : a ≠ s1.heap.objs.size := Nat.ne_of_lt (Heap.lt_size hol)
  have hn : its.toArray.size ≤ sizeLine := by rw [List.size_toArray, ← rv.length]; exact hz
  refine list_rev (s := { s1 with heap := s1.heap.push (revObj a ((its.toArray.size : Int) - 1)) }) (I1.ok.hd hc) ⟨_, Heap.get?_push_size _ rfl, rfl, rfl⟩ (hl.push _) hne hn fun h' tk acc c hk hS' hi => ?_
  have hsz : s1.heap.objs.size ≤ (s1.heap.push (revObj a ((its.toArray.size : Int) - 1))).objs.size := by simp [Heap.push]
  have kk : ∀ b o, s1.heap.get? b = some o → h'.get? b = some o := fun b o e => hk b o (Nat.ne_of_lt (Heap.lt_size e)) (Heap.get?_push_of_some _ e)
  refine ⟨.ref (s1.heap.push (revObj a ((its.toArray.size : Int) - 1))).objs.size, upd H1 (s1.heap.push (revObj a ((its.toArray.size : Int) - 1))).objs.size (.lst xs.reverse), I1.laid (t' := tk) kk hsz (show ObjOk X.prog X.w _ _ _ (.lst xs.reverse) from ⟨by rw [List.length_reverse]; exact hz, acc.toList, c, vals_rev rv hi, ?_⟩), rfl, q _ (I1.hok.fresh hsz)⟩
  rw [Array.toArray_toList]; exact hS'
end DL
namespace DL
open PySem L2
section
variable {X : Cx} {Γ : Gm} {ρ : List Sl} {a : Expr} {pos p : Pos} {κ : Kd}
theorem do_lstRev {ns : List Int} {p2 pos2 : Pos} (xo : XO X) (ha : DE X Γ ρ a κ (dl dI ns)) (hm : X.mg "list" = none) (hm2 : X.mg "reversed" = none) (hg : Gl X "list" := by rfl) (hg2 : Gl X "reversed" := by rfl) (hs : starEach [a] X.env = (false, eval a X.env) :: starEach [] X.env := by rfl)
    (hs2 : starEach [.Call (.Name "reversed" p2) [a] [] pos2] X.env = (false, eval (.Call (.Name "reversed" p2) [a] [] pos2) X.env) :: starEach [] X.env := by rfl) : DO X Γ ρ (.Call (.Name "list" p) [.Call (.Name "reversed" p2) [a] [] pos2] [] pos) (tl tI ns.reverse) :=
  (pe_lstRev xo.calm hg hm hg2 hm2 ha hs hs2).weak fun σ H Q ⟨G, S, k⟩ => ⟨G, S, fun v G1 H1 s1 e1 q => by
    obtain ⟨q1, vs, rfl, h1, r1⟩ := Rep.l (pK_c S s1 e1 q)
    have ev : vs = ns.map V.int := r1.ints
    subst ev
    refine ⟨q1, _, rfl, SqL.of h1, fun q hq => ?_⟩
    rw [← List.map_reverse]
    exact do_new e1 hq H s1.h fun w G2 H2 s2 e2 p2 => k w G2 H2 (s1.trans s2) e2 p2⟩
end
end DL
namespace DL
open PySem L2
/-- None or a list of ints -/
def dOL : Option (List Int) → D
  | none => .none
  | some l => dL l
def tOL : Option (List Int) → OT
  | none => .fz .none
  | some l => tL l
instance : Er tOL dOL := ⟨fun x => by
  cases x with
  | none => unfold tOL OT.er; rfl
  | some l => exact Er.er (g := tL) (f := dL) l⟩
end DL

set_option Elab.async false
set_option linter.all false
set_option maxRecDepth 100000
/-! rings and lines -/
namespace Th
open PySem L2 DL
abbrev Ps := List (Int × Int)
def seenBy (ps : Ps) (hs : List Int) : List Int := (ps.filter fun p => decide (p.1 ∈ hs)).map fun p => p.2
def unenv (ps : Ps) (hs : List Int) : List Int := hs.filter fun h => !decide (h ∈ seenBy ps hs)
theorem mem_seenBy {ps : Ps} {hs : List Int} {x : Int} : x ∈ seenBy ps hs ↔ ∃ h, (h, x) ∈ ps ∧ h ∈ hs := by
  unfold seenBy
  simp only [List.mem_map, List.mem_filter, decide_eq_true_eq]
  constructor
  · rintro ⟨p, ⟨h1, h2⟩, rfl⟩; exact ⟨p.1, h1, h2⟩
  · rintro ⟨h, h1, h2⟩; exact ⟨(h, x), ⟨h1, h2⟩, rfl⟩
theorem mem_unenv {ps : Ps} {hs : List Int} {x : Int} : x ∈ unenv ps hs ↔ x ∈ hs ∧ ∀ h ∈ hs, (h, x) ∉ ps := by
  unfold unenv
  simp only [List.mem_filter, Bool.not_eq_true', decide_eq_false_iff_not, mem_seenBy]
  constructor
  · rintro ⟨h1, h2⟩; exact ⟨h1, fun h hh hp => h2 ⟨h, hp, hh⟩⟩
  · rintro ⟨h1, h2⟩; exact ⟨h1, fun ⟨h, hp, hh⟩ => h2 h hh hp⟩
/-- the line, told with what is left -/
def lnF (ps : Ps) : Nat → List Int → List Int → List Int × List Int
  | 0, l, f => (l, f)
  | n + 1, l, f => if unenv ps l = [] then (l, f) else lnF ps n (l.erase ((unenv ps l).getD 0 default)) (f ++ [(unenv ps l).getD 0 default])
def lineS (ps : Ps) (m : Nat) : List Int × List Int := lnF ps m (rgI m) []
def lineOf (ps : Ps) (m : Nat) : List Int := (lineS ps m).2
theorem hd_mem {l : List Int} (h : l ≠ []) : l.getD 0 default ∈ l := by
  cases l with
  | nil => exact absurd rfl h
  | cons a as => simp
theorem hd_pyAt (l : List Int) : pyAt l 0 = l.getD 0 default := pyAt_0 l
/-- what is so at each turn of the line's walk -/
structure LnI (ps : Ps) (m : Nat) (t : List Int × List Int) : Prop where
  fuel : lnF ps t.1.length t.1 t.2 = lineS ps m
  perm : (t.1 ++ t.2).Perm (rgI m)
  sub : t.1.Sublist (rgI m)
  /-- who envies one who came off has come off ahead of it -/
  ord : ∀ k, k < t.2.length → ∀ a ∈ rgI m, (a, t.2.getD k default) ∈ ps → a ∈ t.2.take k
theorem LnI.start (ps : Ps) (m : Nat) : LnI ps m (rgI m, []) := ⟨by rw [rgI_len]; rfl, by simp, List.Sublist.refl _, fun k hk => by simp at hk⟩
theorem LnI.next {ps : Ps} {m : Nat} {t : List Int × List Int} (I : LnI ps m t) (h : unenv ps t.1 ≠ []) :
    (unenv ps t.1).getD 0 default ∈ t.1 ∧ LnI ps m (t.1.erase ((unenv ps t.1).getD 0 default), t.2 ++ [(unenv ps t.1).getD 0 default]) ∧ (t.1.erase ((unenv ps t.1).getD 0 default)).length < t.1.length := by
  have hx := mem_unenv.mp (hd_mem h)
  have hl := List.length_erase_of_mem hx.1
  have hp : 0 < t.1.length := List.length_pos_of_mem hx.1
  refine ⟨hx.1, ⟨?_, ?_, (List.erase_sublist).trans I.sub, ?_⟩, by omega⟩
  · have f := I.fuel
    obtain ⟨n, hn⟩ : ∃ n, t.1.length = n + 1 := ⟨t.1.length - 1, by omega⟩
    rw [hn] at f
    unfold lnF at f
    rw [if_neg h] at f
    show lnF ps (t.1.erase _).length _ _ = _
    rw [hl, hn]
    exact f
  · refine List.Perm.trans ?_ I.perm
    have p2 := (List.perm_cons_erase hx.1).symm
    rw [← List.append_assoc]
    refine (List.perm_append_singleton _ _).trans ?_
    exact (List.perm_append_comm (l₁ := t.1.erase _) (l₂ := t.2)).cons _ |>.trans (List.perm_middle.symm.trans (List.perm_append_comm.trans ((p2).append_right _)))
  · intro k hk a ha hps
    simp only [List.length_append, List.length_singleton] at hk
    rcases Nat.lt_or_ge k t.2.length with z | z
    · have e : (t.2 ++ [(unenv ps t.1).getD 0 default]).getD k default = t.2.getD k default := by simp [List.getD_eq_getElem?_getD, List.getElem?_append, z]
      rw [e] at hps
      rw [List.take_append_of_le_length (by omega)]
      exact I.ord k z a ha hps
    · have ek : k = t.2.length := by omega
      subst ek
      have e : (t.2 ++ [(unenv ps t.1).getD 0 default]).getD t.2.length default = (unenv ps t.1).getD 0 default := by simp [List.getD_eq_getElem?_getD]
      rw [e] at hps
      rw [List.take_left']
      rcases List.mem_append.mp (I.perm.symm.subset ha) with y | y
      · exact absurd hps (hx.2 a y)
      · exact y
      rfl
theorem LnI.done {ps : Ps} {m : Nat} {t : List Int × List Int} (I : LnI ps m t) (h : unenv ps t.1 = []) : t = lineS ps m := by
  have f := I.fuel
  cases hn : t.1.length with
  | zero => rw [hn] at f; unfold lnF at f; exact f
  | succ n => rw [hn] at f; unfold lnF at f; rw [if_pos h] at f; exact f
theorem lineS_spec (ps : Ps) (m : Nat) : LnI ps m (lineS ps m) ∧ unenv ps (lineS ps m).1 = [] := by
  have go : ∀ n (t : List Int × List Int), t.1.length ≤ n → LnI ps m t → LnI ps m (lineS ps m) ∧ unenv ps (lineS ps m).1 = [] := by
    intro n
    induction n with
    | zero =>
      intro t hn I
      have e : t.1 = [] := List.eq_nil_of_length_eq_zero (by omega)
      have hu : unenv ps t.1 = [] := by rw [e]; rfl
      have := I.done hu
      rw [← this]
      exact ⟨I, hu⟩
    | succ n ih =>
      intro t hn I
      by_cases hu : unenv ps t.1 = []
      · have := I.done hu
        rw [← this]
        exact ⟨I, hu⟩
      · obtain ⟨h1, h2, h3⟩ := I.next hu
        exact ih _ (by show (t.1.erase _).length ≤ n; omega) h2
  exact go _ _ (Nat.le_refl _) (LnI.start ps m)
/-- who is left behind the line -/
def leftOf (ps : Ps) (m : Nat) : List Int := (rgI m).filter fun h => !decide (h ∈ lineOf ps m)
theorem lineOf_sub (ps : Ps) (m : Nat) : ∀ x ∈ lineOf ps m, 0 ≤ x ∧ x < (m : Int) := fun x hx => rgI_mem.mp ((lineS_spec ps m).1.perm.subset (List.mem_append_right _ hx))
theorem lineOf_nodup (ps : Ps) (m : Nat) : (lineOf ps m).Nodup := (List.nodup_append.mp ((lineS_spec ps m).1.perm.nodup_iff.mpr (rgI_nodup m))).2.1
theorem mem_leftOf {ps : Ps} {m : Nat} {x : Int} : x ∈ leftOf ps m ↔ x ∈ (lineS ps m).1 := by
  have I := (lineS_spec ps m).1
  have nd := I.perm.nodup_iff.mpr (rgI_nodup m)
  unfold leftOf
  simp only [List.mem_filter, Bool.not_eq_true', decide_eq_false_iff_not]
  constructor
  · rintro ⟨h1, h2⟩
    exact (List.mem_append.mp (I.perm.symm.subset h1)).resolve_right h2
  · intro h
    exact ⟨I.perm.subset (List.mem_append_left _ h), fun z => (List.nodup_append.mp nd).2.2 x h x z rfl⟩
theorem left_envied {ps : Ps} {m : Nat} {x : Int} (hx : x ∈ leftOf ps m) : ∃ h ∈ leftOf ps m, (h, x) ∈ ps := by
  have u := (lineS_spec ps m).2
  have hx' := mem_leftOf.mp hx
  rcases Classical.em (∃ h ∈ leftOf ps m, (h, x) ∈ ps) with z | z
  · exact z
  · have : x ∈ unenv ps (lineS ps m).1 := mem_unenv.mpr ⟨hx', fun h hh hp => z ⟨h, mem_leftOf.mpr hh, hp⟩⟩
    rw [u] at this
    cases this
theorem leftOf_nil {ps : Ps} {m : Nat} : leftOf ps m = [] ↔ (lineOf ps m).length = m := by
  have I := (lineS_spec ps m).1
  have e := I.perm.length_eq
  rw [List.length_append, rgI_len] at e
  have e2 : (lineS ps m).2.length = (lineOf ps m).length := rfl
  constructor
  · intro h
    have : (lineS ps m).1 = [] := by
      rw [List.eq_nil_iff_forall_not_mem]
      intro x hx
      have := mem_leftOf.mpr hx
      rw [h] at this
      cases this
    rw [this] at e
    simp at e
    omega
  · intro h
    have : (lineS ps m).1 = [] := List.eq_nil_of_length_eq_zero (by omega)
    rw [List.eq_nil_iff_forall_not_mem]
    intro x hx
    have := mem_leftOf.mp hx
    rw [‹(lineS ps m).1 = []›] at this
    cases this
theorem line_index {ps : Ps} {m : Nat} (hself : ∀ a, (a, a) ∉ ps) {a b : Int} (h : (a, b) ∈ ps) (ha : a ∈ rgI m) (hb : b ∈ lineOf ps m) : (lineOf ps m).idxOf a < (lineOf ps m).idxOf b := by
  have I := (lineS_spec ps m).1
  have hi := List.idxOf_lt_length_iff.mpr hb
  have e : (lineOf ps m).getD ((lineOf ps m).idxOf b) default = b := by simp [List.getD_eq_getElem?_getD, hi]
  have := I.ord ((lineOf ps m).idxOf b) hi a ha (by show (a, (lineOf ps m).getD _ default) ∈ ps; rw [e]; exact h)
  obtain ⟨j, hj, hj2⟩ := List.mem_iff_getElem.mp this
  have hj3 : j < (lineOf ps m).idxOf b := by
    have : ((lineS ps m).2.take ((lineOf ps m).idxOf b)).length ≤ (lineOf ps m).idxOf b := by simp; omega
    omega
  have hjl : j < (lineOf ps m).length := by omega
  have e3 : (lineOf ps m)[j] = a := by
    rw [List.getElem_take] at hj2
    exact hj2
  have : (lineOf ps m).idxOf a ≤ j := by
    rw [← e3]
    rcases Nat.lt_or_ge j ((lineOf ps m).idxOf (lineOf ps m)[j]) with z | z
    · have := List.not_of_lt_findIdx (p := (· == (lineOf ps m)[j])) (xs := lineOf ps m) (i := j) z
      simp at this
    · exact z
  omega
end Th
namespace Th
open PySem L2 DL
def aheadOf (ps : Ps) (left : List Int) (x : Int) : List Int := (ps.filter fun p => decide (p.2 = x) && decide (p.1 ∈ left)).map fun p => p.1
theorem mem_ahead {ps : Ps} {left : List Int} {x y : Int} : y ∈ aheadOf ps left x ↔ (y, x) ∈ ps ∧ y ∈ left := by
  unfold aheadOf
  simp only [List.mem_map, List.mem_filter, Bool.and_eq_true, decide_eq_true_eq]
  constructor
  · rintro ⟨p, ⟨h1, h2, h3⟩, rfl⟩; subst h2; exact ⟨h1, h3⟩
  · rintro ⟨h1, h2⟩; exact ⟨(y, x), ⟨h1, rfl, h2⟩, rfl⟩
abbrev lastW (w : List Int) : Int := pyAt w (-1)
abbrev initW (w : List Int) : List Int := pySl w none (some (-1))
theorem initW_eq (w : List Int) : initW w = w.take (w.length - 1) := by
  unfold initW pySl
  have h1 : HT.sIx w.length 0 none = 0 := HT.sIx_none _ _
  have h2 : HT.sIx w.length w.length (some (-1)) = w.length - 1 := by
    unfold HT.sIx
    simp
    omega
  rw [h1, h2]
  simp
theorem pySl_from {α : Type} (xs : List α) (k : Nat) : pySl xs (some (k : Int)) none = xs.drop k := by
  unfold pySl
  have h1 : HT.sIx xs.length 0 (some (k : Int)) = min k xs.length := HT.sIx_nat _ _ k
  have h2 : HT.sIx xs.length xs.length none = xs.length := HT.sIx_none _ _
  rw [h1, h2]
  rcases Nat.le_total k xs.length with h | h
  · rw [Nat.min_eq_left h]
    exact List.take_of_length_le (by simp)
  · rw [Nat.min_eq_right h, List.drop_eq_nil_of_le h]
    simp
theorem lastW_eq {w : List Int} (h : 0 < w.length) : lastW w = w.getD (w.length - 1) default := by
  unfold lastW pyAt
  rw [if_neg (by omega)]
  congr 1
  omega
def wayF (ps : Ps) (left : List Int) : Nat → List Int → List Int
  | 0, w => w
  | n + 1, w => if lastW w ∈ initW w then w else wayF ps left n (w ++ [(aheadOf ps left (lastW w)).getD 0 default])
def wayR (ps : Ps) (m : Nat) : List Int := wayF ps (leftOf ps m) (m + 1) [(leftOf ps m).getD 0 default]
def ringW (w : List Int) : List Int := (pySl w (some ((w.idxOf (lastW w) : Nat) + 1 : Int)) none).reverse
def ringOf (ps : Ps) (m : Nat) : Option (List Int) := if leftOf ps m = [] then none else some (ringW (wayR ps m))
structure WyI (ps : Ps) (m : Nat) (w : List Int) : Prop where
  pos : 0 < w.length
  mem : ∀ x ∈ w, x ∈ leftOf ps m
  nd : (w.take (w.length - 1)).Nodup
  chain : ∀ j, j + 1 < w.length → (w.getD (j + 1) default, w.getD j default) ∈ ps
  fuel : wayF ps (leftOf ps m) (m + 2 - w.length) w = wayR ps m
theorem left_len (ps : Ps) (m : Nat) : (leftOf ps m).length ≤ m := by
  unfold leftOf
  exact Nat.le_trans (List.length_filter_le _ _) (by rw [rgI_len]; exact Nat.le_refl _)
theorem WyI.len {ps : Ps} {m : Nat} {w : List Int} (I : WyI ps m w) : w.length ≤ m + 1 := by
  have := nodup_sub_len I.nd fun x hx => I.mem x (List.mem_of_mem_take hx)
  have := left_len ps m
  simp at *
  omega
theorem WyI.start {ps : Ps} {m : Nat} (h : leftOf ps m ≠ []) : WyI ps m [(leftOf ps m).getD 0 default] :=
  ⟨by simp, fun x hx => by simp only [List.mem_singleton] at hx; rw [hx]; exact hd_mem h, by simp, fun j hj => by simp at hj, by simp; rfl⟩
theorem getD_lt {α : Type} [Inhabited α] {xs : List α} {i : Nat} (h : i < xs.length) : xs.getD i default = xs[i] := by simp [List.getD_eq_getElem?_getD, h]
theorem WyI.next {ps : Ps} {m : Nat} {w : List Int} (I : WyI ps m w) (h : lastW w ∉ initW w) :
    aheadOf ps (leftOf ps m) (lastW w) ≠ [] ∧ WyI ps m (w ++ [(aheadOf ps (leftOf ps m) (lastW w)).getD 0 default]) ∧ w.length ≤ m := by
  have hp := I.pos
  have hlast : lastW w ∈ w := by rw [lastW_eq hp, getD_lt (by omega)]; exact List.getElem_mem _
  obtain ⟨e, he, hps⟩ := left_envied (I.mem _ hlast)
  have hne : aheadOf ps (leftOf ps m) (lastW w) ≠ [] := fun z => by
    have := mem_ahead.mpr ⟨hps, he⟩
    rw [z] at this
    cases this
  have hy := mem_ahead.mp (hd_mem hne)
  have ew : w = w.take (w.length - 1) ++ [lastW w] := by
    have e1 := (List.take_append_drop (w.length - 1) w).symm
    have e2 : w.drop (w.length - 1) = [lastW w] := by
      rw [List.drop_eq_getElem_cons (show w.length - 1 < w.length by omega), lastW_eq hp, getD_lt (show w.length - 1 < w.length by omega), List.drop_eq_nil_of_le (by omega)]
    rw [e2] at e1
    exact e1
  have wnd : w.Nodup := by
    rw [ew, List.nodup_append]
    refine ⟨I.nd, by simp, fun a ha b hb => ?_⟩
    simp only [List.mem_singleton] at hb
    intro z
    rw [initW_eq] at h
    rw [← hb, ← z] at h
    exact h ha
  have wl : w.length ≤ m := Nat.le_trans (nodup_sub_len wnd I.mem) (left_len ps m)
  refine ⟨hne, ⟨by simp, fun x hx => ?_, by simpa using wnd, fun j hj => ?_, ?_⟩, wl⟩
  · rcases List.mem_append.mp hx with z | z
    · exact I.mem x z
    · simp only [List.mem_singleton] at z; rw [z]; exact hy.2
  · simp only [List.length_append, List.length_singleton] at hj
    rcases Nat.lt_or_ge (j + 1) w.length with z | z
    · have e1 : (w ++ [(aheadOf ps (leftOf ps m) (lastW w)).getD 0 default]).getD (j + 1) default = w.getD (j + 1) default := by simp [List.getD_eq_getElem?_getD, List.getElem?_append, z]
      have e2 : (w ++ [(aheadOf ps (leftOf ps m) (lastW w)).getD 0 default]).getD j default = w.getD j default := by simp [List.getD_eq_getElem?_getD, List.getElem?_append, show j < w.length by omega]
      rw [e1, e2]
      exact I.chain j z
    · have ej : j + 1 = w.length := by omega
      have e1 : (w ++ [(aheadOf ps (leftOf ps m) (lastW w)).getD 0 default]).getD (j + 1) default = (aheadOf ps (leftOf ps m) (lastW w)).getD 0 default := by rw [ej]; simp [List.getD_eq_getElem?_getD]
      have e2 : (w ++ [(aheadOf ps (leftOf ps m) (lastW w)).getD 0 default]).getD j default = lastW w := by
        rw [lastW_eq hp, show w.length - 1 = j by omega]
        simp [List.getD_eq_getElem?_getD, List.getElem?_append, show j < w.length by omega]
      rw [e1, e2]
      exact hy.1
  · have f := I.fuel
    rw [show m + 2 - w.length = (m + 1 - w.length) + 1 by omega] at f
    unfold wayF at f
    rw [if_neg h] at f
    simp only [List.length_append, List.length_singleton]
    rw [show m + 2 - (w.length + 1) = m + 1 - w.length by omega]
    exact f
theorem WyI.done {ps : Ps} {m : Nat} {w : List Int} (I : WyI ps m w) (h : lastW w ∈ initW w) : w = wayR ps m := by
  have f := I.fuel
  have := I.len
  rw [show m + 2 - w.length = (m + 1 - w.length) + 1 by omega] at f
  unfold wayF at f
  rw [if_pos h] at f
  exact f
theorem wayR_spec {ps : Ps} {m : Nat} (h0 : leftOf ps m ≠ []) : WyI ps m (wayR ps m) ∧ lastW (wayR ps m) ∈ initW (wayR ps m) := by
  have go : ∀ n (w : List Int), m + 2 - w.length ≤ n → WyI ps m w → WyI ps m (wayR ps m) ∧ lastW (wayR ps m) ∈ initW (wayR ps m) := by
    intro n
    induction n with
    | zero => intro w hn I; have := I.len; omega
    | succ n ih =>
      intro w hn I
      by_cases hu : lastW w ∈ initW w
      · have := I.done hu
        rw [← this]
        exact ⟨I, hu⟩
      · obtain ⟨h1, h2, h3⟩ := I.next hu
        exact ih _ (by simp; omega) h2
  exact go _ _ (Nat.le_refl _) (WyI.start h0)
structure IsRing (ps : Ps) (m : Nat) (r : List Int) : Prop where
  two : 2 ≤ r.length
  nd : r.Nodup
  bd : ∀ x ∈ r, 0 ≤ x ∧ x < (m : Int)
  go : ∀ k : Nat, k < r.length → (pyAt r ((k : Int) - 1), pyAt r (k : Int)) ∈ ps
theorem ringW_ring {ps : Ps} {m : Nat} (hself : ∀ a, (a, a) ∉ ps) {w : List Int} (I : WyI ps m w) (h : lastW w ∈ initW w) : IsRing ps m (ringW w) := by
  have hp := I.pos
  have hl := lastW_eq hp
  rw [initW_eq] at h
  -- the place where the way came before
  have hi : w.idxOf (lastW w) < w.length - 1 := by
    have := List.idxOf_lt_length_iff.mpr h
    have e : ∀ x, x ∈ w.take (w.length - 1) → (w.take (w.length - 1)).idxOf x = w.idxOf x := fun x hx => by
      conv => rhs; rw [← List.take_append_drop (w.length - 1) w]
      rw [List.idxOf_append, if_pos hx]
    rw [e _ h] at this
    simp at this
    omega
  have hwi : w.getD (w.idxOf (lastW w)) default = lastW w := by rw [getD_lt (by omega)]; simp
  generalize hgi : w.idxOf (lastW w) = i at hi hwi
  have er : ringW w = (w.drop (i + 1)).reverse := by
    unfold ringW
    rw [hgi]
    have := pySl_from w (i + 1)
    rw [← this]
    rfl
  have rl : (ringW w).length = w.length - (i + 1) := by rw [er]; simp
  have at_ : ∀ k, k < (ringW w).length → pyAt (ringW w) (k : Int) = w.getD (w.length - 1 - k) default := fun k hk => by
    rw [pyAt_nat, getD_lt hk]
    rw [rl] at hk
    simp only [er]
    rw [List.getElem_reverse, List.getElem_drop, getD_lt (by omega)]
    congr 1
    simp
    omega
  have inj : ∀ a b, a < b → b < w.length - 1 → w.getD a default ≠ w.getD b default := fun a b hab hb => by
    have := List.pairwise_iff_getElem.mp (List.nodup_iff_pairwise_ne.mp I.nd) a b (by simp; omega) (by simp; omega) hab
    rw [List.getElem_take, List.getElem_take] at this
    rw [getD_lt (by omega), getD_lt (by omega)]
    exact this
  have two : 2 ≤ (ringW w).length := by
    rw [rl]
    rcases Nat.lt_or_ge (w.length - (i + 1)) 2 with z | z
    · exfalso
      have e : i + 1 = w.length - 1 := by omega
      have c := I.chain i (by omega)
      rw [e, ← hl, hwi] at c
      exact hself _ c
    · exact z
  refine ⟨two, ?_, fun x hx => ?_, fun k hk => ?_⟩
  · rw [er, (List.reverse_perm _).nodup_iff, List.nodup_iff_pairwise_ne, List.pairwise_iff_getElem]
    intro a b ha hb hab
    simp only [List.length_drop] at ha hb
    rw [List.getElem_drop, List.getElem_drop]
    rcases Nat.lt_or_ge (i + 1 + b) (w.length - 1) with z | z
    · have := inj (i + 1 + a) (i + 1 + b) (by omega) z
      rwa [getD_lt (by omega), getD_lt (by omega)] at this
    · have e : i + 1 + b = w.length - 1 := by omega
      have e2 : w[i + 1 + b] = lastW w := by rw [hl, getD_lt (by omega)]; congr 1
      have := inj i (i + 1 + a) (by omega) (by omega)
      rw [hwi, getD_lt (show i + 1 + a < w.length by omega)] at this
      rw [e2]
      exact fun z => this z.symm
  · have : x ∈ leftOf ps m := by
      rw [er, List.mem_reverse] at hx
      exact I.mem x (List.mem_of_mem_drop hx)
    exact rgI_mem.mp (List.mem_filter.mp this).1
  · rcases Nat.eq_zero_or_pos k with z | z
    · subst z
      have e1 : pyAt (ringW w) (((0 : Nat) : Int) - 1) = w.getD (i + 1) default := by
        have : pyAt (ringW w) (((0 : Nat) : Int) - 1) = pyAt (ringW w) (((ringW w).length - 1 : Nat) : Int) := by
          rw [pyAt_nat]
          exact lastW_eq (by omega)
        rw [this, at_ _ (by omega), rl]
        congr 1
        omega
      rw [e1, at_ 0 hk, show w.length - 1 - 0 = w.length - 1 by omega, ← hl, ← hwi]
      exact I.chain i (by omega)
    · have e1 : (k : Int) - 1 = ((k - 1 : Nat) : Int) := by omega
      rw [e1, at_ _ (by omega), at_ k hk]
      rw [rl] at hk
      have c := I.chain (w.length - 1 - k) (by omega)
      rwa [show w.length - 1 - k + 1 = w.length - 1 - (k - 1) by omega] at c
theorem ringOf_ring {ps : Ps} {m : Nat} (hself : ∀ a, (a, a) ∉ ps) {r : List Int} (h : ringOf ps m = some r) : IsRing ps m r := by
  unfold ringOf at h
  split at h
  · cases h
  · rename_i h0
    cases h
    obtain ⟨I, hl⟩ := wayR_spec h0
    exact ringW_ring hself I hl
theorem pairs_self (t s : List (List Int)) : ∀ a, (a, a) ∉ pairsOf t s := fun a h => by
  have := (pair_in h).2.2
  unfold feels at this
  simp at this
end Th
namespace Th
open PySem L2 DL
theorem LnI.lens {ps : Ps} {m : Nat} {t : List Int × List Int} (I : LnI ps m t) : t.1.length + t.2.length = m := by
  have := I.perm.length_eq
  rwa [List.length_append, rgI_len] at this
theorem left_eq (ps : Ps) (m : Nat) : ((List.range m).filter fun (a : Nat) => !decide ((a : Int) ∈ lineOf ps m)).map (fun (a : Nat) => (a : Int)) = leftOf ps m := by
  unfold leftOf rgI
  rw [List.filter_map]
  rfl
theorem lastW_mem {w : List Int} (h : 0 < w.length) : lastW w ∈ w := by
  rw [lastW_eq h, getD_lt (by omega)]
  exact List.getElem_mem _
theorem ah_in {l : List Int} (h : l ≠ []) : inR l.length 0 := by
  have := List.length_pos_iff.mpr h
  exact ⟨by omega, by omega⟩
def ringR (t s : List (List Int)) : List Int := (ringOf (pairsOf t s) t.length).getD []
def lineO (t s : List (List Int)) : Option (List Int) := if ((lineOf (pairsOf t s) t.length).length : Int) < (t.length : Int) then none else some (lineOf (pairsOf t s) t.length)
theorem lineO_some {t s : List (List Int)} (h : leftOf (pairsOf t s) t.length = []) : lineO t s = some (lineOf (pairsOf t s) t.length) := by
  unfold lineO
  rw [if_neg]
  have := leftOf_nil.mp h
  omega
theorem lineO_none {t s : List (List Int)} (h : leftOf (pairsOf t s) t.length ≠ []) : lineO t s = none := by
  unfold lineO
  rw [if_pos]
  have h1 : (lineOf (pairsOf t s) t.length).length ≠ t.length := fun z => h (leftOf_nil.mpr z)
  have := nodup_bd (lineOf_nodup (pairsOf t s) t.length) (lineOf_sub _ _)
  omega
theorem ring_iff {ps : Ps} {m : Nat} : isN (dOL (ringOf ps m)) = decide (leftOf ps m = []) := by
  unfold ringOf
  split
  · rename_i h; simp [h, dOL, isN]
  · rename_i h; simp [h, dOL, isN, dl]
theorem ringR_some {t s : List (List Int)} (h : leftOf (pairsOf t s) t.length ≠ []) : ringOf (pairsOf t s) t.length = some (ringR t s) := by
  unfold ringR ringOf
  rw [if_neg h]
  rfl
theorem ringR_ring {t s : List (List Int)} (h : leftOf (pairsOf t s) t.length ≠ []) : IsRing (pairsOf t s) t.length (ringR t s) := ringOf_ring (pairs_self t s) (ringR_some h)
theorem line_sorted {ps : Ps} {m : Nat} (h : leftOf ps m = []) : sortI (lineOf ps m) = rgI m := by
  have e := leftOf_nil.mp h
  have p := perm_of_nd (lineOf_nodup ps m) (fun x hx => rgI_mem.mpr (lineOf_sub ps m x hx)) (by rw [rgI_len, e])
  exact (sortI_uniq p.symm ((rgI_up m).imp fun h => by omega)).symm
theorem line_full {ps : Ps} {m : Nat} (h : leftOf ps m = []) {x : Int} (hx : 0 ≤ x ∧ x < (m : Int)) : x ∈ lineOf ps m := by
  have e := leftOf_nil.mp h
  have p := perm_of_nd (lineOf_nodup ps m) (fun x hx => rgI_mem.mpr (lineOf_sub ps m x hx)) (by rw [rgI_len, e])
  exact p.symm.subset (rgI_mem.mpr hx)
theorem line_idx {t s : List (List Int)} (h : leftOf (pairsOf t s) t.length = []) : ∀ p ∈ pairsOf t s, p.1 ∈ lineOf (pairsOf t s) t.length ∧ p.2 ∈ lineOf (pairsOf t s) t.length ∧ (lineOf (pairsOf t s) t.length).idxOf p.1 < (lineOf (pairsOf t s) t.length).idxOf p.2 := fun p hp => by
  have h1 := pair_in hp
  have h2 := pair_nn hp
  have m1 := line_full h (x := p.1) ⟨h2.1, h1.1.2⟩
  have m2 := line_full h (x := p.2) ⟨h2.2, h1.2.1.2⟩
  exact ⟨m1, m2, line_index (pairs_self t s) hp (rgI_mem.mpr ⟨h2.1, h1.1.2⟩) m2⟩
/-- where there is a ring, one is found -/
theorem ring_left {t s : List (List Int)} {r : List Int} (hr : IsRing (pairsOf t s) t.length r) : leftOf (pairsOf t s) t.length ≠ [] := fun h => by
  have st := line_idx h
  have two := hr.two
  have step : ∀ k : Nat, k < r.length → (lineOf (pairsOf t s) t.length).idxOf (pyAt r 0) + k ≤ (lineOf (pairsOf t s) t.length).idxOf (pyAt r (k : Int)) := by
    intro k
    induction k with
    | zero => intro _; exact Nat.le_refl _
    | succ k ih =>
      intro hk
      have h1 := ih (by omega)
      have h2 := (st _ (hr.go (k + 1) hk)).2.2
      rw [show ((k + 1 : Nat) : Int) - 1 = (k : Int) by omega] at h2
      simp only at h2
      omega
  have h1 := step (r.length - 1) (by omega)
  have h2 := (st _ (hr.go 0 (by omega))).2.2
  have e : pyAt r (((0 : Nat) : Int) - 1) = pyAt r ((r.length - 1 : Nat) : Int) := by
    rw [pyAt_nat]
    exact lastW_eq (by omega)
  rw [e] at h2
  simp only at h2
  have e0 : pyAt r ((0 : Nat) : Int) = pyAt r 0 := rfl
  rw [e0] at h2
  omega
end Th

set_option Elab.async false
set_option linter.all false
set_option maxRecDepth 100000
/-! a ring put in -/
namespace Th
open PySem L2 DL
def set2 (t : List (List Int)) (a b v : Int) : List (List Int) := t.set (pyIx t.length a) (pySet (t.getD (pyIx t.length a) []) b v)
def arOwn (t : List (List Int)) (a : Int) : Int := min (pyAt (pyAt t a) a) 999000
/-- the table, so many of the ring's heirs done -/
def arS (t : List (List Int)) (way : List Int) (x : Int) : Nat → List (List Int)
  | 0 => t
  | k + 1 => set2 (set2 (arS t way x k) (pyAt way ((k : Int) - 1)) (pyAt way ((k : Int) - 1)) (arOwn (arS t way x k) (pyAt way ((k : Int) - 1)))) (pyAt way ((k : Int) - 1)) (pyAt way (k : Int)) (arOwn (arS t way x k) (pyAt way ((k : Int) - 1)) + 1 + x)
/-- a way of two or more heirs -/
structure GoodW (way : List Int) (n : Nat) : Prop where
  two : 2 ≤ way.length
  bd : ∀ x ∈ way, 0 ≤ x ∧ x < (n : Int)
  nd : way.Nodup
theorem set2_good {t : List (List Int)} {m : Nat} (g : GoodT t m) {a b v : Int} (hb : 0 ≤ b) (hv : 0 ≤ v ∧ v ≤ 1000000) : GoodT (set2 t a b v) m := by
  unfold set2 pySet
  exact set_good g hv
theorem set2_len (t : List (List Int)) (a b v : Int) : (set2 t a b v).length = t.length := by simp [set2]
theorem set2_row {t : List (List Int)} {a b v h : Int} (ha : 0 ≤ a ∧ a < t.length) (hh : 0 ≤ h) : pyAt (set2 t a b v) h = if a = h then pySet (pyAt t a) b v else pyAt t h := by
  have e : set2 t a b v = pySet t a (pySet (pyAt t a) b v) := by
    unfold set2
    rw [pyAt_ix]
    rfl
  rw [e, pyAt_set ha.1 ha.2 hh]
theorem way_m1 {way : List Int} {n : Nat} (w : GoodW way n) {k : Nat} (hk : k < way.length) : pyAt way ((k : Int) - 1) = way.getD (if k = 0 then way.length - 1 else k - 1) default := by
  have := w.two
  split
  · rename_i e
    subst e
    exact lastW_eq (by omega)
  · rename_i e
    rw [show (k : Int) - 1 = ((k - 1 : Nat) : Int) by omega, pyAt_nat]
theorem way_in {way : List Int} {n : Nat} (w : GoodW way n) {k : Nat} (hk : k < way.length) : inR way.length ((k : Int) - 1) ∧ inR way.length (k : Int) := ⟨⟨by omega, by omega⟩, ⟨by omega, by omega⟩⟩
theorem way_bd {way : List Int} {n : Nat} (w : GoodW way n) {k : Nat} (hk : k < way.length) : (0 ≤ pyAt way ((k : Int) - 1) ∧ pyAt way ((k : Int) - 1) < (n : Int)) ∧ 0 ≤ pyAt way (k : Int) ∧ pyAt way (k : Int) < (n : Int) :=
  ⟨w.bd _ (pyAt_mem (way_in w hk).1), w.bd _ (pyAt_mem (way_in w hk).2)⟩
theorem way_ne {way : List Int} {n : Nat} (w : GoodW way n) {k : Nat} (hk : k < way.length) : pyAt way ((k : Int) - 1) ≠ pyAt way (k : Int) := by
  rw [way_m1 w hk, pyAt_nat]
  have := w.two
  intro e
  rw [getD_lt (by split <;> omega), getD_lt hk] at e
  have := (List.getElem_inj w.nd).mp e
  split at this <;> omega
theorem way_inj {way : List Int} {n : Nat} (w : GoodW way n) {j k : Nat} (hj : j < way.length) (hk : k < way.length) (e : pyAt way ((j : Int) - 1) = pyAt way ((k : Int) - 1)) : j = k := by
  have := w.two
  rw [way_m1 w hj, way_m1 w hk] at e
  rw [getD_lt (by split <;> omega), getD_lt (by split <;> omega)] at e
  have := (List.getElem_inj w.nd).mp e
  split at this <;> split at this <;> omega
section
variable {t : List (List Int)} {n : Nat} {way : List Int} {x : Int}
theorem arOwn_bd (g : GoodT t n) {a : Int} (ha : inR t.length a) (ha2 : inR n a) : 0 ≤ arOwn t a ∧ arOwn t a ≤ 999000 := by
  unfold arOwn
  have h := g.nn ha _ (pyAt_mem (by rw [g.at ha]; exact ha2))
  omega
theorem arS_good (g : GoodT t n) (hn : t.length = n) (w : GoodW way n) (hx : 0 ≤ x ∧ x < 999) : ∀ k, k ≤ way.length → GoodT (arS t way x k) n ∧ (arS t way x k).length = n
  | 0, _ => ⟨g, hn⟩
  | k + 1, hk => by
    obtain ⟨h1, h2⟩ := arS_good g hn w hx k (by omega)
    obtain ⟨b1, b2⟩ := way_bd w (show k < way.length by omega)
    have ob := arOwn_bd h1 (a := pyAt way ((k : Int) - 1)) (by rw [h2]; exact ⟨by omega, by omega⟩) ⟨by omega, by omega⟩
    refine ⟨set2_good (set2_good h1 b1.1 (by omega)) b2.1 (by omega), by unfold arS; rw [set2_len, set2_len, h2]⟩
/-- whoever has been done envies the next -/
theorem arS_done (g : GoodT t n) (hn : t.length = n) (w : GoodW way n) (hx : 0 ≤ x ∧ x < 999) : ∀ k, k ≤ way.length → ∀ j, j < k → pyAt (pyAt (arS t way x k) (pyAt way ((j : Int) - 1))) (pyAt way ((j : Int) - 1)) < pyAt (pyAt (arS t way x k) (pyAt way ((j : Int) - 1))) (pyAt way (j : Int))
  | 0, _, j, hj => by omega
  | k + 1, hk, j, hj => by
    obtain ⟨h1, h2⟩ := arS_good g hn w hx k (by omega)
    have hkl : k < way.length := by omega
    have hjl : j < way.length := by omega
    obtain ⟨b1, b2⟩ := way_bd w hkl
    obtain ⟨c1, c2⟩ := way_bd w hjl
    have g1 := set2_good (a := pyAt way ((k : Int) - 1)) h1 b1.1 (v := arOwn (arS t way x k) (pyAt way ((k : Int) - 1))) (by
      have := arOwn_bd h1 (a := pyAt way ((k : Int) - 1)) (by rw [h2]; exact ⟨by omega, by omega⟩) ⟨by omega, by omega⟩
      omega)
    unfold arS
    rw [set2_row (by rw [set2_len, h2]; exact b1) c1.1, set2_row (by rw [h2]; exact b1) b1.1, set2_row (by rw [h2]; exact b1) c1.1, if_pos rfl]
    by_cases e : pyAt way ((k : Int) - 1) = pyAt way ((j : Int) - 1)
    · have ejk := way_inj w hkl hjl e
      subst ejk
      rw [if_pos rfl]
      have rl : (pyAt (arS t way x k) (pyAt way ((k : Int) - 1))).length = n := h1.at (by rw [h2]; exact ⟨by omega, by omega⟩)
      have ne := way_ne w hkl
      have l1 : (pySet (pyAt (arS t way x k) (pyAt way ((k : Int) - 1))) (pyAt way ((k : Int) - 1)) (arOwn (arS t way x k) (pyAt way ((k : Int) - 1)))).length = n := by simp [pySet, rl]
      rw [pyAt_set b2.1 (by rw [l1]; exact b2.2) b1.1, if_neg (Ne.symm ne), pyAt_set b1.1 (by rw [rl]; exact b1.2) b1.1, if_pos rfl, pyAt_set b2.1 (by rw [l1]; exact b2.2) b2.1, if_pos rfl]
      omega
    · rw [if_neg e, if_neg e]
      have hjk : j < k := by
        rcases Nat.lt_or_ge j k with z | z
        · exact z
        · have : j = k := by omega
          subst this
          exact absurd rfl e
      exact arS_done g hn w hx k (by omega) j hjk
end
/-- heir k with thing k -/
def ownS (n : Nat) : List (List Int) := (List.range n).map fun (h : Nat) => [(h : Int)]
theorem ownS_at {n : Nat} {h : Int} (hh : 0 ≤ h ∧ h < n) : pyAt (ownS n) h = [h] := by
  obtain ⟨a, rfl⟩ : ∃ a : Nat, h = a := ⟨h.toNat, by omega⟩
  rw [pyAt_nat]
  unfold ownS
  rw [getD_map_range _ (by omega)]
theorem ownS_good (n : Nat) : GoodS (ownS n) n n where
  n := by simp [ownS]
  bd := fun r hr x hx => by
    simp only [ownS, List.mem_map, List.mem_range] at hr
    obtain ⟨h, hh, rfl⟩ := hr
    simp only [List.mem_singleton] at hx
    omega
  up := fun r hr => by
    simp only [ownS, List.mem_map] at hr
    obtain ⟨h, _, rfl⟩ := hr
    simp
  nd := by
    have e : (ownS n).flatten = rgI n := by
      unfold ownS rgI
      induction (List.range n) with
      | nil => rfl
      | cons a as ih => simp only [List.map_cons, List.flatten_cons, List.singleton_append, ih]
    rw [e]
    exact rgI_nodup n
theorem own_ring {t : List (List Int)} {n : Nat} {way : List Int} (g : GoodT t n) (hn : t.length = n) (w : GoodW way n) (hd : ∀ j, j < way.length → pyAt (pyAt t (pyAt way ((j : Int) - 1))) (pyAt way ((j : Int) - 1)) < pyAt (pyAt t (pyAt way ((j : Int) - 1))) (pyAt way (j : Int))) : IsRing (pairsOf t (ownS n)) t.length way := by
  refine ⟨w.two, w.nd, fun x hx => by rw [hn]; exact w.bd x hx, fun k hk => ?_⟩
  obtain ⟨b1, b2⟩ := way_bd w hk
  refine mem_pairsOf.mpr ⟨(pyAt way ((k : Int) - 1)).toNat, (pyAt way (k : Int)).toNat, ?_, by omega, by omega, ?_⟩
  · rw [Int.toNat_of_nonneg b1.1, Int.toNat_of_nonneg b2.1]
  · rw [Int.toNat_of_nonneg b1.1, Int.toNat_of_nonneg b2.1]
    unfold feels
    rw [ownS_at b1, ownS_at b2]
    have := hd k hk
    simp only [summed, List.map_cons, List.map_nil, List.sum_cons, List.sum_nil, Int.add_zero]
    simpa using this
/-- the law's way -/
def lWayK (ns : List Int) (n : Nat) : Nat := (2 + lAt ns 49 % ((n : Int) - 1)).toNat
def lWay (ns : List Int) (n : Nat) : List Int := (popS (oIx (lAt ns 50)) (rgI n) (lWayK ns n)).2
theorem lWayK_bd (ns : List Int) {n : Nat} (hn : 2 ≤ n) : 2 ≤ lWayK ns n ∧ lWayK ns n ≤ n ∧ 2 + lAt ns 49 % ((n : Int) - 1) = (lWayK ns n : Int) := by
  have h1 := Int.emod_nonneg (lAt ns 49) (show ((n : Int) - 1) ≠ 0 by omega)
  have h2 := Int.emod_lt_of_pos (lAt ns 49) (show (0 : Int) < (n : Int) - 1 by omega)
  unfold lWayK
  omega
theorem popS_len2 (idx : Nat → List Int → Int) (ms : List Int) : ∀ k, (popS idx ms k).2.length = k
  | 0 => rfl
  | k + 1 => by simp only [popS, List.length_append, popS_len2 idx ms k]; rfl
theorem pop_st (c : Int) {n k : Nat} (hk : k ≤ n) : (popS (oIx c) (rgI n) k).1.length = n - k ∧ ((popS (oIx c) (rgI n) k).1 ++ (popS (oIx c) (rgI n) k).2).Perm (rgI n) := by
  have := popS_perm (oIx c) (rgI n) (fun t ls h1 h2 => oIx_bd t ls (by rwa [rgI_len] at h1) h2) k (by rw [rgI_len]; exact hk)
  rwa [rgI_len] at this
theorem lWay_good (ns : List Int) {n : Nat} (hn : 2 ≤ n) : GoodW (lWay ns n) n := by
  obtain ⟨b1, b2, b3⟩ := lWayK_bd ns hn
  have p := (pop_st (lAt ns 50) b2).2
  have nd := p.nodup_iff.mpr (rgI_nodup n)
  refine ⟨?_, fun x hx => rgI_mem.mp (p.subset (List.mem_append_right _ hx)), (List.nodup_append.mp nd).2.1⟩
  unfold lWay
  rw [popS_len2]
  exact b1
def lAround (ns : List Int) (n : Nat) : List (List Int) := arS (lTable ns n n) (lWay ns n) (lAt ns 51 % 999) (lWay ns n).length
theorem lAround_spec (ns : List Int) {n : Nat} (hn : 2 ≤ n) (h8 : n ≤ 8) : GoodT (lAround ns n) n ∧ (lAround ns n).length = n ∧ IsRing (pairsOf (lAround ns n) (ownS n)) (lAround ns n).length (lWay ns n) := by
  have g := lTable_good ns (n := n) (many := n) (by omega) h8 (by omega)
  have hl : (lTable ns n n).length = n := by simp [lTable]
  have w := lWay_good ns hn
  have hx : 0 ≤ lAt ns 51 % 999 ∧ lAt ns 51 % 999 < 999 := by omega
  obtain ⟨q1, q2⟩ := arS_good g hl w hx _ (Nat.le_refl _)
  exact ⟨q1, q2, own_ring q1 q2 w (arS_done g hl w hx _ (Nat.le_refl _))⟩
/-- k07's table, things and shares -/
def k7c (ns : List Int) : Bool := decide (lAt ns 48 % 3 = 1) && decide ((1 : Int) < (nH ns : Int))
def k7T (ns : List Int) : List (List Int) := if k7c ns = true then lAround ns (nH ns) else lTable ns (nH ns) (nM ns)
def k7S (ns : List Int) : List (List Int) := if k7c ns = true then ownS (nH ns) else lShares ns (nH ns) (nM ns)
def k7m (ns : List Int) : Nat := if k7c ns = true then nH ns else nM ns
theorem k7_good (ns : List Int) : GoodT (k7T ns) (k7m ns) ∧ GoodS (k7S ns) (k7T ns).length (k7m ns) ∧ (k7T ns).length = nH ns := by
  have b1 := nH_bd ns
  unfold k7T k7S k7m
  by_cases h : k7c ns = true
  · rw [if_pos h, if_pos h, if_pos h]
    have h2 : 2 ≤ nH ns := by
      unfold k7c at h
      simp at h
      omega
    obtain ⟨q1, q2, _⟩ := lAround_spec ns h2 b1.2
    exact ⟨q1, by rw [q2]; exact ownS_good _, q2⟩
  · rw [if_neg h, if_neg h, if_neg h]
    have e : (lTable ns (nH ns) (nM ns)).length = nH ns := by simp [lTable]
    refine ⟨lTable_good ns b1.1 b1.2 (by have := nM_bd ns; omega), ?_, e⟩
    rw [e]
    exact lShares_good ns b1.1
end Th
namespace Th
open PySem L2 DL
theorem gx {t : List (List Int)} {n : Nat} (g : GoodT t n) (hl : t.length = n) {a b : Int} (ha : 0 ≤ a ∧ a < (n : Int)) (hb : 0 ≤ b ∧ b < (n : Int)) : inR t.length a ∧ inR (pyAt t a).length b ∧ inR (t.getD (pyIx t.length a) []).length b := by
  have h1 : inR t.length a := by rw [hl]; exact ⟨by omega, by omega⟩
  have h2 : inR (pyAt t a).length b := by rw [g.at h1]; exact ⟨by omega, by omega⟩
  refine ⟨h1, h2, ?_⟩
  rw [pyAt_ix] at h2
  exact h2
end Th
namespace Th
theorem dec_t {p : Prop} {i : Decidable p} (h : p) : @decide p i = true := by
  cases i with
  | isTrue _ => rfl
  | isFalse q => exact absurd h q
end Th

set_option Elab.async false
set_option linter.all false
set_option maxRecDepth 100000
/-! a ring turned -/
namespace Th
open PySem L2 DL
def exS (s : List (List Int)) (r : List Int) : Nat → List (List Int)
  | 0 => s
  | k + 1 => pySet (exS s r k) (pyAt r (k : Int)) (pyAt s (pyAt r (((k : Int) + 1) % (r.length : Int))))
def dueS (s : List (List Int)) (way : List Int) : Nat → List (List Int)
  | 0 => s
  | k + 1 => pySet (dueS s way k) (pyAt way ((k : Int) - 1)) (pyAt s (pyAt way (k : Int)))
def nxt (way : List Int) (h : Int) : Int := if h ∈ way then way.getD ((way.idxOf h + 1) % way.length) default else h
def turnS (s : List (List Int)) (way : List Int) (n : Nat) : List (List Int) := (List.range n).map fun (h : Nat) => pyAt s (nxt way (h : Int))
theorem ext_at {xs ys : List (List Int)} (h : xs.length = ys.length) (h2 : ∀ k : Nat, k < xs.length → pyAt xs (k : Int) = pyAt ys (k : Int)) : xs = ys := by
  refine List.ext_getElem h fun k h3 h4 => ?_
  have := h2 k h3
  rwa [pyAt_nat, pyAt_nat, getD_lt h3, getD_lt h4] at this
theorem foldS {s : List (List Int)} {n K : Nat} (hn : s.length = n) (F : Nat → List (List Int)) (a : Nat → Int) (f : Int → Int) (h0 : F 0 = s) (hs : ∀ k, k < K → F (k + 1) = pySet (F k) (a k) (pyAt s (f (a k)))) (ha : ∀ k, k < K → 0 ≤ a k ∧ a k < (n : Int)) :
    ∀ k, k ≤ K → (F k).length = n ∧ ∀ h : Int, 0 ≤ h → h < (n : Int) → ((∃ j, j < k ∧ a j = h) → pyAt (F k) h = pyAt s (f h)) ∧ ((¬ ∃ j, j < k ∧ a j = h) → pyAt (F k) h = pyAt s h) := by
  intro k
  induction k with
  | zero => intro _; rw [h0]; exact ⟨hn, fun h _ _ => ⟨fun ⟨j, hj, _⟩ => by omega, fun _ => rfl⟩⟩
  | succ k ih =>
    intro hk
    obtain ⟨l, q⟩ := ih (by omega)
    have hak := ha k (by omega)
    rw [hs k (by omega)]
    refine ⟨by simp [pySet, l], fun h h1 h2 => ?_⟩
    rw [pyAt_set hak.1 (by rw [l]; exact hak.2) h1]
    obtain ⟨q1, q2⟩ := q h h1 h2
    by_cases e : a k = h
    · rw [if_pos e]
      exact ⟨fun _ => by rw [e], fun z => absurd ⟨k, by omega, e⟩ z⟩
    · rw [if_neg e]
      refine ⟨fun ⟨j, hj, hj2⟩ => q1 ⟨j, ?_, hj2⟩, fun z => q2 fun ⟨j, hj, hj2⟩ => z ⟨j, by omega, hj2⟩⟩
      rcases Nat.lt_or_ge j k with y | y
      · exact y
      · have : j = k := by omega
        subst this
        exact absurd hj2 e
section
variable {way : List Int} {n : Nat} {s : List (List Int)}
theorem nxt_at (w : GoodW way n) {k : Nat} (hk : k < way.length) : nxt way (way.getD k default) = way.getD ((k + 1) % way.length) default := by
  unfold nxt
  have hm : way.getD k default ∈ way := getD_memA hk
  rw [if_pos hm]
  have hi := List.idxOf_lt_length_iff.mpr hm
  have e : way.idxOf (way.getD k default) = k := by
    have e1 : way[way.idxOf (way.getD k default)] = way[k] := by
      rw [List.getElem_idxOf hi, getD_lt hk]
    exact (List.getElem_inj w.nd).mp e1
  rw [e]
theorem nxt_mem (w : GoodW way n) {h : Int} (hh : h ∈ way) : nxt way h ∈ way := by
  unfold nxt
  rw [if_pos hh]
  exact getD_memA (Nat.mod_lt _ (by have := w.two; omega))
theorem nxt_bd (w : GoodW way n) {h : Int} (hh : 0 ≤ h ∧ h < (n : Int)) : 0 ≤ nxt way h ∧ nxt way h < (n : Int) := by
  by_cases e : h ∈ way
  · exact w.bd _ (nxt_mem w e)
  · unfold nxt; rw [if_neg e]; exact hh
theorem mod_inj {len i j : Nat} (hi : i < len) (hj : j < len) (h : (i + 1) % len = (j + 1) % len) : i = j := by
  rcases Nat.lt_or_ge (i + 1) len with a | a <;> rcases Nat.lt_or_ge (j + 1) len with b | b
  · rw [Nat.mod_eq_of_lt a, Nat.mod_eq_of_lt b] at h; omega
  · have : j + 1 = len := by omega
    rw [Nat.mod_eq_of_lt a, this, Nat.mod_self] at h; omega
  · have : i + 1 = len := by omega
    rw [Nat.mod_eq_of_lt b, this, Nat.mod_self] at h; omega
  · omega
theorem at_idx (h : Int) (hh : h ∈ way) : ∃ k, k < way.length ∧ way.getD k default = h := by
  obtain ⟨k, hk, e⟩ := List.mem_iff_getElem.mp hh
  exact ⟨k, hk, by rw [getD_lt hk, e]⟩
theorem nxt_inj (w : GoodW way n) {x y : Int} (h : nxt way x = nxt way y) : x = y := by
  by_cases ex : x ∈ way <;> by_cases ey : y ∈ way
  · obtain ⟨i, hi, rfl⟩ := at_idx x ex
    obtain ⟨j, hj, rfl⟩ := at_idx y ey
    rw [nxt_at w hi, nxt_at w hj] at h
    have l : 0 < way.length := by have := w.two; omega
    rw [getD_lt (Nat.mod_lt _ l), getD_lt (Nat.mod_lt _ l)] at h
    rw [mod_inj hi hj ((List.getElem_inj w.nd).mp h)]
  · have := nxt_mem w ex
    rw [h] at this
    unfold nxt at this
    rw [if_neg ey] at this
    exact absurd this ey
  · have := nxt_mem w ey
    rw [← h] at this
    unfold nxt at this
    rw [if_neg ex] at this
    exact absurd this ex
  · unfold nxt at h
    rwa [if_neg ex, if_neg ey] at h
theorem turnS_at {h : Int} (hh : 0 ≤ h ∧ h < (n : Int)) : pyAt (turnS s way n) h = pyAt s (nxt way h) := by
  obtain ⟨a, rfl⟩ : ∃ a : Nat, h = a := ⟨h.toNat, by omega⟩
  rw [pyAt_nat]
  unfold turnS
  rw [getD_map_range _ (by omega)]
theorem turn_of {K : Nat} (hn : s.length = n) (F : Nat → List (List Int)) (a : Nat → Int) (h0 : F 0 = s) (hs : ∀ k, k < K → F (k + 1) = pySet (F k) (a k) (pyAt s (nxt way (a k)))) (ha : ∀ k, k < K → 0 ≤ a k ∧ a k < (n : Int)) (hw : ∀ h, (∃ j, j < K ∧ a j = h) ↔ h ∈ way) : F K = turnS s way n := by
  obtain ⟨l, q⟩ := foldS hn F a (nxt way) h0 hs ha K (Nat.le_refl _)
  refine ext_at (by rw [l]; simp [turnS]) fun k hk => ?_
  rw [l] at hk
  rw [turnS_at ⟨by omega, by omega⟩]
  obtain ⟨q1, q2⟩ := q (k : Int) (by omega) (by omega)
  by_cases e : (k : Int) ∈ way
  · exact q1 ((hw _).mpr e)
  · rw [q2 fun z => e ((hw _).mp z)]
    unfold nxt
    rw [if_neg e]
theorem due_eq (w : GoodW way n) (hn : s.length = n) : dueS s way way.length = turnS s way n := by
  have l : 0 < way.length := by have := w.two; omega
  have two := w.two
  refine turn_of hn (dueS s way) (fun k => pyAt way ((k : Int) - 1)) rfl (fun k hk => ?_) (fun k hk => (way_bd w hk).1) fun h => ⟨fun ⟨j, hj, e⟩ => e ▸ pyAt_mem (way_in w hj).1, fun hh => ?_⟩
  · have e : nxt way (pyAt way ((k : Int) - 1)) = pyAt way (k : Int) := by
      rw [way_m1 w hk, nxt_at w (by split <;> omega), pyAt_nat]
      congr 1
      split
      · rename_i z; subst z; rw [show way.length - 1 + 1 = way.length by omega, Nat.mod_self]
      · rw [show k - 1 + 1 = k by omega, Nat.mod_eq_of_lt hk]
    show pySet _ _ _ = pySet _ _ (pyAt s (nxt way (pyAt way ((k : Int) - 1))))
    rw [e]
  · obtain ⟨i, hi, rfl⟩ := at_idx h hh
    refine ⟨(i + 1) % way.length, Nat.mod_lt _ l, ?_⟩
    show pyAt way ((((i + 1) % way.length : Nat) : Int) - 1) = _
    rw [way_m1 w (Nat.mod_lt _ l)]
    congr 1
    rcases Nat.lt_or_ge (i + 1) way.length with z | z
    · rw [Nat.mod_eq_of_lt z, if_neg (by omega)]; omega
    · have : i + 1 = way.length := by omega
      rw [this, Nat.mod_self, if_pos rfl]; omega
/-- the way told from one of its heirs on -/
def rotW (way : List Int) (st : Nat) : List Int := way.drop st ++ way.take st
theorem rot_at (h0 : 0 < way.length) {st k : Nat} (hs : st < way.length) (hk : k < way.length) : (rotW way st).getD k default = way.getD ((st + k) % way.length) default := by
  have hl : (way.drop st).length = way.length - st := by simp
  unfold rotW
  rcases Nat.lt_or_ge k (way.length - st) with z | z
  · rw [Nat.mod_eq_of_lt (by omega)]
    simp only [List.getD_eq_getElem?_getD]
    rw [List.getElem?_append_left (by omega), List.getElem?_drop]
  · have e : (st + k) % way.length = k - (way.length - st) := by
      rw [show st + k = (k - (way.length - st)) + way.length by omega, Nat.add_mod_right, Nat.mod_eq_of_lt (by omega)]
    rw [e]
    have z2 : ¬ k < way.length - st := by omega
    simp only [List.getD_eq_getElem?_getD]
    rw [List.getElem?_append_right (by omega), hl, List.getElem?_take_of_lt (by omega)]
theorem rot_len (st : Nat) : (rotW way st).length = way.length := by
  unfold rotW
  simp
  omega
theorem rot_perm (st : Nat) : (rotW way st).Perm way := by
  unfold rotW
  refine List.perm_append_comm.trans ?_
  rw [List.take_append_drop]
theorem rot_good (w : GoodW way n) (st : Nat) : GoodW (rotW way st) n := ⟨by rw [rot_len]; exact w.two, fun x hx => w.bd x ((rot_perm st).subset hx), (rot_perm st).nodup_iff.mpr w.nd⟩
theorem rot_next (w : GoodW way n) {st k : Nat} (hs : st < way.length) (hk : k < way.length) : pyAt (rotW way st) (((k : Int) + 1) % ((rotW way st).length : Int)) = nxt way (pyAt (rotW way st) (k : Int)) := by
  have l : 0 < way.length := by have := w.two; omega
  rw [rot_len, pyAt_nat, rot_at l hs hk, nxt_at w (Nat.mod_lt _ l)]
  have e : ((k : Int) + 1) % (way.length : Int) = (((k + 1) % way.length : Nat) : Int) := by rw [Int.natCast_emod]; rfl
  rw [e, pyAt_nat, rot_at l hs (Nat.mod_lt _ l)]
  congr 1
  rw [Nat.add_mod_mod, Nat.mod_add_mod]
  rfl
theorem ex_eq (w : GoodW way n) (hn : s.length = n) {st : Nat} (hs : st < way.length) : exS s (rotW way st) (rotW way st).length = turnS s way n := by
  refine turn_of hn (exS s (rotW way st)) (fun k => pyAt (rotW way st) (k : Int)) rfl (fun k hk => ?_) (fun k hk => (rot_good w st).bd _ (pyAt_mem ⟨by omega, by omega⟩)) fun h => ⟨fun ⟨j, hj, e⟩ => (rot_perm st).subset (e ▸ pyAt_mem ⟨by omega, by omega⟩), fun hh => ?_⟩
  · show pySet _ _ _ = pySet _ _ (pyAt s (nxt way (pyAt (rotW way st) (k : Int))))
    rw [← rot_next w hs (by rwa [rot_len] at hk)]
  · obtain ⟨i, hi, e⟩ := at_idx h ((rot_perm st).symm.subset hh)
    exact ⟨i, hi, by rw [pyAt_nat]; exact e⟩
theorem turn_perm (w : GoodW way n) (hn : s.length = n) : (turnS s way n).Perm s := by
  have e : s = ((List.range n).map fun (h : Nat) => (h : Int)).map fun h => pyAt s h := by
    refine ext_at (by simp [hn]) fun k hk => ?_
    rw [List.map_map]
    rw [pyAt_nat (List.map _ _), getD_map_range _ (by omega)]
    rfl
  have e2 : turnS s way n = (((List.range n).map fun (h : Nat) => (h : Int)).map fun h => nxt way h).map fun h => pyAt s h := by
    unfold turnS
    rw [List.map_map, List.map_map]
    rfl
  rw [e2]
  conv => rhs; rw [e]
  refine List.Perm.map _ ?_
  refine perm_of_nd ?_ (fun x hx => ?_) (by simp)
  · rw [List.nodup_iff_pairwise_ne, List.pairwise_map]
    have : ((List.range n).map fun (h : Nat) => (h : Int)).Nodup := rgI_nodup n
    exact (List.nodup_iff_pairwise_ne.mp this).imp fun h z => h (nxt_inj w z)
  · obtain ⟨y, hy, rfl⟩ := List.mem_map.mp hx
    have := rgI_mem.mp (show y ∈ rgI n from hy)
    exact rgI_mem.mpr (nxt_bd w this)
end
/-- how many envy, by who envies -/
theorem pRow_count {t s : List (List Int)} {n : Nat} (hn : s.length = n) (h : Nat) : (pRow t s h n).length = s.countP fun b => decide (summed (pyAt t (h : Int)) (pyAt s (h : Int)) < summed (pyAt t (h : Int)) b) := by
  unfold pRow feels
  rw [List.length_map]
  have e : s = (List.range n).map fun (o : Nat) => pyAt s (o : Int) := by
    refine ext_at (by simp [hn]) fun k hk => ?_
    rw [pyAt_nat (List.map _ _), getD_map_range _ (by omega)]
  have gen : ∀ q : List Int → Bool, s.countP q = ((List.range n).filter fun (o : Nat) => q (pyAt s (o : Int))).length := fun q => by
    conv => lhs; rw [e]
    rw [List.countP_map, List.countP_eq_length_filter]
    rfl
  rw [gen]
theorem pAll_lt {t s s' : List (List Int)} {n : Nat} : ∀ i, (∀ h, h < i → (pRow t s' h n).length ≤ (pRow t s h n).length) → (pAll t s' n i).length ≤ (pAll t s n i).length ∧ ((∃ h, h < i ∧ (pRow t s' h n).length < (pRow t s h n).length) → (pAll t s' n i).length < (pAll t s n i).length)
  | 0, _ => ⟨Nat.le_refl _, fun ⟨h, hh, _⟩ => by omega⟩
  | i + 1, hle => by
    obtain ⟨h1, h2⟩ := pAll_lt i fun h hh => hle h (by omega)
    have h3 := hle i (by omega)
    rw [pAll_succ, pAll_succ, List.length_append, List.length_append]
    refine ⟨by omega, fun ⟨h, hh, hlt⟩ => ?_⟩
    rcases Nat.lt_or_ge h i with z | z
    · have := h2 ⟨h, z, hlt⟩; omega
    · have : h = i := by omega
      subst this
      omega
theorem countP_lt {α : Type} {p q : α → Bool} {xs : List α} (h : ∀ x ∈ xs, p x = true → q x = true) {a : α} (ha : a ∈ xs) (h1 : p a = false) (h2 : q a = true) : xs.countP p < xs.countP q := by
  induction xs with
  | nil => cases ha
  | cons x xs ih =>
    have mono : xs.countP p ≤ xs.countP q := List.countP_mono_left fun y hy => h y (by simp [hy])
    rw [List.countP_cons, List.countP_cons]
    rcases List.mem_cons.mp ha with e | e
    · subst e
      rw [if_neg (by simp [h1]), if_pos h2]
      omega
    · have := ih (fun y hy => h y (by simp [hy])) e
      by_cases hx : p x = true
      · rw [if_pos hx, if_pos (h x (by simp) hx)]; omega
      · rw [if_neg hx]
        split <;> omega
/-- what a turn of a ring of envy does -/
theorem turn_less {t s : List (List Int)} {way : List Int} {n : Nat} (ht : t.length = n) (hn : s.length = n) (w : GoodW way n) (hf : ∀ h ∈ way, feels t s h (nxt way h) = true) : (pairsOf t (turnS s way n)).length < (pairsOf t s).length := by
  have tl : (turnS s way n).length = n := by simp [turnS]
  have two := w.two
  have cnt : ∀ h : Nat, h < n → (pRow t (turnS s way n) h n).length = s.countP fun b => decide (summed (pyAt t (h : Int)) (pyAt s (nxt way (h : Int))) < summed (pyAt t (h : Int)) b) := fun h hh => by
    rw [pRow_count tl, (turn_perm w hn).countP_eq, turnS_at ⟨by omega, by omega⟩]
  have le : ∀ h, h < n → (pRow t (turnS s way n) h n).length ≤ (pRow t s h n).length ∧ ((h : Int) ∈ way → (pRow t (turnS s way n) h n).length < (pRow t s h n).length) := fun h hh => by
    rw [cnt h hh, pRow_count hn]
    by_cases e : (h : Int) ∈ way
    · have hlt := of_decide_eq_true (hf _ e)
      have nb := nxt_bd w (h := (h : Int)) ⟨by omega, by omega⟩
      have := countP_lt (p := fun b => decide (summed (pyAt t (h : Int)) (pyAt s (nxt way (h : Int))) < summed (pyAt t (h : Int)) b)) (q := fun b => decide (summed (pyAt t (h : Int)) (pyAt s (h : Int)) < summed (pyAt t (h : Int)) b)) (xs := s) (fun x _ hx => by
        have := of_decide_eq_true hx
        exact decide_eq_true (by omega)) (a := pyAt s (nxt way (h : Int))) (pyAt_mem (by rw [hn]; exact ⟨by omega, by omega⟩)) (by simp) (decide_eq_true hlt)
      exact ⟨by omega, fun _ => this⟩
    · have en : nxt way (h : Int) = (h : Int) := by unfold nxt; rw [if_neg e]
      rw [en]
      exact ⟨Nat.le_refl _, fun z => absurd z e⟩
  unfold pairsOf
  rw [ht]
  refine (pAll_lt n fun h hh => (le h hh).1).2 ?_
  have hm : way.getD 0 default ∈ way := getD_memA (by omega)
  have hb := w.bd _ hm
  refine ⟨(way.getD 0 default).toNat, by omega, (le _ (by omega)).2 ?_⟩
  rw [Int.toNat_of_nonneg hb.1]
  exact hm
end Th
namespace Th
open PySem L2 DL
theorem add_good {s : List (List Int)} {n m j : Nat} (h : GoodS s n m) (hj : j < s.length) : GoodS (s.set j (s.getD j [] ++ [(m : Int)])) n (m + 1) := by
  have hm : s.getD j [] ∈ s := by simp [List.getD_eq_getElem?_getD, hj]
  refine ⟨by rw [List.length_set]; exact h.n, fun r hr x hx => ?_, fun r hr => ?_, ?_⟩
  · rcases List.mem_or_eq_of_mem_set hr with z | z
    · have := h.bd r z x hx; omega
    · rw [z] at hx
      rcases List.mem_append.mp hx with y | y
      · have := h.bd _ hm x y; omega
      · simp at y; omega
  · rcases List.mem_or_eq_of_mem_set hr with z | z
    · exact h.up r z
    · rw [z, List.pairwise_append]
      refine ⟨h.up _ hm, by simp, fun a ha b hb => ?_⟩
      simp at hb
      have := h.bd _ hm a ha
      omega
  · have p := flat_set (x := (m : Int)) hj
    rw [p.nodup_iff, List.nodup_append]
    refine ⟨h.nd, by simp, fun a ha b hb => ?_⟩
    simp at hb
    obtain ⟨r, hr, hx⟩ := List.mem_flatten.mp ha
    have := h.bd r hr a hx
    omega
theorem perm_good {s s' : List (List Int)} {n m : Nat} (p : s'.Perm s) (h : GoodS s n m) : GoodS s' n m :=
  ⟨by rw [p.length_eq]; exact h.n, fun r hr => h.bd r (p.subset hr), fun r hr => h.up r (p.subset hr), (p.flatten).nodup_iff.mpr h.nd⟩
def k8n (ns : List Int) : Nat := max 2 (nH ns)
def k8R (ns : List Int) : Nat → List (List Int)
  | 0 => lAround ns (k8n ns)
  | k + 1 => (k8R ns k).map fun r => r ++ [0]
def k8to (ns : List Int) (k : Nat) : Int := lMixed (lAt ns 47) k / 3 % (k8n ns : Int)
def k8H (ns : List Int) : Nat → List (List Int)
  | 0 => ownS (k8n ns)
  | k + 1 => (k8H ns k).set (pyIx (k8H ns k).length (k8to ns k)) ((k8H ns k).getD (pyIx (k8H ns k).length (k8to ns k)) [] ++ [(k8n ns : Int) + (k : Int)])
def k8K (ns : List Int) : Nat := (lAt ns 48 % 4).toNat
theorem k8K_eq (ns : List Int) : V.int (lAt ns 48 % 4) = V.int (k8K ns) ∧ k8K ns ≤ 3 := by
  unfold k8K
  exact ⟨congrArg V.int (by omega), by omega⟩
theorem k8n_bd (ns : List Int) : 2 ≤ k8n ns ∧ k8n ns ≤ 8 := by
  have := nH_bd ns
  unfold k8n
  omega
theorem k8n_eq (ns : List Int) : V.int (max 2 (lHeirs (lAt ns 0))) = V.int (k8n ns) := by
  have := lHeirs_bd (lAt ns 0)
  unfold k8n nH
  exact congrArg V.int (by omega)
theorem k8H_len (ns : List Int) : ∀ k, (k8H ns k).length = k8n ns
  | 0 => by simp [k8H, ownS]
  | k + 1 => by simp [k8H, k8H_len ns k]
theorem k8_in (ns : List Int) (k : Nat) : inR (k8H ns k).length (k8to ns k) := by
  rw [k8H_len]
  exact mod_inR (by have := k8n_bd ns; omega)
theorem k8R_len (ns : List Int) : ∀ k, (k8R ns k).length = k8n ns
  | 0 => (lAround_spec ns (k8n_bd ns).1 (k8n_bd ns).2).2.1
  | k + 1 => by simp [k8R, k8R_len ns k]
theorem k8R_good (ns : List Int) : ∀ k, k ≤ 3 → GoodT (k8R ns k) (k8n ns + k)
  | 0, _ => (lAround_spec ns (k8n_bd ns).1 (k8n_bd ns).2).1
  | k + 1, hk => by
    have ih := k8R_good ns k (by omega)
    have b := k8n_bd ns
    refine ⟨by rw [k8R_len]; omega, by rw [k8R_len]; omega, by omega, fun r hr => ?_, fun r hr x hx => ?_⟩
    · obtain ⟨q, hq, rfl⟩ := List.mem_map.mp hr
      rw [List.length_append, ih.len q hq]
      rfl
    · obtain ⟨q, hq, rfl⟩ := List.mem_map.mp hr
      rcases List.mem_append.mp hx with z | z
      · exact ih.wor q hq x z
      · simp at z; omega
theorem k8H_good (ns : List Int) : ∀ k, k ≤ 3 → GoodS (k8H ns k) (k8n ns) (k8n ns + k)
  | 0, _ => ownS_good _
  | k + 1, hk => by
    have := add_good (k8H_good ns k (by omega)) (ixN_pyIx (k8_in ns k)).2
    unfold k8H
    rw [show (((k8n ns + k : Nat) : Int)) = (k8n ns : Int) + (k : Int) by omega] at this
    exact this
theorem pyAt_app {row : List Int} {t : Int} (h : 0 ≤ t ∧ t < row.length) (z : Int) : pyAt (row ++ [z]) t = pyAt row t := by
  obtain ⟨a, rfl⟩ : ∃ a : Nat, t = a := ⟨t.toNat, by omega⟩
  rw [pyAt_nat, pyAt_nat]
  simp [List.getD_eq_getElem?_getD, List.getElem?_append, show a < row.length by omega]
theorem summed_app {row things : List Int} (h : ∀ x ∈ things, 0 ≤ x ∧ x < row.length) : summed (row ++ [0]) things = summed row things := by
  unfold summed
  rw [List.map_congr_left fun x hx => pyAt_app (h x hx) 0]
theorem summed_app2 {row things : List Int} (h : ∀ x ∈ things, 0 ≤ x ∧ x < row.length) : summed (row ++ [0]) (things ++ [(row.length : Int)]) = summed row things := by
  have e := summed_app h
  unfold summed at *
  rw [List.map_append, List.sum_append, e]
  have : pyAt (row ++ [0]) (row.length : Int) = 0 := by
    rw [pyAt_nat]
    simp [List.getD_eq_getElem?_getD]
  simp [this]
theorem pyAt_map {α β : Type} [Inhabited α] [Inhabited β] (f : α → β) {xs : List α} {x : Int} (h : 0 ≤ x ∧ x < xs.length) : pyAt (xs.map f) x = f (pyAt xs x) := by
  obtain ⟨a, rfl⟩ : ∃ a : Nat, x = a := ⟨x.toNat, by omega⟩
  rw [pyAt_nat, pyAt_nat, getD_lt (by simp; omega), getD_lt (by omega), List.getElem_map]
/-- the things put in later are worth nought -/
theorem k8_val (ns : List Int) : ∀ k, k ≤ 3 → ∀ x y : Int, 0 ≤ x ∧ x < (k8n ns : Int) → 0 ≤ y ∧ y < (k8n ns : Int) → summed (pyAt (k8R ns k) x) (pyAt (k8H ns k) y) = summed (pyAt (lAround ns (k8n ns)) x) (pyAt (ownS (k8n ns)) y)
  | 0, _, _, _, _, _ => rfl
  | k + 1, hk, x, y, hx, hy => by
    have ih := k8_val ns k (by omega) x y hx hy
    have g := k8R_good ns k (by omega)
    have gs := k8H_good ns k (by omega)
    have hxr : inR (k8R ns k).length x := by rw [k8R_len]; exact ⟨by omega, by omega⟩
    have hyr : inR (k8n ns) y := ⟨by omega, by omega⟩
    have rl := g.at hxr
    have bd : ∀ z ∈ pyAt (k8H ns k) y, 0 ≤ z ∧ z < ((pyAt (k8R ns k) x).length : Int) := by rw [rl]; exact gs.bd _ (gs.at hyr)
    have to : 0 ≤ k8to ns k ∧ k8to ns k < (k8n ns : Int) := mod_in (lMixed (lAt ns 47) k / 3) (n := k8n ns) (by have := k8n_bd ns; omega)
    show summed (pyAt ((k8R ns k).map fun r => r ++ [0]) x) (pyAt (k8H ns (k + 1)) y) = _
    rw [pyAt_map _ (by rw [k8R_len]; exact hx)]
    have e : k8H ns (k + 1) = pySet (k8H ns k) (k8to ns k) (pyAt (k8H ns k) (k8to ns k) ++ [(k8n ns : Int) + (k : Int)]) := by
      rw [pyAt_ix]; rfl
    rw [e, pyAt_set to.1 (by rw [k8H_len]; exact to.2) hy.1]
    split
    · rename_i z
      rw [z]
      rw [show (k8n ns : Int) + (k : Int) = (((pyAt (k8R ns k) x).length : Nat) : Int) by rw [rl]; omega, summed_app2 bd, ih]
    · rw [summed_app bd, ih]
theorem k8_feels (ns : List Int) {k : Nat} (hk : k ≤ 3) {x y : Int} (hx : 0 ≤ x ∧ x < (k8n ns : Int)) (hy : 0 ≤ y ∧ y < (k8n ns : Int)) : feels (k8R ns k) (k8H ns k) x y = feels (lAround ns (k8n ns)) (ownS (k8n ns)) x y := by
  unfold feels
  rw [k8_val ns k hk x y hx hy, k8_val ns k hk x x hx hx]
theorem ring_nxt {t s : List (List Int)} {way : List Int} {n : Nat} (w : GoodW way n) (r : IsRing (pairsOf t s) t.length way) {h : Int} (hh : h ∈ way) : feels t s h (nxt way h) = true := by
  have two := w.two
  obtain ⟨i, hi, rfl⟩ := at_idx h hh
  have l : 0 < way.length := by omega
  have g := (pair_in (r.go ((i + 1) % way.length) (Nat.mod_lt _ l))).2.2
  rw [nxt_at w hi]
  have e : pyAt way ((((i + 1) % way.length : Nat) : Int) - 1) = way.getD i default := by
    rw [way_m1 w (Nat.mod_lt _ l)]
    congr 1
    rcases Nat.lt_or_ge (i + 1) way.length with z | z
    · rw [Nat.mod_eq_of_lt z, if_neg (by omega)]; omega
    · have : i + 1 = way.length := by omega
      rw [this, Nat.mod_self, if_pos rfl]; omega
  rw [← e, ← pyAt_nat]
  exact g
theorem k8_nxt (ns : List Int) {k : Nat} (hk : k ≤ 3) {h : Int} (hh : h ∈ lWay ns (k8n ns)) : feels (k8R ns k) (k8H ns k) h (nxt (lWay ns (k8n ns)) h) = true := by
  have w := lWay_good ns (k8n_bd ns).1
  rw [k8_feels ns hk (w.bd _ hh) (nxt_bd w (w.bd _ hh))]
  exact ring_nxt w (lAround_spec ns (k8n_bd ns).1 (k8n_bd ns).2).2.2 hh
def k8s (ns : List Int) : Nat := (lAt ns 46 % ((lWay ns (k8n ns)).length : Int)).toNat
theorem k8s_eq (ns : List Int) : V.int (lAt ns 46 % ((lWay ns (k8n ns)).length : Int)) = V.int (k8s ns) ∧ k8s ns < (lWay ns (k8n ns)).length := by
  have w := lWay_good ns (k8n_bd ns).1
  have := mod_in (lAt ns 46) (n := (lWay ns (k8n ns)).length) (by have := w.two; omega)
  unfold k8s
  exact ⟨congrArg V.int (by omega), by omega⟩
theorem pySl_to {α : Type} (xs : List α) (k : Nat) : pySl xs none (some (k : Int)) = xs.take k := by
  unfold pySl
  have h1 : HT.sIx xs.length 0 none = 0 := HT.sIx_none _ _
  have h2 : HT.sIx xs.length xs.length (some (k : Int)) = min k xs.length := HT.sIx_nat _ _ k
  rw [h1, h2]
  rcases Nat.le_total k xs.length with h | h
  · rw [Nat.min_eq_left h]; simp
  · rw [Nat.min_eq_right h]; simp [List.take_of_length_le h]
theorem rot_eq (way : List Int) (st : Nat) : pySl way (some (st : Int)) none ++ pySl way none (some (st : Int)) = rotW way st := by rw [pySl_from, pySl_to]; rfl
theorem exS_len (s : List (List Int)) (r : List Int) : ∀ k, (exS s r k).length = s.length
  | 0 => rfl
  | k + 1 => by simp [exS, pySet, exS_len s r k]
theorem dueS_len (s : List (List Int)) (r : List Int) : ∀ k, (dueS s r k).length = s.length
  | 0 => rfl
  | k + 1 => by simp [dueS, pySet, dueS_len s r k]
/-- what a turned ring has to be -/
theorem rot_pairs {t s : List (List Int)} {way : List Int} {n : Nat} (w : GoodW way n) (ht : t.length = n) (hf : ∀ h ∈ way, feels t s h (nxt way h) = true) {st : Nat} (hs : st < way.length) : ∀ k : Nat, k < (rotW way st).length → (pyAt (rotW way st) (k : Int), pyAt (rotW way st) (((k : Int) + 1) % ((rotW way st).length : Int))) ∈ pairsOf t s := fun k hk => by
  rw [rot_next w hs (by rwa [rot_len] at hk)]
  have hm : pyAt (rotW way st) (k : Int) ∈ way := (rot_perm st).subset (pyAt_mem ⟨by omega, by omega⟩)
  have b1 := w.bd _ hm
  have b2 := nxt_bd w b1
  refine mem_pairsOf.mpr ⟨(pyAt (rotW way st) (k : Int)).toNat, (nxt way (pyAt (rotW way st) (k : Int))).toNat, ?_, by omega, by omega, ?_⟩
  · rw [Int.toNat_of_nonneg b1.1, Int.toNat_of_nonneg b2.1]
  · rw [Int.toNat_of_nonneg b1.1, Int.toNat_of_nonneg b2.1]
    exact hf _ hm
theorem turn_more {t s : List (List Int)} {way : List Int} {n : Nat} (w : GoodW way n) (hf : ∀ h ∈ way, feels t s h (nxt way h) = true) {h : Nat} (hh : h < n) :
    ((h : Int) ∈ way → 0 < summed (pyAt t (h : Int)) (pyAt (turnS s way n) (h : Int)) - summed (pyAt t (h : Int)) (pyAt s (h : Int))) ∧ ((h : Int) ∉ way → summed (pyAt t (h : Int)) (pyAt (turnS s way n) (h : Int)) - summed (pyAt t (h : Int)) (pyAt s (h : Int)) = 0) := by
  rw [turnS_at ⟨by omega, by omega⟩]
  refine ⟨fun e => ?_, fun e => ?_⟩
  · have := of_decide_eq_true (hf _ e)
    omega
  · unfold nxt
    rw [if_neg e]
    omega
end Th
namespace Th
open PySem L2 DL
theorem szS {s : List (List Int)} {n m : Nat} (h : GoodS s n m) (hm : m ≤ 4000) (j : Nat) : (s.getD j []).length < 16000000 := by
  by_cases hj : j < s.length
  · have := h.row (show s.getD j [] ∈ s by simp [List.getD_eq_getElem?_getD, hj])
    omega
  · rw [List.getD_eq_getElem?_getD, List.getElem?_eq_none (by omega)]
    simp
end Th

set_option Elab.async false
set_option linter.all false
set_option maxRecDepth 100000
set_option maxHeartbeats 2000000
namespace Th
open PySem L2 DL
def top (i : Nat) : Stmt := PySem.Challenge.pw_thingdeal_k08_a_ring_turned.main.body.getD i (.Pass ⟨0, 0, 0, 0⟩)
abbrev s_is_among : Stmt := top 9
abbrev s_is_row : Stmt := top 10
abbrev s_is_table : Stmt := top 11
abbrev s_are_things : Stmt := top 12
abbrev s_are_shares : Stmt := top 13
abbrev s_need_table : Stmt := top 14
abbrev s_need_shares : Stmt := top 15
abbrev s_summed : Stmt := top 16
abbrev s_feels : Stmt := top 18
abbrev s_pairs_of : Stmt := top 19
abbrev s_exchanged : Stmt := top 21
abbrev s_turned : Stmt := top 22
abbrev s__law_at : Stmt := top 24
abbrev s__law_mixed : Stmt := top 25
abbrev s__law_heirs : Stmt := top 26
abbrev s__law_worth : Stmt := top 28
abbrev s__law_table : Stmt := top 29
abbrev s__law_sum : Stmt := top 30
abbrev s__law_envies : Stmt := top 31
abbrev s__law_copy : Stmt := top 32
abbrev s__law_whole : Stmt := top 33
abbrev s__law_around : Stmt := top 34
abbrev s__law_way : Stmt := top 35
abbrev s__law_is_due : Stmt := top 36
abbrev s_law : Stmt := top 37
structure Bt (mg : Str → Option Value) : Prop where
  all : mg "all" = none
  bool : mg "bool" = none
  int : mg "int" = none
  isinstance : mg "isinstance" = none
  len : mg "len" = none
  list : mg "list" = none
  max : mg "max" = none
  min : mg "min" = none
  range : mg "range" = none
  set : mg "set" = none
  sorted : mg "sorted" = none
  sum : mg "sum" = none
structure Tx (K : Fg) (mg : Str → Option Value) where
  a_is_among : Addr
  fd_is_among : FuncData
  F_is_among : Fun K "is_among" "is_among" s_is_among a_is_among fd_is_among
  g_is_among : mg "is_among" = some (.ref a_is_among)
  b_is_among : Binds K fd_is_among ["thing", "least", "most"] []
  a_is_row : Addr
  fd_is_row : FuncData
  F_is_row : Fun K "is_row" "is_row" s_is_row a_is_row fd_is_row
  g_is_row : mg "is_row" = some (.ref a_is_row)
  b_is_row : Binds K fd_is_row ["thing", "many"] []
  a_is_table : Addr
  fd_is_table : FuncData
  F_is_table : Fun K "is_table" "is_table" s_is_table a_is_table fd_is_table
  g_is_table : mg "is_table" = some (.ref a_is_table)
  b_is_table : Binds K fd_is_table ["thing"] []
  a_are_things : Addr
  fd_are_things : FuncData
  F_are_things : Fun K "are_things" "are_things" s_are_things a_are_things fd_are_things
  g_are_things : mg "are_things" = some (.ref a_are_things)
  b_are_things : Binds K fd_are_things ["thing", "many"] []
  a_are_shares : Addr
  fd_are_shares : FuncData
  F_are_shares : Fun K "are_shares" "are_shares" s_are_shares a_are_shares fd_are_shares
  g_are_shares : mg "are_shares" = some (.ref a_are_shares)
  b_are_shares : Binds K fd_are_shares ["thing", "heirs", "things"] []
  a_need_table : Addr
  fd_need_table : FuncData
  F_need_table : Fun K "need_table" "need_table" s_need_table a_need_table fd_need_table
  g_need_table : mg "need_table" = some (.ref a_need_table)
  b_need_table : Binds K fd_need_table ["table"] []
  a_need_shares : Addr
  fd_need_shares : FuncData
  F_need_shares : Fun K "need_shares" "need_shares" s_need_shares a_need_shares fd_need_shares
  g_need_shares : mg "need_shares" = some (.ref a_need_shares)
  b_need_shares : Binds K fd_need_shares ["table", "shares"] []
  a_summed : Addr
  fd_summed : FuncData
  F_summed : Fun K "summed" "summed" s_summed a_summed fd_summed
  g_summed : mg "summed" = some (.ref a_summed)
  b_summed : Binds K fd_summed ["row", "things"] []
  a_feels : Addr
  fd_feels : FuncData
  F_feels : Fun K "feels" "feels" s_feels a_feels fd_feels
  g_feels : mg "feels" = some (.ref a_feels)
  b_feels : Binds K fd_feels ["table", "shares", "heir", "other"] []
  a_pairs_of : Addr
  fd_pairs_of : FuncData
  F_pairs_of : Fun K "pairs_of" "pairs_of" s_pairs_of a_pairs_of fd_pairs_of
  g_pairs_of : mg "pairs_of" = some (.ref a_pairs_of)
  b_pairs_of : Binds K fd_pairs_of ["table", "shares"] []
  a_exchanged : Addr
  fd_exchanged : FuncData
  F_exchanged : Fun K "exchanged" "exchanged" s_exchanged a_exchanged fd_exchanged
  g_exchanged : mg "exchanged" = some (.ref a_exchanged)
  b_exchanged : Binds K fd_exchanged ["shares", "heirs"] []
  a_turned : Addr
  fd_turned : FuncData
  F_turned : Fun K "turned" "turned" s_turned a_turned fd_turned
  g_turned : mg "turned" = some (.ref a_turned)
  b_turned : Binds K fd_turned ["table", "shares", "heirs"] []
  a__law_at : Addr
  fd__law_at : FuncData
  F__law_at : Fun K "_law_at" "_law_at" s__law_at a__law_at fd__law_at
  g__law_at : mg "_law_at" = some (.ref a__law_at)
  b__law_at : Binds K fd__law_at ["_law_script", "_law_k"] []
  a__law_mixed : Addr
  fd__law_mixed : FuncData
  F__law_mixed : Fun K "_law_mixed" "_law_mixed" s__law_mixed a__law_mixed fd__law_mixed
  g__law_mixed : mg "_law_mixed" = some (.ref a__law_mixed)
  b__law_mixed : Binds K fd__law_mixed ["_law_cell", "_law_k"] []
  a__law_heirs : Addr
  fd__law_heirs : FuncData
  F__law_heirs : Fun K "_law_heirs" "_law_heirs" s__law_heirs a__law_heirs fd__law_heirs
  g__law_heirs : mg "_law_heirs" = some (.ref a__law_heirs)
  b__law_heirs : Binds K fd__law_heirs ["_law_cell"] []
  a__law_worth : Addr
  fd__law_worth : FuncData
  F__law_worth : Fun K "_law_worth" "_law_worth" s__law_worth a__law_worth fd__law_worth
  g__law_worth : mg "_law_worth" = some (.ref a__law_worth)
  b__law_worth : Binds K fd__law_worth ["_law_number", "_law_mode"] []
  a__law_table : Addr
  fd__law_table : FuncData
  F__law_table : Fun K "_law_table" "_law_table" s__law_table a__law_table fd__law_table
  g__law_table : mg "_law_table" = some (.ref a__law_table)
  b__law_table : Binds K fd__law_table ["_law_script", "_law_heirs_here", "_law_many"] []
  a__law_sum : Addr
  fd__law_sum : FuncData
  F__law_sum : Fun K "_law_sum" "_law_sum" s__law_sum a__law_sum fd__law_sum
  g__law_sum : mg "_law_sum" = some (.ref a__law_sum)
  b__law_sum : Binds K fd__law_sum ["_law_row", "_law_things_here"] []
  a__law_envies : Addr
  fd__law_envies : FuncData
  F__law_envies : Fun K "_law_envies" "_law_envies" s__law_envies a__law_envies fd__law_envies
  g__law_envies : mg "_law_envies" = some (.ref a__law_envies)
  b__law_envies : Binds K fd__law_envies ["_law_rows", "_law_held"] []
  a__law_copy : Addr
  fd__law_copy : FuncData
  F__law_copy : Fun K "_law_copy" "_law_copy" s__law_copy a__law_copy fd__law_copy
  g__law_copy : mg "_law_copy" = some (.ref a__law_copy)
  b__law_copy : Binds K fd__law_copy ["_law_rows"] []
  a__law_whole : Addr
  fd__law_whole : FuncData
  F__law_whole : Fun K "_law_whole" "_law_whole" s__law_whole a__law_whole fd__law_whole
  g__law_whole : mg "_law_whole" = some (.ref a__law_whole)
  b__law_whole : Binds K fd__law_whole ["_law_found"] []
  a__law_around : Addr
  fd__law_around : FuncData
  F__law_around : Fun K "_law_around" "_law_around" s__law_around a__law_around fd__law_around
  g__law_around : mg "_law_around" = some (.ref a__law_around)
  b__law_around : Binds K fd__law_around ["_law_script", "_law_heirs_here", "_law_way_here"] []
  a__law_way : Addr
  fd__law_way : FuncData
  F__law_way : Fun K "_law_way" "_law_way" s__law_way a__law_way fd__law_way
  g__law_way : mg "_law_way" = some (.ref a__law_way)
  b__law_way : Binds K fd__law_way ["_law_script", "_law_heirs_here"] []
  a__law_is_due : Addr
  fd__law_is_due : FuncData
  F__law_is_due : Fun K "_law_is_due" "_law_is_due" s__law_is_due a__law_is_due fd__law_is_due
  g__law_is_due : mg "_law_is_due" = some (.ref a__law_is_due)
  b__law_is_due : Binds K fd__law_is_due ["_law_found", "_law_held", "_law_way_here"] []
  a_law : Addr
  fd_law : FuncData
  F_law : Fun K "law" "law" s_law a_law fd_law
  g_law : mg "law" = some (.ref a_law)
  b_law : Binds K fd_law ["_law_script"] []
  k_MOST_HEIRS : Tok
  g_MOST_HEIRS : mg "MOST_HEIRS" = some (.int 8 k_MOST_HEIRS)
  k_MOST_THINGS : Tok
  g_MOST_THINGS : mg "MOST_THINGS" = some (.int 40 k_MOST_THINGS)
  k_MOST_WORTH : Tok
  g_MOST_WORTH : mg "MOST_WORTH" = some (.int 1000000 k_MOST_WORTH)
  c_BadTable : Addr
  g_BadTable : mg "BadTable" = some (.ref c_BadTable)
  x_BadTable : PySem.W.excIn K c_BadTable [.type "ValueError", .type "Exception", .type "BaseException", .type "object"] "ValueError.__new__" = true
  k_BadTable : PySem.W.keepIn K (.ref c_BadTable) = true
  b_BadTable : PySem.W.subIn K (.ref c_BadTable) (.type "BaseException") = some true
  t_BadTable : PySem.W.typeIn K (.ref c_BadTable) = some (.type "type")
  c_BadShares : Addr
  g_BadShares : mg "BadShares" = some (.ref c_BadShares)
  x_BadShares : PySem.W.excIn K c_BadShares [.type "ValueError", .type "Exception", .type "BaseException", .type "object"] "ValueError.__new__" = true
  k_BadShares : PySem.W.keepIn K (.ref c_BadShares) = true
  b_BadShares : PySem.W.subIn K (.ref c_BadShares) (.type "BaseException") = some true
  t_BadShares : PySem.W.typeIn K (.ref c_BadShares) = some (.type "type")
  c_BadRing : Addr
  g_BadRing : mg "BadRing" = some (.ref c_BadRing)
  x_BadRing : PySem.W.excIn K c_BadRing [.type "ValueError", .type "Exception", .type "BaseException", .type "object"] "ValueError.__new__" = true
  k_BadRing : PySem.W.keepIn K (.ref c_BadRing) = true
  b_BadRing : PySem.W.subIn K (.ref c_BadRing) (.type "BaseException") = some true
  t_BadRing : PySem.W.typeIn K (.ref c_BadRing) = some (.type "type")
  bt : Bt mg
theorem raise_BadRing {P : Program} {w : World} {K : Fg} {mg : Str → Option Value} {base : Heap} (T : Tx K mg) {N : List Str} {qual : Str} {sc : Scope} {f : Addr} {cd : Value} {A : Around} {outer : List Env} {s : Shared} {H : Hp} {E : XK} {Γ : Gm} {ρ : List Sl} {rs : List Stmt} {En : En} {pm : Str} {j : Nat} {p1 p2 p3 p4 : Pos}
    (hx : RX (cxOf (L2.CX P w) P w K mg base N qual sc f cd A outer s H E) Γ T.c_BadRing) (hg : Gl (cxOf (L2.CX P w) P w K mg base N qual sc f cd A outer s H E) "BadRing" := by rfl) : SS (cxOf (L2.CX P w) P w K mg base N qual sc f cd A outer s H E) Γ ρ (.Raise (some (.Call (.Name "BadRing" p1) [.Constant (.str pm) j p2] [] p3)) none p4 :: rs) En :=
  ss_raise rfl hx (pmk_own PySem.F.excBase_ValueError T.x_BadRing T.g_BadRing T.k_BadRing (raises_own T.b_BadRing T.t_BadRing) hg) fun σ H Q q => q
theorem raise_BadShares {P : Program} {w : World} {K : Fg} {mg : Str → Option Value} {base : Heap} (T : Tx K mg) {N : List Str} {qual : Str} {sc : Scope} {f : Addr} {cd : Value} {A : Around} {outer : List Env} {s : Shared} {H : Hp} {E : XK} {Γ : Gm} {ρ : List Sl} {rs : List Stmt} {En : En} {pm : Str} {j : Nat} {p1 p2 p3 p4 : Pos}
    (hx : RX (cxOf (L2.CX P w) P w K mg base N qual sc f cd A outer s H E) Γ T.c_BadShares) (hg : Gl (cxOf (L2.CX P w) P w K mg base N qual sc f cd A outer s H E) "BadShares" := by rfl) : SS (cxOf (L2.CX P w) P w K mg base N qual sc f cd A outer s H E) Γ ρ (.Raise (some (.Call (.Name "BadShares" p1) [.Constant (.str pm) j p2] [] p3)) none p4 :: rs) En :=
  ss_raise rfl hx (pmk_own PySem.F.excBase_ValueError T.x_BadShares T.g_BadShares T.k_BadShares (raises_own T.b_BadShares T.t_BadShares) hg) fun σ H Q q => q
theorem raise_BadTable {P : Program} {w : World} {K : Fg} {mg : Str → Option Value} {base : Heap} (T : Tx K mg) {N : List Str} {qual : Str} {sc : Scope} {f : Addr} {cd : Value} {A : Around} {outer : List Env} {s : Shared} {H : Hp} {E : XK} {Γ : Gm} {ρ : List Sl} {rs : List Stmt} {En : En} {pm : Str} {j : Nat} {p1 p2 p3 p4 : Pos}
    (hx : RX (cxOf (L2.CX P w) P w K mg base N qual sc f cd A outer s H E) Γ T.c_BadTable) (hg : Gl (cxOf (L2.CX P w) P w K mg base N qual sc f cd A outer s H E) "BadTable" := by rfl) : SS (cxOf (L2.CX P w) P w K mg base N qual sc f cd A outer s H E) Γ ρ (.Raise (some (.Call (.Name "BadTable" p1) [.Constant (.str pm) j p2] [] p3)) none p4 :: rs) En :=
  ss_raise rfl hx (pmk_own PySem.F.excBase_ValueError T.x_BadTable T.g_BadTable T.k_BadTable (raises_own T.b_BadTable T.t_BadTable) hg) fun σ H Q q => q

theorem sc_is_among : FnScope ["thing", "least", "most"] ["thing", "least", "most"] (defScope s_is_among) := ⟨rfl, rfl, rfl, by decide +kernel, rfl, by decide +kernel, by decide +kernel⟩
theorem ok_is_among {P : Program} {w : World} {K : Fg} {mg : Str → Option Value} {base : Heap} (T : Tx K mg) (d : D) (lo hi : Int) :
    FnOk P w K mg base (L2.CX P w) 1 T.a_is_among T.fd_is_among ["thing", "least", "most"] (sp1 K [.ro d, .v (.int lo), .v (.int hi)] (.ret (.fz (.bool (isAmong d lo hi))))) := by
  refine ok_def (m := 0) T.F_is_among sc_is_among rfl rfl fun cdv A outer s G H E hr xo hp hx => ?_
  exact ss_retV (dv_and (dv_isi (de_ro 0 rfl) (kit_int d) T.bt.int PyProof.Rows.boot_int T.bt.isinstance) fun h1 => dv_and (dv_not (dv_isi (de_ro 0 rfl) (kit_bool d) T.bt.bool PyProof.Rows.boot_bool T.bt.isinstance)) fun h2 => dv_one
    (dv_leLe (dv_var 1 rfl) ((de_ro 0 rfl).val (dV_iOf h1 (by simpa using h2))) (dv_var 2 rfl))) rfl


theorem sc_is_row : FnScope ["thing", "many", "one"] ["thing", "many"] (defScope s_is_row) := ⟨rfl, rfl, rfl, by decide +kernel, rfl, by decide +kernel, by decide +kernel⟩
theorem ok_is_row {P : Program} {w : World} {K : Fg} {mg : Str → Option Value} {base : Heap} (T : Tx K mg) (d : D) (many : Int) (hz : (dsOf d).length ≤ 16000000) :
    FnOk P w K mg base (L2.CX P w) 2 T.a_is_row T.fd_is_row ["thing", "many"] (sp1 K [.ro d, .v (.int many)] (.ret (.fz (.bool (isRow d many))))) := by
  refine ok_def (m := 1) T.F_is_row sc_is_row rfl rfl fun cdv A outer s G H E hr xo hp hx => ?_
  exact ss_retV (dv_and (dv_isi (de_ro 0 rfl) (kit_list d) T.bt.list PyProof.Rows.boot_list T.bt.isinstance) fun h1 => dv_and (dv_eq (dv_lenD (DE.eq (de_ro 0 rfl) (d_dsOf h1)) T.bt.len) (dv_var 1 rfl)) fun h2 => dv_one
    (dv_all xo (DO.dat (do_lcM0 xo [("one", 2)] (g := tF PyData.bool) (ic_c (f := fun x => x) (fun a => .ro a) (DE.eq (de_ro 0 rfl) (d_dl h1)) (fun _ => .ro)) (blkOk_by (N := ["thing", "many", "one"]) (sc := defScope s_is_row) (by decide +kernel)) (fun _ _ _ _ _ => pg_name (i := 2) sc_is_row.nd rfl (Or.inl rfl)) (fun a _ => tgw_name _ 2 _) (by simp)
      (fun Γ' hK a ha s' H' C' cl' fp' xo => DV.oB (DO.vB (do_call (ok_is_among T _ _ _) (hr.mono (by decide)) T.g_is_among T.F_is_among.kp T.b_is_among hK (da_ro (de_ro 2 rfl) (da_v dv_int (da_v (dv_glob rfl T.g_MOST_WORTH ⟨_, rfl⟩) da_nil))))) ) hz)) T.bt.all)) rfl


theorem sc_is_table : FnScope ["thing", "row"] ["thing"] (defScope s_is_table) := ⟨rfl, rfl, rfl, by decide +kernel, rfl, by decide +kernel, by decide +kernel⟩
theorem ok_is_table {P : Program} {w : World} {K : Fg} {mg : Str → Option Value} {base : Heap} (T : Tx K mg) (d : D) (hz : (dsOf d).length ≤ 16000000) (hz2 : ∀ x ∈ dsOf d, (dsOf x).length ≤ 16000000) :
    FnOk P w K mg base (L2.CX P w) 3 T.a_is_table T.fd_is_table ["thing"] (sp1 K [.ro d] (.ret (.fz (.bool (isTable d))))) := by
  refine ok_def (m := 1) T.F_is_table sc_is_table rfl rfl fun cdv A outer s G H E hr xo hp hx => ?_
  have hat : ∀ {e : Expr} {κ : Kd} {p : Pos}, isList d = true → 1 ≤ ((dsOf d).length : Int) → atI (dsOf d) 0 = some (hdD d) := fun h1 h2 => by
    have : 0 < (dsOf d).length := by omega
    exact atI_nat (by simp [hdD, List.getD_eq_getElem?_getD, this])
  refine ss_ifL (DW.pt (dw_or (dt_not (dt_val (dv_isi (de_ro 0 rfl) (kit_list d) T.bt.list PyProof.Rows.boot_list T.bt.isinstance))) fun h1 => dw_or (dt_not ((dt_leLe dv_int (dv_lenD (DE.eq (de_ro 0 rfl) (d_dsOf (by simpa using h1))) T.bt.len) (dv_glob rfl T.g_MOST_HEIRS ⟨_, rfl⟩)))) fun h2 => dw_or1
    (dt_not (dt_val (dv_isi (de_at (DE.eq (de_ro 0 rfl) (d_dsOf (by simpa using h1))) dv_int (d := hdD d) (hat (e := .Constant .none 0 ⟨0, 0, 0, 0⟩) (κ := .z) (p := ⟨0, 0, 0, 0⟩) (by simpa using h1) (by simp only [Bool.not_eq_false', Bool.and_eq_true, decide_eq_true_eq] at h2; exact h2.1))) (kit_list _) T.bt.list PyProof.Rows.boot_list T.bt.isinstance))))) (fun h => ?_) (fun h => ?_)
  · exact ss_retV dv_bl (by unfold isTable; rw [if_pos h]; rfl)
  · have h' := h
    simp only [Bool.or_eq_false_iff, Bool.not_eq_false', Bool.and_eq_true, decide_eq_true_eq] at h
    obtain ⟨h1, ⟨h2, h3⟩, h4⟩ := h
    have hd := hat (e := .Constant .none 0 ⟨0, 0, 0, 0⟩) (κ := .z) (p := ⟨0, 0, 0, 0⟩) h1 h2
    exact ss_retV (dv_and (dv_le (dv_lenD (DE.eq (de_at (DE.eq (de_ro 0 rfl) (d_dsOf h1)) dv_int hd) (d_dsOf h4)) T.bt.len) (dv_glob rfl T.g_MOST_THINGS ⟨_, rfl⟩)) fun h5 => dv_one
      (dv_all xo (DO.dat (do_lcM0 xo [("row", 1)] (g := tF PyData.bool) (ic_c (f := fun x => x) (fun a => .ro a) (DE.eq (de_ro 0 rfl) (d_dl h1)) (fun _ => .ro)) (blkOk_by (N := ["thing", "row"]) (sc := defScope s_is_table) (by decide +kernel)) (fun _ _ _ _ _ => pg_name (i := 1) sc_is_table.nd rfl (Or.inl rfl)) (fun a _ => tgw_name _ 1 _) (by simp)
        (fun Γ' hK a ha s' H' C' cl' fp' xo => DV.oB (DO.vB (do_call (ok_is_row T _ _ (hz2 a ha)) (hr.mono (by decide)) T.g_is_row T.F_is_row.kp T.b_is_row hK (da_ro (de_ro 1 rfl) (da_v (dv_lenD (DE.eq (de_at (DE.eq (de_ro 0 rfl) (d_dsOf h1)) dv_int hd) (d_dsOf h4)) T.bt.len) da_nil))))) hz)) T.bt.all)) (by unfold isTable; rw [h']; rfl)


theorem sc_are_things : FnScope ["thing", "many", "one"] ["thing", "many"] (defScope s_are_things) := ⟨rfl, rfl, rfl, by decide +kernel, rfl, by decide +kernel, by decide +kernel⟩
theorem ok_are_things {P : Program} {w : World} {K : Fg} {mg : Str → Option Value} {base : Heap} (T : Tx K mg) (d : D) (many : Int) (hz : (dsOf d).length ≤ 4000) :
    FnOk P w K mg base (L2.CX P w) 2 T.a_are_things T.fd_are_things ["thing", "many"] (sp1 K [.ro d, .v (.int many)] (.ret (.fz (.bool (areThings d many))))) := by
  refine ok_def (m := 1) T.F_are_things sc_are_things rfl rfl fun cdv A outer s G H E hr xo hp hx => ?_
  refine ss_ifL (DW.pt (dw_or (dt_not (dt_val (dv_isi (de_ro 0 rfl) (kit_list d) T.bt.list PyProof.Rows.boot_list T.bt.isinstance))) fun h1 => dw_or1 (dt_not (dt_val
    (dv_all xo (DO.dat (do_lcM0 xo [("one", 2)] (g := tF PyData.bool) (ic_c (f := fun x => x) (fun a => .ro a) (DE.eq (de_ro 0 rfl) (d_dl (by simpa using h1))) (fun _ => .ro)) (blkOk_by (N := ["thing", "many", "one"]) (sc := defScope s_are_things) (by decide +kernel)) (fun _ _ _ _ _ => pg_name (i := 2) sc_are_things.nd rfl (Or.inl rfl)) (fun a _ => tgw_name _ 2 _) (by simp)
      (fun Γ' hK a ha s' H' C' cl' fp' xo => DV.oB (DO.vB (do_call (ok_is_among T _ _ _) (hr.mono (by decide)) T.g_is_among T.F_is_among.kp T.b_is_among hK (da_ro (de_ro 2 rfl) (da_v dv_int (da_v (dv_sub (dv_var 1 rfl) dv_int) da_nil)))))) (Nat.le_trans hz (by decide)))) T.bt.all))))) (fun h => ?_) (fun h => ?_)
  · exact ss_retV dv_bl (by unfold areThings; rw [if_pos h]; rfl)
  · have h' := h
    simp only [Bool.or_eq_false_iff, Bool.not_eq_false'] at h
    have hi := d_nums h.1 h.2
    have hl : (nums d).length ≤ 4000 := by unfold nums; rw [List.length_map]; exact hz
    exact ss_retV (dv_eq (dv_lenSet xo (DE.eq (de_ro 0 rfl) hi) hl T.bt.len T.bt.set) (dv_len (f := dI) (DE.eq (de_ro 0 rfl) hi) T.bt.len)) (by unfold areThings; rw [h']; rfl)


theorem sc_are_shares : FnScope ["thing", "heirs", "things", "told", "share"] ["thing", "heirs", "things"] (defScope s_are_shares) := ⟨rfl, rfl, rfl, by decide +kernel, rfl, by decide +kernel, by decide +kernel⟩
theorem ok_are_shares {P : Program} {w : World} {K : Fg} {mg : Str → Option Value} {base : Heap} (T : Tx K mg) (d : D) (heirs things : Int) (hz : (dsOf d).length ≤ 4000) (hz2 : ∀ x ∈ dsOf d, (dsOf x).length ≤ 4000) (hz3 : (told d).length ≤ 4000) :
    FnOk P w K mg base (L2.CX P w) 3 T.a_are_shares T.fd_are_shares ["thing", "heirs", "things"] (sp1 K [.ro d, .v (.int heirs), .v (.int things)] (.ret (.fz (.bool (areShares d heirs things))))) := by
  refine ok_def (m := 2) T.F_are_shares sc_are_shares rfl rfl fun cdv A outer s G H E hr xo hp hx => ?_
  refine ss_ifL (DW.pt (dw_or (dt_not (dt_val (dv_isi (de_ro 0 rfl) (kit_list d) T.bt.list PyProof.Rows.boot_list T.bt.isinstance))) fun h1 => dw_or1 ((dt_ne (dv_lenD (DE.eq (de_ro 0 rfl) (d_dsOf (by simpa using h1))) T.bt.len) (dv_var 1 rfl))))) (fun h => ?_) (fun h => ?_)
  · exact ss_retV dv_bl (by unfold areShares; rw [if_pos h]; rfl)
  have h' := h
  simp only [Bool.or_eq_false_iff, Bool.not_eq_false'] at h
  obtain ⟨h1, _⟩ := h
  refine ss_ifL (dt_not (dt_val (dv_all xo (DO.dat (do_lcM0 xo [("share", 4)] (g := tF PyData.bool) (ic_c (f := fun x => x) (fun a => .ro a) (DE.eq (de_ro 0 rfl) (d_dl h1)) (fun _ => .ro)) (blkOk_by (N := ["thing", "heirs", "things", "told", "share"]) (sc := defScope s_are_shares) (by decide +kernel)) (fun _ _ _ _ _ => pg_name (i := 4) sc_are_shares.nd rfl (Or.inl rfl)) (fun a _ => tgw_name _ 4 _) (by simp)
      (fun Γ' hK a ha s' H' C' cl' fp' xo => DV.oB (dv_and (DO.vB (do_call (ok_are_things T _ _ (hz2 a ha)) (hr.mono (by decide)) T.g_are_things T.F_are_things.kp T.b_are_things hK (da_ro (de_ro 4 rfl) (da_v (dv_var 2 rfl) da_nil)))) fun q => dv_one
        (dv_eqD (f := dL) xo.hu64 (DE.eq (de_ro 4 rfl) (areThings_d q).2.1) (DO.dat (do_sorted (DE.eq (de_ro 4 rfl) (areThings_d q).2.1) T.bt.sorted))))) (Nat.le_trans hz (by decide)))) T.bt.all))) (fun h => ?_) (fun h => ?_)
  · exact ss_retV dv_bl (by unfold areShares; rw [h', if_pos h]; rfl)
  have h'' := h
  simp only [Bool.not_eq_false'] at h
  have hs : ∀ i, i < (dsOf d).length → (dsOf d).getD i default = dL (nums ((dsOf d).getD i default)) := fun i hi => by
    have hm : (dsOf d).getD i default ∈ dsOf d := by simp [List.getD_eq_getElem?_getD, hi]
    have := List.all_eq_true.mp h _ (List.mem_map.mpr ⟨_, hm, rfl⟩)
    simp only [id, Bool.and_eq_true] at this
    exact (areThings_d this.1).2.1
  refine ss_o 3 xo.nd (do_nil tI) ?_
  refine ss_for1 xo hp 4 (di_r (f := fun x => x) (DE.eq (de_ro 0 rfl) (d_dl h1))) (fun i ρ => (ρ.set 3 (.ow (tl tI (((dsOf d).take i).map nums).flatten))).set 4 .un) (fun i => True) (.same (.same (.same (Wk.eq (by simp) (.un .nil))))) trivial (fun i hi _ => ?_) (fun _ => ?_)
  · have hle : (((dsOf d).take i).map nums).flatten.length + (nums ((dsOf d).getD i default)).length ≤ 4000 := by
      have e : ((dsOf d).take (i + 1)).map nums = ((dsOf d).take i).map nums ++ [nums ((dsOf d).getD i default)] := take_succ_map nums (dsOf d) hi
      have : (((dsOf d).take (i + 1)).map nums).flatten.length ≤ (told d).length := by
        unfold told
        have := List.take_append_drop (i + 1) (dsOf d)
        calc _ ≤ (((dsOf d).take (i + 1)).map nums).flatten.length + (((dsOf d).drop (i + 1)).map nums).flatten.length := Nat.le_add_right _ _
          _ = _ := by rw [← List.length_append, ← List.flatten_append, ← List.map_append, this]
      rw [e] at this
      simp only [List.flatten_append, List.length_append, List.flatten_cons, List.flatten_nil, List.append_nil] at this
      omega
    refine ss_o 3 xo.nd (do_catI (de_owT (g := tl tI) 3 rfl) (DE.eq (de_ro 4 rfl) (hs i hi)) (by omega)) ?_
    exact ss_nil ⟨.same (.same (.same (Wk.eq (by rw [take_succ_map nums (dsOf d) hi]; simp) (.un .nil)))), trivial⟩
  · refine ss_wk (ρ' := [.ro d, .v (.int heirs), .v (.int things), .ow (tl tI (told d)), .un]) (.same (.same (.same (Wk.eq (by rw [List.take_length]; rfl) (.un .nil))))) ?_
    exact ss_retV (dv_eq (dv_lenSet xo (de_owT (g := tl tI) 3 rfl) hz3 T.bt.len T.bt.set) (dv_len (f := dI) (de_owT (g := tl tI) 3 rfl) T.bt.len)) (by unfold areShares; rw [h', h'']; rfl)

theorem sc_need_table : FnScope ["table"] ["table"] (defScope s_need_table) := ⟨rfl, rfl, rfl, by decide +kernel, rfl, by decide +kernel, by decide +kernel⟩
theorem ok_need_table {P : Program} {w : World} {K : Fg} {mg : Str → Option Value} {base : Heap} (T : Tx K mg) (d : D) (hz : (dsOf d).length ≤ 16000000) (hz2 : ∀ x ∈ dsOf d, (dsOf x).length ≤ 16000000) :
    FnOk P w K mg base (L2.CX P w) 4 T.a_need_table T.fd_need_table ["table"] (sp1 K [.ro d] (if isTable d = true then .ret (.fz .none) else .exc T.c_BadTable)) := by
  refine ok_def (m := 0) T.F_need_table sc_need_table rfl rfl fun cdv0 A0 out0 s0 G0 H0 E0 hr xo hp hx => ?_
  refine ss_ifL (dt_not (dt_val (DO.vB (do_call (ok_is_table T _ (by /-need_table.1-/ first | assumption | omega | decide | (exact ⟨by omega, by omega⟩)) (by /-need_table.2-/ first | assumption | omega | decide | (exact ⟨by omega, by omega⟩))) (hr.mono (by decide)) T.g_is_table T.F_is_table.kp T.b_is_table (by exact rfl) (da_ro (de_ro 0 rfl) da_nil))))) (fun h1 => ?_) (fun h1 => ?_)
  ·
    exact raise_BadTable T (hx _ (by rw [if_neg]; simpa using h1))
  show SS _ _ [_] _ _
  exact ss_nil (by rw [if_pos]; simpa using h1)

theorem ok_need_table_y {P : Program} {w : World} {K : Fg} {mg : Str → Option Value} {base : Heap} (T : Tx K mg) (t : List (List Int)) {m : Nat} (h : GoodT t m) :
    FnOk P w K mg base (L2.CX P w) 4 T.a_need_table T.fd_need_table ["table"] (sp1 K [.ro (dLL t)] (.ret (.fz .none))) := by
  have := ok_need_table (P := P) (w := w) (base := base) T (dLL t) (by rw [dsOf_dLL, List.length_map]; have := h.n8; omega) (h.dsz)
  rwa [if_pos h.isTable] at this

theorem sc_need_shares : FnScope ["table", "shares"] ["table", "shares"] (defScope s_need_shares) := ⟨rfl, rfl, rfl, by decide +kernel, rfl, by decide +kernel, by decide +kernel⟩
theorem ok_need_shares {P : Program} {w : World} {K : Fg} {mg : Str → Option Value} {base : Heap} (T : Tx K mg) (t : List (List Int)) (d : D) {m : Nat} (h : GoodT t m) (hz : (dsOf d).length ≤ 4000) (hz2 : ∀ x ∈ dsOf d, (dsOf x).length ≤ 4000) (hz3 : (told d).length ≤ 4000) :
    FnOk P w K mg base (L2.CX P w) 5 T.a_need_shares T.fd_need_shares ["table", "shares"] (sp1 K [.ro ((dl (dl dI)) t), .ro d] (if areShares d t.length m = true then .ret (.fz .none) else .exc T.c_BadShares)) := by
  refine ok_def (m := 0) T.F_need_shares sc_need_shares rfl rfl fun cdv0 A0 out0 s0 G0 H0 E0 hr xo hp hx => ?_
  refine ss_expr (do_call (ok_need_table_y T _ (by /-need_shares.1-/ exact h)) (hr.mono (by decide)) T.g_need_table T.F_need_table.kp T.b_need_table (by exact rfl) (da_ro (de_ro 0 rfl) da_nil)) ?_
  show SS _ _ [_, _] _ _
  refine ss_ifL (dt_not (dt_val (DO.vB (do_call (ok_are_shares T _ _ _ (by /-need_shares.3-/ first | assumption | omega | decide | (exact ⟨by omega, by omega⟩)) (by /-need_shares.4-/ first | assumption | omega | decide | (exact ⟨by omega, by omega⟩)) (by /-need_shares.5-/ first | assumption | omega | decide | (exact ⟨by omega, by omega⟩))) (hr.mono (by decide)) T.g_are_shares T.F_are_shares.kp T.b_are_shares (by exact rfl) (da_ro (de_ro 1 rfl) (da_v (dv_len (f := (dl dI)) (de_ro 0 rfl) T.bt.len) (da_v (dv_len (f := dI) (de_ix (f := (dl dI)) (de_ro 0 rfl) dv_int (by /-need_shares.2-/ have := h.n1; exact ⟨by omega, by omega⟩)) T.bt.len) da_nil))))))) (fun h1 => ?_) (fun h1 => ?_)
  ·
    exact raise_BadShares T (hx _ (by rw [if_neg]; simpa [h.m0] using h1))
  show SS _ _ [_, _] _ _
  exact ss_nil (by rw [if_pos]; simpa [h.m0] using h1)

theorem ok_need_shares_y {P : Program} {w : World} {K : Fg} {mg : Str → Option Value} {base : Heap} (T : Tx K mg) (t s : List (List Int)) {m : Nat} (h : GoodT t m) (hs : GoodS s t.length m) :
    FnOk P w K mg base (L2.CX P w) 5 T.a_need_shares T.fd_need_shares ["table", "shares"] (sp1 K [.ro (dLL t), .ro (dLL s)] (.ret (.fz .none))) := by
  have := ok_need_shares (P := P) (w := w) (base := base) T t (dLL s) h (hs.z1 h) (hs.z2 h) (hs.z3 h)
  rwa [if_pos hs.areShares] at this

theorem sc_summed : FnScope ["row", "things", "thing"] ["row", "things"] (defScope s_summed) := ⟨rfl, rfl, rfl, by decide +kernel, rfl, by decide +kernel, by decide +kernel⟩
theorem ok_summed {P : Program} {w : World} {K : Fg} {mg : Str → Option Value} {base : Heap} (T : Tx K mg) (row things : List Int) (hb : ∀ t ∈ things, inR row.length t) (hl : things.length ≤ 16000000) :
    FnOk P w K mg base (L2.CX P w) 1 T.a_summed T.fd_summed ["row", "things"] (sp1 K [.ro ((dl dI) row), .ro ((dl dI) things)] (.ret (.fz (.int (summed row things))))) := by
  refine ok_def (m := 1) T.F_summed sc_summed rfl rfl fun cdv0 A0 out0 s0 G0 H0 E0 hr xo hp hx => ?_
  exact ss_retV (dv_sum xo (DO.dat (do_lcM0 xo [("thing", 2)] (g := tI)  (ic_c (f := dI) (fun a => .v (.int a)) (de_ro 1 rfl) (fun _ => .v rfl)) (blkOk_by (N := ["row", "things", "thing"]) (sc := defScope s_summed) (by decide +kernel)) (fun _ _ _ _ _ => pg_name (i := 2) sc_summed.nd rfl (Or.inl rfl)) (fun a _ => tgw_name _ 2 _) (by simp) (fun Γ' hK a ha s' H' C' cl' fp' xo => (DV.oI (dv_ix (de_ro 0 rfl) (dv_var 2 rfl) (by /-summed.1-/ exact hb _ ha)))) (by /-summed.2-/ exact hl))) T.bt.sum) (rfl)

theorem sc_feels : FnScope ["table", "shares", "heir", "other"] ["table", "shares", "heir", "other"] (defScope s_feels) := ⟨rfl, rfl, rfl, by decide +kernel, rfl, by decide +kernel, by decide +kernel⟩
theorem ok_feels {P : Program} {w : World} {K : Fg} {mg : Str → Option Value} {base : Heap} (T : Tx K mg) (t s : List (List Int)) (h o : Int) {m : Nat} (g : GoodT t m) (hs : GoodS s t.length m) (hh : inR t.length h) (ho : inR t.length o) :
    FnOk P w K mg base (L2.CX P w) 2 T.a_feels T.fd_feels ["table", "shares", "heir", "other"] (sp1 K [.ro ((dl (dl dI)) t), .ro ((dl (dl dI)) s), .v (.int h), .v (.int o)] (.ret (.fz (.bool (feels t s h o))))) := by
  refine ok_def (m := 0) T.F_feels sc_feels rfl rfl fun cdv0 A0 out0 s0 G0 H0 E0 hr xo hp hx => ?_
  exact ss_retV (dv_gt (DO.vI (do_call (ok_summed T _ _ (by /-feels.3-/ first | exact gs_b g hs hh ho | exact gs_b g hs hh hh) (by /-feels.4-/ first | exact Nat.le_trans (gs_l g hs ho) (by decide) | exact Nat.le_trans (gs_l g hs hh) (by decide))) (hr.mono (by decide)) T.g_summed T.F_summed.kp T.b_summed (by exact rfl) (da_ro (de_ix (f := (dl dI)) (de_ro 0 rfl) (dv_var 2 rfl) (by /-feels.1-/ first | exact hh | exact ho | (rw [hs.n]; exact ho) | (rw [hs.n]; exact hh))) (da_ro (de_ix (f := (dl dI)) (de_ro 1 rfl) (dv_var 3 rfl) (by /-feels.2-/ first | exact hh | exact ho | (rw [hs.n]; exact ho) | (rw [hs.n]; exact hh))) da_nil)))) (DO.vI (do_call (ok_summed T _ _ (by /-feels.7-/ first | exact gs_b g hs hh ho | exact gs_b g hs hh hh) (by /-feels.8-/ first | exact Nat.le_trans (gs_l g hs ho) (by decide) | exact Nat.le_trans (gs_l g hs hh) (by decide))) (hr.mono (by decide)) T.g_summed T.F_summed.kp T.b_summed (by exact rfl) (da_ro (de_ix (f := (dl dI)) (de_ro 0 rfl) (dv_var 2 rfl) (by /-feels.5-/ first | exact hh | exact ho | (rw [hs.n]; exact ho) | (rw [hs.n]; exact hh))) (da_ro (de_ix (f := (dl dI)) (de_ro 1 rfl) (dv_var 2 rfl) (by /-feels.6-/ first | exact hh | exact ho | (rw [hs.n]; exact ho) | (rw [hs.n]; exact hh))) da_nil))))) (rfl)

theorem sc_pairs_of : FnScope ["table", "shares", "found", "heir", "other"] ["table", "shares"] (defScope s_pairs_of) := ⟨rfl, rfl, rfl, by decide +kernel, rfl, by decide +kernel, by decide +kernel⟩
theorem ok_pairs_of {P : Program} {w : World} {K : Fg} {mg : Str → Option Value} {base : Heap} (T : Tx K mg) (t s : List (List Int)) {m : Nat} (g : GoodT t m) (hs : GoodS s t.length m) :
    FnOk P w K mg base (L2.CX P w) 3 T.a_pairs_of T.fd_pairs_of ["table", "shares"] (sp1 K [.ro ((dl (dl dI)) t), .ro ((dl (dl dI)) s)] (.ret ((tl (tF (d2 dI dI))) (pairsOf t s)))) := by
  refine ok_def (m := 3) T.F_pairs_of sc_pairs_of rfl rfl fun cdv0 A0 out0 s0 G0 H0 E0 hr xo hp hx => ?_
  refine ss_o 2 xo.nd (do_nil (tF (d2 dI dI))) ?_
  show SS _ _ [_, _, _, _, _] _ _
  refine ss_for1 xo hp 3 (di_rangeN (dv_len (f := (dl dI)) (de_ro 0 rfl) T.bt.len) (by /-pairs_of.1-/ have := g.n8; omega) T.bt.range) (fun i ρ => (((ρ).set 2 (.ow ((tl (tF (d2 dI dI))) (pAll t s t.length i)))).set 3 .un).set 4 .un) (fun i => True) (.same (.same (Wk.eq (by first | rfl | simp) (.un (.un (.nil)))))) (by first | trivial | simp) (fun i hi hI1 => ?_) (fun hI1 => ?_)
  ·
    show SS _ _ [_, _, _, _, _] _ _
    refine ss_for1 xo hp 4 (di_rangeN (dv_len (f := (dl dI)) (de_ro 0 rfl) T.bt.len) (by /-pairs_of.2-/ have := g.n8; omega) T.bt.range) (fun j ρ => ((ρ).set 2 (.ow ((tl (tF (d2 dI dI))) (pAll t s t.length i ++ pRow t s i j)))).set 4 .un) (fun j => True) (.same (.same (Wk.eq (by rw [pRow_0, List.append_nil]) (.same (.un (.nil)))))) (by first | trivial | simp) (fun j hj hI2 => ?_) (fun hI2 => ?_)
    ·
      show SS _ _ [_, _, _, _, _] _ _
      refine ss_if2 (dt_val (DO.vB (do_call (ok_feels T _ _ _ _ (by /-pairs_of.3-/ exact g) (by /-pairs_of.4-/ exact hs) (by /-pairs_of.5-/ exact ⟨by omega, by omega⟩) (by /-pairs_of.6-/ exact ⟨by omega, by omega⟩)) (hr.mono (by decide)) T.g_feels T.F_feels.kp T.b_feels (by exact rfl) (da_ro (de_ro 0 rfl) (da_ro (de_ro 1 rfl) (da_v (dv_var 3 rfl) (da_v (dv_var 4 rfl) da_nil))))))) (fun h1 => ?_) (fun h1 => ?_)
      ·
        refine ss_app0 (g := (tF (d2 dI dI))) 2 (dpl_var 2 rfl) (DE.oF (f := (d2 dI dI)) (DE.eq (d' := (d2 dI dI) (_, _)) (de_tup (da_v (dv_var 3 rfl) (da_v (dv_var 4 rfl) da_nil))) rfl)) rfl (by /-pairs_of.7-/ exact pr_sz g (by omega) (by omega)) ?_
        show SS _ _ [_, _, _, _, _] _ _
        refine ss_nil ?_
        show SS _ _ [_, _, _, _, _] _ _
        exact ss_nil ⟨.same (.same (Wk.eq (by first | rw [pRow_yes h1, List.append_assoc] | rw [pRow_no h1]) (.same (.un (.nil))))), by first | trivial | simp⟩
      ·
        refine ss_nil ?_
        show SS _ _ [_, _, _, _, _] _ _
        exact ss_nil ⟨.same (.same (Wk.eq (by first | rw [pRow_yes h1, List.append_assoc] | rw [pRow_no h1]) (.same (.un (.nil))))), by first | trivial | simp⟩
    show SS _ _ [_, _, _, _, _] _ _
    exact ss_nil ⟨.same (.same (Wk.eq (by rw [pAll_succ]) (.un (.un (.nil))))), by first | trivial | simp⟩
  show SS _ _ [_, _, _, _, _] _ _
  exact ss_retOw 2 rfl (rfl)

theorem sc_exchanged : FnScope ["shares", "heirs", "found", "place", "share"] ["shares", "heirs"] (defScope s_exchanged) := ⟨rfl, rfl, rfl, by decide +kernel, rfl, by decide +kernel, by decide +kernel⟩
theorem ok_exchanged {P : Program} {w : World} {K : Fg} {mg : Str → Option Value} {base : Heap} (T : Tx K mg) (s : List (List Int)) (r : List Int) (hb : ∀ x ∈ r, inR s.length x) (hz : s.length ≤ 4000) (hz2 : r.length ≤ 4000) :
    FnOk P w K mg base (L2.CX P w) 1 T.a_exchanged T.fd_exchanged ["shares", "heirs"] (sp1 K [.ro ((dl (dl dI)) s), .ro ((dl dI) r)] (.ret ((tl (tl tI)) (exS s r r.length)))) := by
  refine ok_def (m := 3) T.F_exchanged sc_exchanged rfl rfl fun cdv0 A0 out0 s0 G0 H0 E0 hr xo hp hx => ?_
  refine ss_lcM0 2 xo [("share", 4)] (g := (tl tI))  (ic_c (f := (dl dI)) (fun a => .ro ((dl dI) a)) (de_ro 0 rfl) (fun _ => .ro)) (blkOk_by (N := ["shares", "heirs", "found", "place", "share"]) (sc := defScope s_exchanged) (by decide +kernel)) (fun _ _ _ _ _ => pg_name (i := 4) sc_exchanged.nd rfl (Or.inl rfl)) (fun a _ => tgw_name _ 4 _) (by simp) (fun Γ' hK a ha s' H' C' cl' fp' xo => (do_listI (de_ro 4 rfl) T.bt.list)) (by /-exchanged.1-/ omega) ?_
  show SS _ _ [_, _, _, _, _] _ _
  refine ss_re (fun ρ => (ρ).set 2 (.ow ((tl (tl tI)) (s)))) (.same (.same (Wk.eq (by simp) (.same (.same (.nil)))))) ?_
  show SS _ _ [_, _, _, _, _] _ _
  refine ss_for1 xo hp 3 (di_rangeN (dv_len (f := dI) (de_ro 1 rfl) T.bt.len) (by /-exchanged.2-/ omega) T.bt.range) (fun i ρ => ((ρ).set 2 (.ow ((tl (tl tI)) (exS s r i)))).set 3 .un) (fun i => True) (.same (.same (Wk.eq (by rfl) (.un (.same (.nil)))))) (by first | trivial | simp) (fun i hi hI1 => ?_) (fun hI1 => ?_)
  ·
    show SS _ _ [_, _, _, _, _] _ _
    have hn : inR r.length (i : Int) := ⟨by omega, by omega⟩
    have hm : inR r.length (((i : Int) + 1) % (r.length : Int)) := mod_inR (by omega)
    refine ss_st0 (g := (tl tI)) 2 (dpl_var 2 rfl) (dv_ix (de_ro 1 rfl) (dv_var 3 rfl) (by /-exchanged.6-/ first | exact hn | exact hm | exact hb _ (pyAt_mem hm) | (rw [exS_len]; exact hb _ (pyAt_mem hn)))) (do_listI (de_ix (f := (dl dI)) (de_ro 0 rfl) (dv_ix (de_ro 1 rfl) (dv_mod (dv_add (dv_var 3 rfl) dv_int) (dv_len (f := dI) (de_ro 1 rfl) T.bt.len) (by /-exchanged.3-/ omega)) (by /-exchanged.4-/ first | exact hn | exact hm | exact hb _ (pyAt_mem hm) | (rw [exS_len]; exact hb _ (pyAt_mem hn)))) (by /-exchanged.5-/ first | exact hn | exact hm | exact hb _ (pyAt_mem hm) | (rw [exS_len]; exact hb _ (pyAt_mem hn)))) T.bt.list) rfl (by /-exchanged.7-/ first | exact hn | exact hm | exact hb _ (pyAt_mem hm) | (rw [exS_len]; exact hb _ (pyAt_mem hn))) ?_
    show SS _ _ [_, _, _, _, _] _ _
    exact ss_nil ⟨.same (.same (Wk.eq (by rfl) (.un (.same (.nil))))), by first | trivial | simp⟩
  show SS _ _ [_, _, _, _, _] _ _
  exact ss_retOw 2 rfl (rfl)

theorem sc_turned : FnScope ["table", "shares", "heirs", "pairs", "place"] ["table", "shares", "heirs"] (defScope s_turned) := ⟨rfl, rfl, rfl, by decide +kernel, rfl, by decide +kernel, by decide +kernel⟩
theorem ok_turned {P : Program} {w : World} {K : Fg} {mg : Str → Option Value} {base : Heap} (T : Tx K mg) (t s : List (List Int)) (r : List Int) {m : Nat} (g : GoodT t m) (hs : GoodS s t.length m) (wy : GoodW r t.length) (hp9 : ∀ k : Nat, k < r.length → (pyAt r (k : Int), pyAt r (((k : Int) + 1) % (r.length : Int))) ∈ pairsOf t s) :
    FnOk P w K mg base (L2.CX P w) 6 T.a_turned T.fd_turned ["table", "shares", "heirs"] (sp1 K [.ro ((dl (dl dI)) t), .ro ((dl (dl dI)) s), .ro ((dl dI) r)] (.ret ((tl (tl tI)) (exS s r r.length)))) := by
  have two := wy.two; have rl := nodup_bd wy.nd wy.bd; have n8 := g.n8
  refine ok_def (m := 2) T.F_turned sc_turned rfl rfl fun cdv0 A0 out0 s0 G0 H0 E0 hr xo hp hx => ?_
  refine ss_expr (do_call (ok_need_shares_y T _ _ (by /-turned.1-/ exact g) (by /-turned.2-/ exact hs)) (hr.mono (by decide)) T.g_need_shares T.F_need_shares.kp T.b_need_shares (by exact rfl) (da_ro (de_ro 0 rfl) (da_ro (de_ro 1 rfl) da_nil))) ?_
  show SS _ _ [_, _, _, _, _] _ _
  refine ss_ifL (DW.pt (dw_or (dt_not (dt_val (DO.vB (do_call (ok_are_things T _ _ (by /-turned.3-/ rw [dsOf_dLL, List.length_map]; omega)) (hr.mono (by decide)) T.g_are_things T.F_are_things.kp T.b_are_things (by exact rfl) (da_ro (de_ro 2 rfl) (da_v (dv_len (f := (dl dI)) (de_ro 0 rfl) T.bt.len) da_nil)))))) (fun h1 => (dw_or1 (dt_lt (dv_len (f := dI) (de_ro 2 rfl) T.bt.len) dv_int))))) (fun h2 => by exact absurd h2 (by rw [areThings_y (m := t.length) wy.bd wy.nd]; simp; omega)) (fun h2 => ?_)
  show SS _ _ [_, _, _, _, _] _ _
  refine ss_o 3 xo.nd (do_call (ok_pairs_of T _ _ (by /-turned.4-/ exact g) (by /-turned.5-/ exact hs)) (hr.mono (by decide)) T.g_pairs_of T.F_pairs_of.kp T.b_pairs_of (by exact rfl) (da_ro (de_ro 0 rfl) (da_ro (de_ro 1 rfl) da_nil))) ?_
  show SS _ _ [_, _, _, _, _] _ _
  refine ss_for1 xo hp 4 (di_rangeN (dv_len (f := dI) (de_ro 2 rfl) T.bt.len) (by /-turned.6-/ omega) T.bt.range) (fun i ρ => (ρ).set 4 .un) (fun i => True) (.same (.same (.same (.same (.un (.nil)))))) (by first | trivial | simp) (fun i hi hI1 => ?_) (fun hI1 => ?_)
  ·
    show SS _ _ [_, _, _, _, _] _ _
    have hn : inR r.length (i : Int) := ⟨by omega, by omega⟩
    have hm : inR r.length (((i : Int) + 1) % (r.length : Int)) := mod_inR (by omega)
    refine ss_ifL (dt_notInD (f := (d2 dI dI)) xo.hu (DE.eq (d' := (d2 dI dI) (pyAt r (i : Int), pyAt r (((i : Int) + 1) % (r.length : Int)))) (de_tup (da_v (dv_ix (de_ro 2 rfl) (dv_var 4 rfl) (by /-turned.7-/ first | exact hn | exact hm)) (da_v (dv_ix (de_ro 2 rfl) (dv_mod (dv_add (dv_var 4 rfl) dv_int) (dv_len (f := dI) (de_ro 2 rfl) T.bt.len) (by /-turned.8-/ omega)) (by /-turned.9-/ first | exact hn | exact hm)) da_nil))) rfl) (de_owT (g := (tl (tF (d2 dI dI)))) 3 rfl)) (fun h3 => by have q9 := hp9 i hi; simp [q9] at h3) (fun h3 => ?_)
    show SS _ _ [_, _, _, _, _] _ _
    exact ss_nil ⟨.same (.same (.same (.same (.un (.nil))))), by first | trivial | simp⟩
  show SS _ _ [_, _, _, _, _] _ _
  exact ss_ret (do_call (ok_exchanged T _ _ (by /-turned.10-/ exact fun x hx => by rw [hs.n]; have := wy.bd x hx; exact ⟨by omega, by omega⟩) (by /-turned.11-/ rw [hs.n]; omega) (by /-turned.12-/ omega)) (hr.mono (by decide)) T.g_exchanged T.F_exchanged.kp T.b_exchanged (by exact rfl) (da_ro (de_ro 1 rfl) (da_ro (de_ro 2 rfl) da_nil))) (rfl)

end Th

set_option Elab.async false
set_option linter.all false
set_option maxRecDepth 100000
set_option maxHeartbeats 2000000
namespace Th
open PySem L2 DL
theorem sc__law_at : FnScope ["_law_script", "_law_k"] ["_law_script", "_law_k"] (defScope s__law_at) := ⟨rfl, rfl, rfl, by decide +kernel, rfl, by decide +kernel, by decide +kernel⟩
theorem ok__law_at {P : Program} {w : World} {K : Fg} {mg : Str → Option Value} {base : Heap} (T : Tx K mg) (ns : List Int) (k : Int) (hk : 0 ≤ k) :
    FnOk P w K mg base (L2.CX P w) 1 T.a__law_at T.fd__law_at ["_law_script", "_law_k"] (sp1 K [.sc ns, .v (.int k)] (.ret (.fz (.int (lAt ns k))))) := by
  refine ok_def (m := 0) T.F__law_at sc__law_at rfl rfl fun cdv0 A0 out0 s0 G0 H0 E0 hr xo hp hx => ?_
  refine ss_ifL (dt_lt (dv_var 1 rfl) (dv_lenS rfl (ds_var 0 rfl) T.bt.len)) (fun h1 => ?_) (fun h1 => ?_)
  ·
    exact ss_retV (dv_ixS rfl (ds_var 0 rfl) (dv_var 1 rfl) (by /-_law_at.1-/ exact ⟨by omega, of_decide_eq_true h1⟩)) (by unfold lAt; rw [if_pos (of_decide_eq_true h1)]; rfl)
  show SS _ _ [_, _] _ _
  exact ss_retV dv_int (by unfold lAt; rw [if_neg (of_decide_eq_false h1)]; rfl)

theorem sc__law_mixed : FnScope ["_law_cell", "_law_k"] ["_law_cell", "_law_k"] (defScope s__law_mixed) := ⟨rfl, rfl, rfl, by decide +kernel, rfl, by decide +kernel, by decide +kernel⟩
theorem ok__law_mixed {P : Program} {w : World} {K : Fg} {mg : Str → Option Value} {base : Heap} (T : Tx K mg) (c k : Int)  :
    FnOk P w K mg base (L2.CX P w) 1 T.a__law_mixed T.fd__law_mixed ["_law_cell", "_law_k"] (sp1 K [.v (.int c), .v (.int k)] (.ret (.fz (.int (lMixed c k))))) := by
  refine ok_def (m := 0) T.F__law_mixed sc__law_mixed rfl rfl fun cdv0 A0 out0 s0 G0 H0 E0 hr xo hp hx => ?_
  exact ss_retV (dv_mod (dv_mul (dv_add (dv_add (dv_var 0 rfl) (dv_mul dv_int (dv_var 1 rfl) (.inl ⟨by decide, by decide⟩))) dv_int) dv_int (.inr ⟨by decide, by decide⟩)) dv_int (by decide)) (rfl)

theorem sc__law_heirs : FnScope ["_law_cell"] ["_law_cell"] (defScope s__law_heirs) := ⟨rfl, rfl, rfl, by decide +kernel, rfl, by decide +kernel, by decide +kernel⟩
theorem ok__law_heirs {P : Program} {w : World} {K : Fg} {mg : Str → Option Value} {base : Heap} (T : Tx K mg) (c : Int)  :
    FnOk P w K mg base (L2.CX P w) 1 T.a__law_heirs T.fd__law_heirs ["_law_cell"] (sp1 K [.v (.int c)] (.ret (.fz (.int (lHeirs c))))) := by
  refine ok_def (m := 0) T.F__law_heirs sc__law_heirs rfl rfl fun cdv0 A0 out0 s0 G0 H0 E0 hr xo hp hx => ?_
  refine ss_ifL (dt_eq (dv_mod (dv_fdiv (dv_var 0 rfl) dv_int ⟨by decide, by decide⟩) dv_int (by decide)) dv_int) (fun h1 => ?_) (fun h1 => ?_)
  ·
    exact ss_retV (dv_add dv_int (dv_mod (dv_fdiv (dv_var 0 rfl) dv_int ⟨by decide, by decide⟩) dv_int (by decide))) (by unfold lHeirs; rw [if_pos (of_decide_eq_true h1)]; rfl)
  show SS _ _ [_] _ _
  exact ss_retV (dv_add dv_int (dv_mod (dv_var 0 rfl) dv_int (by decide))) (by unfold lHeirs; rw [if_neg (of_decide_eq_false h1)]; rfl)

theorem sc__law_worth : FnScope ["_law_number", "_law_mode"] ["_law_number", "_law_mode"] (defScope s__law_worth) := ⟨rfl, rfl, rfl, by decide +kernel, rfl, by decide +kernel, by decide +kernel⟩
theorem ok__law_worth {P : Program} {w : World} {K : Fg} {mg : Str → Option Value} {base : Heap} (T : Tx K mg) (n m : Int) (hm : 0 ≤ m ∧ m < 5) :
    FnOk P w K mg base (L2.CX P w) 1 T.a__law_worth T.fd__law_worth ["_law_number", "_law_mode"] (sp1 K [.v (.int n), .v (.int m)] (.ret (.fz (.int (lWorth n m))))) := by
  refine ok_def (m := 0) T.F__law_worth sc__law_worth rfl rfl fun cdv0 A0 out0 s0 G0 H0 E0 hr xo hp hx => ?_
  refine ss_ifL (dt_eq (dv_var 1 rfl) dv_int) (fun h1 => ?_) (fun h1 => ?_)
  ·
    exact ss_retV (dv_mod (dv_var 0 rfl) dv_int (by decide)) (by unfold lWorth; rw [if_pos (of_decide_eq_true h1)]; rfl)
  show SS _ _ [_, _] _ _
  refine ss_ifL (dt_eq (dv_var 1 rfl) dv_int) (fun h2 => ?_) (fun h2 => ?_)
  ·
    exact ss_retV (dv_sub dv_int (dv_mod (dv_var 0 rfl) dv_int (by decide))) (by unfold lWorth; rw [if_neg (of_decide_eq_false h1), if_pos (of_decide_eq_true h2)]; rfl)
  show SS _ _ [_, _] _ _
  exact ss_retV (dv_mod (dv_var 0 rfl) (dv_ix (DO.dat (DO.eq (t' := tl tI [_, _, _]) (do_lst (da_v dv_int (da_v dv_int (da_v dv_int da_nil)))) rfl)) (dv_sub (dv_var 1 rfl) dv_int) (by /-_law_worth.1-/ exact lw_inR hm h1 h2)) (by /-_law_worth.2-/ exact lw_mod hm h1 h2)) (by unfold lWorth; rw [if_neg (of_decide_eq_false h1), if_neg (of_decide_eq_false h2)]; rfl)

theorem sc__law_table : FnScope ["_law_script", "_law_heirs_here", "_law_many", "_law_mode", "_law_rows", "_law_heir", "_law_row", "_law_thing", "_law_k"] ["_law_script", "_law_heirs_here", "_law_many"] (defScope s__law_table) := ⟨rfl, rfl, rfl, by decide +kernel, rfl, by decide +kernel, by decide +kernel⟩
theorem ok__law_table {P : Program} {w : World} {K : Fg} {mg : Str → Option Value} {base : Heap} (T : Tx K mg) (ns : List Int) (n many : Nat) (hn : n ≤ 8) (hm : many ≤ 40) :
    FnOk P w K mg base (L2.CX P w) 2 T.a__law_table T.fd__law_table ["_law_script", "_law_heirs_here", "_law_many"] (sp1 K [.sc ns, .v (.int ((n : Nat) : Int)), .v (.int ((many : Nat) : Int))] (.ret ((tl (tl tI)) (lTable ns n many)))) := by
  refine ok_def (m := 6) T.F__law_table sc__law_table rfl rfl fun cdv0 A0 out0 s0 G0 H0 E0 hr xo hp hx => ?_
  refine ss_v 3 xo.nd (dv_mod (DO.vI (do_call (ok__law_at T _ _ (by /-_law_table.1-/ first | assumption | omega | decide | (exact ⟨by omega, by omega⟩))) (hr.mono (by decide)) T.g__law_at T.F__law_at.kp T.b__law_at (by exact rfl) (da_sc (ds_var 0 rfl) (da_v dv_int da_nil)))) dv_int (by decide)) ?_
  show SS _ _ [_, _, _, _, _, _, _, _, _] _ _
  refine ss_o 4 xo.nd (do_nil (tl tI)) ?_
  show SS _ _ [_, _, _, _, _, _, _, _, _] _ _
  refine ss_for1 xo hp 5 (di_rangeN (dv_var 1 rfl) (by /-_law_table.2-/ first | assumption | omega | decide | (exact ⟨by omega, by omega⟩)) T.bt.range) (fun i ρ => (((((ρ).set 4 (.ow ((tl (tl tI)) ((List.range i).map fun h => lRow ns many (lAt ns 2 % 5) h many)))).set 5 .un).set 6 .un).set 7 .un).set 8 .un) (fun i => True) (.same (.same (.same (.same (Wk.eq (by first | rfl | simp) (.un (.un (.un (.un (.nil)))))))))) (by first | trivial | simp) (fun i hi hI1 => ?_) (fun hI1 => ?_)
  ·
    show SS _ _ [_, _, _, _, _, _, _, _, _] _ _
    refine ss_o 6 xo.nd (do_nil tI) ?_
    show SS _ _ [_, _, _, _, _, _, _, _, _] _ _
    refine ss_for1 xo hp 7 (di_rangeN (dv_var 2 rfl) (by /-_law_table.3-/ first | assumption | omega | decide | (exact ⟨by omega, by omega⟩)) T.bt.range) (fun j ρ => (((ρ).set 6 (.ow ((tl tI) (lRow ns many (lAt ns 2 % 5) i j)))).set 7 .un).set 8 .un) (fun j => True) (.same (.same (.same (.same (.same (.same (Wk.eq (by simp [lRow]) (.un (.un (.nil)))))))))) (by first | trivial | simp) (fun j hj hI2 => ?_) (fun hI2 => ?_)
    ·
      show SS _ _ [_, _, _, _, _, _, _, _, _] _ _
      refine ss_v 8 xo.nd (dv_add (dv_mul (dv_var 5 rfl) (dv_var 2 rfl) (by /-_law_table.4-/ exact .inl ⟨by omega, by omega⟩)) (dv_var 7 rfl)) ?_
      show SS _ _ [_, _, _, _, _, _, _, _, _] _ _
      refine ss_app0 (g := tI) 6 (dpl_var 6 rfl) (DV.oI (DO.vI (do_call (ok__law_worth T _ _ (by /-_law_table.6-/ first | assumption | omega | decide | (exact ⟨by omega, by omega⟩))) (hr.mono (by decide)) T.g__law_worth T.F__law_worth.kp T.b__law_worth (by exact rfl) (da_v (dv_fdiv (DO.vI (do_call (ok__law_mixed T _ _ ) (hr.mono (by decide)) T.g__law_mixed T.F__law_mixed.kp T.b__law_mixed (by exact rfl) (da_v (DO.vI (do_call (ok__law_at T _ _ (by /-_law_table.5-/ first | assumption | omega | decide | (exact ⟨by omega, by omega⟩))) (hr.mono (by decide)) T.g__law_at T.F__law_at.kp T.b__law_at (by exact rfl) (da_sc (ds_var 0 rfl) (da_v (dv_add dv_int (dv_mod (dv_var 8 rfl) dv_int (by decide))) da_nil)))) (da_v (dv_var 8 rfl) da_nil)))) dv_int ⟨by decide, by decide⟩) (da_v (dv_var 3 rfl) da_nil))))) rfl (by /-_law_table.7-/ first | (simp; omega) | (simp [lRow]; omega)) ?_
      show SS _ _ [_, _, _, _, _, _, _, _, _] _ _
      exact ss_nil ⟨.same (.same (.same (.same (.same (.same (Wk.eq (by simp [lRow, List.range_succ, lCell]) (.un (.un (.nil))))))))), by first | trivial | simp⟩
    show SS _ _ [_, _, _, _, _, _, _, _, _] _ _
    refine ss_app0V (g := (tl tI)) 4 6 (dpl_var 4 rfl) rfl rfl (by decide) (by /-_law_table.8-/ first | (simp; omega) | (simp [lRow]; omega)) ?_
    show SS _ _ [_, _, _, _, _, _, _, _, _] _ _
    exact ss_nil ⟨.same (.same (.same (.same (Wk.eq (by simp [List.range_succ]) (.un (.un (.un (.un (.nil))))))))), by first | trivial | simp⟩
  show SS _ _ [_, _, _, _, _, _, _, _, _] _ _
  exact ss_retOw 4 rfl (rfl)

theorem sc__law_sum : FnScope ["_law_row", "_law_things_here", "_law_found", "_law_thing"] ["_law_row", "_law_things_here"] (defScope s__law_sum) := ⟨rfl, rfl, rfl, by decide +kernel, rfl, by decide +kernel, by decide +kernel⟩
theorem ok__law_sum {P : Program} {w : World} {K : Fg} {mg : Str → Option Value} {base : Heap} (T : Tx K mg) (row things : List Int) (hb : ∀ t ∈ things, inR row.length t) :
    FnOk P w K mg base (L2.CX P w) 1 T.a__law_sum T.fd__law_sum ["_law_row", "_law_things_here"] (sp1 K [.ro ((dl dI) row), .ro ((dl dI) things)] (.ret (.fz (.int (summed row things))))) := by
  refine ok_def (m := 2) T.F__law_sum sc__law_sum rfl rfl fun cdv0 A0 out0 s0 G0 H0 E0 hr xo hp hx => ?_
  refine ss_v 2 xo.nd dv_int ?_
  show SS _ _ [_, _, _, _] _ _
  refine ss_for1 xo hp 3 (di_rI (de_ro 1 rfl)) (fun i ρ => ((ρ).set 2 (.v (.int (summed row (things.take i))))).set 3 .un) (fun i => True) (.same (.same (Wk.eq (by first | rfl | simp) (.un (.nil))))) (by first | trivial | simp) (fun i hi hI1 => ?_) (fun hI1 => ?_)
  ·
    show SS _ _ [_, _, _, _] _ _
    refine ss_v 2 xo.nd (dv_add (dv_var 2 rfl) (dv_ix (de_ro 0 rfl) (dv_var 3 rfl) (by /-_law_sum.1-/ exact hb _ (getD_mem hi)))) ?_
    show SS _ _ [_, _, _, _] _ _
    exact ss_nil ⟨.same (.same (Wk.eq (by rw [summed_take hi]) (.un (.nil)))), by first | trivial | simp⟩
  show SS _ _ [_, _, _, _] _ _
  exact ss_retV (dv_var 2 rfl) (by rw [List.take_length]; rfl)

theorem sc__law_envies : FnScope ["_law_rows", "_law_held", "_law_found", "_law_one", "_law_other"] ["_law_rows", "_law_held"] (defScope s__law_envies) := ⟨rfl, rfl, rfl, by decide +kernel, rfl, by decide +kernel, by decide +kernel⟩
theorem ok__law_envies {P : Program} {w : World} {K : Fg} {mg : Str → Option Value} {base : Heap} (T : Tx K mg) (t s : List (List Int)) {m : Nat} (g : GoodT t m) (hs : GoodS s t.length m) :
    FnOk P w K mg base (L2.CX P w) 2 T.a__law_envies T.fd__law_envies ["_law_rows", "_law_held"] (sp1 K [.ro ((dl (dl dI)) t), .ro ((dl (dl dI)) s)] (.ret ((tl (tF (d2 dI dI))) (pairsOf t s)))) := by
  refine ok_def (m := 3) T.F__law_envies sc__law_envies rfl rfl fun cdv0 A0 out0 s0 G0 H0 E0 hr xo hp hx => ?_
  refine ss_o 2 xo.nd (do_nil (tF (d2 dI dI))) ?_
  show SS _ _ [_, _, _, _, _] _ _
  refine ss_for1 xo hp 3 (di_rangeN (dv_len (f := (dl dI)) (de_ro 0 rfl) T.bt.len) (by /-_law_envies.1-/ have := g.n8; omega) T.bt.range) (fun i ρ => (((ρ).set 2 (.ow ((tl (tF (d2 dI dI))) (pAll t s t.length i)))).set 3 .un).set 4 .un) (fun i => True) (.same (.same (Wk.eq (by first | rfl | simp) (.un (.un (.nil)))))) (by first | trivial | simp) (fun i hi hI1 => ?_) (fun hI1 => ?_)
  ·
    show SS _ _ [_, _, _, _, _] _ _
    refine ss_for1 xo hp 4 (di_rangeN (dv_len (f := (dl dI)) (de_ro 0 rfl) T.bt.len) (by /-_law_envies.2-/ have := g.n8; omega) T.bt.range) (fun j ρ => ((ρ).set 2 (.ow ((tl (tF (d2 dI dI))) (pAll t s t.length i ++ pRow t s i j)))).set 4 .un) (fun j => True) (.same (.same (Wk.eq (by rw [pRow_0, List.append_nil]) (.same (.un (.nil)))))) (by first | trivial | simp) (fun j hj hI2 => ?_) (fun hI2 => ?_)
    ·
      show SS _ _ [_, _, _, _, _] _ _
      refine ss_if2 (dt_gt (DO.vI (do_call (ok__law_sum T _ _ (by /-_law_envies.5-/ first | exact gs_b g hs ⟨by omega, by omega⟩ ⟨by omega, by omega⟩ | exact gs_b g hs hh ho | exact gs_b g hs hh hh)) (hr.mono (by decide)) T.g__law_sum T.F__law_sum.kp T.b__law_sum (by exact rfl) (da_ro (de_ix (f := (dl dI)) (de_ro 0 rfl) (dv_var 3 rfl) (by /-_law_envies.3-/ first | exact ⟨by omega, by omega⟩ | exact ⟨by omega, by have := hs.n; omega⟩)) (da_ro (de_ix (f := (dl dI)) (de_ro 1 rfl) (dv_var 4 rfl) (by /-_law_envies.4-/ first | exact ⟨by omega, by omega⟩ | exact ⟨by omega, by have := hs.n; omega⟩)) da_nil)))) (DO.vI (do_call (ok__law_sum T _ _ (by /-_law_envies.8-/ first | exact gs_b g hs ⟨by omega, by omega⟩ ⟨by omega, by omega⟩ | exact gs_b g hs hh ho | exact gs_b g hs hh hh)) (hr.mono (by decide)) T.g__law_sum T.F__law_sum.kp T.b__law_sum (by exact rfl) (da_ro (de_ix (f := (dl dI)) (de_ro 0 rfl) (dv_var 3 rfl) (by /-_law_envies.6-/ first | exact ⟨by omega, by omega⟩ | exact ⟨by omega, by have := hs.n; omega⟩)) (da_ro (de_ix (f := (dl dI)) (de_ro 1 rfl) (dv_var 3 rfl) (by /-_law_envies.7-/ first | exact ⟨by omega, by omega⟩ | exact ⟨by omega, by have := hs.n; omega⟩)) da_nil))))) (fun h1 => ?_) (fun h1 => ?_)
      ·
        refine ss_app0 (g := (tF (d2 dI dI))) 2 (dpl_var 2 rfl) (DE.oF (f := (d2 dI dI)) (DE.eq (d' := (d2 dI dI) (_, _)) (de_tup (da_v (dv_var 3 rfl) (da_v (dv_var 4 rfl) da_nil))) rfl)) rfl (by /-_law_envies.9-/ exact pr_sz g (by omega) (by omega)) ?_
        show SS _ _ [_, _, _, _, _] _ _
        refine ss_nil ?_
        show SS _ _ [_, _, _, _, _] _ _
        exact ss_nil ⟨.same (.same (Wk.eq (by first | rw [pRow_yes (by exact h1), List.append_assoc] | rw [pRow_no (by exact h1)]) (.same (.un (.nil))))), by first | trivial | simp⟩
      ·
        refine ss_nil ?_
        show SS _ _ [_, _, _, _, _] _ _
        exact ss_nil ⟨.same (.same (Wk.eq (by first | rw [pRow_yes (by exact h1), List.append_assoc] | rw [pRow_no (by exact h1)]) (.same (.un (.nil))))), by first | trivial | simp⟩
    show SS _ _ [_, _, _, _, _] _ _
    exact ss_nil ⟨.same (.same (Wk.eq (by rw [pAll_succ]) (.un (.un (.nil))))), by first | trivial | simp⟩
  show SS _ _ [_, _, _, _, _] _ _
  exact ss_retOw 2 rfl (rfl)

theorem sc__law_copy : FnScope ["_law_rows", "_law_row"] ["_law_rows"] (defScope s__law_copy) := ⟨rfl, rfl, rfl, by decide +kernel, rfl, by decide +kernel, by decide +kernel⟩
theorem ok__law_copy {P : Program} {w : World} {K : Fg} {mg : Str → Option Value} {base : Heap} (T : Tx K mg) (rows : List (List Int)) (hz : rows.length ≤ 16000000) :
    FnOk P w K mg base (L2.CX P w) 1 T.a__law_copy T.fd__law_copy ["_law_rows"] (sp1 K [.ro ((dl (dl dI)) rows)] (.ret ((tl (tl tI)) (rows)))) := by
  refine ok_def (m := 1) T.F__law_copy sc__law_copy rfl rfl fun cdv0 A0 out0 s0 G0 H0 E0 hr xo hp hx => ?_
  exact ss_ret (do_lcM0 xo [("_law_row", 1)] (g := (tl tI))  (ic_c (f := (dl dI)) (fun a => .ro ((dl dI) a)) (de_ro 0 rfl) (fun _ => .ro)) (blkOk_by (N := ["_law_rows", "_law_row"]) (sc := defScope s__law_copy) (by decide +kernel)) (fun _ _ _ _ _ => pg_name (i := 1) sc__law_copy.nd rfl (Or.inl rfl)) (fun a _ => tgw_name _ 1 _) (by simp) (fun Γ' hK a ha s' H' C' cl' fp' xo => (do_listI (de_ro 1 rfl) T.bt.list)) (by /-_law_copy.1-/ first | assumption | omega | decide | (exact ⟨by omega, by omega⟩))) (by simp)

theorem sc__law_whole : FnScope ["_law_found"] ["_law_found"] (defScope s__law_whole) := ⟨rfl, rfl, rfl, by decide +kernel, rfl, by decide +kernel, by decide +kernel⟩
theorem ok__law_whole {P : Program} {w : World} {K : Fg} {mg : Str → Option Value} {base : Heap} (T : Tx K mg) (d : D)  :
    FnOk P w K mg base (L2.CX P w) 1 T.a__law_whole T.fd__law_whole ["_law_found"] (sp1 K [.ro d] (.ret (.fz (.bool ((isInt d && !isBool d)))))) := by
  refine ok_def (m := 0) T.F__law_whole sc__law_whole rfl rfl fun cdv0 A0 out0 s0 G0 H0 E0 hr xo hp hx => ?_
  exact ss_retV (dv_and (dv_isi (de_ro 0 rfl) (kit_int _) T.bt.int PyProof.Rows.boot_int T.bt.isinstance) (fun h1 => (dv_one (dv_not (dv_isi (de_ro 0 rfl) (kit_bool _) T.bt.bool PyProof.Rows.boot_bool T.bt.isinstance))))) (rfl)

theorem sc__law_around : FnScope ["_law_script", "_law_heirs_here", "_law_way_here", "_law_rows", "_law_k", "_law_own"] ["_law_script", "_law_heirs_here", "_law_way_here"] (defScope s__law_around) := ⟨rfl, rfl, rfl, by decide +kernel, rfl, by decide +kernel, by decide +kernel⟩
theorem ok__law_around {P : Program} {w : World} {K : Fg} {mg : Str → Option Value} {base : Heap} (T : Tx K mg) (ns : List Int) (n : Nat) (h2 : 2 ≤ n) (h8 : n ≤ 8) :
    FnOk P w K mg base (L2.CX P w) 3 T.a__law_around T.fd__law_around ["_law_script", "_law_heirs_here", "_law_way_here"] (sp1 K [.sc ns, .v (.int ((n : Nat) : Int)), .ro ((dl dI) (lWay ns n))] (.ret ((tl (tl tI)) (lAround ns n)))) := by
  have kb := lWayK_bd ns h2; have g := lTable_good ns (n := n) (many := n) (by omega) h8 (by omega); have hl : (lTable ns n n).length = n := by simp [lTable]
  have wy := lWay_good ns h2; have hx9 : 0 ≤ lAt ns 51 % 999 ∧ lAt ns 51 % 999 < 999 := by omega
  have wl : (lWay ns n).length = lWayK ns n := by unfold lWay; rw [popS_len2]
  refine ok_def (m := 3) T.F__law_around sc__law_around rfl rfl fun cdv0 A0 out0 s0 G0 H0 E0 hr xo hp hx => ?_
  refine ss_o 3 xo.nd (do_call (ok__law_table T _ _ _ (by /-_law_around.1-/ omega) (by /-_law_around.2-/ omega)) (hr.mono (by decide)) T.g__law_table T.F__law_table.kp T.b__law_table (by exact rfl) (da_sc (ds_var 0 rfl) (da_v (dv_var 1 rfl) (da_v (dv_var 1 rfl) da_nil)))) ?_
  show SS _ _ [_, _, _, _, _, _] _ _
  refine ss_for1 xo hp 4 (di_rangeN (dv_len (f := dI) (de_ro 2 rfl) T.bt.len) (by /-_law_around.3-/ omega) T.bt.range) (fun i ρ => (((ρ).set 3 (.ow ((tl (tl tI)) (arS (lTable ns n n) (lWay ns n) (lAt ns 51 % 999) i)))).set 4 .un).set 5 .un) (fun i => True) (.same (.same (.same (Wk.eq (by rfl) (.un (.un (.nil))))))) (by first | trivial | simp) (fun i hi hI1 => ?_) (fun hI1 => ?_)
  ·
    show SS _ _ [_, _, _, _, _, _] _ _
    obtain ⟨q1, q2⟩ := arS_good g hl wy hx9 i (by omega)
    obtain ⟨b1, b2⟩ := way_bd wy hi
    have X1 := gx q1 q2 b1 b1
    have ob := arOwn_bd q1 (a := pyAt (lWay ns n) ((i : Int) - 1)) X1.1 ⟨by omega, by omega⟩
    have X2 := gx (set2_good (a := pyAt (lWay ns n) ((i : Int) - 1)) (b := pyAt (lWay ns n) ((i : Int) - 1)) (v := arOwn (arS (lTable ns n n) (lWay ns n) (lAt ns 51 % 999) i) (pyAt (lWay ns n) ((i : Int) - 1))) q1 b1.1 (by omega)) (by rw [set2_len]; exact q2) b1 b2
    refine ss_v 5 xo.nd (DV.eq (y := .int (arOwn (arS (lTable ns n n) (lWay ns n) (lAt ns 51 % 999) i) (pyAt (lWay ns n) ((i : Int) - 1)))) (dv_min2 xo (dv_ix (de_ix (f := (dl dI)) (de_owT (g := (tl (tl tI))) 3 rfl) (dv_ix (de_ro 2 rfl) (dv_sub (dv_var 4 rfl) dv_int) (by /-_law_around.4-/ first | exact (way_in wy hi).1 | exact (way_in wy hi).2 | exact X1.1 | exact X1.2.1 | exact X1.2.2 | exact X2.1 | exact X2.2.1 | exact X2.2.2)) (by /-_law_around.5-/ first | exact (way_in wy hi).1 | exact (way_in wy hi).2 | exact X1.1 | exact X1.2.1 | exact X1.2.2 | exact X2.1 | exact X2.2.1 | exact X2.2.2)) (dv_ix (de_ro 2 rfl) (dv_sub (dv_var 4 rfl) dv_int) (by /-_law_around.6-/ first | exact (way_in wy hi).1 | exact (way_in wy hi).2 | exact X1.1 | exact X1.2.1 | exact X1.2.2 | exact X2.1 | exact X2.2.1 | exact X2.2.2)) (by /-_law_around.7-/ first | exact (way_in wy hi).1 | exact (way_in wy hi).2 | exact X1.1 | exact X1.2.1 | exact X1.2.2 | exact X2.1 | exact X2.2.1 | exact X2.2.2)) dv_int T.bt.min) (by /-_law_around.8-/ rfl)) ?_
    show SS _ _ [_, _, _, _, _, _] _ _
    refine ss_st1 (g := tI) 3 (dpl_ix1 3 (dpl_var 3 rfl) (dv_ix (de_ro 2 rfl) (dv_sub (dv_var 4 rfl) dv_int) (by /-_law_around.9-/ first | exact (way_in wy hi).1 | exact (way_in wy hi).2 | exact X1.1 | exact X1.2.1 | exact X1.2.2 | exact X2.1 | exact X2.2.1 | exact X2.2.2)) rfl (by /-_law_around.10-/ first | exact (way_in wy hi).1 | exact (way_in wy hi).2 | exact X1.1 | exact X1.2.1 | exact X1.2.2 | exact X2.1 | exact X2.2.1 | exact X2.2.2)) (dv_ix (de_ro 2 rfl) (dv_sub (dv_var 4 rfl) dv_int) (by /-_law_around.11-/ first | exact (way_in wy hi).1 | exact (way_in wy hi).2 | exact X1.1 | exact X1.2.1 | exact X1.2.2 | exact X2.1 | exact X2.2.1 | exact X2.2.2)) (DV.oI (dv_var 5 rfl)) rfl (ixN_pyIx (by /-_law_around.12-/ first | exact (way_in wy hi).1 | exact (way_in wy hi).2 | exact X1.1 | exact X1.2.1 | exact X1.2.2 | exact X2.1 | exact X2.2.1 | exact X2.2.2)).2 (by /-_law_around.13-/ first | exact (way_in wy hi).1 | exact (way_in wy hi).2 | exact X1.1 | exact X1.2.1 | exact X1.2.2 | exact X2.1 | exact X2.2.1 | exact X2.2.2) ?_
    show SS _ _ [_, _, _, _, _, _] _ _
    refine ss_re (fun ρ => (ρ).set 3 (.ow ((tl (tl tI)) (set2 (arS (lTable ns n n) (lWay ns n) (lAt ns 51 % 999) i) (pyAt (lWay ns n) ((i : Int) - 1)) (pyAt (lWay ns n) ((i : Int) - 1)) (arOwn (arS (lTable ns n n) (lWay ns n) (lAt ns 51 % 999) i) (pyAt (lWay ns n) ((i : Int) - 1))))))) (.same (.same (.same (Wk.eq (by rfl) (.same (.same (.nil))))))) ?_
    show SS _ _ [_, _, _, _, _, _] _ _
    refine ss_st1 (g := tI) 3 (dpl_ix1 3 (dpl_var 3 rfl) (dv_ix (de_ro 2 rfl) (dv_sub (dv_var 4 rfl) dv_int) (by /-_law_around.15-/ first | exact (way_in wy hi).1 | exact (way_in wy hi).2 | exact X1.1 | exact X1.2.1 | exact X1.2.2 | exact X2.1 | exact X2.2.1 | exact X2.2.2)) rfl (by /-_law_around.16-/ first | exact (way_in wy hi).1 | exact (way_in wy hi).2 | exact X1.1 | exact X1.2.1 | exact X1.2.2 | exact X2.1 | exact X2.2.1 | exact X2.2.2)) (dv_ix (de_ro 2 rfl) (dv_var 4 rfl) (by /-_law_around.17-/ first | exact (way_in wy hi).1 | exact (way_in wy hi).2 | exact X1.1 | exact X1.2.1 | exact X1.2.2 | exact X2.1 | exact X2.2.1 | exact X2.2.2)) (DV.oI (dv_add (dv_add (dv_var 5 rfl) dv_int) (dv_mod (DO.vI (do_call (ok__law_at T _ _ (by /-_law_around.14-/ first | assumption | omega | decide | (exact ⟨by omega, by omega⟩))) (hr.mono (by decide)) T.g__law_at T.F__law_at.kp T.b__law_at (by exact rfl) (da_sc (ds_var 0 rfl) (da_v dv_int da_nil)))) dv_int (by decide)))) rfl (ixN_pyIx (by /-_law_around.18-/ first | exact (way_in wy hi).1 | exact (way_in wy hi).2 | exact X1.1 | exact X1.2.1 | exact X1.2.2 | exact X2.1 | exact X2.2.1 | exact X2.2.2)).2 (by /-_law_around.19-/ first | exact (way_in wy hi).1 | exact (way_in wy hi).2 | exact X1.1 | exact X1.2.1 | exact X1.2.2 | exact X2.1 | exact X2.2.1 | exact X2.2.2) ?_
    show SS _ _ [_, _, _, _, _, _] _ _
    exact ss_nil ⟨.same (.same (.same (Wk.eq (by rfl) (.un (.un (.nil)))))), by first | trivial | simp⟩
  show SS _ _ [_, _, _, _, _, _] _ _
  exact ss_retOw 3 rfl (rfl)

theorem sc__law_way : FnScope ["_law_script", "_law_heirs_here", "_law_left", "_law_way_here", "_law_k"] ["_law_script", "_law_heirs_here"] (defScope s__law_way) := ⟨rfl, rfl, rfl, by decide +kernel, rfl, by decide +kernel, by decide +kernel⟩
theorem ok__law_way {P : Program} {w : World} {K : Fg} {mg : Str → Option Value} {base : Heap} (T : Tx K mg) (ns : List Int) (n : Nat) (h2 : 2 ≤ n) (h8 : n ≤ 8) :
    FnOk P w K mg base (L2.CX P w) 2 T.a__law_way T.fd__law_way ["_law_script", "_law_heirs_here"] (sp1 K [.sc ns, .v (.int ((n : Nat) : Int))] (.ret ((tl tI) (lWay ns n)))) := by
  have kb := lWayK_bd ns h2
  refine ok_def (m := 3) T.F__law_way sc__law_way rfl rfl fun cdv0 A0 out0 s0 G0 H0 E0 hr xo hp hx => ?_
  refine ss_o 2 xo.nd (do_listRgN xo (dv_var 1 rfl) (by /-_law_way.1-/ omega) T.bt.list T.bt.range) ?_
  show SS _ _ [_, _, _, _, _] _ _
  refine ss_o 3 xo.nd (do_nil tI) ?_
  show SS _ _ [_, _, _, _, _] _ _
  refine ss_for1 xo hp 4 (di_rangeN (DV.eq (y := .int ((lWayK ns n : Nat) : Int)) (dv_add dv_int (dv_mod (DO.vI (do_call (ok__law_at T _ _ (by /-_law_way.2-/ first | assumption | omega | decide | (exact ⟨by omega, by omega⟩))) (hr.mono (by decide)) T.g__law_at T.F__law_at.kp T.b__law_at (by exact rfl) (da_sc (ds_var 0 rfl) (da_v dv_int da_nil)))) (dv_sub (dv_var 1 rfl) dv_int) (by /-_law_way.3-/ omega))) (by /-_law_way.4-/ exact congrArg V.int kb.2.2)) (by /-_law_way.5-/ omega) T.bt.range) (fun i ρ => (((ρ).set 2 (.ow ((tl tI) ((popS (oIx (lAt ns 50)) (rgI n) i).1)))).set 3 (.ow ((tl tI) ((popS (oIx (lAt ns 50)) (rgI n) i).2)))).set 4 .un) (fun i => True) (.same (.same (Wk.eq (by rfl) (Wk.eq (by rfl) (.un (.nil)))))) (by first | trivial | simp) (fun i hi hI1 => ?_) (fun hI1 => ?_)
  ·
    show SS _ _ [_, _, _, _, _] _ _
    have hpp := pop_st (lAt ns 50) (n := n) (k := i) (by omega)
    have hp2 := popS_len2 (oIx (lAt ns 50)) (rgI n) i
    refine ss_appPop 3 2 (dpl_var 3 rfl) (dpl_var 2 rfl) (dv_mod (dv_fdiv (DO.vI (do_call (ok__law_mixed T _ _ ) (hr.mono (by decide)) T.g__law_mixed T.F__law_mixed.kp T.b__law_mixed (by exact rfl) (da_v (DO.vI (do_call (ok__law_at T _ _ (by /-_law_way.6-/ first | assumption | omega | decide | (exact ⟨by omega, by omega⟩))) (hr.mono (by decide)) T.g__law_at T.F__law_at.kp T.b__law_at (by exact rfl) (da_sc (ds_var 0 rfl) (da_v dv_int da_nil)))) (da_v (dv_var 4 rfl) da_nil)))) dv_int ⟨by decide, by decide⟩) (dv_len (f := dI) (de_owT (g := (tl tI)) 2 rfl) T.bt.len) (by /-_law_way.7-/ omega)) rfl rfl (by decide) (by /-_law_way.8-/ omega) (by /-_law_way.9-/ exact ⟨Int.emod_nonneg _ (by omega), Int.emod_lt_of_pos _ (by omega)⟩) (by /-_law_way.10-/ exact Int.lt_trans (Int.emod_lt_of_pos _ (by omega)) (by omega)) ?_
    show SS _ _ [_, _, _, _, _] _ _
    exact ss_nil ⟨.same (.same (Wk.eq (by rfl) (Wk.eq (by rfl) (.un (.nil))))), by first | trivial | simp⟩
  show SS _ _ [_, _, _, _, _] _ _
  exact ss_retOw 3 rfl (rfl)

theorem sc__law_is_due : FnScope ["_law_found", "_law_held", "_law_way_here", "_law_due", "_law_k", "_law_share", "_law_thing"] ["_law_found", "_law_held", "_law_way_here"] (defScope s__law_is_due) := ⟨rfl, rfl, rfl, by decide +kernel, rfl, by decide +kernel, by decide +kernel⟩
theorem ok__law_is_due {P : Program} {w : World} {K : Fg} {mg : Str → Option Value} {base : Heap} (T : Tx K mg) (f s : List (List Int)) (way : List Int) {n : Nat} (wy : GoodW way n) (hn9 : s.length = n) (hf9 : f = turnS s way n) (h8 : n ≤ 8) (hfl : ∀ r ∈ f, r.length ≤ 16000000) :
    FnOk P w K mg base (L2.CX P w) 2 T.a__law_is_due T.fd__law_is_due ["_law_found", "_law_held", "_law_way_here"] (sp1 K [.ro ((dl (dl dI)) f), .ro ((dl (dl dI)) s), .ro ((dl dI) way)] (.ret (.fz (.bool (true))))) := by
  refine ok_def (m := 4) T.F__law_is_due sc__law_is_due rfl rfl fun cdv0 A0 out0 s0 G0 H0 E0 hr xo hp hx => ?_
  refine ss_o 3 xo.nd (do_call (ok__law_copy T _ (by /-_law_is_due.1-/ omega)) (hr.mono (by decide)) T.g__law_copy T.F__law_copy.kp T.b__law_copy (by exact rfl) (da_ro (de_ro 1 rfl) da_nil)) ?_
  show SS _ _ [_, _, _, _, _, _, _] _ _
  refine ss_for1 xo hp 4 (di_rangeN (dv_len (f := dI) (de_ro 2 rfl) T.bt.len) (by /-_law_is_due.2-/ have := nodup_bd wy.nd wy.bd; omega) T.bt.range) (fun i ρ => ((ρ).set 3 (.ow ((tl (tl tI)) (dueS s way i)))).set 4 .un) (fun i => True) (.same (.same (.same (Wk.eq (by rfl) (.un (.same (.same (.nil)))))))) (by first | trivial | simp) (fun i hi hI1 => ?_) (fun hI1 => ?_)
  ·
    show SS _ _ [_, _, _, _, _, _, _] _ _
    have hb9 := way_bd wy hi
    refine ss_st0 (g := (tl tI)) 3 (dpl_var 3 rfl) (dv_ix (de_ro 2 rfl) (dv_sub (dv_var 4 rfl) dv_int) (by /-_law_is_due.5-/ first | exact (way_in wy hi).1 | exact (way_in wy hi).2 | (rw [hn9]; exact ⟨by omega, by omega⟩) | (rw [dueS_len, hn9]; exact ⟨by omega, by omega⟩))) (do_listI (de_ix (f := (dl dI)) (de_ro 1 rfl) (dv_ix (de_ro 2 rfl) (dv_var 4 rfl) (by /-_law_is_due.3-/ first | exact (way_in wy hi).1 | exact (way_in wy hi).2 | (rw [hn9]; exact ⟨by omega, by omega⟩) | (rw [dueS_len, hn9]; exact ⟨by omega, by omega⟩))) (by /-_law_is_due.4-/ first | exact (way_in wy hi).1 | exact (way_in wy hi).2 | (rw [hn9]; exact ⟨by omega, by omega⟩) | (rw [dueS_len, hn9]; exact ⟨by omega, by omega⟩))) T.bt.list) rfl (by /-_law_is_due.6-/ first | exact (way_in wy hi).1 | exact (way_in wy hi).2 | (rw [hn9]; exact ⟨by omega, by omega⟩) | (rw [dueS_len, hn9]; exact ⟨by omega, by omega⟩)) ?_
    show SS _ _ [_, _, _, _, _, _, _] _ _
    exact ss_nil ⟨.same (.same (.same (Wk.eq (by rfl) (.un (.same (.same (.nil))))))), by first | trivial | simp⟩
  show SS _ _ [_, _, _, _, _, _, _] _ _
  refine ss_ifL (DW.pt (dw_or (dt_not (dt_val (dv_isi (de_ro 0 rfl) (kit_list _) T.bt.list PyProof.Rows.boot_list T.bt.isinstance))) (fun h1 => (dw_or1 (dt_neD (f := (dl (dl dI))) xo.hu64 (de_ro 0 rfl) (de_owT (g := (tl (tl tI))) 3 rfl)))))) (fun h2 => by rw [due_eq wy hn9, hf9] at h2; simp [isList, dl] at h2) (fun h2 => ?_)
  show SS _ _ [_, _, _, _, _, _, _] _ _
  refine ss_for1 xo hp 5 (di_r (f := (dl dI)) (de_ro 0 rfl)) (fun i ρ => (ρ).set 5 .un) (fun i => True) (.same (.same (.same (.same (.same (.un (.same (.nil)))))))) (by first | trivial | simp) (fun i hi hI2 => ?_) (fun hI2 => ?_)
  ·
    show SS _ _ [_, _, _, _, _, _, _] _ _
    refine ss_ifL (DW.pt (dw_or (dt_not (dt_val (dv_isi (de_ro 5 rfl) (kit_list _) T.bt.list PyProof.Rows.boot_list T.bt.isinstance))) (fun h3 => (dw_or1 (dt_not (dt_val (dv_all xo (DO.dat (do_lcM0 xo [("_law_thing", 6)] (g := (tF PyData.bool))  (ic_c (f := dI) (fun a => .v (.int a)) (de_ro 5 rfl) (fun _ => .v rfl)) (blkOk_by (N := ["_law_found", "_law_held", "_law_way_here", "_law_due", "_law_k", "_law_share", "_law_thing"]) (sc := defScope s__law_is_due) (by decide +kernel)) (fun _ _ _ _ _ => pg_name (i := 6) sc__law_is_due.nd rfl (Or.inl rfl)) (fun a _ => tgw_name _ 6 _) (by simp) (fun Γ' hK a ha s' H' C' cl' fp' xo => (DV.oB (DO.vB (do_call (ok__law_whole T _ ) (hr.mono (by decide)) T.g__law_whole T.F__law_whole.kp T.b__law_whole (by exact hK) (da_ro (DV.dat (dv_var 6 rfl)) da_nil))))) (by /-_law_is_due.7-/ exact hfl _ (getD_memA hi)))) T.bt.all))))))) (fun h4 => by simp [isList, dl, isInt, isBool, vD] at h4) (fun h4 => ?_)
    show SS _ _ [_, _, _, _, _, _, _] _ _
    exact ss_nil ⟨.same (.same (.same (.same (.same (.un (.same (.nil))))))), by first | trivial | simp⟩
  show SS _ _ [_, _, _, _, _, _, _] _ _
  exact ss_retV dv_bl (rfl)

end Th

set_option Elab.async false
set_option linter.all false
set_option maxRecDepth 100000
set_option maxHeartbeats 2000000
namespace Th
open PySem L2 DL
theorem sc_law : FnScope ["_law_script", "_law_heirs_here", "_law_way_here", "_law_rows", "_law_held", "_law_k", "_law_start", "_law_told", "_law_handed", "_law_found", "_law_heir", "_law_more", "_law_share", "_law_row"] ["_law_script"] (defScope s_law) := ⟨rfl, rfl, rfl, by decide +kernel, rfl, by decide +kernel, by decide +kernel⟩
theorem ok_law {P : Program} {w : World} {K : Fg} {mg : Str → Option Value} {base : Heap} (T : Tx K mg) (ns : List Int) (hns : ns.length ≤ 63) :
    FnOk P w K mg base (L2.CX P w) 7 T.a_law T.fd_law ["_law_script"] (sp1 K [.sc ns] (.ret (.fz (.bool (true))))) := by
  have nb := k8n_bd ns; have wy := lWay_good ns nb.1; have A := lAround_spec ns nb.1 nb.2; have K3 := (k8K_eq ns).2; have gT := k8R_good ns _ K3; have gS0 := k8H_good ns _ K3; have RL := k8R_len ns (k8K ns); have HL := k8H_len ns (k8K ns)
  have gS : GoodS (k8H ns (k8K ns)) (k8R ns (k8K ns)).length (k8n ns + k8K ns) := by rw [RL]; exact gS0
  have tp : (turnS (k8H ns (k8K ns)) (lWay ns (k8n ns)) (k8n ns)).Perm (k8H ns (k8K ns)) := turn_perm wy HL
  have gF : GoodS (turnS (k8H ns (k8K ns)) (lWay ns (k8n ns)) (k8n ns)) (k8R ns (k8K ns)).length (k8n ns + k8K ns) := perm_good tp gS
  have sl := (k8s_eq ns).2; have fe : ∀ h ∈ lWay ns (k8n ns), feels (k8R ns (k8K ns)) (k8H ns (k8K ns)) h (nxt (lWay ns (k8n ns)) h) = true := fun h hh => k8_nxt ns K3 hh
  have ee := ex_eq wy HL sl; have ls := turn_less RL HL wy fe; have FL : ∀ r ∈ turnS (k8H ns (k8K ns)) (lWay ns (k8n ns)) (k8n ns), r.length ≤ 40 := fun r hr => by have := gF.row hr; omega
  refine ok_def (m := 13) T.F_law sc_law rfl rfl fun cdv0 A0 out0 s0 G0 H0 E0 hr xo hp hx => ?_
  refine ss_v 1 xo.nd (DV.eq (y := .int ((k8n ns : Nat) : Int)) (dv_max2 xo dv_int (DO.vI (do_call (ok__law_heirs T _ ) (hr.mono (by decide)) T.g__law_heirs T.F__law_heirs.kp T.b__law_heirs (by exact rfl) (da_v (DO.vI (do_call (ok__law_at T _ _ (by /-law.1-/ first | assumption | omega | decide | (exact ⟨by omega, by omega⟩))) (hr.mono (by decide)) T.g__law_at T.F__law_at.kp T.b__law_at (by exact rfl) (da_sc (ds_var 0 rfl) (da_v dv_int da_nil)))) da_nil))) T.bt.max) (by /-law.2-/ exact k8n_eq ns)) ?_
  show SS _ _ [_, _, _, _, _, _, _, _, _, _, _, _, _, _] _ _
  refine ss_o 2 xo.nd (do_call (ok__law_way T _ _ (by /-law.3-/ exact nb.1) (by /-law.4-/ exact nb.2)) (hr.mono (by decide)) T.g__law_way T.F__law_way.kp T.b__law_way (by exact rfl) (da_sc (ds_var 0 rfl) (da_v (dv_var 1 rfl) da_nil))) ?_
  show SS _ _ [_, _, _, _, _, _, _, _, _, _, _, _, _, _] _ _
  refine ss_o 3 xo.nd (do_call (ok__law_around T _ _ (by /-law.5-/ exact nb.1) (by /-law.6-/ exact nb.2)) (hr.mono (by decide)) T.g__law_around T.F__law_around.kp T.b__law_around (by exact rfl) (da_sc (ds_var 0 rfl) (da_v (dv_var 1 rfl) (da_ro (de_owT (g := (tl tI)) 2 rfl) da_nil)))) ?_
  show SS _ _ [_, _, _, _, _, _, _, _, _, _, _, _, _, _] _ _
  refine ss_re (fun ρ => (ρ).set 3 (.ow ((tl (tl tI)) (k8R ns 0)))) (.same (.same (.same (Wk.eq (by rfl) (.same (.same (.same (.same (.same (.same (.same (.same (.same (.same (.nil))))))))))))))) ?_
  show SS _ _ [_, _, _, _, _, _, _, _, _, _, _, _, _, _] _ _
  refine ss_lcM0 4 xo [("_law_heir", 10)] (g := (tl tI))  (ic_rangeN (dv_var 1 rfl) (by /-law.7-/ omega) T.bt.range) (blkOk_by (N := ["_law_script", "_law_heirs_here", "_law_way_here", "_law_rows", "_law_held", "_law_k", "_law_start", "_law_told", "_law_handed", "_law_found", "_law_heir", "_law_more", "_law_share", "_law_row"]) (sc := defScope s_law) (by decide +kernel)) (fun _ _ _ _ _ => pg_name (i := 10) sc_law.nd rfl (Or.inl rfl)) (fun a _ => tgw_name _ 10 _) (by simp) (fun Γ' hK a ha s' H' C' cl' fp' xo => (DO.eq (t' := tl tI [_]) (do_lst (da_v (dv_var 10 rfl) da_nil)) rfl)) (by /-law.8-/ first | (simp; omega) | omega) ?_
  show SS _ _ [_, _, _, _, _, _, _, _, _, _, _, _, _, _] _ _
  refine ss_re (fun ρ => (ρ).set 4 (.ow ((tl (tl tI)) (k8H ns 0)))) (.same (.same (.same (.same (Wk.eq (by rfl) (.same (.same (.same (.same (.same (.same (.same (.same (.same (.nil))))))))))))))) ?_
  show SS _ _ [_, _, _, _, _, _, _, _, _, _, _, _, _, _] _ _
  refine ss_for1 xo hp 5 (di_rangeN (DV.eq (y := .int ((k8K ns : Nat) : Int)) (dv_mod (DO.vI (do_call (ok__law_at T _ _ (by /-law.9-/ first | assumption | omega | decide | (exact ⟨by omega, by omega⟩))) (hr.mono (by decide)) T.g__law_at T.F__law_at.kp T.b__law_at (by exact rfl) (da_sc (ds_var 0 rfl) (da_v dv_int da_nil)))) dv_int (by decide)) (by /-law.10-/ exact (k8K_eq ns).1)) (by /-law.11-/ omega) T.bt.range) (fun i ρ => (((ρ).set 3 (.ow ((tl (tl tI)) (k8R ns i)))).set 4 (.ow ((tl (tl tI)) (k8H ns i)))).set 5 .un) (fun i => True) (.same (.same (.same (Wk.eq (by rfl) (Wk.eq (by rfl) (.un (.same (.same (.same (.same (.same (.same (.same (.same (.nil))))))))))))))) (by first | trivial | simp) (fun i hi hI1 => ?_) (fun hI1 => ?_)
  ·
    show SS _ _ [_, _, _, _, _, _, _, _, _, _, _, _, _, _] _ _
    have i3 : i ≤ 3 := by omega
    have gi := k8R_good ns i i3; have gsi := k8H_good ns i i3; have rli := k8R_len ns i
    refine ss_lcM0 3 xo [("_law_row", 13)] (g := (tl tI))  (ic_c (f := (dl dI)) (fun a => .ro ((dl dI) a)) (de_owT (g := (tl (tl tI))) 3 rfl) (fun _ => .ro)) (blkOk_by (N := ["_law_script", "_law_heirs_here", "_law_way_here", "_law_rows", "_law_held", "_law_k", "_law_start", "_law_told", "_law_handed", "_law_found", "_law_heir", "_law_more", "_law_share", "_law_row"]) (sc := defScope s_law) (by decide +kernel)) (fun _ _ _ _ _ => pg_name (i := 13) sc_law.nd rfl (Or.inl rfl)) (fun a _ => tgw_name _ 13 _) (by simp) (fun Γ' hK a ha s' H' C' cl' fp' xo => (do_catI (de_ro 13 rfl) (DO.dat (DO.eq (t' := tl tI [_]) (do_lst (da_v dv_int da_nil)) rfl)) (by /-law.12-/ first | (have := gi.len _ ha; simp; omega) | exact szS gsi (by omega) _ | (have := nodup_bd wy.nd wy.bd; rw [pySl_from, pySl_to]; simp; omega)))) (by /-law.13-/ first | (simp; omega) | omega) ?_
    show SS _ _ [_, _, _, _, _, _, _, _, _, _, _, _, _, _] _ _
    refine ss_app1 (g := tI) 4 (dpl_ix1 4 (dpl_var 4 rfl) (dv_mod (dv_fdiv (DO.vI (do_call (ok__law_mixed T _ _ ) (hr.mono (by decide)) T.g__law_mixed T.F__law_mixed.kp T.b__law_mixed (by exact rfl) (da_v (DO.vI (do_call (ok__law_at T _ _ (by /-law.14-/ first | assumption | omega | decide | (exact ⟨by omega, by omega⟩))) (hr.mono (by decide)) T.g__law_at T.F__law_at.kp T.b__law_at (by exact rfl) (da_sc (ds_var 0 rfl) (da_v dv_int da_nil)))) (da_v (dv_var 5 rfl) da_nil)))) dv_int ⟨by decide, by decide⟩) (dv_var 1 rfl) (by /-law.15-/ first | omega | (have := wy.two; omega))) rfl (by /-law.16-/ first | exact k8_in ns i | (rw [RL]; exact ⟨by omega, by omega⟩) | (rw [HL]; exact ⟨by omega, by omega⟩) | (rw [gF.n, RL]; exact ⟨by omega, by omega⟩))) (DV.oI (dv_add (dv_var 1 rfl) (dv_var 5 rfl))) rfl (ixN_pyIx (by /-law.17-/ first | exact k8_in ns i | (rw [RL]; exact ⟨by omega, by omega⟩) | (rw [HL]; exact ⟨by omega, by omega⟩) | (rw [gF.n, RL]; exact ⟨by omega, by omega⟩))).2 (by /-law.18-/ first | (have := gi.len _ ha; simp; omega) | exact szS gsi (by omega) _ | (have := nodup_bd wy.nd wy.bd; rw [pySl_from, pySl_to]; simp; omega)) ?_
    show SS _ _ [_, _, _, _, _, _, _, _, _, _, _, _, _, _] _ _
    exact ss_nil ⟨.same (.same (.same (Wk.eq (by rfl) (Wk.eq (by rfl) (.un (.same (.same (.same (.same (.same (.same (.same (.same (.nil)))))))))))))), by first | trivial | simp⟩
  show SS _ _ [_, _, _, _, _, _, _, _, _, _, _, _, _, _] _ _
  refine ss_v 6 xo.nd (DV.eq (y := .int ((k8s ns : Nat) : Int)) (dv_mod (DO.vI (do_call (ok__law_at T _ _ (by /-law.19-/ first | assumption | omega | decide | (exact ⟨by omega, by omega⟩))) (hr.mono (by decide)) T.g__law_at T.F__law_at.kp T.b__law_at (by exact rfl) (da_sc (ds_var 0 rfl) (da_v dv_int da_nil)))) (dv_len (f := dI) (de_owT (g := (tl tI)) 2 rfl) T.bt.len) (by /-law.20-/ first | omega | (have := wy.two; omega))) (by /-law.21-/ exact (k8s_eq ns).1)) ?_
  show SS _ _ [_, _, _, _, _, _, _, _, _, _, _, _, _, _] _ _
  refine ss_o 7 xo.nd (do_catI (DO.dat (do_slI (de_owT (g := (tl tI)) 2 rfl) (ox_some (dv_var 6 rfl)) ox_none)) (DO.dat (do_slI (de_owT (g := (tl tI)) 2 rfl) ox_none (ox_some (dv_var 6 rfl)))) (by /-law.22-/ first | (have := gi.len _ ha; simp; omega) | exact szS gsi (by omega) _ | (have := nodup_bd wy.nd wy.bd; rw [pySl_from, pySl_to]; simp; omega))) ?_
  show SS _ _ [_, _, _, _, _, _, _, _, _, _, _, _, _, _] _ _
  refine ss_re (fun ρ => (ρ).set 7 (.ow ((tl tI) (rotW (lWay ns (k8n ns)) (k8s ns))))) (.same (.same (.same (.same (.same (.same (.same (Wk.eq (by rw [rot_eq]) (.same (.same (.same (.same (.same (.same (.nil))))))))))))))) ?_
  show SS _ _ [_, _, _, _, _, _, _, _, _, _, _, _, _, _] _ _
  refine ss_o 8 xo.nd (DO.eq (t' := (tH3 (tl (tl tI)) (tl (tl tI)) (tl tI)) (k8R ns (k8K ns), k8H ns (k8K ns), rotW (lWay ns (k8n ns)) (k8s ns))) (do_lst (da_ow (do_call (ok__law_copy T _ (by /-law.23-/ first | (rw [RL]; omega) | (rw [HL]; omega))) (hr.mono (by decide)) T.g__law_copy T.F__law_copy.kp T.b__law_copy (by exact rfl) (da_ro (de_owT (g := (tl (tl tI))) 3 rfl) da_nil)) (da_ow (do_call (ok__law_copy T _ (by /-law.24-/ first | (rw [RL]; omega) | (rw [HL]; omega))) (hr.mono (by decide)) T.g__law_copy T.F__law_copy.kp T.b__law_copy (by exact rfl) (da_ro (de_owT (g := (tl (tl tI))) 4 rfl) da_nil)) (da_ow (do_listI (de_owT (g := (tl tI)) 7 rfl) T.bt.list) da_nil)))) rfl) ?_
  show SS _ _ [_, _, _, _, _, _, _, _, _, _, _, _, _, _] _ _
  refine ss_o 9 xo.nd (do_call (ok_turned T _ _ _ (by /-law.25-/ exact gT) (by /-law.26-/ exact gS) (by /-law.27-/ rw [show (k8R ns (k8K ns)).length = k8n ns from RL]; exact rot_good wy _) (by /-law.28-/ exact rot_pairs wy RL fe sl)) (hr.mono (by decide)) T.g_turned T.F_turned.kp T.b_turned (by exact rfl) (da_ro (de_J0 (de_owT (g := (tH3 (tl (tl tI)) (tl (tl tI)) (tl tI))) 8 rfl) dv_int) (da_ro (de_J1 (de_owT (g := (tH3 (tl (tl tI)) (tl (tl tI)) (tl tI))) 8 rfl) dv_int) (da_ro (de_J2 (de_owT (g := (tH3 (tl (tl tI)) (tl (tl tI)) (tl tI))) 8 rfl) dv_int) da_nil)))) ?_
  show SS _ _ [_, _, _, _, _, _, _, _, _, _, _, _, _, _] _ _
  refine ss_re (fun ρ => (ρ).set 9 (.ow ((tl (tl tI)) (turnS (k8H ns (k8K ns)) (lWay ns (k8n ns)) (k8n ns))))) (.same (.same (.same (.same (.same (.same (.same (.same (.same (Wk.eq (by exact congrArg Sl.ow (congrArg (tl (tl tI)) ee)) (.same (.same (.same (.same (.nil))))))))))))))) ?_
  show SS _ _ [_, _, _, _, _, _, _, _, _, _, _, _, _, _] _ _
  refine ss_ifL (DW.pt (dw_or (dt_not (dt_val (DO.vB (do_call (ok__law_is_due T _ _ _ (by /-law.29-/ exact wy) (by /-law.30-/ exact HL) (by /-law.31-/ first | rfl | exact ee) (by /-law.32-/ exact nb.2) (by /-law.33-/ first | exact fun r hr => Nat.le_trans (FL r hr) (by decide) | exact fun r hr => Nat.le_trans (FL r (ee ▸ hr)) (by decide))) (hr.mono (by decide)) T.g__law_is_due T.F__law_is_due.kp T.b__law_is_due (by exact rfl) (da_ro (de_owT (g := (tl (tl tI))) 9 rfl) (da_ro (de_owT (g := (tl (tl tI))) 4 rfl) (da_ro (de_owT (g := (tl tI)) 2 rfl) da_nil))))))) (fun h1 => (dw_or1 (dt_neD (f := (dH3 (dl (dl dI)) (dl (dl dI)) (dl dI))) xo.hu64 (de_owT (g := (tH3 (tl (tl tI)) (tl (tl tI)) (tl tI))) 8 rfl) (DE.eq (d' := (dH3 (dl (dl dI)) (dl (dl dI)) (dl dI)) (k8R ns (k8K ns), k8H ns (k8K ns), rotW (lWay ns (k8n ns)) (k8s ns))) (de_lstC (da_ro (de_owT (g := (tl (tl tI))) 3 rfl) (da_ro (de_owT (g := (tl (tl tI))) 4 rfl) (da_ro (de_owT (g := (tl tI)) 7 rfl) da_nil)))) rfl)))))) (fun h2 => by simp at h2) (fun h2 => ?_)
  show SS _ _ [_, _, _, _, _, _, _, _, _, _, _, _, _, _] _ _
  refine ss_for1 xo hp 10 (di_rangeN (dv_var 1 rfl) (by /-law.34-/ omega) T.bt.range) (fun i ρ => ((ρ).set 10 .un).set 11 .un) (fun i => True) (.same (.same (.same (.same (.same (.same (.same (.same (.same (.same (.un (.un (.same (.same (.nil))))))))))))))) (by first | trivial | simp) (fun i hi hI2 => ?_) (fun hI2 => ?_)
  ·
    show SS _ _ [_, _, _, _, _, _, _, _, _, _, _, _, _, _] _ _
    refine ss_v 11 xo.nd (dv_sub (DO.vI (do_call (ok__law_sum T _ _ (by /-law.37-/ first | exact gs_b gT gF ⟨by omega, by omega⟩ ⟨by omega, by omega⟩ | exact gs_b gT gS ⟨by omega, by omega⟩ ⟨by omega, by omega⟩)) (hr.mono (by decide)) T.g__law_sum T.F__law_sum.kp T.b__law_sum (by exact rfl) (da_ro (de_ix (f := (dl dI)) (de_owT (g := (tl (tl tI))) 3 rfl) (dv_var 10 rfl) (by /-law.35-/ first | exact k8_in ns i | (rw [RL]; exact ⟨by omega, by omega⟩) | (rw [HL]; exact ⟨by omega, by omega⟩) | (rw [gF.n, RL]; exact ⟨by omega, by omega⟩))) (da_ro (de_ix (f := (dl dI)) (de_owT (g := (tl (tl tI))) 9 rfl) (dv_var 10 rfl) (by /-law.36-/ first | exact k8_in ns i | (rw [RL]; exact ⟨by omega, by omega⟩) | (rw [HL]; exact ⟨by omega, by omega⟩) | (rw [gF.n, RL]; exact ⟨by omega, by omega⟩))) da_nil)))) (DO.vI (do_call (ok__law_sum T _ _ (by /-law.40-/ first | exact gs_b gT gF ⟨by omega, by omega⟩ ⟨by omega, by omega⟩ | exact gs_b gT gS ⟨by omega, by omega⟩ ⟨by omega, by omega⟩)) (hr.mono (by decide)) T.g__law_sum T.F__law_sum.kp T.b__law_sum (by exact rfl) (da_ro (de_ix (f := (dl dI)) (de_owT (g := (tl (tl tI))) 3 rfl) (dv_var 10 rfl) (by /-law.38-/ first | exact k8_in ns i | (rw [RL]; exact ⟨by omega, by omega⟩) | (rw [HL]; exact ⟨by omega, by omega⟩) | (rw [gF.n, RL]; exact ⟨by omega, by omega⟩))) (da_ro (de_ix (f := (dl dI)) (de_owT (g := (tl (tl tI))) 4 rfl) (dv_var 10 rfl) (by /-law.39-/ first | exact k8_in ns i | (rw [RL]; exact ⟨by omega, by omega⟩) | (rw [HL]; exact ⟨by omega, by omega⟩) | (rw [gF.n, RL]; exact ⟨by omega, by omega⟩))) da_nil))))) ?_
    show SS _ _ [_, _, _, _, _, _, _, _, _, _, _, _, _, _] _ _
    refine ss_ifL (DW.pt (dw_or (DW.pt (dw_and (dt_in xo.hu (dv_var 10 rfl) (de_owT (g := (tl tI)) 2 rfl)) (fun h3 => (dw_and1 (dt_le (dv_var 11 rfl) dv_int))))) (fun h4 => (dw_or1 (DW.pt (dw_and (dt_notIn xo.hu (dv_var 10 rfl) (de_owT (g := (tl tI)) 2 rfl)) (fun h5 => (dw_and1 (dt_ne (dv_var 11 rfl) dv_int))))))))) (fun h6 => by have q9 := turn_more (t := k8R ns (k8K ns)) (s := k8H ns (k8K ns)) wy fe hi; exact (Classical.em ((i : Int) ∈ lWay ns (k8n ns))).elim (fun e9 => by have z9 := q9.1 e9; simp [e9] at h6; omega) (fun e9 => by have z9 := q9.2 e9; simp [e9] at h6; omega)) (fun h6 => ?_)
    show SS _ _ [_, _, _, _, _, _, _, _, _, _, _, _, _, _] _ _
    exact ss_nil ⟨.same (.same (.same (.same (.same (.same (.same (.same (.same (.same (.un (.un (.same (.same (.nil)))))))))))))), by first | trivial | simp⟩
  show SS _ _ [_, _, _, _, _, _, _, _, _, _, _, _, _, _] _ _
  refine ss_ifL (dt_ge (dv_len (f := (d2 dI dI)) (DO.dat (do_call (ok__law_envies T _ _ (by /-law.41-/ exact gT) (by /-law.42-/ first | exact gF | exact gS)) (hr.mono (by decide)) T.g__law_envies T.F__law_envies.kp T.b__law_envies (by exact rfl) (da_ro (de_owT (g := (tl (tl tI))) 3 rfl) (da_ro (de_owT (g := (tl (tl tI))) 9 rfl) da_nil)))) T.bt.len) (dv_len (f := (d2 dI dI)) (DO.dat (do_call (ok__law_envies T _ _ (by /-law.43-/ exact gT) (by /-law.44-/ first | exact gF | exact gS)) (hr.mono (by decide)) T.g__law_envies T.F__law_envies.kp T.b__law_envies (by exact rfl) (da_ro (de_owT (g := (tl (tl tI))) 3 rfl) (da_ro (de_owT (g := (tl (tl tI))) 4 rfl) da_nil)))) T.bt.len)) (fun h7 => by have q9 := of_decide_eq_true h7; omega) (fun h7 => ?_)
  show SS _ _ [_, _, _, _, _, _, _, _, _, _, _, _, _, _] _ _
  refine ss_forApp (g := tI) 9 12 xo hp rfl (by decide) (by simp) (fun _ => (DV.oI (dv_neg dv_int))) (by /-law.45-/ exact fun r hr => Nat.lt_of_le_of_lt (FL r hr) (by decide)) ?_
  show SS _ _ [_, _, _, _, _, _, _, _, _, _, _, _, _, _] _ _
  exact ss_retV (dv_and (dv_eqD (f := (dH3 (dl (dl dI)) (dl (dl dI)) (dl dI))) xo.hu64 (de_owT (g := (tH3 (tl (tl tI)) (tl (tl tI)) (tl tI))) 8 rfl) (DE.eq (d' := (dH3 (dl (dl dI)) (dl (dl dI)) (dl dI)) (k8R ns (k8K ns), k8H ns (k8K ns), rotW (lWay ns (k8n ns)) (k8s ns))) (de_lstC (da_ro (de_owT (g := (tl (tl tI))) 3 rfl) (da_ro (de_owT (g := (tl (tl tI))) 4 rfl) (da_ro (de_owT (g := (tl tI)) 7 rfl) da_nil)))) rfl)) (fun h8 => (dv_one (DO.vB (do_call (ok__law_is_due T _ _ _ (by /-law.50-/ exact wy) (by /-law.51-/ exact HL) (by /-law.52-/ first | rfl | exact ee) (by /-law.53-/ exact nb.2) (by /-law.54-/ first | exact fun r hr => Nat.le_trans (FL r hr) (by decide) | exact fun r hr => Nat.le_trans (FL r (ee ▸ hr)) (by decide))) (hr.mono (by decide)) T.g__law_is_due T.F__law_is_due.kp T.b__law_is_due (by exact rfl) (da_ro (DO.dat (do_call (ok_turned T _ _ _ (by /-law.46-/ exact gT) (by /-law.47-/ exact gS) (by /-law.48-/ rw [show (k8R ns (k8K ns)).length = k8n ns from RL]; exact rot_good wy _) (by /-law.49-/ exact rot_pairs wy RL fe sl)) (hr.mono (by decide)) T.g_turned T.F_turned.kp T.b_turned (by exact rfl) (da_ro (de_J0 (de_owT (g := (tH3 (tl (tl tI)) (tl (tl tI)) (tl tI))) 8 rfl) dv_int) (da_ro (de_J1 (de_owT (g := (tH3 (tl (tl tI)) (tl (tl tI)) (tl tI))) 8 rfl) dv_int) (da_ro (de_J2 (de_owT (g := (tH3 (tl (tl tI)) (tl (tl tI)) (tl tI))) 8 rfl) dv_int) da_nil))))) (da_ro (de_owT (g := (tl (tl tI))) 4 rfl) (da_ro (de_owT (g := (tl tI)) 2 rfl) da_nil)))))))) (by simp; rfl)

theorem all_mk {l : PySem.W.OpenLaw} {w : World} {K : Fg} {h : Heap} {mg : Str → Option Value} {fa : Addr} (X : K.In h) (G : h.Ns mainGlobals mg) (hfa : mg "law" = some (.ref fa))
    {f0 : Addr} {od0 an0 : Option Addr} {sl0 : Array (Option Value)} {oc0 kV0 dc0 pm0 cd0 ct0 : Value}
    (a0 : PySem.W.nsIn K mainGlobals "is_among" = some (some (.ref f0))) (l0 : K.lookup f0 = some ⟨oc0, od0, .func (PySem.W.fnOf "is_among" "is_among" (defArgs s_is_among) (defBody s_is_among) (defScope s_is_among) .none kV0 dc0 pm0 an0 cd0 ct0), sl0⟩) (c0 : PySem.W.codeIn K cd0 "is_among" = true) (k0 : PySem.W.keepIn K (.ref f0) = true)
    {f1 : Addr} {od1 an1 : Option Addr} {sl1 : Array (Option Value)} {oc1 kV1 dc1 pm1 cd1 ct1 : Value}
    (a1 : PySem.W.nsIn K mainGlobals "is_row" = some (some (.ref f1))) (l1 : K.lookup f1 = some ⟨oc1, od1, .func (PySem.W.fnOf "is_row" "is_row" (defArgs s_is_row) (defBody s_is_row) (defScope s_is_row) .none kV1 dc1 pm1 an1 cd1 ct1), sl1⟩) (c1 : PySem.W.codeIn K cd1 "is_row" = true) (k1 : PySem.W.keepIn K (.ref f1) = true)
    {f2 : Addr} {od2 an2 : Option Addr} {sl2 : Array (Option Value)} {oc2 kV2 dc2 pm2 cd2 ct2 : Value}
    (a2 : PySem.W.nsIn K mainGlobals "is_table" = some (some (.ref f2))) (l2 : K.lookup f2 = some ⟨oc2, od2, .func (PySem.W.fnOf "is_table" "is_table" (defArgs s_is_table) (defBody s_is_table) (defScope s_is_table) .none kV2 dc2 pm2 an2 cd2 ct2), sl2⟩) (c2 : PySem.W.codeIn K cd2 "is_table" = true) (k2 : PySem.W.keepIn K (.ref f2) = true)
    {f3 : Addr} {od3 an3 : Option Addr} {sl3 : Array (Option Value)} {oc3 kV3 dc3 pm3 cd3 ct3 : Value}
    (a3 : PySem.W.nsIn K mainGlobals "are_things" = some (some (.ref f3))) (l3 : K.lookup f3 = some ⟨oc3, od3, .func (PySem.W.fnOf "are_things" "are_things" (defArgs s_are_things) (defBody s_are_things) (defScope s_are_things) .none kV3 dc3 pm3 an3 cd3 ct3), sl3⟩) (c3 : PySem.W.codeIn K cd3 "are_things" = true) (k3 : PySem.W.keepIn K (.ref f3) = true)
    {f4 : Addr} {od4 an4 : Option Addr} {sl4 : Array (Option Value)} {oc4 kV4 dc4 pm4 cd4 ct4 : Value}
    (a4 : PySem.W.nsIn K mainGlobals "are_shares" = some (some (.ref f4))) (l4 : K.lookup f4 = some ⟨oc4, od4, .func (PySem.W.fnOf "are_shares" "are_shares" (defArgs s_are_shares) (defBody s_are_shares) (defScope s_are_shares) .none kV4 dc4 pm4 an4 cd4 ct4), sl4⟩) (c4 : PySem.W.codeIn K cd4 "are_shares" = true) (k4 : PySem.W.keepIn K (.ref f4) = true)
    {f5 : Addr} {od5 an5 : Option Addr} {sl5 : Array (Option Value)} {oc5 kV5 dc5 pm5 cd5 ct5 : Value}
    (a5 : PySem.W.nsIn K mainGlobals "need_table" = some (some (.ref f5))) (l5 : K.lookup f5 = some ⟨oc5, od5, .func (PySem.W.fnOf "need_table" "need_table" (defArgs s_need_table) (defBody s_need_table) (defScope s_need_table) .none kV5 dc5 pm5 an5 cd5 ct5), sl5⟩) (c5 : PySem.W.codeIn K cd5 "need_table" = true) (k5 : PySem.W.keepIn K (.ref f5) = true)
    {f6 : Addr} {od6 an6 : Option Addr} {sl6 : Array (Option Value)} {oc6 kV6 dc6 pm6 cd6 ct6 : Value}
    (a6 : PySem.W.nsIn K mainGlobals "need_shares" = some (some (.ref f6))) (l6 : K.lookup f6 = some ⟨oc6, od6, .func (PySem.W.fnOf "need_shares" "need_shares" (defArgs s_need_shares) (defBody s_need_shares) (defScope s_need_shares) .none kV6 dc6 pm6 an6 cd6 ct6), sl6⟩) (c6 : PySem.W.codeIn K cd6 "need_shares" = true) (k6 : PySem.W.keepIn K (.ref f6) = true)
    {f7 : Addr} {od7 an7 : Option Addr} {sl7 : Array (Option Value)} {oc7 kV7 dc7 pm7 cd7 ct7 : Value}
    (a7 : PySem.W.nsIn K mainGlobals "summed" = some (some (.ref f7))) (l7 : K.lookup f7 = some ⟨oc7, od7, .func (PySem.W.fnOf "summed" "summed" (defArgs s_summed) (defBody s_summed) (defScope s_summed) .none kV7 dc7 pm7 an7 cd7 ct7), sl7⟩) (c7 : PySem.W.codeIn K cd7 "summed" = true) (k7 : PySem.W.keepIn K (.ref f7) = true)
    {f8 : Addr} {od8 an8 : Option Addr} {sl8 : Array (Option Value)} {oc8 kV8 dc8 pm8 cd8 ct8 : Value}
    (a8 : PySem.W.nsIn K mainGlobals "feels" = some (some (.ref f8))) (l8 : K.lookup f8 = some ⟨oc8, od8, .func (PySem.W.fnOf "feels" "feels" (defArgs s_feels) (defBody s_feels) (defScope s_feels) .none kV8 dc8 pm8 an8 cd8 ct8), sl8⟩) (c8 : PySem.W.codeIn K cd8 "feels" = true) (k8 : PySem.W.keepIn K (.ref f8) = true)
    {f9 : Addr} {od9 an9 : Option Addr} {sl9 : Array (Option Value)} {oc9 kV9 dc9 pm9 cd9 ct9 : Value}
    (a9 : PySem.W.nsIn K mainGlobals "pairs_of" = some (some (.ref f9))) (l9 : K.lookup f9 = some ⟨oc9, od9, .func (PySem.W.fnOf "pairs_of" "pairs_of" (defArgs s_pairs_of) (defBody s_pairs_of) (defScope s_pairs_of) .none kV9 dc9 pm9 an9 cd9 ct9), sl9⟩) (c9 : PySem.W.codeIn K cd9 "pairs_of" = true) (k9 : PySem.W.keepIn K (.ref f9) = true)
    {f10 : Addr} {od10 an10 : Option Addr} {sl10 : Array (Option Value)} {oc10 kV10 dc10 pm10 cd10 ct10 : Value}
    (a10 : PySem.W.nsIn K mainGlobals "exchanged" = some (some (.ref f10))) (l10 : K.lookup f10 = some ⟨oc10, od10, .func (PySem.W.fnOf "exchanged" "exchanged" (defArgs s_exchanged) (defBody s_exchanged) (defScope s_exchanged) .none kV10 dc10 pm10 an10 cd10 ct10), sl10⟩) (c10 : PySem.W.codeIn K cd10 "exchanged" = true) (k10 : PySem.W.keepIn K (.ref f10) = true)
    {f11 : Addr} {od11 an11 : Option Addr} {sl11 : Array (Option Value)} {oc11 kV11 dc11 pm11 cd11 ct11 : Value}
    (a11 : PySem.W.nsIn K mainGlobals "turned" = some (some (.ref f11))) (l11 : K.lookup f11 = some ⟨oc11, od11, .func (PySem.W.fnOf "turned" "turned" (defArgs s_turned) (defBody s_turned) (defScope s_turned) .none kV11 dc11 pm11 an11 cd11 ct11), sl11⟩) (c11 : PySem.W.codeIn K cd11 "turned" = true) (k11 : PySem.W.keepIn K (.ref f11) = true)
    {f12 : Addr} {od12 an12 : Option Addr} {sl12 : Array (Option Value)} {oc12 kV12 dc12 pm12 cd12 ct12 : Value}
    (a12 : PySem.W.nsIn K mainGlobals "_law_at" = some (some (.ref f12))) (l12 : K.lookup f12 = some ⟨oc12, od12, .func (PySem.W.fnOf "_law_at" "_law_at" (defArgs s__law_at) (defBody s__law_at) (defScope s__law_at) .none kV12 dc12 pm12 an12 cd12 ct12), sl12⟩) (c12 : PySem.W.codeIn K cd12 "_law_at" = true) (k12 : PySem.W.keepIn K (.ref f12) = true)
    {f13 : Addr} {od13 an13 : Option Addr} {sl13 : Array (Option Value)} {oc13 kV13 dc13 pm13 cd13 ct13 : Value}
    (a13 : PySem.W.nsIn K mainGlobals "_law_mixed" = some (some (.ref f13))) (l13 : K.lookup f13 = some ⟨oc13, od13, .func (PySem.W.fnOf "_law_mixed" "_law_mixed" (defArgs s__law_mixed) (defBody s__law_mixed) (defScope s__law_mixed) .none kV13 dc13 pm13 an13 cd13 ct13), sl13⟩) (c13 : PySem.W.codeIn K cd13 "_law_mixed" = true) (k13 : PySem.W.keepIn K (.ref f13) = true)
    {f14 : Addr} {od14 an14 : Option Addr} {sl14 : Array (Option Value)} {oc14 kV14 dc14 pm14 cd14 ct14 : Value}
    (a14 : PySem.W.nsIn K mainGlobals "_law_heirs" = some (some (.ref f14))) (l14 : K.lookup f14 = some ⟨oc14, od14, .func (PySem.W.fnOf "_law_heirs" "_law_heirs" (defArgs s__law_heirs) (defBody s__law_heirs) (defScope s__law_heirs) .none kV14 dc14 pm14 an14 cd14 ct14), sl14⟩) (c14 : PySem.W.codeIn K cd14 "_law_heirs" = true) (k14 : PySem.W.keepIn K (.ref f14) = true)
    {f15 : Addr} {od15 an15 : Option Addr} {sl15 : Array (Option Value)} {oc15 kV15 dc15 pm15 cd15 ct15 : Value}
    (a15 : PySem.W.nsIn K mainGlobals "_law_worth" = some (some (.ref f15))) (l15 : K.lookup f15 = some ⟨oc15, od15, .func (PySem.W.fnOf "_law_worth" "_law_worth" (defArgs s__law_worth) (defBody s__law_worth) (defScope s__law_worth) .none kV15 dc15 pm15 an15 cd15 ct15), sl15⟩) (c15 : PySem.W.codeIn K cd15 "_law_worth" = true) (k15 : PySem.W.keepIn K (.ref f15) = true)
    {f16 : Addr} {od16 an16 : Option Addr} {sl16 : Array (Option Value)} {oc16 kV16 dc16 pm16 cd16 ct16 : Value}
    (a16 : PySem.W.nsIn K mainGlobals "_law_table" = some (some (.ref f16))) (l16 : K.lookup f16 = some ⟨oc16, od16, .func (PySem.W.fnOf "_law_table" "_law_table" (defArgs s__law_table) (defBody s__law_table) (defScope s__law_table) .none kV16 dc16 pm16 an16 cd16 ct16), sl16⟩) (c16 : PySem.W.codeIn K cd16 "_law_table" = true) (k16 : PySem.W.keepIn K (.ref f16) = true)
    {f17 : Addr} {od17 an17 : Option Addr} {sl17 : Array (Option Value)} {oc17 kV17 dc17 pm17 cd17 ct17 : Value}
    (a17 : PySem.W.nsIn K mainGlobals "_law_sum" = some (some (.ref f17))) (l17 : K.lookup f17 = some ⟨oc17, od17, .func (PySem.W.fnOf "_law_sum" "_law_sum" (defArgs s__law_sum) (defBody s__law_sum) (defScope s__law_sum) .none kV17 dc17 pm17 an17 cd17 ct17), sl17⟩) (c17 : PySem.W.codeIn K cd17 "_law_sum" = true) (k17 : PySem.W.keepIn K (.ref f17) = true)
    {f18 : Addr} {od18 an18 : Option Addr} {sl18 : Array (Option Value)} {oc18 kV18 dc18 pm18 cd18 ct18 : Value}
    (a18 : PySem.W.nsIn K mainGlobals "_law_envies" = some (some (.ref f18))) (l18 : K.lookup f18 = some ⟨oc18, od18, .func (PySem.W.fnOf "_law_envies" "_law_envies" (defArgs s__law_envies) (defBody s__law_envies) (defScope s__law_envies) .none kV18 dc18 pm18 an18 cd18 ct18), sl18⟩) (c18 : PySem.W.codeIn K cd18 "_law_envies" = true) (k18 : PySem.W.keepIn K (.ref f18) = true)
    {f19 : Addr} {od19 an19 : Option Addr} {sl19 : Array (Option Value)} {oc19 kV19 dc19 pm19 cd19 ct19 : Value}
    (a19 : PySem.W.nsIn K mainGlobals "_law_copy" = some (some (.ref f19))) (l19 : K.lookup f19 = some ⟨oc19, od19, .func (PySem.W.fnOf "_law_copy" "_law_copy" (defArgs s__law_copy) (defBody s__law_copy) (defScope s__law_copy) .none kV19 dc19 pm19 an19 cd19 ct19), sl19⟩) (c19 : PySem.W.codeIn K cd19 "_law_copy" = true) (k19 : PySem.W.keepIn K (.ref f19) = true)
    {f20 : Addr} {od20 an20 : Option Addr} {sl20 : Array (Option Value)} {oc20 kV20 dc20 pm20 cd20 ct20 : Value}
    (a20 : PySem.W.nsIn K mainGlobals "_law_whole" = some (some (.ref f20))) (l20 : K.lookup f20 = some ⟨oc20, od20, .func (PySem.W.fnOf "_law_whole" "_law_whole" (defArgs s__law_whole) (defBody s__law_whole) (defScope s__law_whole) .none kV20 dc20 pm20 an20 cd20 ct20), sl20⟩) (c20 : PySem.W.codeIn K cd20 "_law_whole" = true) (k20 : PySem.W.keepIn K (.ref f20) = true)
    {f21 : Addr} {od21 an21 : Option Addr} {sl21 : Array (Option Value)} {oc21 kV21 dc21 pm21 cd21 ct21 : Value}
    (a21 : PySem.W.nsIn K mainGlobals "_law_around" = some (some (.ref f21))) (l21 : K.lookup f21 = some ⟨oc21, od21, .func (PySem.W.fnOf "_law_around" "_law_around" (defArgs s__law_around) (defBody s__law_around) (defScope s__law_around) .none kV21 dc21 pm21 an21 cd21 ct21), sl21⟩) (c21 : PySem.W.codeIn K cd21 "_law_around" = true) (k21 : PySem.W.keepIn K (.ref f21) = true)
    {f22 : Addr} {od22 an22 : Option Addr} {sl22 : Array (Option Value)} {oc22 kV22 dc22 pm22 cd22 ct22 : Value}
    (a22 : PySem.W.nsIn K mainGlobals "_law_way" = some (some (.ref f22))) (l22 : K.lookup f22 = some ⟨oc22, od22, .func (PySem.W.fnOf "_law_way" "_law_way" (defArgs s__law_way) (defBody s__law_way) (defScope s__law_way) .none kV22 dc22 pm22 an22 cd22 ct22), sl22⟩) (c22 : PySem.W.codeIn K cd22 "_law_way" = true) (k22 : PySem.W.keepIn K (.ref f22) = true)
    {f23 : Addr} {od23 an23 : Option Addr} {sl23 : Array (Option Value)} {oc23 kV23 dc23 pm23 cd23 ct23 : Value}
    (a23 : PySem.W.nsIn K mainGlobals "_law_is_due" = some (some (.ref f23))) (l23 : K.lookup f23 = some ⟨oc23, od23, .func (PySem.W.fnOf "_law_is_due" "_law_is_due" (defArgs s__law_is_due) (defBody s__law_is_due) (defScope s__law_is_due) .none kV23 dc23 pm23 an23 cd23 ct23), sl23⟩) (c23 : PySem.W.codeIn K cd23 "_law_is_due" = true) (k23 : PySem.W.keepIn K (.ref f23) = true)
    {f24 : Addr} {od24 an24 : Option Addr} {sl24 : Array (Option Value)} {oc24 kV24 dc24 pm24 cd24 ct24 : Value}
    (a24 : PySem.W.nsIn K mainGlobals "law" = some (some (.ref f24))) (l24 : K.lookup f24 = some ⟨oc24, od24, .func (PySem.W.fnOf "law" "law" (defArgs s_law) (defBody s_law) (defScope s_law) .none kV24 dc24 pm24 an24 cd24 ct24), sl24⟩) (c24 : PySem.W.codeIn K cd24 "law" = true) (k24 : PySem.W.keepIn K (.ref f24) = true)
    {t_MOST_HEIRS : Tok} (q_MOST_HEIRS : PySem.W.nsIn K mainGlobals "MOST_HEIRS" = some (some (.int 8 t_MOST_HEIRS)))
    {t_MOST_THINGS : Tok} (q_MOST_THINGS : PySem.W.nsIn K mainGlobals "MOST_THINGS" = some (some (.int 40 t_MOST_THINGS)))
    {t_MOST_WORTH : Tok} (q_MOST_WORTH : PySem.W.nsIn K mainGlobals "MOST_WORTH" = some (some (.int 1000000 t_MOST_WORTH)))
    {C_BadTable : Addr} (aC_BadTable : PySem.W.nsIn K mainGlobals "BadTable" = some (some (.ref C_BadTable))) (xC_BadTable : PySem.W.excIn K C_BadTable [.type "ValueError", .type "Exception", .type "BaseException", .type "object"] "ValueError.__new__" = true) (kC_BadTable : PySem.W.keepIn K (.ref C_BadTable) = true) (bC_BadTable : PySem.W.subIn K (.ref C_BadTable) (.type "BaseException") = some true) (tC_BadTable : PySem.W.typeIn K (.ref C_BadTable) = some (.type "type"))
    {C_BadShares : Addr} (aC_BadShares : PySem.W.nsIn K mainGlobals "BadShares" = some (some (.ref C_BadShares))) (xC_BadShares : PySem.W.excIn K C_BadShares [.type "ValueError", .type "Exception", .type "BaseException", .type "object"] "ValueError.__new__" = true) (kC_BadShares : PySem.W.keepIn K (.ref C_BadShares) = true) (bC_BadShares : PySem.W.subIn K (.ref C_BadShares) (.type "BaseException") = some true) (tC_BadShares : PySem.W.typeIn K (.ref C_BadShares) = some (.type "type"))
    {C_BadRing : Addr} (aC_BadRing : PySem.W.nsIn K mainGlobals "BadRing" = some (some (.ref C_BadRing))) (xC_BadRing : PySem.W.excIn K C_BadRing [.type "ValueError", .type "Exception", .type "BaseException", .type "object"] "ValueError.__new__" = true) (kC_BadRing : PySem.W.keepIn K (.ref C_BadRing) = true) (bC_BadRing : PySem.W.subIn K (.ref C_BadRing) (.type "BaseException") = some true) (tC_BadRing : PySem.W.typeIn K (.ref C_BadRing) = some (.type "type"))
    (z_all : PySem.W.nsIn K mainGlobals "all" = some none)
    (z_bool : PySem.W.nsIn K mainGlobals "bool" = some none)
    (z_int : PySem.W.nsIn K mainGlobals "int" = some none)
    (z_isinstance : PySem.W.nsIn K mainGlobals "isinstance" = some none)
    (z_len : PySem.W.nsIn K mainGlobals "len" = some none)
    (z_list : PySem.W.nsIn K mainGlobals "list" = some none)
    (z_max : PySem.W.nsIn K mainGlobals "max" = some none)
    (z_min : PySem.W.nsIn K mainGlobals "min" = some none)
    (z_range : PySem.W.nsIn K mainGlobals "range" = some none)
    (z_set : PySem.W.nsIn K mainGlobals "set" = some none)
    (z_sorted : PySem.W.nsIn K mainGlobals "sorted" = some none)
    (z_sum : PySem.W.nsIn K mainGlobals "sum" = some none) :
    ∃ fd : FuncData, (∀ (s : Shared) (v : Value), BindsTo s fd ⟨[v], []⟩ [("_law_script", v)]) ∧ ∀ base : Heap, K.In base → base.Ns mainGlobals mg → FnOk l.prog w K mg base (L2.CX l.prog w) 7 fa fd ["_law_script"] (spLaw K) := by
  have e := hfa.symm.trans (PySem.W.mg_of X G a24)
  cases e
  let T : Tx K mg := { a_is_among := f0, fd_is_among := _, F_is_among := fun_mk (st := s_is_among) l0 c0 k0, g_is_among := PySem.W.mg_of X G a0, b_is_among := (fun_mk (st := s_is_among) l0 c0 k0).binds (ps := ["thing", "least", "most"]) (fun _ _ _ _ _ _ us hl => match us, hl with | [_, _, _], _ => rfl), a_is_row := f1, fd_is_row := _, F_is_row := fun_mk (st := s_is_row) l1 c1 k1, g_is_row := PySem.W.mg_of X G a1, b_is_row := (fun_mk (st := s_is_row) l1 c1 k1).binds (ps := ["thing", "many"]) (fun _ _ _ _ _ _ us hl => match us, hl with | [_, _], _ => rfl), a_is_table := f2, fd_is_table := _, F_is_table := fun_mk (st := s_is_table) l2 c2 k2, g_is_table := PySem.W.mg_of X G a2, b_is_table := (fun_mk (st := s_is_table) l2 c2 k2).binds (ps := ["thing"]) (fun _ _ _ _ _ _ us hl => match us, hl with | [_], _ => rfl), a_are_things := f3, fd_are_things := _, F_are_things := fun_mk (st := s_are_things) l3 c3 k3, g_are_things := PySem.W.mg_of X G a3, b_are_things := (fun_mk (st := s_are_things) l3 c3 k3).binds (ps := ["thing", "many"]) (fun _ _ _ _ _ _ us hl => match us, hl with | [_, _], _ => rfl), a_are_shares := f4, fd_are_shares := _, F_are_shares := fun_mk (st := s_are_shares) l4 c4 k4, g_are_shares := PySem.W.mg_of X G a4, b_are_shares := (fun_mk (st := s_are_shares) l4 c4 k4).binds (ps := ["thing", "heirs", "things"]) (fun _ _ _ _ _ _ us hl => match us, hl with | [_, _, _], _ => rfl), a_need_table := f5, fd_need_table := _, F_need_table := fun_mk (st := s_need_table) l5 c5 k5, g_need_table := PySem.W.mg_of X G a5, b_need_table := (fun_mk (st := s_need_table) l5 c5 k5).binds (ps := ["table"]) (fun _ _ _ _ _ _ us hl => match us, hl with | [_], _ => rfl), a_need_shares := f6, fd_need_shares := _, F_need_shares := fun_mk (st := s_need_shares) l6 c6 k6, g_need_shares := PySem.W.mg_of X G a6, b_need_shares := (fun_mk (st := s_need_shares) l6 c6 k6).binds (ps := ["table", "shares"]) (fun _ _ _ _ _ _ us hl => match us, hl with | [_, _], _ => rfl), a_summed := f7, fd_summed := _, F_summed := fun_mk (st := s_summed) l7 c7 k7, g_summed := PySem.W.mg_of X G a7, b_summed := (fun_mk (st := s_summed) l7 c7 k7).binds (ps := ["row", "things"]) (fun _ _ _ _ _ _ us hl => match us, hl with | [_, _], _ => rfl), a_feels := f8, fd_feels := _, F_feels := fun_mk (st := s_feels) l8 c8 k8, g_feels := PySem.W.mg_of X G a8, b_feels := (fun_mk (st := s_feels) l8 c8 k8).binds (ps := ["table", "shares", "heir", "other"]) (fun _ _ _ _ _ _ us hl => match us, hl with | [_, _, _, _], _ => rfl), a_pairs_of := f9, fd_pairs_of := _, F_pairs_of := fun_mk (st := s_pairs_of) l9 c9 k9, g_pairs_of := PySem.W.mg_of X G a9, b_pairs_of := (fun_mk (st := s_pairs_of) l9 c9 k9).binds (ps := ["table", "shares"]) (fun _ _ _ _ _ _ us hl => match us, hl with | [_, _], _ => rfl), a_exchanged := f10, fd_exchanged := _, F_exchanged := fun_mk (st := s_exchanged) l10 c10 k10, g_exchanged := PySem.W.mg_of X G a10, b_exchanged := (fun_mk (st := s_exchanged) l10 c10 k10).binds (ps := ["shares", "heirs"]) (fun _ _ _ _ _ _ us hl => match us, hl with | [_, _], _ => rfl), a_turned := f11, fd_turned := _, F_turned := fun_mk (st := s_turned) l11 c11 k11, g_turned := PySem.W.mg_of X G a11, b_turned := (fun_mk (st := s_turned) l11 c11 k11).binds (ps := ["table", "shares", "heirs"]) (fun _ _ _ _ _ _ us hl => match us, hl with | [_, _, _], _ => rfl), a__law_at := f12, fd__law_at := _, F__law_at := fun_mk (st := s__law_at) l12 c12 k12, g__law_at := PySem.W.mg_of X G a12, b__law_at := (fun_mk (st := s__law_at) l12 c12 k12).binds (ps := ["_law_script", "_law_k"]) (fun _ _ _ _ _ _ us hl => match us, hl with | [_, _], _ => rfl), a__law_mixed := f13, fd__law_mixed := _, F__law_mixed := fun_mk (st := s__law_mixed) l13 c13 k13, g__law_mixed := PySem.W.mg_of X G a13, b__law_mixed := (fun_mk (st := s__law_mixed) l13 c13 k13).binds (ps := ["_law_cell", "_law_k"]) (fun _ _ _ _ _ _ us hl => match us, hl with | [_, _], _ => rfl), a__law_heirs := f14, fd__law_heirs := _, F__law_heirs := fun_mk (st := s__law_heirs) l14 c14 k14, g__law_heirs := PySem.W.mg_of X G a14, b__law_heirs := (fun_mk (st := s__law_heirs) l14 c14 k14).binds (ps := ["_law_cell"]) (fun _ _ _ _ _ _ us hl => match us, hl with | [_], _ => rfl), a__law_worth := f15, fd__law_worth := _, F__law_worth := fun_mk (st := s__law_worth) l15 c15 k15, g__law_worth := PySem.W.mg_of X G a15, b__law_worth := (fun_mk (st := s__law_worth) l15 c15 k15).binds (ps := ["_law_number", "_law_mode"]) (fun _ _ _ _ _ _ us hl => match us, hl with | [_, _], _ => rfl), a__law_table := f16, fd__law_table := _, F__law_table := fun_mk (st := s__law_table) l16 c16 k16, g__law_table := PySem.W.mg_of X G a16, b__law_table := (fun_mk (st := s__law_table) l16 c16 k16).binds (ps := ["_law_script", "_law_heirs_here", "_law_many"]) (fun _ _ _ _ _ _ us hl => match us, hl with | [_, _, _], _ => rfl), a__law_sum := f17, fd__law_sum := _, F__law_sum := fun_mk (st := s__law_sum) l17 c17 k17, g__law_sum := PySem.W.mg_of X G a17, b__law_sum := (fun_mk (st := s__law_sum) l17 c17 k17).binds (ps := ["_law_row", "_law_things_here"]) (fun _ _ _ _ _ _ us hl => match us, hl with | [_, _], _ => rfl), a__law_envies := f18, fd__law_envies := _, F__law_envies := fun_mk (st := s__law_envies) l18 c18 k18, g__law_envies := PySem.W.mg_of X G a18, b__law_envies := (fun_mk (st := s__law_envies) l18 c18 k18).binds (ps := ["_law_rows", "_law_held"]) (fun _ _ _ _ _ _ us hl => match us, hl with | [_, _], _ => rfl), a__law_copy := f19, fd__law_copy := _, F__law_copy := fun_mk (st := s__law_copy) l19 c19 k19, g__law_copy := PySem.W.mg_of X G a19, b__law_copy := (fun_mk (st := s__law_copy) l19 c19 k19).binds (ps := ["_law_rows"]) (fun _ _ _ _ _ _ us hl => match us, hl with | [_], _ => rfl), a__law_whole := f20, fd__law_whole := _, F__law_whole := fun_mk (st := s__law_whole) l20 c20 k20, g__law_whole := PySem.W.mg_of X G a20, b__law_whole := (fun_mk (st := s__law_whole) l20 c20 k20).binds (ps := ["_law_found"]) (fun _ _ _ _ _ _ us hl => match us, hl with | [_], _ => rfl), a__law_around := f21, fd__law_around := _, F__law_around := fun_mk (st := s__law_around) l21 c21 k21, g__law_around := PySem.W.mg_of X G a21, b__law_around := (fun_mk (st := s__law_around) l21 c21 k21).binds (ps := ["_law_script", "_law_heirs_here", "_law_way_here"]) (fun _ _ _ _ _ _ us hl => match us, hl with | [_, _, _], _ => rfl), a__law_way := f22, fd__law_way := _, F__law_way := fun_mk (st := s__law_way) l22 c22 k22, g__law_way := PySem.W.mg_of X G a22, b__law_way := (fun_mk (st := s__law_way) l22 c22 k22).binds (ps := ["_law_script", "_law_heirs_here"]) (fun _ _ _ _ _ _ us hl => match us, hl with | [_, _], _ => rfl), a__law_is_due := f23, fd__law_is_due := _, F__law_is_due := fun_mk (st := s__law_is_due) l23 c23 k23, g__law_is_due := PySem.W.mg_of X G a23, b__law_is_due := (fun_mk (st := s__law_is_due) l23 c23 k23).binds (ps := ["_law_found", "_law_held", "_law_way_here"]) (fun _ _ _ _ _ _ us hl => match us, hl with | [_, _, _], _ => rfl), a_law := fa, fd_law := _, F_law := fun_mk (st := s_law) l24 c24 k24, g_law := PySem.W.mg_of X G a24, b_law := (fun_mk (st := s_law) l24 c24 k24).binds (ps := ["_law_script"]) (fun _ _ _ _ _ _ us hl => match us, hl with | [_], _ => rfl), k_MOST_HEIRS := t_MOST_HEIRS, g_MOST_HEIRS := PySem.W.mg_of X G q_MOST_HEIRS, k_MOST_THINGS := t_MOST_THINGS, g_MOST_THINGS := PySem.W.mg_of X G q_MOST_THINGS, k_MOST_WORTH := t_MOST_WORTH, g_MOST_WORTH := PySem.W.mg_of X G q_MOST_WORTH, c_BadTable := C_BadTable, g_BadTable := PySem.W.mg_of X G aC_BadTable, x_BadTable := xC_BadTable, k_BadTable := kC_BadTable, b_BadTable := bC_BadTable, t_BadTable := tC_BadTable, c_BadShares := C_BadShares, g_BadShares := PySem.W.mg_of X G aC_BadShares, x_BadShares := xC_BadShares, k_BadShares := kC_BadShares, b_BadShares := bC_BadShares, t_BadShares := tC_BadShares, c_BadRing := C_BadRing, g_BadRing := PySem.W.mg_of X G aC_BadRing, x_BadRing := xC_BadRing, k_BadRing := kC_BadRing, b_BadRing := bC_BadRing, t_BadRing := tC_BadRing, bt := ⟨PySem.W.mg_none_of X G z_all, PySem.W.mg_none_of X G z_bool, PySem.W.mg_none_of X G z_int, PySem.W.mg_none_of X G z_isinstance, PySem.W.mg_none_of X G z_len, PySem.W.mg_none_of X G z_list, PySem.W.mg_none_of X G z_max, PySem.W.mg_none_of X G z_min, PySem.W.mg_none_of X G z_range, PySem.W.mg_none_of X G z_set, PySem.W.mg_none_of X G z_sorted, PySem.W.mg_none_of X G z_sum⟩ }
  exact ⟨PySem.W.fnOf "law" "law" (defArgs s_law) (defBody s_law) (defScope s_law) .none kV24 dc24 pm24 an24 cd24 ct24, fun s v => .of_eq rfl, fun base _ _ => law_ok fun ns hns => ok_law T ns hns⟩
end Th

set_option Elab.async false
set_option linter.all false
set_option maxRecDepth 100000

open PySem PySem.W PyProof.Rows
set_option maxRecDepth 100000 in
set_option maxHeartbeats 0 in
theorem PySem.Challenge.cw_thingdeal_k08_a_ring_turned_holds : PySem.Challenge.rw_thingdeal_k08_a_ring_turned.Holds := by
  w_on; o_law; k_head; (case hw => w_witness2)
  k_fill
  refine DL.law_walk (l := PySem.Challenge.rw_thingdeal_k08_a_ring_turned) (k := 7) (x := "_law_script") rfl rfl ⟨rfl, by decide, by decide⟩ (fun w h Y => PySem.W.kIn_of Y) ?F
  case F =>
    intro w mg fa h KX G hmg
    refine' Th.all_mk KX G hmg ?a0 ?l0 ?c0 ?k0 ?a1 ?l1 ?c1 ?k1 ?a2 ?l2 ?c2 ?k2 ?a3 ?l3 ?c3 ?k3 ?a4 ?l4 ?c4 ?k4 ?a5 ?l5 ?c5 ?k5 ?a6 ?l6 ?c6 ?k6 ?a7 ?l7 ?c7 ?k7 ?a8 ?l8 ?c8 ?k8 ?a9 ?l9 ?c9 ?k9 ?a10 ?l10 ?c10 ?k10 ?a11 ?l11 ?c11 ?k11 ?a12 ?l12 ?c12 ?k12 ?a13 ?l13 ?c13 ?k13 ?a14 ?l14 ?c14 ?k14 ?a15 ?l15 ?c15 ?k15 ?a16 ?l16 ?c16 ?k16 ?a17 ?l17 ?c17 ?k17 ?a18 ?l18 ?c18 ?k18 ?a19 ?l19 ?c19 ?k19 ?a20 ?l20 ?c20 ?k20 ?a21 ?l21 ?c21 ?k21 ?a22 ?l22 ?c22 ?k22 ?a23 ?l23 ?c23 ?k23 ?a24 ?l24 ?c24 ?k24 ?q_MOST_HEIRS ?q_MOST_THINGS ?q_MOST_WORTH ?aC_BadTable ?xC_BadTable ?kC_BadTable ?bC_BadTable ?tC_BadTable ?aC_BadShares ?xC_BadShares ?kC_BadShares ?bC_BadShares ?tC_BadShares ?aC_BadRing ?xC_BadRing ?kC_BadRing ?bC_BadRing ?tC_BadRing ?z_all ?z_bool ?z_int ?z_isinstance ?z_len ?z_list ?z_max ?z_min ?z_range ?z_set ?z_sorted ?z_sum
    (case a0 => k_is)
    (case l0 => k_is)
    (case c0 => k_is)
    (case k0 => k_is)
    (case a1 => k_is)
    (case l1 => k_is)
    (case c1 => k_is)
    (case k1 => k_is)
    (case a2 => k_is)
    (case l2 => k_is)
    (case c2 => k_is)
    (case k2 => k_is)
    (case a3 => k_is)
    (case l3 => k_is)
    (case c3 => k_is)
    (case k3 => k_is)
    (case a4 => k_is)
    (case l4 => k_is)
    (case c4 => k_is)
    (case k4 => k_is)
    (case a5 => k_is)
    (case l5 => k_is)
    (case c5 => k_is)
    (case k5 => k_is)
    (case a6 => k_is)
    (case l6 => k_is)
    (case c6 => k_is)
    (case k6 => k_is)
    (case a7 => k_is)
    (case l7 => k_is)
    (case c7 => k_is)
    (case k7 => k_is)
    (case a8 => k_is)
    (case l8 => k_is)
    (case c8 => k_is)
    (case k8 => k_is)
    (case a9 => k_is)
    (case l9 => k_is)
    (case c9 => k_is)
    (case k9 => k_is)
    (case a10 => k_is)
    (case l10 => k_is)
    (case c10 => k_is)
    (case k10 => k_is)
    (case a11 => k_is)
    (case l11 => k_is)
    (case c11 => k_is)
    (case k11 => k_is)
    (case a12 => k_is)
    (case l12 => k_is)
    (case c12 => k_is)
    (case k12 => k_is)
    (case a13 => k_is)
    (case l13 => k_is)
    (case c13 => k_is)
    (case k13 => k_is)
    (case a14 => k_is)
    (case l14 => k_is)
    (case c14 => k_is)
    (case k14 => k_is)
    (case a15 => k_is)
    (case l15 => k_is)
    (case c15 => k_is)
    (case k15 => k_is)
    (case a16 => k_is)
    (case l16 => k_is)
    (case c16 => k_is)
    (case k16 => k_is)
    (case a17 => k_is)
    (case l17 => k_is)
    (case c17 => k_is)
    (case k17 => k_is)
    (case a18 => k_is)
    (case l18 => k_is)
    (case c18 => k_is)
    (case k18 => k_is)
    (case a19 => k_is)
    (case l19 => k_is)
    (case c19 => k_is)
    (case k19 => k_is)
    (case a20 => k_is)
    (case l20 => k_is)
    (case c20 => k_is)
    (case k20 => k_is)
    (case a21 => k_is)
    (case l21 => k_is)
    (case c21 => k_is)
    (case k21 => k_is)
    (case a22 => k_is)
    (case l22 => k_is)
    (case c22 => k_is)
    (case k22 => k_is)
    (case a23 => k_is)
    (case l23 => k_is)
    (case c23 => k_is)
    (case k23 => k_is)
    (case a24 => k_is)
    (case l24 => k_is)
    (case c24 => k_is)
    (case k24 => k_is)
    (case q_MOST_HEIRS => k_is)
    (case q_MOST_THINGS => k_is)
    (case q_MOST_WORTH => k_is)
    (case aC_BadTable => k_is)
    (case xC_BadTable => k_exc)
    (case kC_BadTable => k_is)
    (case bC_BadTable => k_is)
    (case tC_BadTable => k_is)
    (case aC_BadShares => k_is)
    (case xC_BadShares => k_exc)
    (case kC_BadShares => k_is)
    (case bC_BadShares => k_is)
    (case tC_BadShares => k_is)
    (case aC_BadRing => k_is)
    (case xC_BadRing => k_exc)
    (case kC_BadRing => k_is)
    (case bC_BadRing => k_is)
    (case tC_BadRing => k_is)
    (case z_all => k_is)
    (case z_bool => k_is)
    (case z_int => k_is)
    (case z_isinstance => k_is)
    (case z_len => k_is)
    (case z_list => k_is)
    (case z_max => k_is)
    (case z_min => k_is)
    (case z_range => k_is)
    (case z_set => k_is)
    (case z_sorted => k_is)
    (case z_sum => k_is)
