import PyProof.Rows.All
import Wide.All
import OpenK.AllK
import Wide.FinOn
import HandS.ForMost
import HandS.ForExc
import HandS.Conv
import HandS.Deep
import HandS.SortInts
import HandS.SetFor
import HandS.IsInst
import HandS.Rev
import HandS.Zip
import HandS.ExcIs
import HandS.TryOnly
import PySem.Challenge.RW_thingdeal_k14_read
set_option Elab.async false
set_option linter.all false
set_option maxRecDepth 100000
set_option maxHeartbeats 2000000
/-! DL: a data layer over the hand layer: values as data, slots by what they hold, owned lists by trees. -/
namespace DL
open PySem L2
abbrev D := PySem.PyData
abbrev Fg := PySem.W.Frag
def Ex (H H' : Hp) : Prop := ∀ a o, H a = some o → H' a = some o
theorem Ex.refl (H : Hp) : Ex H H := fun _ _ h => h
theorem Ex.trans {H H1 H2 : Hp} (a : Ex H H1) (b : Ex H1 H2) : Ex H H2 := fun x o h => b x o (a x o h)
theorem Ex.new {H : Hp} {p : Addr} {o : HO} (h : H p = none) : Ex H (upd H p o) := fun a u e => by
  rw [upd_ne (ne_of_none e h)]
  exact e
theorem Ex.mut {H H' : Hp} {p : Addr} {o : HO} (e : Ex H H') (h : H p = none) : Ex H (upd H' p o) := fun a u ha => by
  rw [upd_ne (ne_of_none ha h)]
  exact e a u ha
theorem Ex.none {H H' : Hp} (e : Ex H H') {a : Addr} (h : H' a = none) : H a = none := by
  cases q : H a with
  | none => rfl
  | some o => rw [e a o q] at h; cases h
theorem ex_l {K : Fg} {H H' : Hp} {a : Addr} {xs : List V} (e : Ex H H') (h : SqL K H a xs) : SqL K H' a xs := by
  rcases h with (h | ⟨o, h⟩) | h
  · exact .inl (.inl (e _ _ h))
  · exact .inl (.inr ⟨o, e _ _ h⟩)
  · exact .inr h
theorem ex_t {K : Fg} {H H' : Hp} {a : Addr} {xs : List V} (e : Ex H H') (h : SqT K H a xs) : SqT K H' a xs := by
  rcases h with (h | ⟨o, h⟩) | h
  · exact .inl (.inl (e _ _ h))
  · exact .inl (.inr ⟨o, e _ _ h⟩)
  · exact .inr h

/-! ### data at a value -/
mutual
inductive Rep (H : Hp) : V → D → Prop
  | non : Rep H .non .none
  | bl (b : Bool) : Rep H (.bl b) (.bool b)
  | int (i : Int) : Rep H (.int i) (.int i)
  | str (x : Str) : Rep H (.str x) (.str x)
  | lst {a : Addr} {xs : List V} {ds : List D} : H a = some (.lst xs) → Reps H xs ds → Rep H (.ref a) (.list ds)
  | tup {a : Addr} {xs : List V} {ds : List D} : H a = some (.tup xs) → Reps H xs ds → Rep H (.ref a) (.tuple ds)
  | dct {a : Addr} : H a = some (.dK []) → Rep H (.ref a) (.dict [])
inductive Reps (H : Hp) : List V → List D → Prop
  | nil : Reps H [] []
  | cons {v : V} {vs : List V} {d : D} {ds : List D} : Rep H v d → Reps H vs ds → Reps H (v :: vs) (d :: ds)
end
section
variable {H H' : Hp}
mutual
theorem Rep.mono (e : Ex H H') : ∀ {v : V} {d : D}, Rep H v d → Rep H' v d
  | _, _, .non => .non
  | _, _, .bl b => .bl b
  | _, _, .int i => .int i
  | _, _, .str x => .str x
  | _, _, .lst h r => .lst (e _ _ h) (Reps.mono e r)
  | _, _, .tup h r => .tup (e _ _ h) (Reps.mono e r)
  | _, _, .dct h => .dct (e _ _ h)
theorem Reps.mono (e : Ex H H') : ∀ {vs : List V} {ds : List D}, Reps H vs ds → Reps H' vs ds
  | _, _, .nil => .nil
  | _, _, .cons h r => .cons (Rep.mono e h) (Reps.mono e r)
end
theorem Reps.len : ∀ {vs : List V} {ds : List D}, Reps H vs ds → vs.length = ds.length
  | _, _, .nil => rfl
  | _, _, .cons _ r => by simp [Reps.len r]
theorem Reps.get : ∀ {vs : List V} {ds : List D} {i : Nat} {d : D}, Reps H vs ds → ds[i]? = some d → ∃ v, vs[i]? = some v ∧ Rep H v d
  | _, _, 0, d, .cons h r, e => by
    obtain rfl := Option.some.inj e
    exact ⟨_, rfl, h⟩
  | _, _, i + 1, d, .cons h r, e => by
    obtain ⟨v, h1, h2⟩ := Reps.get (i := i) (d := d) r (by simpa using e)
    exact ⟨v, by simpa using h1, h2⟩
  | _, _, 0, d, .nil, e => by cases e
  | _, _, _ + 1, d, .nil, e => by cases e
theorem Reps.getV : ∀ {vs : List V} {ds : List D} {i : Nat} {v : V}, Reps H vs ds → vs[i]? = some v → ∃ d, ds[i]? = some d ∧ Rep H v d
  | _, _, 0, d, .cons h r, e => by
    obtain rfl := Option.some.inj e
    exact ⟨_, rfl, h⟩
  | _, _, i + 1, d, .cons h r, e => by
    obtain ⟨v, h1, h2⟩ := Reps.getV (i := i) (v := d) r (by simpa using e)
    exact ⟨v, by simpa using h1, h2⟩
  | _, _, 0, d, .nil, e => by cases e
  | _, _, _ + 1, d, .nil, e => by cases e
theorem Reps.app : ∀ {vs ws : List V} {ds es : List D}, Reps H vs ds → Reps H ws es → Reps H (vs ++ ws) (ds ++ es)
  | _, _, _, _, .nil, s => s
  | _, _, _, _, .cons h r, s => .cons h (Reps.app r s)
theorem Reps.take : ∀ {vs : List V} {ds : List D} (n : Nat), Reps H vs ds → Reps H (vs.take n) (ds.take n)
  | _, _, 0, _ => by simpa using Reps.nil
  | _, _, n + 1, .nil => by simpa using Reps.nil
  | _, _, n + 1, .cons h r => .cons h (Reps.take n r)
theorem Reps.drop : ∀ {vs : List V} {ds : List D} (n : Nat), Reps H vs ds → Reps H (vs.drop n) (ds.drop n)
  | _, _, 0, r => by simpa using r
  | _, _, n + 1, .nil => by simpa using Reps.nil
  | _, _, n + 1, .cons h r => by simpa using Reps.drop n r
theorem Reps.ints : ∀ {vs : List V} {ns : List Int}, Reps H vs (ns.map .int) → vs = ns.map V.int
  | [], [], .nil => rfl
  | _ :: _, n :: ns, .cons (.int _) r => by rw [Reps.ints r]; rfl
theorem Reps.bools : ∀ {vs : List V} {ns : List Bool}, Reps H vs (ns.map .bool) → vs = ns.map V.bl
  | [], [], .nil => rfl
  | _ :: _, n :: ns, .cons (.bl _) r => by rw [Reps.bools r]; rfl
theorem Reps.strs : ∀ {vs : List V} {ns : List Str}, Reps H vs (ns.map .str) → vs = ns.map V.str
  | [], [], .nil => rfl
  | _ :: _, n :: ns, .cons (.str _) r => by rw [Reps.strs r]; rfl
theorem reps_ints : ∀ (ns : List Int), Reps H (ns.map V.int) (ns.map .int)
  | [] => .nil
  | n :: ns => .cons (.int n) (reps_ints ns)
theorem reps_bools : ∀ (ns : List Bool), Reps H (ns.map V.bl) (ns.map .bool)
  | [] => .nil
  | n :: ns => .cons (.bl n) (reps_bools ns)
theorem reps_strs : ∀ (ns : List Str), Reps H (ns.map V.str) (ns.map .str)
  | [] => .nil
  | n :: ns => .cons (.str n) (reps_strs ns)
end

/-! ### a step: what is frozen grows by new things, the heap keeps all -/
structure Step (G H G2 H2 : Hp) : Prop where
  g : Ex G G2
  h : Ex H H2
  f : ∀ b o, G b = none → H b = some o → G2 b = none
theorem Step.refl (G H : Hp) : Step G H G H := ⟨Ex.refl _, Ex.refl _, fun _ _ e _ => e⟩
theorem Step.trans {G H G1 H1 G2 H2 : Hp} (a : Step G H G1 H1) (b : Step G1 H1 G2 H2) : Step G H G2 H2 :=
  ⟨a.g.trans b.g, a.h.trans b.h, fun x o e e2 => b.f x o (a.f x o e e2) (a.h x o e2)⟩

/-! ### owned trees -/
inductive OT where
  | fz (d : D)
  | cell (ts : List OT)
mutual
def OT.er : OT → D
  | .fz d => d
  | .cell ts => .list (OT.ers ts)
def OT.ers : List OT → List D
  | [] => []
  | t :: ts => t.er :: OT.ers ts
end
theorem ers_map : ∀ ts : List OT, OT.ers ts = ts.map OT.er
  | [] => by unfold OT.ers; rfl
  | t :: ts => by unfold OT.ers; rw [ers_map ts]; rfl
mutual
inductive OwnT (G H : Hp) : OT → V → List Addr → Prop
  | fz {d : D} {v : V} : Rep G v d → OwnT G H (.fz d) v []
  | cell {ts : List OT} {a : Addr} {vs : List V} {A : List Addr} : G a = none → H a = some (.lst vs) → OwnTs G H ts vs A → OwnT G H (.cell ts) (.ref a) (a :: A)
inductive OwnTs (G H : Hp) : List OT → List V → List Addr → Prop
  | nil : OwnTs G H [] [] []
  | cons {t : OT} {ts : List OT} {v : V} {vs : List V} {A B : List Addr} : OwnT G H t v A → OwnTs G H ts vs B → OwnTs G H (t :: ts) (v :: vs) (A ++ B)
end
section
variable {G H G2 H2 : Hp}
mutual
theorem OwnT.more (s : Step G H G2 H2) : ∀ {t : OT} {v : V} {A : List Addr}, OwnT G H t v A → OwnT G2 H2 t v A
  | _, _, _, .fz h => .fz (h.mono s.g)
  | _, _, _, .cell hg hh r => .cell (s.f _ _ hg hh) (s.h _ _ hh) (OwnTs.more s r)
theorem OwnTs.more (s : Step G H G2 H2) : ∀ {t : List OT} {v : List V} {A : List Addr}, OwnTs G H t v A → OwnTs G2 H2 t v A
  | _, _, _, .nil => .nil
  | _, _, _, .cons h r => .cons (OwnT.more s h) (OwnTs.more s r)
end
mutual
theorem OwnT.frame (e : Ex G G2) : ∀ {t : OT} {v : V} {A : List Addr}, (∀ b ∈ A, G b = none → G2 b = none) → (∀ b ∈ A, H2 b = H b) → OwnT G H t v A → OwnT G2 H2 t v A
  | _, _, _, _, _, .fz h => .fz (h.mono e)
  | _, _, _, q, k, .cell hg hh r => .cell (q _ List.mem_cons_self hg) ((k _ List.mem_cons_self).trans hh) (OwnTs.frame e (fun b hb => q b (List.mem_cons_of_mem _ hb)) (fun b hb => k b (List.mem_cons_of_mem _ hb)) r)
theorem OwnTs.frame (e : Ex G G2) : ∀ {t : List OT} {v : List V} {A : List Addr}, (∀ b ∈ A, G b = none → G2 b = none) → (∀ b ∈ A, H2 b = H b) → OwnTs G H t v A → OwnTs G2 H2 t v A
  | _, _, _, _, _, .nil => .nil
  | _, _, _, q, k, .cons h r => .cons (OwnT.frame e (fun b hb => q b (List.mem_append_left _ hb)) (fun b hb => k b (List.mem_append_left _ hb)) h) (OwnTs.frame e (fun b hb => q b (List.mem_append_right _ hb)) (fun b hb => k b (List.mem_append_right _ hb)) r)
end
mutual
theorem OwnT.rep (e : Ex G H) : ∀ {t : OT} {v : V} {A : List Addr}, OwnT G H t v A → Rep H v t.er
  | _, _, _, .fz h => by unfold OT.er; exact h.mono e
  | _, _, _, .cell hg hh r => by unfold OT.er; exact .lst hh (OwnTs.reps e r)
theorem OwnTs.reps (e : Ex G H) : ∀ {t : List OT} {v : List V} {A : List Addr}, OwnTs G H t v A → Reps H v (OT.ers t)
  | _, _, _, .nil => by unfold OT.ers; exact .nil
  | _, _, _, .cons h r => by unfold OT.ers; exact .cons (OwnT.rep e h) (OwnTs.reps e r)
end
mutual
theorem OwnT.mem : ∀ {t : OT} {v : V} {A : List Addr}, OwnT G H t v A → ∀ b ∈ A, G b = none ∧ ∃ o, H b = some o
  | _, _, _, .fz h, b, hb => by cases hb
  | _, _, _, .cell hg hh r, b, hb => by
    rcases List.mem_cons.mp hb with e | hb
    · subst e; exact ⟨hg, _, hh⟩
    · exact OwnTs.mem r b hb
theorem OwnTs.mem : ∀ {t : List OT} {v : List V} {A : List Addr}, OwnTs G H t v A → ∀ b ∈ A, G b = none ∧ ∃ o, H b = some o
  | _, _, _, .nil, b, hb => by cases hb
  | _, _, _, .cons h r, b, hb => by
    rcases List.mem_append.mp hb with hb | hb
    · exact OwnT.mem h b hb
    · exact OwnTs.mem r b hb
end
theorem OwnTs.len : ∀ {ts : List OT} {vs : List V} {A : List Addr}, OwnTs G H ts vs A → vs.length = ts.length
  | _, _, _, .nil => rfl
  | _, _, _, .cons _ r => by simp [OwnTs.len r]
theorem OwnTs.app : ∀ {ts us : List OT} {vs ws : List V} {A B : List Addr}, OwnTs G H ts vs A → OwnTs G H us ws B → OwnTs G H (ts ++ us) (vs ++ ws) (A ++ B)
  | _, _, _, _, _, _, .nil, s => s
  | _, _, _, _, _, _, .cons h r, s => by
    rw [List.append_assoc]
    exact .cons h (OwnTs.app r s)
theorem OwnTs.one {t : OT} {v : V} {A : List Addr} (h : OwnT G H t v A) : OwnTs G H [t] [v] A := by
  have := OwnTs.cons h OwnTs.nil
  rwa [List.append_nil] at this
/-- an owned tree as frozen data: its cells join what is frozen -/
def frz (G H : Hp) (A : List Addr) : Hp := fun b => if b ∈ A then H b else G b
theorem frz_in {A : List Addr} {b : Addr} (h : b ∈ A) : frz G H A b = H b := by unfold frz; rw [if_pos h]
theorem frz_out {A : List Addr} {b : Addr} (h : b ∉ A) : frz G H A b = G b := by unfold frz; rw [if_neg h]
theorem frz_ex {A : List Addr} (h : ∀ b ∈ A, G b = none) : Ex G (frz G H A) := fun a o e => by
  by_cases q : a ∈ A
  · rw [h a q] at e; cases e
  · rw [frz_out q]; exact e
theorem frz_sub {A : List Addr} (h : Ex G H) : Ex (frz G H A) H := fun a o e => by
  by_cases q : a ∈ A
  · rw [frz_in q] at e; exact e
  · rw [frz_out q] at e; exact h a o e
mutual
theorem OwnT.frz {B : List Addr} (e : Ex G (DL.frz G H B)) : ∀ {t : OT} {v : V} {A : List Addr}, (∀ b ∈ A, b ∈ B) → OwnT G H t v A → Rep (DL.frz G H B) v t.er
  | _, _, _, _, .fz h => by unfold OT.er; exact h.mono e
  | _, _, _, q, .cell hg hh r => by
    unfold OT.er
    exact .lst ((frz_in (q _ List.mem_cons_self)).trans hh) (OwnTs.frzs e (fun b hb => q b (List.mem_cons_of_mem _ hb)) r)
theorem OwnTs.frzs {B : List Addr} (e : Ex G (DL.frz G H B)) : ∀ {t : List OT} {v : List V} {A : List Addr}, (∀ b ∈ A, b ∈ B) → OwnTs G H t v A → Reps (DL.frz G H B) v (OT.ers t)
  | _, _, _, _, .nil => by unfold OT.ers; exact .nil
  | _, _, _, q, .cons h r => by unfold OT.ers; exact .cons (OwnT.frz e (fun b hb => q b (List.mem_append_left _ hb)) h) (OwnTs.frzs e (fun b hb => q b (List.mem_append_right _ hb)) r)
end
end

/-! ### slots -/
inductive Sl where
  | un
  | v (x : V)
  | sh (d : D)
  | ro (d : D)
  | ow (t : OT)
  | sc (ns : List Int)
/-- one slot: I the entry's heap, G what is frozen, H the heap -/
inductive SlS (K : Fg) (I G H : Hp) : Option V → Sl → List Addr → Prop
  | un {o} : SlS K I G H o .un []
  | v {x} : SlS K I G H (some x) (.v x) []
  | sh {x d} : Rep G x d → SlS K I G H (some x) (.sh d) []
  | ro {x d} : Rep I x d → SlS K I G H (some x) (.ro d) []
  | ow {x t A} : OwnT G H t x A → SlS K I G H (some x) (.ow t) A
  | sc {a ns} : SqL K I a (ns.map V.int) → SlS K I G H (some (.ref a)) (.sc ns) []
inductive SlR (K : Fg) (I G H : Hp) : List (Option V) → List Sl → List Addr → Prop
  | nil : SlR K I G H [] [] []
  | cons {o s A σ ρ B} : SlS K I G H o s A → SlR K I G H σ ρ B → SlR K I G H (o :: σ) (s :: ρ) (A ++ B)
section
variable {K : Fg} {I G H G2 H2 : Hp}
theorem SlS.more (s : Step G H G2 H2) {o x A} : SlS K I G H o x A → SlS K I G2 H2 o x A
  | .un => .un
  | .v => .v
  | .sh h => .sh (h.mono s.g)
  | .ro h => .ro h
  | .ow h => .ow (h.more s)
  | .sc h => .sc h
theorem SlR.more (s : Step G H G2 H2) : ∀ {σ ρ A}, SlR K I G H σ ρ A → SlR K I G2 H2 σ ρ A
  | _, _, _, .nil => .nil
  | _, _, _, .cons h r => .cons (h.more s) (SlR.more s r)
theorem SlS.frame (e : Ex G G2) {o x A} (q : ∀ b ∈ A, G b = none → G2 b = none) (k : ∀ b ∈ A, H2 b = H b) : SlS K I G H o x A → SlS K I G2 H2 o x A
  | .un => .un
  | .v => .v
  | .sh h => .sh (h.mono e)
  | .ro h => .ro h
  | .ow h => .ow (h.frame e q k)
  | .sc h => .sc h
theorem SlR.frame (e : Ex G G2) : ∀ {σ ρ A}, (∀ b ∈ A, G b = none → G2 b = none) → (∀ b ∈ A, H2 b = H b) → SlR K I G H σ ρ A → SlR K I G2 H2 σ ρ A
  | _, _, _, _, _, .nil => .nil
  | _, _, _, q, k, .cons h r => .cons (h.frame e (fun b hb => q b (List.mem_append_left _ hb)) (fun b hb => k b (List.mem_append_left _ hb))) (SlR.frame e (fun b hb => q b (List.mem_append_right _ hb)) (fun b hb => k b (List.mem_append_right _ hb)) r)
theorem SlS.mem {o x A} : SlS K I G H o x A → ∀ b ∈ A, G b = none ∧ ∃ u, H b = some u
  | .un, b, hb => by cases hb
  | .v, b, hb => by cases hb
  | .sh _, b, hb => by cases hb
  | .ro _, b, hb => by cases hb
  | .ow h, b, hb => h.mem b hb
  | .sc _, b, hb => by cases hb
theorem SlR.mem : ∀ {σ ρ A}, SlR K I G H σ ρ A → ∀ b ∈ A, G b = none ∧ ∃ u, H b = some u
  | _, _, _, .nil, b, hb => by cases hb
  | _, _, _, .cons h r, b, hb => by
    rcases List.mem_append.mp hb with hb | hb
    · exact h.mem b hb
    · exact SlR.mem r b hb
theorem SlR.len : ∀ {σ ρ A}, SlR K I G H σ ρ A → σ.length = ρ.length
  | _, _, _, .nil => rfl
  | _, _, _, .cons _ r => by simp [SlR.len r]
theorem SlR.app : ∀ {σ ρ A τ π B}, SlR K I G H σ ρ A → SlR K I G H τ π B → SlR K I G H (σ ++ τ) (ρ ++ π) (A ++ B)
  | _, _, _, _, _, _, .nil, s => s
  | _, _, _, _, _, _, .cons h r, s => by
    rw [List.append_assoc]
    exact .cons h (SlR.app r s)
theorem SlR.uns : ∀ (n : Nat) (σ : List (Option V)), σ.length = n → SlR K I G H σ (List.replicate n .un) []
  | 0, [], _ => .nil
  | n + 1, o :: σ, h => .cons (A := []) (B := []) .un (SlR.uns n σ (by simpa using h))
theorem SlR.get : ∀ {i : Nat} {σ ρ A} {s : Sl}, SlR K I G H σ ρ A → ρ[i]? = some s → ∃ o B, σ[i]? = some o ∧ SlS K I G H o s B ∧ (∀ b ∈ B, b ∈ A)
  | 0, _, _, _, s, .cons h r, e => by
    obtain rfl := Option.some.inj e
    exact ⟨_, _, rfl, h, fun b hb => List.mem_append_left _ hb⟩
  | i + 1, _, _, _, s, .cons h r, e => by
    obtain ⟨o, B, h1, h2, h3⟩ := SlR.get (i := i) (s := s) r (by simpa using e)
    exact ⟨o, B, by simpa using h1, h2, fun b hb => List.mem_append_right _ (h3 b hb)⟩
  | 0, _, _, _, s, .nil, e => by cases e
  | _ + 1, _, _, _, s, .nil, e => by cases e
/-- a slot stands apart: it may be filled otherwise, in another heap that keeps the others -/
theorem SlR.focus : ∀ {i : Nat} {σ ρ A} {s : Sl}, SlR K I G H σ ρ A → ρ[i]? = some s → ∃ o A1 B A2, σ[i]? = some o ∧ SlS K I G H o s B ∧ A = A1 ++ (B ++ A2) ∧
    ∀ (G2 H2 : Hp) (o' : Option V) (s' : Sl) (B' : List Addr), Ex G G2 → (∀ b ∈ A1 ++ A2, G b = none → G2 b = none) → (∀ b ∈ A1 ++ A2, H2 b = H b) → SlS K I G2 H2 o' s' B' → SlR K I G2 H2 (σ.set i o') (ρ.set i s') (A1 ++ (B' ++ A2))
  | 0, _, _, _, s, .cons (A := A0) (B := B0) h r, e => by
    obtain rfl := Option.some.inj e
    refine ⟨_, [], A0, B0, rfl, h, by simp, fun G2 H2 o' s' B' eg q k h' => ?_⟩
    simp only [List.nil_append]
    exact .cons h' (r.frame eg (fun b hb => q b (by simpa using hb)) (fun b hb => k b (by simpa using hb)))
  | i + 1, _, _, _, s, .cons (A := A0) (B := B0) h r, e => by
    obtain ⟨o, A1, B, A2, h1, h2, h3, h4⟩ := SlR.focus (i := i) (s := s) r (by simpa using e)
    refine ⟨o, A0 ++ A1, B, A2, by simpa using h1, h2, by rw [h3]; simp, fun G2 H2 o' s' B' eg q k h' => ?_⟩
    have := SlR.cons (h.frame eg (fun b hb => q b (by simp [hb])) (fun b hb => k b (by simp [hb]))) (h4 G2 H2 o' s' B' eg (fun b hb => q b (by
      rcases List.mem_append.mp hb with z | z
      · simp [z]
      · simp [z])) (fun b hb => k b (by
      rcases List.mem_append.mp hb with z | z
      · simp [z]
      · simp [z])) h')
    simpa using this
  | 0, _, _, _, s, .nil, e => by cases e
  | _ + 1, _, _, _, s, .nil, e => by cases e
theorem SlR.nth {i : Nat} {σ ρ A} (r : SlR K I G H σ ρ A) (h : i < ρ.length) : ∃ s, ρ[i]? = some s := ⟨ρ[i], by simp [h]⟩
end

/-- the entry of a def: K, what was frozen, the heap -/
structure Gm where
  K : Fg
  G : Hp
  H : Hp
structure Sr (Γ : Gm) (G H : Hp) (σ : L2.St) (ρ : List Sl) : Prop where
  step : Step Γ.G Γ.H G H
  sub : Ex G H
  sl : ∃ A, SlR Γ.K Γ.H G H σ ρ A ∧ A.Nodup ∧ ∀ a ∈ A, Γ.H a = none
section
variable {Γ : Gm} {G H G2 H2 : Hp} {σ : L2.St} {ρ : List Sl}
theorem Sr.more (S : Sr Γ G H σ ρ) (s : Step G H G2 H2) (e : Ex G2 H2) : Sr Γ G2 H2 σ ρ := by
  obtain ⟨A, r, n, f⟩ := S.sl
  exact ⟨S.step.trans s, e, A, r.more s, n, f⟩
theorem nd_swap {A1 B A2 B' : List Addr} (h : (A1 ++ (B ++ A2)).Nodup) (h' : B'.Nodup) (d : ∀ b ∈ B', b ∉ A1 ++ A2) : (A1 ++ (B' ++ A2)).Nodup := by
  simp only [List.nodup_append, List.mem_append] at *
  obtain ⟨h1, ⟨h2, h3, h4⟩, h5⟩ := h
  refine ⟨h1, ⟨h', h3, ?_⟩, ?_⟩
  · intro a ha b hb e
    subst e
    exact d a ha (.inr hb)
  · intro a ha b hb e
    subst e
    rcases hb with hb | hb
    · exact d a hb (.inl ha)
    · exact h5 a ha a (.inr hb) rfl
theorem Sr.len (S : Sr Γ G H σ ρ) : σ.length = ρ.length := let ⟨_, r, _⟩ := S.sl; r.len
/-- a slot stored, with what an expression has made -/
theorem Sr.store {i : Nat} {x : V} {s : Sl} {B : List Addr} (S : Sr Γ G H σ ρ) (st : Step G H G2 H2) (e : Ex G2 H2) (h : SlS Γ.K Γ.H G2 H2 (some x) s B) (hn : B.Nodup) (hf : ∀ b ∈ B, H b = none) :
    Sr Γ G2 H2 (σ.set i (some x)) (ρ.set i s) := by
  by_cases hi : i < ρ.length
  case neg =>
    have e1 : σ.set i (some x) = σ := List.set_eq_of_length_le (by rw [S.len]; omega)
    have e2 : ρ.set i s = ρ := List.set_eq_of_length_le (by omega)
    rw [e1, e2]
    exact S.more st e
  obtain ⟨A, r, n, f⟩ := S.sl
  have fr : ∀ b ∈ B, b ∉ A := fun b hb z => by
    obtain ⟨_, o, q⟩ := r.mem b z
    rw [hf b hb] at q; cases q
  obtain ⟨s0, e0⟩ := r.nth hi
  obtain ⟨o, A1, B0, A2, h1, h2, rfl, h4⟩ := (r.more st).focus e0
  refine ⟨S.step.trans st, e, _, h4 G2 H2 _ _ _ (Ex.refl _) (fun _ _ e => e) (fun _ _ => rfl) h, nd_swap n hn fun b hb z => fr b hb ?_, fun a ha => ?_⟩
  · simp only [List.mem_append] at z ⊢
    rcases z with z | z
    · exact .inl z
    · exact .inr (.inr z)
  · simp only [List.mem_append] at ha
    rcases ha with z | z | z
    · exact f a (by simp [z])
    · exact S.step.h.none (hf a z)
    · exact f a (by simp [z])
end
end DL

set_option Elab.async false
set_option linter.all false
set_option maxRecDepth 100000
set_option maxHeartbeats 2000000
namespace L2
open PySem
theorem PE.weak {X : Cx} {e : Expr} {t t' : TE} (h : PE X e t) (w : ∀ σ H Q, t' σ H Q → t σ H Q) : PE X e t' := ⟨fun pins s σ H Q I q => h.run pins s σ H Q I (w _ _ _ q)⟩
theorem PT.weak {X : Cx} {e : Expr} {t t' : TT} (h : PT X e t) (w : ∀ σ H Q, t' σ H Q → t σ H Q) : PT X e t' := ⟨fun pins s σ H Q I q => h.run pins s σ H Q I (w _ _ _ q)⟩
theorem PW.weak {X : Cx} {e : Expr} {t t' : TT} (h : PW X e t) (w : ∀ σ H Q, t' σ H Q → t σ H Q) : PW X e t' := ⟨fun wh pins s σ H Q I q => h.run wh pins s σ H Q I (w _ _ _ q)⟩
theorem PA.weak {X : Cx} {e : List Expr} {t t' : TA} (h : PA X e t) (w : ∀ σ H Q, t' σ H Q → t σ H Q) : PA X e t' := ⟨fun pos pins s σ H Q I q => h.run pos pins s σ H Q I (w _ _ _ q)⟩
theorem PS.weak {X : Cx} {e : Stmt} {t t' : TS} (h : PS X e t) (w : ∀ D σ H, t' D σ H → t D σ H) : PS X e t' := ⟨fun pins s σ H D I q => h.run pins s σ H D I (w _ _ _ q)⟩
theorem PSs.weak {X : Cx} {e : List Stmt} {t t' : TS} (h : PSs X e t) (w : ∀ D σ H, t' D σ H → t D σ H) : PSs X e t' := ⟨fun pins s σ H D I q => h.run pins s σ H D I (w _ _ _ q)⟩
theorem PI.weak {X : Cx} {tg it : Expr} {t t' : TI} (h : PI X tg it t) (w : ∀ σ H R, t' σ H R → t σ H R) : PI X tg it t' := ⟨fun pins s σ H R I q => h.run pins s σ H R I (w _ _ _ q)⟩
end L2
namespace DL
open PySem L2

theorem pe_absurd {X : Cx} {e : Expr} : PE X e (fun _ _ _ => False) := ⟨fun _ _ _ _ _ _ h => h.elim⟩
theorem pt_absurd {X : Cx} {e : Expr} : PT X e (fun _ _ _ => False) := ⟨fun _ _ _ _ _ _ h => h.elim⟩
theorem pw_absurd {X : Cx} {e : Expr} : PW X e (fun _ _ _ => False) := ⟨fun _ _ _ _ _ _ _ h => h.elim⟩

inductive Kd | z | r | c
def tX (Γ : Gm) (ρ : List Sl) (P : Hp → Hp → Hp → V → Prop) : TE := fun σ H Q => ∃ G, Sr Γ G H σ ρ ∧ ∀ v G2 H2, Step G H G2 H2 → Ex G2 H2 → P H G2 H2 v → Q v H2
def pK (Γ : Gm) : Kd → D → Hp → Hp → Hp → V → Prop
  | .z, d => fun _ G2 _ v => Rep G2 v d
  | .r, d => fun _ _ _ v => Rep Γ.H v d
  | .c, d => fun _ _ H2 v => Rep H2 v d
def pO (t : OT) : Hp → Hp → Hp → V → Prop := fun H G2 H2 v => ∃ A, OwnT G2 H2 t v A ∧ A.Nodup ∧ ∀ a ∈ A, H a = none
def DV (X : Cx) (Γ : Gm) (ρ : List Sl) (e : Expr) (x : V) : Prop := PE X e (tX Γ ρ fun _ _ _ v => v = x)
def DE (X : Cx) (Γ : Gm) (ρ : List Sl) (e : Expr) (κ : Kd) (d : D) : Prop := PE X e (tX Γ ρ (pK Γ κ d))
def DO (X : Cx) (Γ : Gm) (ρ : List Sl) (e : Expr) (t : OT) : Prop := PE X e (tX Γ ρ (pO t))
/-- an expression that doesn't come back -/
def DN (X : Cx) (Γ : Gm) (ρ : List Sl) (e : Expr) : Prop := PE X e (tX Γ ρ fun _ _ _ _ => False)
def tT (Γ : Gm) (ρ : List Sl) (b : Bool) : TT := fun σ H Q => ∃ G, Sr Γ G H σ ρ ∧ ∀ G2 H2, Step G H G2 H2 → Ex G2 H2 → Q b H2
def DT (X : Cx) (Γ : Gm) (ρ : List Sl) (e : Expr) (b : Bool) : Prop := PT X e (tT Γ ρ b)
def DW (X : Cx) (Γ : Gm) (ρ : List Sl) (e : Expr) (b : Bool) : Prop := PW X e (tT Γ ρ b)

/-- a plain value as data -/
def vD : V → D
  | .bl b => .bool b
  | .int i => .int i
  | .str x => .str x
  | _ => .none
def vOk : V → Bool
  | .non => true
  | .bl _ => true
  | .int _ => true
  | .str _ => true
  | _ => false
theorem vD_rep {H : Hp} : ∀ {x : V}, vOk x = true → Rep H x (vD x)
  | .non, _ => .non
  | .bl b, _ => .bl b
  | .int i, _ => .int i
  | .str x, _ => .str x
  | .byt _, h => by cases h
  | .flt _, h => by cases h
  | .ref _, h => by cases h
  | .ty _, h => by cases h
/-- data that is a plain value -/
def dV : D → Option V
  | .none => some .non
  | .bool b => some (.bl b)
  | .int i => some (.int i)
  | .str x => some (.str x)
  | _ => none
theorem rep_dV {H : Hp} {v x : V} {d : D} (h : Rep H v d) (e : dV d = some x) : v = x := by
  cases h <;> first | exact Option.some.inj e | cases e

section
variable {X : Cx} {Γ : Gm} {ρ : List Sl} {e a b c : Expr} {es : List Expr} {pos p : Pos} {κ κ' : Kd} {d d' : D} {x y z : V} {t : OT} {σ : L2.St} {G H G1 H1 G2 H2 : Hp}
theorem pK_c {v : V} (S : Sr Γ G H σ ρ) (s : Step G H G2 H2) (ex : Ex G2 H2) (h : pK Γ κ d H G2 H2 v) : Rep H2 v d := by
  cases κ with
  | z => exact Rep.mono ex h
  | r => exact Rep.mono (S.step.h.trans s.h) h
  | c => exact h
theorem pK_more {v : V} {H0 : Hp} (s : Step G1 H1 G2 H2) (h : pK Γ κ d H0 G1 H1 v) {H0' : Hp} : pK Γ κ d H0' G2 H2 v := by
  cases κ with
  | z => exact Rep.mono s.g h
  | r => exact h
  | c => exact Rep.mono s.h h
theorem pO_more {v : V} (s0 : Step G H G1 H1) (s : Step G1 H1 G2 H2) (h : pO t H G1 H1 v) : pO t H G2 H2 v := by
  obtain ⟨A, o, n, f⟩ := h
  exact ⟨A, o.more s, n, f⟩
theorem tX_imp {P P' : Hp → Hp → Hp → V → Prop} (h : PE X e (tX Γ ρ P)) (w : ∀ (σ : L2.St) (G H G2 H2 : Hp) (v : V), Sr Γ G H σ ρ → Step G H G2 H2 → Ex G2 H2 → P H G2 H2 v → P' H G2 H2 v) : PE X e (tX Γ ρ P') :=
  h.weak fun σ H Q ⟨G, S, k⟩ => ⟨G, S, fun v G2 H2 s ex q => k v G2 H2 s ex (w σ G H G2 H2 v S s ex q)⟩

/-! ### from one kind to another -/
theorem DE.cur (h : DE X Γ ρ e κ d) : DE X Γ ρ e .c d := tX_imp h fun _ _ _ _ _ _ S s ex q => pK_c S s ex q
theorem DE.val (h : DE X Γ ρ e κ d) (hx : dV d = some x) : DV X Γ ρ e x := tX_imp h fun _ _ _ _ _ _ S s ex q => rep_dV (pK_c S s ex q) hx
theorem DV.dat (h : DV X Γ ρ e x) (hx : vOk x = true := by rfl) : DE X Γ ρ e .z (vD x) := tX_imp h fun _ _ _ _ _ v S s ex (q : v = x) => by
  rw [q]
  exact vD_rep hx
theorem DE.own (h : DE X Γ ρ e .z d) : DO X Γ ρ e (.fz d) := tX_imp h fun _ _ _ _ _ _ S s ex q => ⟨[], .fz q, List.nodup_nil, fun _ z => by cases z⟩
theorem DO.cur (h : DO X Γ ρ e t) : DE X Γ ρ e .c t.er := tX_imp h fun _ _ _ _ _ _ S s ex ⟨_, o, _⟩ => o.rep ex
/-- what is owned is frozen -/
theorem freeze {A : List Addr} {v : V} (s : Step G H G2 H2) (ex : Ex G2 H2) (o : OwnT G2 H2 t v A) (f : ∀ a ∈ A, H a = none) : Step G H (DL.frz G2 H2 A) H2 ∧ Ex (DL.frz G2 H2 A) H2 ∧ Rep (DL.frz G2 H2 A) v t.er := by
  have e1 : Ex G2 (DL.frz G2 H2 A) := frz_ex fun b hb => (o.mem b hb).1
  refine ⟨⟨s.g.trans e1, s.h, fun b u e1 e2 => ?_⟩, frz_sub ex, o.frz e1 fun b hb => hb⟩
  have nA : b ∉ A := fun z => by rw [f b z] at e2; cases e2
  rw [frz_out nA]
  exact s.f b u e1 e2
theorem DO.frz (h : DO X Γ ρ e t) : DE X Γ ρ e .z t.er := h.weak fun σ H Q ⟨G, S, k⟩ => ⟨G, S, fun v G2 H2 s ex ⟨A, o, n, f⟩ => by
  obtain ⟨s', ex', r⟩ := freeze s ex o f
  exact k v _ H2 s' ex' r⟩
theorem DE.eq (h : DE X Γ ρ e κ d) (q : d = d') : DE X Γ ρ e κ d' := q ▸ h
theorem DO.eq {t' : OT} (h : DO X Γ ρ e t) (q : t = t') : DO X Γ ρ e t' := q ▸ h
theorem DV.eq (h : DV X Γ ρ e x) (q : x = y) : DV X Γ ρ e y := q ▸ h
theorem DT.eq {b b' : Bool} (h : DT X Γ ρ e b) (q : b = b') : DT X Γ ρ e b' := q ▸ h

/-! ### constants and names -/
theorem tX_val (h : PE X e (tC x)) : DV X Γ ρ e x := h.weak fun σ H Q ⟨G, S, k⟩ => k x G H (Step.refl _ _) S.sub rfl
theorem dv_int {i : Int} {j} : DV X Γ ρ (.Constant (.int i) j pos) (.int i) := tX_val pe_int
theorem dv_str {i : Str} {j} : DV X Γ ρ (.Constant (.str i) j pos) (.str i) := tX_val pe_str
theorem dv_bl {i : Bool} {j} : DV X Γ ρ (.Constant (.bool i) j pos) (.bl i) := tX_val pe_bl
theorem dv_non {j} : DV X Γ ρ (.Constant .none j pos) .non := tX_val pe_non
theorem dv_neg {i : Int} (h : DV X Γ ρ e (.int i)) : DV X Γ ρ (.UnaryOp .USub e pos) (.int (-i)) := (pe_un un_neg h).weak fun σ H Q ⟨G, S, k⟩ => ⟨G, S, fun v G2 H2 s ex q => ⟨i, q, k _ G2 H2 s ex rfl⟩⟩
theorem dv_glob {n : Str} {u : Value} (hg : Gl X n) (hm : X.mg n = some u) (r : RelV x u) (hd : (n == ("__debug__" : Str)) = false := by decide) : DV X Γ ρ (.Name n pos) x := tX_val (pe_glob hg hm r hd)
theorem dv_bltn {n : Str} {u : Value} (hg : Gl X n) (hm : X.mg n = none) (hv : bootBuiltins n = some u) (r : RelV x u) (hn : n ≠ "__name__" := by decide) (hd : (n == ("__debug__" : Str)) = false := by decide) : DV X Γ ρ (.Name n pos) x := tX_val (pe_bltn hg hm hv r hn hd)
theorem var_weak {i : Nat} {P : Hp → Hp → Hp → V → Prop} (h : PE X e (tVar i)) (hs : ∀ (σ : L2.St) (G H : Hp), Sr Γ G H σ ρ → ∃ v, σ[i]? = some (some v) ∧ P H G H v) : PE X e (tX Γ ρ P) :=
  h.weak fun σ H Q ⟨G, S, k⟩ => let ⟨v, e, q⟩ := hs σ G H S; ⟨v, e, k v G H (Step.refl _ _) S.sub q⟩
theorem Sr.slot {i : Nat} {s : Sl} (S : Sr Γ G H σ ρ) (h : ρ[i]? = some s) : ∃ o B, σ[i]? = some o ∧ SlS Γ.K Γ.H G H o s B := by
  obtain ⟨A, r, _⟩ := S.sl
  obtain ⟨o, B, h1, h2, _⟩ := r.get h
  exact ⟨o, B, h1, h2⟩
theorem dv_var (i : Nat) {n : Str} (h : ρ[i]? = some (.v x)) (hN : X.N[i]? = some n := by rfl) (hv : Vis X.env.scope n := by first | exact Or.inl rfl | exact Or.inr (Or.inl rfl) | exact Or.inr (Or.inr rfl)) (hd : (n == ("__debug__" : Str)) = false := by decide) (hcd : (n == ("__classdict__" : Str)) = false := by decide) :
    DV X Γ ρ (.Name n pos) x := var_weak (pe_var hN hv hd hcd) fun σ G H S => by
  obtain ⟨o, B, h1, h2⟩ := S.slot h
  cases h2
  exact ⟨_, h1, rfl⟩
theorem de_sh (i : Nat) {n : Str} (h : ρ[i]? = some (.sh d)) (hN : X.N[i]? = some n := by rfl) (hv : Vis X.env.scope n := by first | exact Or.inl rfl | exact Or.inr (Or.inl rfl) | exact Or.inr (Or.inr rfl)) (hd : (n == ("__debug__" : Str)) = false := by decide) (hcd : (n == ("__classdict__" : Str)) = false := by decide) :
    DE X Γ ρ (.Name n pos) .z d := var_weak (pe_var hN hv hd hcd) fun σ G H S => by
  obtain ⟨o, B, h1, h2⟩ := S.slot h
  cases h2 with
  | sh r => exact ⟨_, h1, r⟩
theorem de_ro (i : Nat) {n : Str} (h : ρ[i]? = some (.ro d)) (hN : X.N[i]? = some n := by rfl) (hv : Vis X.env.scope n := by first | exact Or.inl rfl | exact Or.inr (Or.inl rfl) | exact Or.inr (Or.inr rfl)) (hd : (n == ("__debug__" : Str)) = false := by decide) (hcd : (n == ("__classdict__" : Str)) = false := by decide) :
    DE X Γ ρ (.Name n pos) .r d := var_weak (pe_var hN hv hd hcd) fun σ G H S => by
  obtain ⟨o, B, h1, h2⟩ := S.slot h
  cases h2 with
  | ro r => exact ⟨_, h1, r⟩
theorem de_ow (i : Nat) {n : Str} (h : ρ[i]? = some (.ow t)) (hN : X.N[i]? = some n := by rfl) (hv : Vis X.env.scope n := by first | exact Or.inl rfl | exact Or.inr (Or.inl rfl) | exact Or.inr (Or.inr rfl)) (hd : (n == ("__debug__" : Str)) = false := by decide) (hcd : (n == ("__classdict__" : Str)) = false := by decide) :
    DE X Γ ρ (.Name n pos) .c t.er := var_weak (pe_var hN hv hd hcd) fun σ G H S => by
  obtain ⟨o, B, h1, h2⟩ := S.slot h
  cases h2 with
  | ow r => exact ⟨_, h1, r.rep S.sub⟩

/-! ### operators on plain values -/
theorem bin_weak {r : R2} {ta tb : TE} {PA PB P : Hp → Hp → Hp → V → Prop} (h : PE X e (tOp r (tX Γ ρ PA) (tX Γ ρ PB)))
    (w : ∀ (σ : L2.St) (G H G1 H1 G2 H2 : Hp) (v u : V) (Q : VK), Sr Γ G H σ ρ → Step G H G1 H1 → Ex G1 H1 → PA H G1 H1 v → Step G1 H1 G2 H2 → Ex G2 H2 → PB H1 G2 H2 u →
      (∀ w G3 H3, Step G2 H2 G3 H3 → Ex G3 H3 → P H G3 H3 w → Q w H3) → r v u H2 Q) : PE X e (tX Γ ρ P) :=
  h.weak fun σ H Q ⟨G, S, k⟩ => ⟨G, S, fun v G1 H1 s1 e1 p1 => ⟨G1, S.more s1 e1, fun u G2 H2 s2 e2 p2 => w σ G H G1 H1 G2 H2 v u Q S s1 e1 p1 s2 e2 p2 fun x G3 H3 s3 e3 p3 => k x G3 H3 ((s1.trans s2).trans s3) e3 p3⟩⟩
theorem dv_op {op : Operator} {r : R2} (ho : OpR X (binaryOp op) r) (ha : DV X Γ ρ a x) (hb : DV X Γ ρ b y) (hr : ∀ (H : Hp) (Q : VK), Q z H → r x y H Q) : DV X Γ ρ (.BinOp a op b pos) z :=
  bin_weak (ta := tC x) (tb := tC x) (pe_op ho ha hb) fun σ G H G1 H1 G2 H2 v u Q S s1 e1 p1 s2 e2 p2 k => by
    have p1' : v = x := p1
    have p2' : u = y := p2
    rw [p1', p2']
    exact hr _ _ (k _ G2 H2 (Step.refl _ _) e2 rfl)
theorem dv_cmpR {op : CmpOp} {r : R2} (ho : OpR X (compareOp op) r) (ha : DV X Γ ρ a x) (hb : DV X Γ ρ b y) (hm : behindInMarks op b = false) (hr : ∀ (H : Hp) (Q : VK), Q z H → r x y H Q) : DV X Γ ρ (.Compare a [op] [b] pos) z :=
  bin_weak (ta := tC x) (tb := tC x) (pe_cmpR ho ha hb hm) fun σ G H G1 H1 G2 H2 v u Q S s1 e1 p1 s2 e2 p2 k => by
    have p1' : v = x := p1
    have p2' : u = y := p2
    rw [p1', p2']
    exact hr _ _ (k _ G2 H2 (Step.refl _ _) e2 rfl)
variable {i j k : Int}
theorem dv_add (ha : DV X Γ ρ a (.int i)) (hb : DV X Γ ρ b (.int j)) : DV X Γ ρ (.BinOp a .Add b pos) (.int (i + j)) := dv_op op_add ha hb fun _ _ q => ⟨_, _, rfl, rfl, q⟩
theorem dv_sub (ha : DV X Γ ρ a (.int i)) (hb : DV X Γ ρ b (.int j)) : DV X Γ ρ (.BinOp a .Sub b pos) (.int (i - j)) := dv_op op_sub ha hb fun _ _ q => ⟨_, _, rfl, rfl, q⟩
theorem dv_mul (ha : DV X Γ ρ a (.int i)) (hb : DV X Γ ρ b (.int j)) (hc : CMul i j) : DV X Γ ρ (.BinOp a .Mult b pos) (.int (i * j)) := dv_op op_mul ha hb fun _ _ q => ⟨_, _, rfl, rfl, hc, q⟩
theorem dv_fdiv (ha : DV X Γ ρ a (.int i)) (hb : DV X Γ ρ b (.int j)) (hc : 0 < j ∧ j < 1073741824) : DV X Γ ρ (.BinOp a .FloorDiv b pos) (.int (i / j)) := dv_op op_fdiv ha hb fun _ _ q => ⟨_, _, rfl, rfl, hc, q⟩
theorem dv_mod (ha : DV X Γ ρ a (.int i)) (hb : DV X Γ ρ b (.int j)) (hc : 0 < j) : DV X Γ ρ (.BinOp a .Mod b pos) (.int (i % j)) := dv_op op_mod ha hb fun _ _ q => ⟨_, _, rfl, rfl, hc, q⟩
theorem dv_cat {u w : Str} (ha : DV X Γ ρ a (.str u)) (hb : DV X Γ ρ b (.str w)) (hc : u.length + w.length ≤ sizeLine) : DV X Γ ρ (.BinOp a .Add b pos) (.str (u ++ w)) := dv_op op_add_str ha hb fun _ _ q => ⟨_, _, rfl, rfl, hc, q⟩
theorem dv_lt (ha : DV X Γ ρ a (.int i)) (hb : DV X Γ ρ b (.int j)) : DV X Γ ρ (.Compare a [.Lt] [b] pos) (.bl (decide (i < j))) := dv_cmpR op_lt ha hb (nomark _) fun _ _ q => ⟨_, _, rfl, rfl, q⟩
theorem dv_le (ha : DV X Γ ρ a (.int i)) (hb : DV X Γ ρ b (.int j)) : DV X Γ ρ (.Compare a [.LtE] [b] pos) (.bl (decide (i ≤ j))) := dv_cmpR op_le ha hb (nomark _) fun _ _ q => ⟨_, _, rfl, rfl, q⟩
theorem dv_gt (ha : DV X Γ ρ a (.int i)) (hb : DV X Γ ρ b (.int j)) : DV X Γ ρ (.Compare a [.Gt] [b] pos) (.bl (decide (j < i))) := dv_cmpR op_gt ha hb (nomark _) fun _ _ q => ⟨_, _, rfl, rfl, q⟩
theorem dv_ge (ha : DV X Γ ρ a (.int i)) (hb : DV X Γ ρ b (.int j)) : DV X Γ ρ (.Compare a [.GtE] [b] pos) (.bl (decide (j ≤ i))) := dv_cmpR op_ge ha hb (nomark _) fun _ _ q => ⟨_, _, rfl, rfl, q⟩
theorem dv_eqS (ha : DV X Γ ρ a x) (hb : DV X Γ ρ b y) (hs : scal x y = true := by rfl) : DV X Γ ρ (.Compare a [.Eq] [b] pos) (.bl (decide (x = y))) := dv_cmpR op_eq ha hb (nomark _) fun _ _ q => ⟨hs, q⟩
theorem dv_neS (ha : DV X Γ ρ a x) (hb : DV X Γ ρ b y) (hs : scal x y = true := by rfl) : DV X Γ ρ (.Compare a [.NotEq] [b] pos) (.bl (!decide (x = y))) := dv_cmpR op_ne ha hb (nomark _) fun _ _ q => ⟨hs, q⟩
theorem dec_i {i j : Int} : decide (V.int i = V.int j) = decide (i = j) := by simp
theorem dec_b {i j : Bool} : decide (V.bl i = V.bl j) = decide (i = j) := by simp
theorem dec_s {i j : Str} : decide (V.str i = V.str j) = decide (i = j) := by simp
theorem dv_eq (ha : DV X Γ ρ a (.int i)) (hb : DV X Γ ρ b (.int j)) : DV X Γ ρ (.Compare a [.Eq] [b] pos) (.bl (decide (i = j))) := dec_i ▸ dv_eqS ha hb
theorem dv_ne (ha : DV X Γ ρ a (.int i)) (hb : DV X Γ ρ b (.int j)) : DV X Γ ρ (.Compare a [.NotEq] [b] pos) (.bl (!decide (i = j))) := dec_i ▸ dv_neS ha hb
theorem dv_eqStr {i j : Str} (ha : DV X Γ ρ a (.str i)) (hb : DV X Γ ρ b (.str j)) : DV X Γ ρ (.Compare a [.Eq] [b] pos) (.bl (decide (i = j))) := dec_s ▸ dv_eqS ha hb
theorem dv_neStr {i j : Str} (ha : DV X Γ ρ a (.str i)) (hb : DV X Γ ρ b (.str j)) : DV X Γ ρ (.Compare a [.NotEq] [b] pos) (.bl (!decide (i = j))) := dec_s ▸ dv_neS ha hb
theorem dv_eqBl {i j : Bool} (ha : DV X Γ ρ a (.bl i)) (hb : DV X Γ ρ b (.bl j)) : DV X Γ ρ (.Compare a [.Eq] [b] pos) (.bl (decide (i = j))) := dec_b ▸ dv_eqS ha hb
theorem dv_neBl {i j : Bool} (ha : DV X Γ ρ a (.bl i)) (hb : DV X Γ ρ b (.bl j)) : DV X Γ ρ (.Compare a [.NotEq] [b] pos) (.bl (!decide (i = j))) := dec_b ▸ dv_neS ha hb
/-- x is None, of data -/
def isN : D → Bool
  | .none => true
  | _ => false
theorem rep_isN {H : Hp} {v : V} {d : D} (h : Rep H v d) : decide (v = .non) = isN d := by cases h <;> rfl
theorem de_isN (ha : DE X Γ ρ a κ d) {j q} : DV X Γ ρ (.Compare a [.Is] [.Constant .none j q] pos) (.bl (isN d)) :=
  bin_weak (ta := tC .non) (tb := tC .non) (pe_cmpR op_isN ha (dv_non (Γ := Γ) (ρ := ρ)) (nomark _)) fun σ G H G1 H1 G2 H2 v u Q S s1 e1 p1 s2 e2 p2 k => by
    have p2' : u = .non := p2
    refine ⟨p2', ?_⟩
    rw [rep_isN (pK_c S s1 e1 p1)]
    exact k _ G2 H2 (Step.refl _ _) e2 rfl
theorem de_notN (ha : DE X Γ ρ a κ d) {j q} : DV X Γ ρ (.Compare a [.IsNot] [.Constant .none j q] pos) (.bl (!isN d)) :=
  bin_weak (ta := tC .non) (tb := tC .non) (pe_cmpR op_notN ha (dv_non (Γ := Γ) (ρ := ρ)) (nomark _)) fun σ G H G1 H1 G2 H2 v u Q S s1 e1 p1 s2 e2 p2 k => by
    have p2' : u = .non := p2
    refine ⟨p2', ?_⟩
    rw [rep_isN (pK_c S s1 e1 p1)]
    exact k _ G2 H2 (Step.refl _ _) e2 rfl
theorem dv_isN (ha : DV X Γ ρ a x) {j q} : DV X Γ ρ (.Compare a [.Is] [.Constant .none j q] pos) (.bl (decide (x = .non))) := dv_cmpR op_isN ha dv_non (nomark _) fun _ _ q => ⟨rfl, q⟩
theorem dv_notN (ha : DV X Γ ρ a x) {j q} : DV X Γ ρ (.Compare a [.IsNot] [.Constant .none j q] pos) (.bl (!decide (x = .non))) := dv_cmpR op_notN ha dv_non (nomark _) fun _ _ q => ⟨rfl, q⟩
/-- i <= j <= k -/
theorem dv_chain {op op' : CmpOp} {f g : Int → Int → Bool} (ho : OpR X (compareOp op) (rI0 fun i j => .bl (f i j))) (ho' : OpR X (compareOp op') (rI0 fun i j => .bl (g i j))) (ha : DV X Γ ρ a (.int i)) (hb : DV X Γ ρ b (.int j)) (hc : DV X Γ ρ c (.int k))
    (hm : lastMarks [op, op'] [b, c] = false := by with_unfolding_all rfl) : DV X Γ ρ (.Compare a [op, op'] [b, c] pos) (.bl (f i j && g j k)) :=
  (pe_chain ho ho' ha hb hc hm).weak fun σ H Q ⟨G, S, kk⟩ => ⟨G, S, fun v G1 H1 s1 e1 p1 => ⟨G1, S.more s1 e1, fun u G2 H2 s2 e2 p2 => ⟨i, j, p1, p2, f i j, rfl, by
    cases hf : f i j with
    | true =>
      rw [if_pos rfl]
      exact ⟨G2, (S.more s1 e1).more s2 e2, fun w G3 H3 s3 e3 p3 => ⟨j, k, p2, p3, kk _ G3 H3 ((s1.trans s2).trans s3) e3 (by rw [hf]; rfl)⟩⟩
    | false =>
      rw [if_neg Bool.false_ne_true]
      exact kk _ G2 H2 (s1.trans s2) e2 (by rw [hf]; rfl)⟩⟩⟩
theorem dv_leLe (ha : DV X Γ ρ a (.int i)) (hb : DV X Γ ρ b (.int j)) (hc : DV X Γ ρ c (.int k)) (hm : lastMarks [.LtE, .LtE] [b, c] = false := by with_unfolding_all rfl) : DV X Γ ρ (.Compare a [.LtE, .LtE] [b, c] pos) (.bl (decide (i ≤ j) && decide (j ≤ k))) := dv_chain op_le op_le ha hb hc hm
theorem dv_leLt (ha : DV X Γ ρ a (.int i)) (hb : DV X Γ ρ b (.int j)) (hc : DV X Γ ρ c (.int k)) (hm : lastMarks [.LtE, .Lt] [b, c] = false := by with_unfolding_all rfl) : DV X Γ ρ (.Compare a [.LtE, .Lt] [b, c] pos) (.bl (decide (i ≤ j) && decide (j < k))) := dv_chain op_le op_lt ha hb hc hm

/-! ### and, or, not -/
theorem dv_not {q : Bool} (h : DV X Γ ρ a (.bl q)) : DV X Γ ρ (.UnaryOp .Not a pos) (.bl (!q)) := (pe_not h).weak fun σ H Q ⟨G, S, k⟩ => ⟨G, S, fun v G2 H2 s ex p => ⟨q, p, k _ G2 H2 s ex rfl⟩⟩
variable {q r : Bool} {rest : List Expr}
theorem dv_one {op} (h : DV X Γ ρ a x) : DV X Γ ρ (.BoolOp op [a] pos) x := pe_one h
theorem dv_and (ha : DV X Γ ρ a (.bl q)) (hb : q = true → DV X Γ ρ (.BoolOp .And (b :: rest) pos) (.bl r)) : DV X Γ ρ (.BoolOp .And (a :: b :: rest) pos) (.bl (q && r)) := by
  cases q with
  | true => exact (pe_and ha (hb rfl)).weak fun σ H Q ⟨G, S, k⟩ => ⟨G, S, fun v G1 H1 s1 e1 p1 => ⟨true, p1, by rw [if_pos rfl]; exact ⟨G1, S.more s1 e1, fun u G2 H2 s2 e2 p2 => k u G2 H2 (s1.trans s2) e2 p2⟩⟩⟩
  | false => exact (pe_and ha pe_absurd).weak fun σ H Q ⟨G, S, k⟩ => ⟨G, S, fun v G1 H1 s1 e1 p1 => ⟨false, p1, by rw [if_neg Bool.false_ne_true]; exact k _ G1 H1 s1 e1 rfl⟩⟩
theorem dv_or (ha : DV X Γ ρ a (.bl q)) (hb : q = false → DV X Γ ρ (.BoolOp .Or (b :: rest) pos) (.bl r)) : DV X Γ ρ (.BoolOp .Or (a :: b :: rest) pos) (.bl (q || r)) := by
  cases q with
  | false => exact (pe_or ha (hb rfl)).weak fun σ H Q ⟨G, S, k⟩ => ⟨G, S, fun v G1 H1 s1 e1 p1 => ⟨false, p1, by rw [if_neg Bool.false_ne_true]; exact ⟨G1, S.more s1 e1, fun u G2 H2 s2 e2 p2 => k u G2 H2 (s1.trans s2) e2 p2⟩⟩⟩
  | true => exact (pe_or ha pe_absurd).weak fun σ H Q ⟨G, S, k⟩ => ⟨G, S, fun v G1 H1 s1 e1 p1 => ⟨true, p1, by rw [if_pos rfl]; exact k _ G1 H1 s1 e1 rfl⟩⟩
theorem dt_val (h : DV X Γ ρ e (.bl q)) (he : ∀ whole, isTrue e X.env whole = (do let v ← whole; standAt e.pos; holding [v] (truthy v)) := by intro _; rfl) : DT X Γ ρ e q :=
  (pt_val h he).weak fun σ H Q ⟨G, S, k⟩ => ⟨G, S, fun v G2 H2 s ex p => ⟨q, p, k G2 H2 s ex⟩⟩
theorem dt_not (h : DT X Γ ρ a q) : DT X Γ ρ (.UnaryOp .Not a pos) (!q) := (pt_not h).weak fun σ H Q ⟨G, S, k⟩ => ⟨G, S, fun G2 H2 s ex => k G2 H2 s ex⟩
theorem DW.pt (h : DW X Γ ρ e q) : DT X Γ ρ e q := PW.pt h
theorem dw_and1 (h : DT X Γ ρ a q) : DW X Γ ρ (.BoolOp .And [a] pos) q := pw_and1 h
theorem dw_or1 (h : DT X Γ ρ a q) : DW X Γ ρ (.BoolOp .Or [a] pos) q := pw_or1 h
theorem dw_and (ha : DT X Γ ρ a q) (hb : q = true → DW X Γ ρ (.BoolOp .And (b :: rest) pos) r) : DW X Γ ρ (.BoolOp .And (a :: b :: rest) pos) (q && r) := by
  cases q with
  | true => exact (pw_and ha (hb rfl)).weak fun σ H Q ⟨G, S, k⟩ => ⟨G, S, fun G1 H1 s1 e1 => iteT ⟨G1, S.more s1 e1, fun G2 H2 s2 e2 => k G2 H2 (s1.trans s2) e2⟩⟩
  | false => exact (pw_and ha pw_absurd).weak fun σ H Q ⟨G, S, k⟩ => ⟨G, S, fun G1 H1 s1 e1 => iteF (k G1 H1 s1 e1)⟩
theorem dw_or (ha : DT X Γ ρ a q) (hb : q = false → DW X Γ ρ (.BoolOp .Or (b :: rest) pos) r) : DW X Γ ρ (.BoolOp .Or (a :: b :: rest) pos) (q || r) := by
  cases q with
  | false => exact (pw_or ha (hb rfl)).weak fun σ H Q ⟨G, S, k⟩ => ⟨G, S, fun G1 H1 s1 e1 => iteF ⟨G1, S.more s1 e1, fun G2 H2 s2 e2 => k G2 H2 (s1.trans s2) e2⟩⟩
  | true => exact (pw_or ha pw_absurd).weak fun σ H Q ⟨G, S, k⟩ => ⟨G, S, fun G1 H1 s1 e1 => iteT (k G1 H1 s1 e1)⟩
end
end DL

set_option Elab.async false
set_option linter.all false
set_option maxRecDepth 100000
set_option maxHeartbeats 2000000
namespace DL
open PySem L2

/-! ### typed data -/
def dl {α : Type} (f : α → D) (xs : List α) : D := .list (xs.map f)
def d2 {α β : Type} (f : α → D) (g : β → D) (p : α × β) : D := .tuple [f p.1, g p.2]
def tl {α : Type} (g : α → OT) (xs : List α) : OT := .cell (xs.map g)
def tI (i : Int) : OT := .fz (.int i)
def tF {α : Type} (f : α → D) (x : α) : OT := .fz (f x)
abbrev dI : Int → D := PyData.int
abbrev dL : List Int → D := dl dI
abbrev dLL : List (List Int) → D := dl dL
abbrev dP : Int × Int → D := d2 dI dI
abbrev dPs : List (Int × Int) → D := dl dP
abbrev tL : List Int → OT := tl tI
abbrev tLL : List (List Int) → OT := tl tL
abbrev tPs : List (Int × Int) → OT := tl (tF dP)
/-- the data of an owned thing -/
class Er {α : Type} (g : α → OT) (f : outParam (α → D)) : Prop where
  er : ∀ x, (g x).er = f x
instance : Er tI dI := ⟨fun x => by unfold tI OT.er; rfl⟩
instance {α : Type} (f : α → D) : Er (tF f) f := ⟨fun x => by unfold tF OT.er; rfl⟩
instance {α : Type} (g : α → OT) (f : α → D) [h : Er g f] : Er (tl g) (dl f) := ⟨fun x => by
  unfold tl OT.er dl
  rw [ers_map, List.map_map]
  congr 1
  exact List.map_congr_left fun a _ => h.er a⟩
/-- == of such data is equality -/
class EqD {α : Type} (f : α → D) : Prop where
  eqv : ∀ x y, PyData.eqv (f x) (f y) = true ↔ x = y
  lay : ∀ x, PyData.canLay0 (f x) = true
  dep : ∃ n, n ≤ 32 ∧ ∀ x, (f x).depth ≤ n

theorem eqvAll_iff {α : Type} {f : α → D} (h : ∀ x y, PyData.eqv (f x) (f y) = true ↔ x = y) : ∀ xs ys : List α, PyData.eqvAll (xs.map f) (ys.map f) = true ↔ xs = ys
  | [], [] => by simp [PyData.eqvAll]
  | [], _ :: _ => by simp [PyData.eqvAll]
  | _ :: _, [] => by simp [PyData.eqvAll]
  | x :: xs, y :: ys => by
    have ih := eqvAll_iff h xs ys
    simp only [List.map_cons, PyData.eqvAll, Bool.and_eq_true, h, ih, List.cons.injEq]
theorem layAll {α : Type} {f : α → D} (h : ∀ x, PyData.canLay0 (f x) = true) : ∀ xs : List α, PyData.canLayAll0 (xs.map f) = true
  | [] => by simp [PyData.canLayAll0]
  | x :: xs => by simp [PyData.canLayAll0, h x, layAll h xs]
theorem depAll {α : Type} {f : α → D} {n : Nat} (h : ∀ x, (f x).depth ≤ n) : ∀ xs : List α, PyData.depthAll (xs.map f) ≤ n
  | [] => by simp [PyData.depthAll]
  | x :: xs => by
    have := h x
    have := depAll h xs
    simp only [List.map_cons, PyData.depthAll]
    omega
class EqN {α : Type} (f : α → D) (n : outParam Nat) : Prop where
  eqv : ∀ x y, PyData.eqv (f x) (f y) = true ↔ x = y
  lay : ∀ x, PyData.canLay0 (f x) = true
  dep : ∀ x, (f x).depth ≤ n
instance : EqN dI 0 := ⟨fun x y => by simp [PyData.eqv], fun x => by simp [PyData.canLay0], fun x => by simp [PyData.depth]⟩
instance : EqN PyData.bool 0 := ⟨fun x y => by simp [PyData.eqv], fun x => by simp [PyData.canLay0], fun x => by simp [PyData.depth]⟩
instance {α : Type} (f : α → D) (n : Nat) [h : EqN f n] : EqN (dl f) (n + 1) := ⟨fun x y => by unfold dl; simp only [PyData.eqv]; exact eqvAll_iff h.eqv x y, fun x => by unfold dl; simp only [PyData.canLay0]; exact layAll h.lay x, fun x => by
  have := depAll h.dep x
  unfold dl
  simp only [PyData.depth]
  omega⟩
instance {α β : Type} (f : α → D) (g : β → D) (n m : Nat) [h : EqN f n] [k : EqN g m] : EqN (d2 f g) (n + m + 1) := ⟨fun x y => by
    unfold d2
    simp only [PyData.eqv, PyData.eqvAll, Bool.and_eq_true, h.eqv, k.eqv, Prod.ext_iff, and_true], fun x => by simp [d2, PyData.canLay0, PyData.canLayAll0, h.lay, k.lay], fun x => by
    have := h.dep x.1
    have := k.dep x.2
    simp only [d2, PyData.depth, PyData.depthAll]
    omega⟩
mutual
theorem rep_dp {K : Fg} {H : Hp} : ∀ {v : V} {d : D}, Rep H v d → d.canLay0 = true → Dp K H v d
  | _, _, .non, _ => .non
  | _, _, .bl b, _ => .bl b
  | _, _, .int b, _ => .int b
  | _, _, .str b, _ => .str b
  | _, _, .lst h r, q => .lst (SqL.of h) (reps_dp r (by simpa only [PyData.canLay0] using q))
  | _, _, .tup h r, q => .tup (SqT.of h) (reps_dp r (by simpa only [PyData.canLay0] using q))
  | _, _, .dct h, q => by simp [PyData.canLay0] at q
theorem reps_dp {K : Fg} {H : Hp} : ∀ {v : List V} {d : List D}, Reps H v d → PyData.canLayAll0 d = true → DpAll K H v d
  | _, _, .nil, _ => .nil
  | _, _, .cons h r, q => by
    simp only [PyData.canLayAll0, Bool.and_eq_true] at q
    exact .cons (rep_dp h q.1) (reps_dp r q.2)
end

/-! ### places in a list -/
def pyAt {α : Type} [Inhabited α] (xs : List α) (i : Int) : α := if 0 ≤ i then xs.getD i.toNat default else xs.getD (i + xs.length).toNat default
def inR (n : Nat) (i : Int) : Prop := -(n : Int) ≤ i ∧ i < n
theorem atI_pyAt {α β : Type} [Inhabited α] {f : α → β} {xs : List α} {i : Int} (h : inR xs.length i) : atI (xs.map f) i = some (f (pyAt xs i)) := by
  obtain ⟨h1, h2⟩ := h
  unfold atI ixN pyAt
  rw [List.length_map]
  by_cases h0 : 0 ≤ i
  · rw [if_pos h0, if_pos h0, if_pos h2]
    have : i.toNat < xs.length := by omega
    simp [List.getD_eq_getElem?_getD, this]
  · rw [if_neg h0, if_neg h0, if_pos h1]
    have : (i + xs.length).toNat < xs.length := by omega
    simp [List.getD_eq_getElem?_getD, this]
theorem Reps.atI {H : Hp} {vs : List V} {ds : List D} {i : Int} {d : D} (r : Reps H vs ds) (h : atI ds i = some d) : ∃ v, L2.atI vs i = some v ∧ Rep H v d := by
  unfold L2.atI at h ⊢
  rw [← r.len] at h
  cases e : ixN vs.length i with
  | none => rw [e] at h; cases h
  | some j =>
    rw [e] at h
    exact r.get h
def pySl {α : Type} (xs : List α) (lo hi : Option Int) : List α := (xs.drop (HT.sIx xs.length 0 lo)).take (HT.sIx xs.length xs.length hi - HT.sIx xs.length 0 lo)
theorem pySl_map {α β : Type} (f : α → β) (xs : List α) (lo hi : Option Int) : pySl (xs.map f) lo hi = (pySl xs lo hi).map f := by
  unfold pySl
  rw [List.length_map, List.map_take, List.map_drop]

section
variable {X : Cx} {Γ : Gm} {ρ : List Sl} {e a b c : Expr} {es : List Expr} {pos p : Pos} {κ κ' : Kd} {d d' : D} {x y z : V} {t : OT} {σ : L2.St} {G H G1 H1 G2 H2 : Hp}
variable {α β : Type} {f : α → D} {g : α → OT} {i j : Int}
theorem DO.dat [E : Er g f] {xs : α} (h : DO X Γ ρ e (g xs)) : DE X Γ ρ e .z (f xs) := E.er xs ▸ h.frz
theorem de_owT (i : Nat) [E : Er g f] {xs : α} {n : Str} (h : ρ[i]? = some (.ow (g xs))) (hN : X.N[i]? = some n := by rfl) (hv : Vis X.env.scope n := by first | exact Or.inl rfl | exact Or.inr (Or.inl rfl) | exact Or.inr (Or.inr rfl)) (hd : (n == ("__debug__" : Str)) = false := by decide) (hcd : (n == ("__classdict__" : Str)) = false := by decide) :
    DE X Γ ρ (.Name n pos) .c (f xs) := E.er xs ▸ de_ow i h hN hv hd hcd
theorem DE.int (h : DE X Γ ρ e κ (.int i)) : DV X Γ ρ e (.int i) := h.val rfl
theorem DE.bool {q : Bool} (h : DE X Γ ρ e κ (.bool q)) : DV X Γ ρ e (.bl q) := h.val rfl
theorem DE.str {q : Str} (h : DE X Γ ρ e κ (.str q)) : DV X Γ ρ e (.str q) := h.val rfl
theorem DO.fint (h : DO X Γ ρ e (tI i)) : DV X Γ ρ e (.int i) := h.dat.int
theorem DO.fzv (h : DO X Γ ρ e (.fz d)) : DE X Γ ρ e .z d := tX_imp h fun _ _ _ _ _ _ _ _ _ ⟨A, o, _⟩ => by cases o with | fz r => exact r

/-! ### == of data -/
theorem dv_eqD {κ' : Kd} {xs ys : α} {n : Nat} [DecidableEq α] [E : EqN f n] (hu : X.A.units + 64 < cLine) (ha : DE X Γ ρ a κ (f xs)) (hb : DE X Γ ρ b κ' (f ys)) (hn : n ≤ 64 := by decide) : DV X Γ ρ (.Compare a [.Eq] [b] pos) (.bl (decide (xs = ys))) :=
  bin_weak (ta := tC .non) (tb := tC .non) (pe_cmpR (op_eqD hu) ha hb (nomark _)) fun σ G H G1 H1 G2 H2 v u Q S s1 e1 p1 s2 e2 p2 k => by
    have q1 := Rep.mono s2.h (pK_c S s1 e1 p1)
    have q2 := pK_c (S.more s1 e1) s2 e2 p2
    have sh : ∀ z, SeqAt.shaped (f z) = true := fun z => by
      have := E.dep z
      simp only [SeqAt.shaped, E.lay, Bool.true_and, decide_eq_true_eq]
      omega
    refine ⟨_, _, rep_dp q1 (E.lay _), rep_dp q2 (E.lay _), sh _, sh _, k _ G2 H2 (Step.refl _ _) e2 ?_⟩
    congr 1
    rw [Bool.eq_iff_iff]
    simp [E.eqv]
theorem dv_neD {κ' : Kd} {xs ys : α} {n : Nat} [DecidableEq α] [E : EqN f n] (hu : X.A.units + 64 < cLine) (ha : DE X Γ ρ a κ (f xs)) (hb : DE X Γ ρ b κ' (f ys)) (hn : n ≤ 64 := by decide) : DV X Γ ρ (.Compare a [.NotEq] [b] pos) (.bl (!decide (xs = ys))) :=
  bin_weak (ta := tC .non) (tb := tC .non) (pe_cmpR (op_neD hu) ha hb (nomark _)) fun σ G H G1 H1 G2 H2 v u Q S s1 e1 p1 s2 e2 p2 k => by
    have q1 := Rep.mono s2.h (pK_c S s1 e1 p1)
    have q2 := pK_c (S.more s1 e1) s2 e2 p2
    have sh : ∀ z, SeqAt.shaped (f z) = true := fun z => by
      have := E.dep z
      simp only [SeqAt.shaped, E.lay, Bool.true_and, decide_eq_true_eq]
      omega
    refine ⟨_, _, rep_dp q1 (E.lay _), rep_dp q2 (E.lay _), sh _, sh _, k _ G2 H2 (Step.refl _ _) e2 ?_⟩
    congr 2
    rw [Bool.eq_iff_iff]
    simp [E.eqv]
theorem eqvAny {α : Type} [DecidableEq α] {f : α → D} {n : Nat} [E : EqN f n] (x : α) (ys : List α) : ((ys.map f).any fun z => PyData.eqv z (f x)) = decide (x ∈ ys) := by
  rw [Bool.eq_iff_iff, List.any_eq_true]
  simp only [List.mem_map, decide_eq_true_eq]
  constructor
  · rintro ⟨_, ⟨y, hy, rfl⟩, q⟩
    rw [← (E.eqv _ _).mp q]
    exact hy
  · intro h
    exact ⟨_, ⟨x, h, rfl⟩, (E.eqv _ _).mpr rfl⟩
theorem dv_inD {κ' : Kd} {xs : α} {ys : List α} {n : Nat} [DecidableEq α] [E : EqN f n] (hu : X.A.units + 65 < cLine) (ha : DE X Γ ρ a κ (f xs)) (hb : DE X Γ ρ b κ' (dl f ys)) (hm : behindInMarks .In b = false := by rfl) (hn : n + 1 ≤ 64 := by decide) : DV X Γ ρ (.Compare a [.In] [b] pos) (.bl (decide (xs ∈ ys))) :=
  bin_weak (ta := tC .non) (tb := tC .non) (pe_cmpR (op_inD hu) ha hb hm) fun σ G H G1 H1 G2 H2 v u Q S s1 e1 p1 s2 e2 p2 k => by
    have q1 := Rep.mono s2.h (pK_c S s1 e1 p1)
    have q2 := pK_c (S.more s1 e1) s2 e2 p2
    have E2 : EqN (dl f) (n + 1) := inferInstance
    have sh : ∀ z, SeqAt.shaped (f z) = true := fun z => by
      have := E.dep z
      simp only [SeqAt.shaped, E.lay, Bool.true_and, decide_eq_true_eq]
      omega
    have sh2 : ∀ z, SeqAt.shaped (dl f z) = true := fun z => by
      have := E2.dep z
      simp only [SeqAt.shaped, E2.lay, Bool.true_and, decide_eq_true_eq]
      omega
    refine ⟨_, _, rep_dp q1 (E.lay _), rep_dp q2 (E2.lay _), sh _, sh2 _, k _ G2 H2 (Step.refl _ _) e2 ?_⟩
    rw [eqvAny]
theorem dv_notInD {κ' : Kd} {xs : α} {ys : List α} {n : Nat} [DecidableEq α] [E : EqN f n] (hu : X.A.units + 65 < cLine) (ha : DE X Γ ρ a κ (f xs)) (hb : DE X Γ ρ b κ' (dl f ys)) (hm : behindInMarks .NotIn b = false := by rfl) (hn : n + 1 ≤ 64 := by decide) : DV X Γ ρ (.Compare a [.NotIn] [b] pos) (.bl (!decide (xs ∈ ys))) :=
  bin_weak (ta := tC .non) (tb := tC .non) (pe_cmpR (op_notInD hu) ha hb hm) fun σ G H G1 H1 G2 H2 v u Q S s1 e1 p1 s2 e2 p2 k => by
    have q1 := Rep.mono s2.h (pK_c S s1 e1 p1)
    have q2 := pK_c (S.more s1 e1) s2 e2 p2
    have E2 : EqN (dl f) (n + 1) := inferInstance
    have sh : ∀ z, SeqAt.shaped (f z) = true := fun z => by
      have := E.dep z
      simp only [SeqAt.shaped, E.lay, Bool.true_and, decide_eq_true_eq]
      omega
    have sh2 : ∀ z, SeqAt.shaped (dl f z) = true := fun z => by
      have := E2.dep z
      simp only [SeqAt.shaped, E2.lay, Bool.true_and, decide_eq_true_eq]
      omega
    refine ⟨_, _, rep_dp q1 (E.lay _), rep_dp q2 (E2.lay _), sh _, sh2 _, k _ G2 H2 (Step.refl _ _) e2 ?_⟩
    rw [eqvAny]
theorem dv_in {ys : List Int} (hu : X.A.units + 65 < cLine) (ha : DV X Γ ρ a (.int i)) (hb : DE X Γ ρ b κ (dl dI ys)) (hm : behindInMarks .In b = false := by rfl) : DV X Γ ρ (.Compare a [.In] [b] pos) (.bl (decide (i ∈ ys))) := dv_inD (f := dI) hu (DV.dat ha) hb hm
theorem dv_notIn {ys : List Int} (hu : X.A.units + 65 < cLine) (ha : DV X Γ ρ a (.int i)) (hb : DE X Γ ρ b κ (dl dI ys)) (hm : behindInMarks .NotIn b = false := by rfl) : DV X Γ ρ (.Compare a [.NotIn] [b] pos) (.bl (!decide (i ∈ ys))) := dv_notInD (f := dI) hu (DV.dat ha) hb hm

/-! ### items -/
theorem de_at {ds : List D} (ha : DE X Γ ρ a κ (.list ds)) (hb : DV X Γ ρ b (.int i)) (h : atI ds i = some d) (hs : PlainIx b := by intro _ _; rfl) : DE X Γ ρ (.Subscript a b pos) κ d :=
  bin_weak (ta := tC .non) (tb := tC .non) (pe_ix ix_list ha hb hs) fun σ G H G1 H1 G2 H2 v u Q S s1 e1 p1 s2 e2 p2 k => by
    have p2' : u = .int i := p2
    have main : ∀ (HH : Hp), Rep HH v (.list ds) → Ex HH H2 → ∃ w, Rep HH w d ∧ ∃ p xs, v = .ref p ∧ H2 p = some (.lst xs) ∧ atI xs i = some w := fun HH r ex => by
      cases r with
      | lst hl rs =>
        obtain ⟨w, h1, h2⟩ := rs.atI h
        exact ⟨w, h2, _, _, rfl, ex _ _ hl, h1⟩
    cases κ with
    | z =>
      obtain ⟨w, r, p, xs, ev, hp, hw⟩ := main G2 (Rep.mono s2.g p1) e2
      exact ⟨p, xs, i, w, ev, p2', SqL.of hp, hw, k _ G2 H2 (Step.refl _ _) e2 r⟩
    | r =>
      obtain ⟨w, r, p, xs, ev, hp, hw⟩ := main Γ.H p1 ((S.step.trans s1).trans s2).h
      exact ⟨p, xs, i, w, ev, p2', SqL.of hp, hw, k _ G2 H2 (Step.refl _ _) e2 r⟩
    | c =>
      obtain ⟨w, r, p, xs, ev, hp, hw⟩ := main H2 (Rep.mono s2.h p1) (Ex.refl _)
      exact ⟨p, xs, i, w, ev, p2', SqL.of hp, hw, k _ G2 H2 (Step.refl _ _) e2 r⟩
theorem de_atT {ds : List D} (ha : DE X Γ ρ a κ (.tuple ds)) (hb : DV X Γ ρ b (.int i)) (h : atI ds i = some d) (hs : PlainIx b := by intro _ _; rfl) : DE X Γ ρ (.Subscript a b pos) κ d :=
  bin_weak (ta := tC .non) (tb := tC .non) (pe_ix ix_tup ha hb hs) fun σ G H G1 H1 G2 H2 v u Q S s1 e1 p1 s2 e2 p2 k => by
    have p2' : u = .int i := p2
    have main : ∀ (HH : Hp), Rep HH v (.tuple ds) → Ex HH H2 → ∃ w, Rep HH w d ∧ ∃ p xs, v = .ref p ∧ H2 p = some (.tup xs) ∧ atI xs i = some w := fun HH r ex => by
      cases r with
      | tup hl rs =>
        obtain ⟨w, h1, h2⟩ := rs.atI h
        exact ⟨w, h2, _, _, rfl, ex _ _ hl, h1⟩
    cases κ with
    | z =>
      obtain ⟨w, r, p, xs, ev, hp, hw⟩ := main G2 (Rep.mono s2.g p1) e2
      exact ⟨p, xs, i, w, ev, p2', SqT.of hp, hw, k _ G2 H2 (Step.refl _ _) e2 r⟩
    | r =>
      obtain ⟨w, r, p, xs, ev, hp, hw⟩ := main Γ.H p1 ((S.step.trans s1).trans s2).h
      exact ⟨p, xs, i, w, ev, p2', SqT.of hp, hw, k _ G2 H2 (Step.refl _ _) e2 r⟩
    | c =>
      obtain ⟨w, r, p, xs, ev, hp, hw⟩ := main H2 (Rep.mono s2.h p1) (Ex.refl _)
      exact ⟨p, xs, i, w, ev, p2', SqT.of hp, hw, k _ G2 H2 (Step.refl _ _) e2 r⟩
theorem de_ix [Inhabited α] {xs : List α} (ha : DE X Γ ρ a κ (dl f xs)) (hb : DV X Γ ρ b (.int i)) (h : inR xs.length i) (hs : PlainIx b := by intro _ _; rfl) : DE X Γ ρ (.Subscript a b pos) κ (f (pyAt xs i)) := de_at ha hb (atI_pyAt h) hs
theorem dv_ix {xs : List Int} (ha : DE X Γ ρ a κ (dl dI xs)) (hb : DV X Γ ρ b (.int i)) (h : inR xs.length i) (hs : PlainIx b := by intro _ _; rfl) : DV X Γ ρ (.Subscript a b pos) (.int (pyAt xs i)) := (de_ix ha hb h hs).int
theorem de_ix0 {β : Type} {f' : β → D} {q : α × β} (ha : DE X Γ ρ a κ (d2 f f' q)) {j p'} : DE X Γ ρ (.Subscript a (.Constant (.int 0) j p') pos) κ (f q.1) := de_atT ha dv_int rfl
theorem de_ix1 {β : Type} {f' : β → D} {q : α × β} (ha : DE X Γ ρ a κ (d2 f f' q)) {j p'} : DE X Γ ρ (.Subscript a (.Constant (.int 1) j p') pos) κ (f' q.2) := de_atT ha dv_int rfl
/-- the script's -/
theorem sc_ref {ns : List Int} {k : Nat} (S : Sr Γ G H σ ρ) (h : ρ[k]? = some (.sc ns)) : ∃ a, σ[k]? = some (some (.ref a)) ∧ SqL Γ.K H a (ns.map V.int) := by
  obtain ⟨o, B, h1, h2⟩ := S.slot h
  cases h2 with
  | sc q => exact ⟨_, h1, ex_l S.step.h q⟩
/-- the script is there -/
def pS (K : Fg) (ns : List Int) : Hp → Hp → Hp → V → Prop := fun _ _ H2 v => ∃ a, v = .ref a ∧ SqL K H2 a (ns.map V.int)
def DS_ (X : Cx) (Γ : Gm) (ρ : List Sl) (e : Expr) (ns : List Int) : Prop := PE X e (tX Γ ρ (pS Γ.K ns))
theorem ds_var (i : Nat) {ns : List Int} {n : Str} (h : ρ[i]? = some (.sc ns)) (hN : X.N[i]? = some n := by rfl) (hv : Vis X.env.scope n := by first | exact Or.inl rfl | exact Or.inr (Or.inl rfl) | exact Or.inr (Or.inr rfl)) (hd : (n == ("__debug__" : Str)) = false := by decide) (hcd : (n == ("__classdict__" : Str)) = false := by decide) :
    DS_ X Γ ρ (.Name n pos) ns := var_weak (pe_var hN hv hd hcd) fun σ G H S => by
  obtain ⟨a, h1, h2⟩ := sc_ref S h
  exact ⟨_, h1, a, rfl, h2⟩
theorem dv_ixS {ns : List Int} (hK : Γ.K = X.K) (ha : DS_ X Γ ρ a ns) (hb : DV X Γ ρ b (.int i)) (h : inR ns.length i) (hs : PlainIx b := by intro _ _; rfl) : DV X Γ ρ (.Subscript a b pos) (.int (pyAt ns i)) :=
  bin_weak (ta := tC .non) (tb := tC .non) (pe_ix ix_list ha hb hs) fun σ G H G1 H1 G2 H2 v u Q S s1 e1 p1 s2 e2 p2 k => by
    have p2' : u = .int i := p2
    obtain ⟨p, ev, hp⟩ := p1
    rw [hK] at hp
    exact ⟨p, _, i, _, ev, p2', ex_l s2.h hp, atI_pyAt h, k _ G2 H2 (Step.refl _ _) e2 rfl⟩

/-! ### arguments -/
def tA (Γ : Gm) (ρ : List Sl) (ss : List Sl) : TA := fun σ H Q => ∃ G, Sr Γ G H σ ρ ∧ ∀ vs G2 H2 A, Step G H G2 H2 → Ex G2 H2 → SlR Γ.K H2 G2 H2 (vs.map some) ss A → A.Nodup → (∀ a ∈ A, H a = none) → Q vs H2
def DA (X : Cx) (Γ : Gm) (ρ : List Sl) (es : List Expr) (ss : List Sl) : Prop := PA X es (tA Γ ρ ss)
theorem SlS.step2 {K : Fg} {I : Hp} (s : Step G H G2 H2) {o x A} : SlS K H G H o x A → SlS K H2 G2 H2 o x A
  | .un => .un
  | .v => .v
  | .sh h => .sh (Rep.mono s.g h)
  | .ro h => .ro (Rep.mono s.h h)
  | .ow h => .ow (h.more s)
  | .sc h => .sc (ex_l s.h h)
theorem da_nil : DA X Γ ρ [] [] := pa_nil.weak fun σ H Q ⟨G, S, k⟩ => k [] G H [] (Step.refl _ _) S.sub .nil List.nodup_nil fun _ z => by cases z
theorem da_cons {ss : List Sl} {s : Sl} {P : Hp → Hp → Hp → V → Prop} (ha : PE X e (tX Γ ρ P)) (hp : ∀ (σ : L2.St) (G H G2 H2 : Hp) (v : V), Sr Γ G H σ ρ → Step G H G2 H2 → Ex G2 H2 → P H G2 H2 v → ∃ A, SlS Γ.K H2 G2 H2 (some v) s A ∧ A.Nodup ∧ ∀ a ∈ A, H a = none)
    (hr : DA X Γ ρ es ss) (hs : starEach (e :: es) X.env = (false, eval e X.env) :: starEach es X.env) : DA X Γ ρ (e :: es) (s :: ss) :=
  (pa_cons ha hr hs).weak fun σ H Q ⟨G, S, k⟩ => ⟨G, S, fun v G1 H1 s1 e1 p1 => ⟨G1, S.more s1 e1, fun vs G2 H2 A s2 e2 r n f => by
    obtain ⟨B, hb, nb, fb⟩ := hp σ G H G1 H1 v S s1 e1 p1
    refine k (v :: vs) G2 H2 (B ++ A) (s1.trans s2) e2 (.cons (hb.step2 (I := H) s2) r) ?_ ?_
    · refine List.nodup_append.mpr ⟨nb, n, fun x hx y hy q => ?_⟩
      subst q
      obtain ⟨_, o, ho⟩ := hb.mem x hx
      rw [f x hy] at ho; cases ho
    · intro x hx
      rcases List.mem_append.mp hx with z | z
      · exact fb x z
      · exact s1.h.none (f x z)⟩⟩
variable {ss : List Sl}
theorem da_v (ha : DV X Γ ρ e x) (hr : DA X Γ ρ es ss) (hs : starEach (e :: es) X.env = (false, eval e X.env) :: starEach es X.env := by rfl) : DA X Γ ρ (e :: es) (.v x :: ss) :=
  da_cons ha (fun σ G H G2 H2 v S s ex (q : v = x) => ⟨[], by rw [q]; exact .v, List.nodup_nil, fun _ z => by cases z⟩) hr hs
theorem da_sh (ha : DE X Γ ρ e .z d) (hr : DA X Γ ρ es ss) (hs : starEach (e :: es) X.env = (false, eval e X.env) :: starEach es X.env := by rfl) : DA X Γ ρ (e :: es) (.sh d :: ss) :=
  da_cons ha (fun σ G H G2 H2 v S s ex q => ⟨[], .sh q, List.nodup_nil, fun _ z => by cases z⟩) hr hs
theorem da_ro (ha : DE X Γ ρ e κ d) (hr : DA X Γ ρ es ss) (hs : starEach (e :: es) X.env = (false, eval e X.env) :: starEach es X.env := by rfl) : DA X Γ ρ (e :: es) (.ro d :: ss) :=
  da_cons ha (fun σ G H G2 H2 v S s ex q => ⟨[], .ro (pK_c S s ex q), List.nodup_nil, fun _ z => by cases z⟩) hr hs
theorem da_ow (ha : DO X Γ ρ e t) (hr : DA X Γ ρ es ss) (hs : starEach (e :: es) X.env = (false, eval e X.env) :: starEach es X.env := by rfl) : DA X Γ ρ (e :: es) (.ow t :: ss) :=
  da_cons ha (fun σ G H G2 H2 v S s ex ⟨A, o, n, f⟩ => ⟨A, .ow o, n, f⟩) hr hs
theorem da_sc {ns : List Int} (ha : DS_ X Γ ρ e ns) (hr : DA X Γ ρ es ss) (hs : starEach (e :: es) X.env = (false, eval e X.env) :: starEach es X.env := by rfl) : DA X Γ ρ (e :: es) (.sc ns :: ss) :=
  da_cons ha (fun σ G H G2 H2 v S s ex ⟨a, ev, q⟩ => ⟨[], by rw [ev]; exact .sc q, List.nodup_nil, fun _ z => by cases z⟩) hr hs

/-! ### calls of one's own defs -/
inductive Oc where
  | ret (t : OT)
  | exc (C : Addr)
def sp1 (K : Fg) (ss : List Sl) : Oc → Sp
  | .ret t => fun vs H Q E => ∃ G, Ex G H ∧ SlR K H G H (vs.map some) ss [] ∧ ∀ v G2 H2 A, Step G H G2 H2 → Ex G2 H2 → OwnT G2 H2 t v A → A.Nodup → (∀ x ∈ A, H x = none) → Q v H2
  | .exc C => fun vs H Q E => ∃ G, Ex G H ∧ SlR K H G H (vs.map some) ss [] ∧ ∀ H2, Ex H H2 → E (.ref C) none H2
/-- a slot that a def takes -/
def argOk : Sl → Bool
  | .ow _ => false
  | _ => true
theorem slR_arg {K : Fg} {I : Hp} : ∀ {σ : L2.St} {ss : List Sl} {A : List Addr}, SlR K I G H σ ss A → ss.all argOk = true → SlR K I G H σ ss []
  | _, _, _, .nil, _ => .nil
  | _, _, _, .cons (A := A) h r, q => by
    rw [List.all_cons, Bool.and_eq_true] at q
    have := slR_arg r q.2
    cases h with
    | ow _ => cases q.1
    | un => exact .cons (A := []) (B := []) .un this
    | v => exact .cons (A := []) (B := []) .v this
    | sh z => exact .cons (A := []) (B := []) (.sh z) this
    | ro z => exact .cons (A := []) (B := []) (.ro z) this
    | sc z => exact .cons (A := []) (B := []) (.sc z) this
variable {k : Nat} {fa : Addr} {fd : FuncData} {ps : List Str} {n : Str}
theorem do_call (F : FnOk X.prog X.w X.K X.mg X.base (L2.CX X.prog X.w) k fa fd ps (sp1 X.K ss (.ret t))) (hr : Room k X.A) (hm : X.mg n = some (.ref fa)) (hk : PySem.W.keepIn X.K (.ref fa) = true) (hb : Binds X.K fd ps []) (hK : Γ.K = X.K) (ha : DA X Γ ρ (e :: es) ss) (hs : ss.all argOk = true := by rfl)
    (hg : Gl X n := by rfl) (hdb : (n == ("__debug__" : Str)) = false := by decide) (he : starEach (e :: es) X.env = (false, eval e X.env) :: starEach es X.env := by rfl) (hpl : (backTo pos (starEach es X.env)).any (·.1) = false := by rfl) :
    DO X Γ ρ (.Call (.Name n p) (e :: es) [] pos) t :=
  (pe_call F hr hg hm hk hb .nil (passL (X := X)) ha hdb he hpl).weak fun σ H Q ⟨G, S, kk⟩ => ⟨G, S, fun vs G2 H2 A s2 e2 r nd f => by
    show sp1 X.K ss (.ret t) (vs ++ []) H2 _ _
    rw [List.append_nil]
    refine ⟨G2, e2, ?_, fun v G3 H3 B s3 e3 o n3 f3 => kk v G3 H3 (s2.trans s3) e3 ⟨B, o, n3, fun x hx => s2.h.none (f3 x hx)⟩⟩
    rw [← hK]
    exact slR_arg r hs⟩
/-- raising C is let -/
def RX (X : Cx) (Γ : Gm) (C : Addr) : Prop := ∃ W : WX, Takes X W ∧ ∀ σ H2, Ex Γ.H H2 → W (.ref C) none σ H2
theorem dn_call {C : Addr} (hx : RX X Γ C) (F : FnOk X.prog X.w X.K X.mg X.base (L2.CX X.prog X.w) k fa fd ps (sp1 X.K ss (.exc C))) (hr : Room k X.A) (hm : X.mg n = some (.ref fa)) (hk : PySem.W.keepIn X.K (.ref fa) = true) (hb : Binds X.K fd ps []) (hK : Γ.K = X.K) (ha : DA X Γ ρ (e :: es) ss) (hs : ss.all argOk = true := by rfl)
    (hg : Gl X n := by rfl) (hdb : (n == ("__debug__" : Str)) = false := by decide) (he : starEach (e :: es) X.env = (false, eval e X.env) :: starEach es X.env := by rfl) (hpl : (backTo pos (starEach es X.env)).any (·.1) = false := by rfl) :
    DN X Γ ρ (.Call (.Name n p) (e :: es) [] pos) := by
  obtain ⟨W, tk, hw⟩ := hx
  have hp : Passes (L2.CX X.prog X.w) X (fun cls d H => cls = .ref C ∧ d = none ∧ Ex Γ.H H) := passes_call tk fun cls d σ H q => by
    obtain ⟨rfl, rfl, q⟩ := q
    exact hw σ H q
  exact (pe_call F hr hg hm hk hb .nil hp ha hdb he hpl).weak fun σ H Q ⟨G, S, kk⟩ => ⟨G, S, fun vs G2 H2 A s2 e2 r nd f => by
    show sp1 X.K ss (.exc C) (vs ++ []) H2 _ _
    rw [List.append_nil]
    refine ⟨G2, e2, ?_, fun H3 e3 => ⟨rfl, rfl, (S.step.h.trans s2.h).trans e3⟩⟩
    rw [← hK]
    exact slR_arg r hs⟩
end
end DL

set_option Elab.async false
set_option linter.all false
set_option maxRecDepth 100000
set_option maxHeartbeats 2000000
namespace DL
open PySem L2

structure En where
  nx : List Sl → Prop
  rt : OT → Prop
  bk : List Sl → Prop := fun _ => False
  ct : List Sl → Prop := fun _ => False
structure Okk (Γ : Gm) (G0 : Hp) (E : En) (D : Ends) : Prop where
  nx : ∀ (ρ : List Sl) (σ : L2.St) (G H : Hp), E.nx ρ → Sr Γ G H σ ρ → Ex G0 G → D.nx σ H
  bk : ∀ (ρ : List Sl) (σ : L2.St) (G H : Hp), E.bk ρ → Sr Γ G H σ ρ → Ex G0 G → D.bk σ H
  ct : ∀ (ρ : List Sl) (σ : L2.St) (G H : Hp), E.ct ρ → Sr Γ G H σ ρ → Ex G0 G → D.ct σ H
  rt : ∀ (t : OT) (v : V) (G H : Hp) (A : List Addr), E.rt t → Step Γ.G Γ.H G H → Ex G H → OwnT G H t v A → A.Nodup → (∀ a ∈ A, Γ.H a = none) → D.rt v H
theorem Okk.more {Γ : Gm} {G0 G1 : Hp} {E : En} {D : Ends} (k : Okk Γ G0 E D) (e : Ex G0 G1) : Okk Γ G1 E D :=
  ⟨fun ρ σ G H h S x => k.nx ρ σ G H h S (e.trans x), fun ρ σ G H h S x => k.bk ρ σ G H h S (e.trans x), fun ρ σ G H h S x => k.ct ρ σ G H h S (e.trans x), k.rt⟩
def tS (Γ : Gm) (ρ : List Sl) (E : En) : TS := fun D σ H => ∃ G, Sr Γ G H σ ρ ∧ Okk Γ G E D
def SS (X : Cx) (Γ : Gm) (ρ : List Sl) (sts : List Stmt) (E : En) : Prop := PSs X sts (tS Γ ρ E)
def S1 (X : Cx) (Γ : Gm) (ρ : List Sl) (st : Stmt) (E : En) : Prop := PS X st (tS Γ ρ E)

/-- knowing less -/
inductive Wk : List Sl → List Sl → Prop
  | nil : Wk [] []
  | same {s ρ ρ'} : Wk ρ ρ' → Wk (s :: ρ) (s :: ρ')
  | un {s ρ ρ'} : Wk ρ ρ' → Wk (s :: ρ) (.un :: ρ')
theorem Wk.refl : ∀ ρ, Wk ρ ρ
  | [] => .nil
  | _ :: ρ => .same (Wk.refl ρ)
theorem SlR.wk {K : Fg} {I G H : Hp} : ∀ {ρ ρ' : List Sl} {σ : L2.St} {A : List Addr}, Wk ρ ρ' → SlR K I G H σ ρ A → ∃ B, SlR K I G H σ ρ' B ∧ B.Sublist A
  | _, _, _, _, .nil, .nil => ⟨[], .nil, List.Sublist.refl _⟩
  | _, _, _, _, .same w, .cons (A := A0) h r => by
    obtain ⟨B, r', s⟩ := SlR.wk w r
    exact ⟨A0 ++ B, .cons h r', List.Sublist.append (List.Sublist.refl _) s⟩
  | _, _, _, _, .un w, .cons (A := A0) h r => by
    obtain ⟨B, r', s⟩ := SlR.wk w r
    exact ⟨[] ++ B, .cons .un r', List.Sublist.append (List.nil_sublist _) s⟩
section
variable {X : Cx} {Γ : Gm} {ρ ρ' : List Sl} {e a b c : Expr} {es : List Expr} {pos p p' : Pos} {κ κ' : Kd} {d d' : D} {x y z : V} {t : OT} {σ : L2.St} {G H G1 H1 G2 H2 : Hp} {E : En} {st : Stmt} {rest body : List Stmt} {n : Str} {i : Nat}
theorem Sr.wk (S : Sr Γ G H σ ρ) (w : Wk ρ ρ') : Sr Γ G H σ ρ' := by
  obtain ⟨A, r, nd, f⟩ := S.sl
  obtain ⟨B, r', s⟩ := r.wk w
  exact ⟨S.step, S.sub, B, r', nd.sublist s, fun a ha => f a (s.subset ha)⟩
theorem ss_wk (w : Wk ρ ρ') (h : SS X Γ ρ' rest E) : SS X Γ ρ rest E := h.weak fun D σ H ⟨G, S, k⟩ => ⟨G, S.wk w, k⟩
theorem ss_nil (h : E.nx ρ) : SS X Γ ρ [] E := pss_nil.weak fun D σ H ⟨G, S, k⟩ => k.nx ρ σ G H h S (Ex.refl _)
theorem ss_cons {M : List Sl → Prop} (h1 : S1 X Γ ρ st { E with nx := M }) (h2 : ∀ ρ', M ρ' → SS X Γ ρ' rest E) : SS X Γ ρ (st :: rest) E := by
  have h2' : PSs X rest (fun D σ H => ∃ ρ', M ρ' ∧ tS Γ ρ' E D σ H) := ⟨fun pins s σ H D I ⟨ρ', m, q⟩ => (h2 ρ' m).run pins s σ H D I q⟩
  exact (pss_cons h1 h2').weak fun D σ H ⟨G, S, k⟩ => ⟨G, S, ⟨fun ρ' σ' G' H' m S' eg => ⟨ρ', m, G', S', k.more eg⟩, k.bk, k.ct, k.rt⟩⟩
theorem s1_pass : S1 X Γ ρ (.Pass pos) { E with nx := fun ρ' => ρ' = ρ } := ps_pass.weak fun D σ H ⟨G, S, k⟩ => k.nx ρ σ G H rfl S (Ex.refl _)
theorem ss_doc {q : Str} {j} (h : SS X Γ ρ rest E) : SS X Γ ρ (.Expr (.Constant (.str q) j p) pos :: rest) E := ss_cons (M := fun ρ' => ρ' = ρ) (ps_doc.weak fun D σ H ⟨G, S, k⟩ => k.nx ρ σ G H rfl S (Ex.refl _)) fun ρ' e => e ▸ h
theorem ss_break (h : E.bk ρ) : SS X Γ ρ (.Break pos :: rest) E := ss_cons (M := fun _ => False) (ps_break.weak fun D σ H ⟨G, S, k⟩ => k.bk ρ σ G H h S (Ex.refl _)) fun _ e => e.elim
theorem ss_continue (h : E.ct ρ) : SS X Γ ρ (.Continue pos :: rest) E := ss_cons (M := fun _ => False) (ps_continue.weak fun D σ H ⟨G, S, k⟩ => k.ct ρ σ G H h S (Ex.refl _)) fun _ e => e.elim

/-! ### stores to names -/
theorem ss_set {P : Hp → Hp → Hp → V → Prop} {s : Sl} (i : Nat) (he : PE X e (tX Γ ρ P)) (hp : ∀ (σ : L2.St) (G H G2 H2 : Hp) (v : V), Sr Γ G H σ ρ → Step G H G2 H2 → Ex G2 H2 → P H G2 H2 v → ∃ A, SlS Γ.K Γ.H G2 H2 (some v) s A ∧ A.Nodup ∧ ∀ a ∈ A, H a = none)
    (hN : X.N.Nodup) (hi : X.N[i]? = some n) (hx : Loc X.env.scope n) (hs : swapsWith e (some (.Name n p')) pos.line X.env = pure false) (hf : X.fn n = true ∨ X.env.scope.names.lookup n = some .local) (hr : SS X Γ (ρ.set i s) rest E) :
    SS X Γ ρ (.Assign [.Name n p'] e pos :: rest) E := ss_cons (M := fun ρ' => ρ' = ρ.set i s) ((ps_set hN hi hx he hs hf).weak fun D σ H ⟨G, S, k⟩ => ⟨G, S, fun v G2 H2 st ex q => by
  obtain ⟨A, h1, h2, h3⟩ := hp σ G H G2 H2 v S st ex q
  exact k.nx _ _ G2 H2 rfl (S.store st ex h1 h2 h3) st.g⟩) fun ρ' e => e ▸ hr
theorem ss_v (i : Nat) (hN : X.N.Nodup) (he : DV X Γ ρ e x) (hr : SS X Γ (ρ.set i (.v x)) rest E) (hi : X.N[i]? = some n := by rfl) (hx : Loc X.env.scope n := by first | exact .inl rfl | exact .inr rfl) (hs : swapsWith e (some (.Name n p')) pos.line X.env = pure false := by rfl) (hf : X.fn n = true ∨ X.env.scope.names.lookup n = some .local := by first | exact .inl rfl | exact .inr rfl) :
    SS X Γ ρ (.Assign [.Name n p'] e pos :: rest) E := ss_set i he (fun _ _ _ _ _ v _ _ _ (q : v = x) => ⟨[], by rw [q]; exact .v, List.nodup_nil, fun _ z => by cases z⟩) hN hi hx hs hf hr
theorem ss_z (i : Nat) (hN : X.N.Nodup) (he : DE X Γ ρ e .z d) (hr : SS X Γ (ρ.set i (.sh d)) rest E) (hi : X.N[i]? = some n := by rfl) (hx : Loc X.env.scope n := by first | exact .inl rfl | exact .inr rfl) (hs : swapsWith e (some (.Name n p')) pos.line X.env = pure false := by rfl) (hf : X.fn n = true ∨ X.env.scope.names.lookup n = some .local := by first | exact .inl rfl | exact .inr rfl) :
    SS X Γ ρ (.Assign [.Name n p'] e pos :: rest) E := ss_set i he (fun _ _ _ _ _ v _ _ _ q => ⟨[], .sh q, List.nodup_nil, fun _ z => by cases z⟩) hN hi hx hs hf hr
theorem ss_r (i : Nat) (hN : X.N.Nodup) (he : DE X Γ ρ e .r d) (hr : SS X Γ (ρ.set i (.ro d)) rest E) (hi : X.N[i]? = some n := by rfl) (hx : Loc X.env.scope n := by first | exact .inl rfl | exact .inr rfl) (hs : swapsWith e (some (.Name n p')) pos.line X.env = pure false := by rfl) (hf : X.fn n = true ∨ X.env.scope.names.lookup n = some .local := by first | exact .inl rfl | exact .inr rfl) :
    SS X Γ ρ (.Assign [.Name n p'] e pos :: rest) E := ss_set i he (fun _ _ _ _ _ v _ _ _ q => ⟨[], .ro q, List.nodup_nil, fun _ z => by cases z⟩) hN hi hx hs hf hr
theorem ss_o (i : Nat) (hN : X.N.Nodup) (he : DO X Γ ρ e t) (hr : SS X Γ (ρ.set i (.ow t)) rest E) (hi : X.N[i]? = some n := by rfl) (hx : Loc X.env.scope n := by first | exact .inl rfl | exact .inr rfl) (hs : swapsWith e (some (.Name n p')) pos.line X.env = pure false := by rfl) (hf : X.fn n = true ∨ X.env.scope.names.lookup n = some .local := by first | exact .inl rfl | exact .inr rfl) :
    SS X Γ ρ (.Assign [.Name n p'] e pos :: rest) E := ss_set i he (fun _ _ _ _ _ v _ _ _ ⟨A, o, nd, f⟩ => ⟨A, .ow o, nd, f⟩) hN hi hx hs hf hr
/-- a name that holds an owned thing holds frozen data from here on -/
theorem Sr.frz {t : OT} (S : Sr Γ G H σ ρ) (h : ρ[i]? = some (.ow t)) : ∃ G2, Sr Γ G2 H σ (ρ.set i (.sh t.er)) ∧ Ex G G2 := by
  obtain ⟨A, r, nd, f⟩ := S.sl
  obtain ⟨o, A1, B, A2, h1, h2, rfl, h4⟩ := r.focus h
  cases h2 with
  | ow q =>
    rename_i v
    have gB : ∀ b ∈ B, G b = none := fun b hb => (q.mem b hb).1
    have e1 : Ex G (DL.frz G H B) := frz_ex gB
    have ndd := nd
    simp only [List.nodup_append, List.mem_append] at ndd
    have nB : ∀ b ∈ A1 ++ A2, b ∉ B := fun b hb hB => by
      rcases List.mem_append.mp hb with z | z
      · exact ndd.2.2 b z b (.inl hB) rfl
      · exact ndd.2.1.2.2 b hB b z rfl
    have st : Step Γ.G Γ.H (DL.frz G H B) H := ⟨S.step.g.trans e1, S.step.h, fun b u g1 g2 => by
      have nb : b ∉ B := fun z => by
        rw [f b (by simp [z])] at g2; cases g2
      rw [frz_out nb]
      exact S.step.f b u g1 g2⟩
    have e2 : σ.set i (some v) = σ := by
      obtain ⟨hi, e⟩ := List.getElem?_eq_some_iff.mp h1
      rw [← e]
      simp
    have := h4 (DL.frz G H B) H (some v) (.sh t.er) [] e1 (fun b hb g => by rw [frz_out (nB b hb)]; exact g) (fun _ _ => rfl) (.sh (q.frz e1 fun b hb => hb))
    rw [e2] at this
    refine ⟨DL.frz G H B, ⟨st, frz_sub S.sub, _, this, nd_swap nd List.nodup_nil (fun _ z => by cases z), fun x hx => f x ?_⟩, e1⟩
    simp only [List.nil_append, List.mem_append] at hx ⊢
    rcases hx with z | z
    · exact .inl z
    · exact .inr (.inr z)
/-- a name that holds an owned thing holds frozen data from here on -/
theorem ss_frz (i : Nat) {t : OT} (h : ρ[i]? = some (.ow t)) (hr : SS X Γ (ρ.set i (.sh t.er)) rest E) : SS X Γ ρ rest E := hr.weak fun D σ H ⟨G, S, k⟩ =>
  let ⟨G2, S2, e2⟩ := S.frz h
  ⟨G2, S2, k.more e2⟩
theorem ss_frzT (i : Nat) {α : Type} {g : α → OT} {f : α → D} [Er : Er g f] {xs : α} (h : ρ[i]? = some (.ow (g xs))) (hr : SS X Γ (ρ.set i (.sh (f xs))) rest E) : SS X Γ ρ rest E := ss_frz i h (by rw [Er.er]; exact hr)

/-! ### expressions alone, return, if -/
theorem ss_expr {P : Hp → Hp → Hp → V → Prop} (he : PE X e (tX Γ ρ P)) (hr : SS X Γ ρ rest E) (hs : swapsWith e none pos.line X.env = pure false := by rfl) : SS X Γ ρ (.Expr e pos :: rest) E :=
  ss_cons (M := fun ρ' => ρ' = ρ) ((ps_expr he hs).weak fun D σ H ⟨G, S, k⟩ => ⟨G, S, fun v G2 H2 st ex q => k.nx ρ σ G2 H2 rfl (S.more st ex) st.g⟩) fun ρ' e => e ▸ hr
theorem ss_exprN (he : DN X Γ ρ e) (hs : swapsWith e none pos.line X.env = pure false := by rfl) : SS X Γ ρ (.Expr e pos :: rest) E :=
  ss_cons (M := fun _ => False) ((ps_expr he hs).weak fun D σ H ⟨G, S, k⟩ => ⟨G, S, fun v G2 H2 st ex q => q.elim⟩) fun ρ' e => e.elim
theorem ss_ret (he : DO X Γ ρ e t) (h : E.rt t) : SS X Γ ρ (.Return (some e) pos :: rest) E :=
  ss_cons (M := fun _ => False) ((ps_ret he).weak fun D σ H ⟨G, S, k⟩ => ⟨G, S, fun v G2 H2 st ex ⟨A, o, nd, f⟩ => k.rt t v G2 H2 A h (S.step.trans st) ex o nd fun a ha => S.step.h.none (f a ha)⟩) fun ρ' e => e.elim
theorem ss_retZ (he : DE X Γ ρ e .z d) (h : E.rt (.fz d)) : SS X Γ ρ (.Return (some e) pos :: rest) E := ss_ret he.own h
theorem ss_retV (he : DV X Γ ρ e x) (h : E.rt (.fz (vD x))) (hv : vOk x = true := by rfl) : SS X Γ ρ (.Return (some e) pos :: rest) E := ss_ret (he.dat hv).own h
theorem ss_retN (he : DN X Γ ρ e) : SS X Γ ρ (.Return (some e) pos :: rest) E :=
  ss_cons (M := fun _ => False) ((ps_ret he).weak fun D σ H ⟨G, S, k⟩ => ⟨G, S, fun v G2 H2 st ex q => q.elim⟩) fun ρ' e => e.elim
theorem ss_ret0 (h : E.rt (.fz .none)) : SS X Γ ρ (.Return none pos :: rest) E :=
  ss_cons (M := fun _ => False) (ps_retN.weak fun D σ H ⟨G, S, k⟩ => k.rt (.fz .none) .non G H [] h S.step S.sub (.fz .non) List.nodup_nil fun _ z => by cases z) fun ρ' e => e.elim
variable {q : Bool} {bd el : List Stmt}
theorem ss_if {M : List Sl → Prop} (hc : DT X Γ ρ c q) (h1 : q = true → SS X Γ ρ bd { E with nx := M }) (h2 : q = false → SS X Γ ρ el { E with nx := M }) (hr : ∀ ρ', M ρ' → SS X Γ ρ' rest E) : SS X Γ ρ (.If c bd el pos :: rest) E := by
  refine ss_cons (M := M) ?_ hr
  cases q with
  | true => exact (ps_if hc (h1 rfl) pss_never).weak fun D σ H ⟨G, S, k⟩ => ⟨G, S, fun G2 H2 st ex => iteT ⟨G2, S.more st ex, k.more st.g⟩⟩
  | false => exact (ps_if hc pss_never (h2 rfl)).weak fun D σ H ⟨G, S, k⟩ => ⟨G, S, fun G2 H2 st ex => iteF ⟨G2, S.more st ex, k.more st.g⟩⟩
/-- if c: (a body that leaves) -/
theorem ss_ifL (hc : DT X Γ ρ c q) (h1 : q = true → SS X Γ ρ bd { E with nx := fun _ => False }) (h2 : q = false → SS X Γ ρ rest E) : SS X Γ ρ (.If c bd [] pos :: rest) E := by
  refine ss_if (M := fun ρ' => ρ' = ρ ∧ q = false) hc (fun e => (h1 e).weak fun D σ H ⟨G, S, k⟩ => ⟨G, S, ⟨fun _ _ _ _ z => z.elim, k.bk, k.ct, k.rt⟩⟩) (fun e => ss_nil ⟨rfl, e⟩) fun ρ' ⟨e, eq⟩ => e ▸ h2 eq
/-- an if whose test's answer is known -/
theorem ss_ifT (hc : DT X Γ ρ c true) (h1 : SS X Γ ρ bd { E with nx := fun ρ' => SS X Γ ρ' rest E }) : SS X Γ ρ (.If c bd el pos :: rest) E := ss_if hc (fun _ => h1) (fun z => by cases z) fun _ z => z
theorem ss_ifF (hc : DT X Γ ρ c false) (h1 : SS X Γ ρ el { E with nx := fun ρ' => SS X Γ ρ' rest E }) : SS X Γ ρ (.If c bd el pos :: rest) E := ss_if hc (fun z => by cases z) (fun _ => h1) fun _ z => z
theorem ss_ifF0 (hc : DT X Γ ρ c false) (h1 : SS X Γ ρ rest E) : SS X Γ ρ (.If c bd [] pos :: rest) E := ss_ifF hc (ss_nil h1)
/-- two ways that both go on -/
theorem ss_if2 (hc : DT X Γ ρ c q) (h1 : q = true → SS X Γ ρ bd { E with nx := fun ρ' => SS X Γ ρ' rest E }) (h2 : q = false → SS X Γ ρ el { E with nx := fun ρ' => SS X Γ ρ' rest E }) : SS X Γ ρ (.If c bd el pos :: rest) E := ss_if hc h1 h2 fun _ z => z
/-- raise of an own class, let -/
theorem ss_raise {C : Addr} {t : L2.St → Hp → XK → Prop} (hc : X.calm = true) (hx : RX X Γ C) (he : PMk X e t) (ht : ∀ σ H Q, Q (.ref C) none H → t σ H Q) : SS X Γ ρ (.Raise (some e) none pos :: rest) E := by
  obtain ⟨W, tk, hw⟩ := hx
  exact ss_cons (M := fun _ => False) ((ps_raise hc tk he).weak fun D σ H ⟨G, S, k⟩ => ht _ _ _ (hw σ H S.step.h)) fun ρ' e => e.elim
end
end DL

set_option Elab.async false
set_option linter.all false
set_option maxRecDepth 100000
set_option maxHeartbeats 2000000
namespace DL
open PySem L2

/-! ### a def by its body -/
theorem slr_start {K : Fg} {I G H : Hp} {N : List Str} {vs : List V} {ss : List Sl} {m : Nat} (r : SlR K I G H (vs.map some) ss []) (h : N.length - vs.length = m) : SlR K I G H (L2.start N vs) (ss ++ List.replicate m .un) [] := by
  unfold L2.start
  rw [h]
  exact r.app (SlR.uns m _ (by simp))
theorem slr_len {K : Fg} {I G H : Hp} {vs : List V} {ss : List Sl} {A} (r : SlR K I G H (vs.map some) ss A) : vs.length = ss.length := by
  have := r.len
  simpa using this
/-- what every def's body and block has -/
structure XO (X : Cx) : Prop where
  calm : X.calm = true
  nd : X.N.Nodup
  hu : X.A.units + 65 < cLine
theorem XO.hu64 {X : Cx} (x : XO X) : X.A.units + 64 < cLine := by have := x.hu; omega
section
variable {P : Program} {w : World} {K : Fg} {mg : Str → Option Value} {base : Heap}
theorem ok_def {x qual : Str} {st : Stmt} {f : Addr} {fd : FuncData} {N ps : List Str} {k m : Nat} {ss : List Sl} {o : Oc} (F : Fun K x qual st f fd) (S : FnScope N ps (defScope st)) (hl : ss.length = ps.length) (hm : N.length - ps.length = m)
    (hbody : ∀ (cdv : Value) (A : Around) (outer : List Env) (s : Shared) (G H : Hp) (E : XK), Room k (A.deeper (PyProof.Rows.envOfC qual (defScope st) s.heap.objs.size f cdv)) →
      XO (cxOf (L2.CX P w) P w K mg base N qual (defScope st) f cdv A outer s H E) →
      PassesOwn (model P w) (A.deeper (PyProof.Rows.envOfC qual (defScope st) s.heap.objs.size f cdv)) (PyProof.Rows.envOfC qual (defScope st) s.heap.objs.size f cdv) (cxOf (L2.CX P w) P w K mg base N qual (defScope st) f cdv A outer s H E).xe →
      (∀ C, o = .exc C → RX (cxOf (L2.CX P w) P w K mg base N qual (defScope st) f cdv A outer s H E) ⟨K, G, H⟩ C) →
      SS (cxOf (L2.CX P w) P w K mg base N qual (defScope st) f cdv A outer s H E) ⟨K, G, H⟩ (ss ++ List.replicate m .un) (defBody st) { nx := fun _ => o = .ret (.fz .none), rt := fun t => o = .ret t }) :
    FnOk P w K mg base (L2.CX P w) (k + 1) f fd ps (sp1 K ss o) := by
  have len : ∀ vs H Q E, sp1 K ss o vs H Q E → vs.length = ps.length := fun vs H Q E h => by
    cases o with
    | ret t =>
      obtain ⟨G, _, r, _⟩ := h
      rw [slr_len r, hl]
    | exc C =>
      obtain ⟨G, _, r, _⟩ := h
      rw [slr_len r, hl]
  refine F.okX S len (fun cdv A outer s H vs Q E hr h => ?_)
  have hv := len _ _ _ _ h
  have xo : XO (cxOf (L2.CX P w) P w K mg base N qual (defScope st) f cdv A outer s H E) := ⟨rfl, S.nd, by have := hr.un; show (A.deeper (PyProof.Rows.envOfC qual (defScope st) s.heap.objs.size f cdv)).units + 65 < cLine; omega⟩
  have hp : PassesOwn (model P w) (A.deeper (PyProof.Rows.envOfC qual (defScope st) s.heap.objs.size f cdv)) (PyProof.Rows.envOfC qual (defScope st) s.heap.objs.size f cdv) (cxOf (L2.CX P w) P w K mg base N qual (defScope st) f cdv A outer s H E).xe := passes_of (X := cxOf (L2.CX P w) P w K mg base N qual (defScope st) f cdv A outer s H E) rfl
  cases o with
  | ret t =>
    obtain ⟨G, eg, r, kk⟩ := h
    refine ⟨_, hbody cdv A outer s G H E hr xo hp (fun C z => by cases z), G, ⟨⟨Ex.refl _, Ex.refl _, fun _ _ e _ => e⟩, eg, [], slr_start r (by rw [hv, hm]), List.nodup_nil, fun _ z => by cases z⟩, ?_⟩
    refine ⟨fun ρ σ G' H' e S' _ => ?_, fun _ _ _ _ z => z.elim, fun _ _ _ _ z => z.elim, fun t' v G' H' A e st ex o nd f => ?_⟩
    · cases e
      exact kk .non G' H' [] S'.step S'.sub (.fz .non) List.nodup_nil fun _ z => by cases z
    · cases e
      exact kk v G' H' A st ex o nd f
  | exc C =>
    obtain ⟨G, eg, r, kk⟩ := h
    refine ⟨_, hbody cdv A outer s G H E hr xo hp (fun C' z => ?_), G, ⟨⟨Ex.refl _, Ex.refl _, fun _ _ e _ => e⟩, eg, [], slr_start r (by rw [hv, hm]), List.nodup_nil, fun _ z => by cases z⟩, ?_⟩
    · cases z
      exact ⟨_, takes_of rfl rfl rfl rfl, fun σ H2 e2 => kk H2 e2⟩
    · exact ⟨fun ρ σ G' H' e => (by cases e), fun _ _ _ _ z => z.elim, fun _ _ _ _ z => z.elim, fun t' v G' H' A e => (by cases e)⟩
end

/-! ### what is walked -/
structure Walk (Γ : Gm) (J : It) (G1 H1 : Hp) (n : Nat) (it : Nat → Sl) : Prop where
  go : ∀ i G H, Ex G1 G → Ex G H → Ex Γ.H H → i < n → J.go i H
  yld : ∀ i G H x H', Ex G1 G → Ex G H → Ex Γ.H H → i < n → J.yld i H x H' → ∃ G', Step G H G' H' ∧ Ex G' H' ∧ SlS Γ.K Γ.H G' H' (some x) (it i) []
  stop : ∀ i G H, Ex G1 G → Ex G H → Ex Γ.H H → n ≤ i → J.stop i H
def tIt (Γ : Gm) (ρ : List Sl) (n : Nat) (it : Nat → Sl) : TI := fun σ H R => ∃ G, Sr Γ G H σ ρ ∧ ∀ J G1 H1, Step G H G1 H1 → Ex G1 H1 → Walk Γ J G1 H1 n it → R J H1
def DI (X : Cx) (Γ : Gm) (ρ : List Sl) (tg e : Expr) (n : Nat) (it : Nat → Sl) : Prop := PI X tg e (tIt Γ ρ n it)
/-- an item as a slot holds it -/
inductive SubSl : D → Sl → Prop
  | v {d x} : dV d = some x → SubSl d (.v x)
  | sh {d} : SubSl d (.sh d)
theorem SubSl.sl {K : Fg} {I G H : Hp} {v : V} {d : D} {s : Sl} (h : SubSl d s) (r : Rep G v d) : SlS K I G H (some v) s [] := by
  cases h with
  | v e => rw [rep_dV r e]; exact .v
  | sh => exact .sh r
/-- .. of what is only read -/
inductive SubRo : D → Sl → Prop
  | v {d x} : dV d = some x → SubRo d (.v x)
  | ro {d} : SubRo d (.ro d)
theorem SubRo.sl {K : Fg} {I G H : Hp} {v : V} {d : D} {s : Sl} (h : SubRo d s) (r : Rep I v d) : SlS K I G H (some v) s [] := by
  cases h with
  | v e => rw [rep_dV r e]; exact .v
  | ro => exact .ro r
section
variable {X : Cx} {Γ : Gm} {ρ ρ' : List Sl} {e a b c tg : Expr} {es : List Expr} {pos p p' : Pos} {κ κ' : Kd} {d d' : D} {x y z : V} {t : OT} {σ : L2.St} {G H G1 H1 G2 H2 : Hp} {E : En} {st : Stmt} {rest body : List Stmt} {n : Str} {i : Nat} {α : Type} {f : α → D}
theorem di_list {ds : List D} {it : Nat → Sl} (h : DE X Γ ρ e .z (.list ds)) (hi : ∀ i d, ds[i]? = some d → SubSl d (it i)) : DI X Γ ρ tg e ds.length it :=
  (pi_list h).weak fun σ H R ⟨G, S, k⟩ => ⟨G, S, fun v G1 H1 s1 e1 q => by
    have q' : Rep G1 v (.list ds) := q
    cases q' with
    | @lst a xs _ hl r =>
      have ln := r.len
      refine ⟨a, rfl, ⟨xs, SqL.of (e1 _ _ hl)⟩, k _ G1 H1 s1 e1 ⟨fun i G' H' g1 g2 _ hi => ?_, fun i G' H' x H'' g1 g2 _ hlt hy => ?_, fun i G' H' g1 g2 _ hi => ⟨xs, SqL.of (g2 _ _ (g1 _ _ hl)), by omega⟩⟩⟩
      · exact ⟨xs, xs[i], SqL.of (g2 _ _ (g1 _ _ hl)), List.getElem?_eq_getElem (by omega)⟩
      · obtain ⟨rfl, hx⟩ := hy
        obtain ⟨d, h1, h2⟩ := (Reps.mono g1 r).getV (hx xs (SqL.of (g2 _ _ (g1 _ _ hl))))
        exact ⟨G', Step.refl _ _, g2, (hi i d h1).sl h2⟩⟩
theorem di_listR {ds : List D} {it : Nat → Sl} (h : DE X Γ ρ e .r (.list ds)) (hi : ∀ i d, ds[i]? = some d → SubRo d (it i)) : DI X Γ ρ tg e ds.length it :=
  (pi_list h).weak fun σ H R ⟨G, S, k⟩ => ⟨G, S, fun v G1 H1 s1 e1 q => by
    have q' : Rep Γ.H v (.list ds) := q
    cases q' with
    | @lst a xs _ hl r =>
      have ln := r.len
      refine ⟨a, rfl, ⟨xs, SqL.of ((S.step.trans s1).h _ _ hl)⟩, k _ G1 H1 s1 e1 ⟨fun i G' H' g1 g2 g3 hi => ?_, fun i G' H' x H'' g1 g2 g3 hlt hy => ?_, fun i G' H' g1 g2 g3 hi => ⟨xs, SqL.of (g3 _ _ hl), by omega⟩⟩⟩
      · exact ⟨xs, xs[i], SqL.of (g3 _ _ hl), List.getElem?_eq_getElem (by omega)⟩
      · obtain ⟨rfl, hx⟩ := hy
        obtain ⟨d, h1, h2⟩ := r.getV (hx xs (SqL.of (g3 _ _ hl)))
        exact ⟨G', Step.refl _ _, g2, (hi i d h1).sl h2⟩⟩
/-- items of typed lists -/
theorem map_at {β : Type} [Inhabited α] {g : α → β} {xs : List α} {i : Nat} {d : β} (h : (xs.map g)[i]? = some d) : d = g (xs.getD i default) := by
  rw [List.getElem?_map] at h
  cases e : xs[i]? with
  | none => rw [e] at h; cases h
  | some a =>
    rw [e] at h
    rw [List.getD_eq_getElem?_getD, e]
    exact (Option.some.inj h).symm
theorem di_z [Inhabited α] {xs : List α} (h : DE X Γ ρ e .z (dl f xs)) : DI X Γ ρ tg e xs.length (fun i => .sh (f (xs.getD i default))) := by
  have := di_list (tg := tg) (it := fun i => .sh (f (xs.getD i default))) h fun i d hd => by rw [map_at hd]; exact .sh
  rwa [List.length_map] at this
theorem di_r [Inhabited α] {xs : List α} (h : DE X Γ ρ e .r (dl f xs)) : DI X Γ ρ tg e xs.length (fun i => .ro (f (xs.getD i default))) := by
  have := di_listR (tg := tg) (it := fun i => .ro (f (xs.getD i default))) h fun i d hd => by rw [map_at hd]; exact .ro
  rwa [List.length_map] at this
theorem di_zI {xs : List Int} (h : DE X Γ ρ e .z (dl dI xs)) : DI X Γ ρ tg e xs.length (fun i => .v (.int (xs.getD i default))) := by
  have := di_list (tg := tg) (it := fun i => .v (.int (xs.getD i default))) h fun i d hd => by rw [map_at hd]; exact .v rfl
  rwa [List.length_map] at this
theorem di_rI {xs : List Int} (h : DE X Γ ρ e .r (dl dI xs)) : DI X Γ ρ tg e xs.length (fun i => .v (.int (xs.getD i default))) := by
  have := di_listR (tg := tg) (it := fun i => .v (.int (xs.getD i default))) h fun i d hd => by rw [map_at hd]; exact .v rfl
  rwa [List.length_map] at this
theorem di_range {m : Int} {pr : Pos} (ha : DV X Γ ρ a (.int m)) (hb : m < 2 ^ 62) (hb2 : -(2 ^ 62) ≤ m) (hm : X.mg "range" = none) (hg : Gl X "range" := by rfl) (hs1 : starEach [a] X.env = (false, eval a X.env) :: starEach [] X.env := by rfl) (hs : starEach [a] X.env = [(false, eval a X.env)] := by rfl) :
    DI X Γ ρ tg (.Call (.Name "range" p) [a] [] pos) m.toNat (fun i => .v (.int (i : Int))) :=
  (pi_range1 hg hm (pa_cons ha pa_nil hs1) hs).weak fun σ H R ⟨G, S, k⟩ => ⟨G, S, fun v G1 H1 s1 e1 (q : v = .int m) => by
    rw [q]
    exact ⟨m, rfl, hb2, hb, k _ G1 H1 s1 e1 ⟨fun _ _ _ _ _ _ h => h, fun i G' H' x H'' g1 g2 _ hlt hy => by
      obtain ⟨rfl, rfl⟩ := hy
      refine ⟨G', Step.refl _ _, g2, ?_⟩
      show SlS _ _ _ _ (some (V.int (0 + (i : Int)))) _ _
      rw [Int.zero_add]
      exact .v, fun _ _ _ _ _ _ h => h⟩⟩⟩
theorem di_range2 {m0 m : Int} {pr : Pos} (ha : DV X Γ ρ a (.int m0)) (hc : DV X Γ ρ b (.int m)) (hb : (-(2 ^ 62) ≤ m0 ∧ m0 < 2 ^ 62) ∧ -(2 ^ 62) ≤ m ∧ m < 2 ^ 62) (hm : X.mg "range" = none) (hg : Gl X "range" := by rfl) (hs1 : starEach [a, b] X.env = (false, eval a X.env) :: starEach [b] X.env := by rfl) (hs0 : starEach [b] X.env = (false, eval b X.env) :: starEach [] X.env := by rfl)
    (hs : starEach [a, b] X.env = [(false, eval a X.env), (false, eval b X.env)] := by rfl) (hs2 : starEach [b] X.env = [(false, eval b X.env)] := by rfl) :
    DI X Γ ρ tg (.Call (.Name "range" p) [a, b] [] pos) (m - m0).toNat (fun i => .v (.int (m0 + (i : Int)))) :=
  (pi_range2 hg hm (pa_cons ha (pa_cons hc pa_nil hs0) hs1) hs hs2).weak fun σ H R ⟨G, S, k⟩ => ⟨G, S, fun v G1 H1 s1 e1 (q : v = .int m0) => ⟨G1, S.more s1 e1, fun u G2 H2 s2 e2 (q2 : u = .int m) => by
    rw [q, q2]
    exact ⟨m0, m, rfl, ⟨hb.1.1, hb.1.2, hb.2.1, hb.2.2⟩, k _ G2 H2 (s1.trans s2) e2 ⟨fun _ _ _ _ _ _ h => h, fun i G' H' x H'' g1 g2 _ hlt hy => by
      obtain ⟨rfl, rfl⟩ := hy
      exact ⟨G', Step.refl _ _, g2, .v⟩, fun _ _ _ _ _ _ h => h⟩⟩⟩⟩
/-- targets: what they put where -/
def DG (X : Cx) (Γ : Gm) (tg : Expr) (s : Sl) (h : List Sl → List Sl) : Prop := ∃ g : TG, PG X tg g ∧ ∀ (ρ : List Sl) (σ : L2.St) (G H : Hp) (v : V) (Q : L2.St → Hp → Prop), Sr Γ G H σ ρ → SlS Γ.K Γ.H G H (some v) s [] → (∀ σ', Sr Γ G H σ' (h ρ) → Q σ' H) → g v σ H Q
theorem dg_name (j : Nat) {s : Sl} (hN : X.N.Nodup) (hj : X.N[j]? = some n := by rfl) (hx : Loc X.env.scope n := by first | exact .inl rfl | exact .inr rfl) (hf : X.fn n = true ∨ X.env.scope.names.lookup n = some .local := by first | exact .inl rfl | exact .inr rfl) : DG X Γ (.Name n pos) s (fun ρ => ρ.set j s) :=
  ⟨gName j, pg_name hN hj hx hf, fun ρ σ G H v Q S h k => k _ (S.store (Step.refl _ _) S.sub h List.nodup_nil fun _ z => by cases z)⟩
theorem dg_pair {tg1 tg2 : Expr} {kk} {d1 d2' : D} {s1 s2 : Sl} {h1 h2 : List Sl → List Sl} (hc : X.calm = true) (g1 : DG X Γ tg1 s1 h1) (g2 : DG X Γ tg2 s2 h2) (q1 : SubSl d1 s1) (q2 : SubSl d2' s2)
    (hs1 : (assignEach [tg1, tg2] X.env).map (·.2) = assign tg1 X.env :: (assignEach [tg2] X.env).map (·.2) := by rfl) (hs2 : (assignEach [tg2] X.env).map (·.2) = assign tg2 X.env :: (assignEach [] X.env).map (·.2) := by rfl)
    (hn : (assignEach [tg1, tg2] X.env).length = 2 := by rfl) (hst : (assignEach [tg1, tg2] X.env).findIdx? (·.1) = none := by rfl) : DG X Γ (.Tuple [tg1, tg2] kk pos) (.sh (.tuple [d1, d2'])) (fun ρ => h2 (h1 ρ)) := by
  obtain ⟨t1, p1, w1⟩ := g1
  obtain ⟨t2, p2, w2⟩ := g2
  refine ⟨_, pg_tup hc (pgs_cons p1 (pgs_cons p2 pgs_nil hs2) hs1) hn hst, fun ρ σ G H v Q S h k => ?_⟩
  cases h with
  | sh r =>
    cases r with
    | @tup a xs _ ht r =>
      cases r with
      | cons r1 r =>
        cases r with
        | cons r2 r =>
          cases r
          refine ⟨a, _, rfl, SqT.of (S.sub _ _ ht), rfl, _, _, rfl, ?_⟩
          refine w1 ρ σ G H _ _ S (q1.sl r1) fun σ1 S1 => ?_
          refine ⟨_, _, rfl, ?_⟩
          exact w2 _ σ1 G H _ _ S1 (q2.sl r2) fun σ2 S2 => ⟨rfl, k σ2 S2⟩

/-! ### for -/
theorem ss_for {m : Nat} {it : Nat → Sl} {hh : Nat → List Sl → List Sl} (hp : PassesOwn (model X.prog X.w) X.A X.env X.xe) (hc : X.calm = true) (hi : DI X Γ ρ tg e m it) {g : TG} (hg : PG X tg g)
    (hg2 : ∀ i, i < m → ∀ (ρ : List Sl) (σ : L2.St) (G H : Hp) (v : V) (Q : L2.St → Hp → Prop), Sr Γ G H σ ρ → SlS Γ.K Γ.H G H (some v) (it i) [] → (∀ σ', Sr Γ G H σ' (hh i ρ) → Q σ' H) → g v σ H Q)
    (Inv Bk : List Sl → Nat → Prop) (h0 : Inv ρ 0) (hs : ∀ i ρ', i < m → Inv ρ' i → SS X Γ (hh i ρ') body { E with nx := fun ρ2 => Inv ρ2 (i + 1), ct := fun ρ2 => Inv ρ2 (i + 1), bk := fun ρ2 => Bk ρ2 i })
    (hd : ∀ ρ', Inv ρ' m → SS X Γ ρ' rest E) (hb : ∀ ρ' i, i < m → Bk ρ' i → SS X Γ ρ' rest E) (hs2 : ∀ x, foldedSetIterable e X.env x = pure x := by intro _; rfl) : SS X Γ ρ (.For tg e body [] pos :: rest) E := by
  have hbody : PSs X body (fun D σ H => ∃ i ρ', i < m ∧ Inv ρ' i ∧ tS Γ (hh i ρ') { E with nx := fun ρ2 => Inv ρ2 (i + 1), ct := fun ρ2 => Inv ρ2 (i + 1), bk := fun ρ2 => Bk ρ2 i } D σ H) :=
    ⟨fun pins s σ H D I ⟨i, ρ', h1, h2, q⟩ => (hs i ρ' h1 h2).run pins s σ H D I q⟩
  refine ss_cons (M := fun ρ' => Inv ρ' m ∨ ∃ i, i < m ∧ Bk ρ' i) ((ps_for hp hc hi hg hbody hs2).weak fun D σ H ⟨G, S, k⟩ => ⟨G, S, fun J G1 H1 s1 e1 W => ?_⟩) fun ρ' h => h.elim (hd ρ') fun ⟨i, h1, h2⟩ => hb ρ' i h1 h2
  refine ⟨fun i μ σ H => μ = m - i ∧ i ≤ m ∧ ∃ ρ' G, Sr Γ G H σ ρ' ∧ Ex G1 G ∧ Inv ρ' i, ⟨m, rfl, Nat.zero_le _, ρ, G1, S.more s1 e1, Ex.refl _, h0⟩, ?_⟩
  rintro i μ σ' H' ⟨rfl, him, ρ', G', S', eg, inv⟩
  by_cases hlt : i < m
  · refine .inr ⟨W.go i G' H' eg S'.sub S'.step.h hlt, fun σ2 H2 => ∃ ρ2 G2, Sr Γ G2 H2 σ2 ρ2 ∧ Ex G1 G2 ∧ Inv ρ2 (i + 1), fun σ2 H2 ⟨ρ2, G2, S2, e2, inv2⟩ => ⟨m - (i + 1), by omega, rfl, hlt, ρ2, G2, S2, e2, inv2⟩, fun x H'' hy => ?_⟩
    obtain ⟨G3, s3, e3, sl⟩ := W.yld i G' H' x H'' eg S'.sub S'.step.h hlt hy
    refine hg2 i hlt ρ' σ' G3 H'' x _ (S'.more s3 e3) sl fun σ3 S3 => ?_
    exact ⟨i, ρ', hlt, inv, G3, S3, ⟨fun ρ2 σ2 G2 H2 h S2 x => ⟨ρ2, G2, S2, (eg.trans s3.g).trans x, h⟩, fun ρ2 σ2 G2 H2 h S2 x => k.nx ρ2 σ2 G2 H2 (.inr ⟨i, hlt, h⟩) S2 (s1.g.trans ((eg.trans s3.g).trans x)), fun ρ2 σ2 G2 H2 h S2 x => ⟨ρ2, G2, S2, (eg.trans s3.g).trans x, h⟩, k.rt⟩⟩
  · have e : i = m := by omega
    subst e
    exact .inl ⟨W.stop i G' H' eg S'.sub S'.step.h (Nat.le_refl _), k.nx ρ' σ' G' H' (.inl inv) S' (s1.g.trans eg)⟩
end
end DL

set_option Elab.async false
set_option linter.all false
set_option maxRecDepth 100000
set_option maxHeartbeats 2000000
namespace DL
open PySem L2

/-! ### places in owned trees -/
def OT.at : List Nat → OT → Option OT
  | [], t => some t
  | k :: p, .cell ts => (ts[k]?).bind fun u => OT.at p u
  | _ :: _, .fz _ => none
def OT.put : List Nat → OT → OT → OT
  | [], _, t' => t'
  | k :: p, .cell ts, t' => .cell (match ts[k]? with | some u => ts.set k (OT.put p u t') | none => ts)
  | _ :: _, .fz d, _ => .fz d
def PathV (H : Hp) : List Nat → V → V → Prop
  | [], v, w => v = w
  | k :: p, v, w => ∃ a vs u, v = .ref a ∧ H a = some (.lst vs) ∧ vs[k]? = some u ∧ PathV H p u w
theorem PathV.mono {H H' : Hp} (e : Ex H H') : ∀ {p : List Nat} {v w : V}, PathV H p v w → PathV H' p v w
  | [], _, _, h => h
  | _ :: _, _, _, ⟨a, vs, u, h1, h2, h3, h4⟩ => ⟨a, vs, u, h1, e _ _ h2, h3, PathV.mono e h4⟩
theorem PathV.snoc {H : Hp} {k : Nat} : ∀ {p : List Nat} {v w u : V} {a : Addr} {vs : List V}, PathV H p v w → w = .ref a → H a = some (.lst vs) → vs[k]? = some u → PathV H (p ++ [k]) v u
  | [], _, _, u, a, vs, h, e, h1, h2 => ⟨a, vs, u, h.trans e, h1, h2, rfl⟩
  | _ :: _, _, _, u, _, _, ⟨a, vs, u', h1, h2, h3, h4⟩, e, q1, q2 => ⟨a, vs, u', h1, h2, h3, PathV.snoc h4 e q1 q2⟩
section
variable {G H G2 H2 : Hp}
theorem OwnTs.focus : ∀ {k : Nat} {ts : List OT} {vs : List V} {A : List Addr} {t : OT}, OwnTs G H ts vs A → ts[k]? = some t → ∃ v A1 B A2, vs[k]? = some v ∧ OwnT G H t v B ∧ A = A1 ++ (B ++ A2) ∧
    ∀ (H' : Hp) (t' : OT) (B' : List Addr), (∀ b ∈ A1 ++ A2, H' b = H b) → OwnT G H' t' v B' → OwnTs G H' (ts.set k t') vs (A1 ++ (B' ++ A2))
  | 0, _, _, _, t, .cons (A := A0) (B := B0) h r, e => by
    obtain rfl := Option.some.inj e
    refine ⟨_, [], A0, B0, rfl, h, by simp, fun H' t' B' kk h' => ?_⟩
    simp only [List.nil_append]
    exact .cons h' (r.frame (Ex.refl _) (fun _ _ g => g) (fun b hb => kk b (by simpa using hb)))
  | k + 1, _, _, _, t, .cons (A := A0) (B := B0) h r, e => by
    obtain ⟨v, A1, B, A2, h1, h2, h3, h4⟩ := OwnTs.focus (k := k) (t := t) r (by simpa using e)
    refine ⟨v, A0 ++ A1, B, A2, by simpa using h1, h2, by rw [h3]; simp, fun H' t' B' kk h' => ?_⟩
    have := OwnTs.cons (h.frame (Ex.refl _) (fun _ _ g => g) (fun b hb => kk b (by simp [hb]))) (h4 H' t' B' (fun b hb => kk b (by
      rcases List.mem_append.mp hb with z | z
      · simp [z]
      · simp [z])) h')
    simpa using this
  | 0, _, _, _, t, .nil, e => by cases e
  | _ + 1, _, _, _, t, .nil, e => by cases e
theorem OwnT.path : ∀ {p : List Nat} {t : OT} {v : V} {A : List Addr} {ts : List OT} {a : Addr}, OwnT G H t v A → A.Nodup → OT.at p t = some (.cell ts) → PathV H p v (.ref a) →
    ∃ A1 B A2 vs, A = A1 ++ ((a :: B) ++ A2) ∧ G a = none ∧ H a = some (.lst vs) ∧ OwnTs G H ts vs B ∧
      ∀ (H' : Hp) (ts' : List OT) (vs' : List V) (B' : List Addr), (∀ b ∈ A1 ++ A2, H' b = H b) → H' a = some (.lst vs') → OwnTs G H' ts' vs' B' → OwnT G H' (OT.put p t (.cell ts')) v (A1 ++ ((a :: B') ++ A2))
  | [], t, v, A, ts, a, o, nd, hp, hv => by
    unfold OT.at at hp
    cases Option.some.inj hp
    have hv' : v = .ref a := hv
    subst hv'
    cases o with
    | @cell _ _ vs B hg hh r =>
      refine ⟨[], B, [], vs, by simp, hg, hh, r, fun H' ts' vs' B' _ h1 h2 => ?_⟩
      have := OwnT.cell hg h1 h2
      simpa [OT.put] using this
  | k :: p, t, v, A, ts, a, o, nd, hp, hv => by
    cases o with
    | fz _ => simp [OT.at] at hp
    | @cell us a0 vs0 A' hg hh r =>
      obtain ⟨a1, vs1, u1, e1, e2, e3, e4⟩ := hv
      cases e1
      rw [hh] at e2
      cases e2
      unfold OT.at at hp
      cases hk : us[k]? with
      | none => rw [hk] at hp; cases hp
      | some u =>
        rw [hk] at hp
        obtain ⟨v', A1, B, A2, h1, h2, h3, h4⟩ := r.focus hk
        rw [e3] at h1
        cases h1
        have nd' := nd
        rw [h3] at nd'
        have ndB : B.Nodup := by
          simp only [List.nodup_cons, List.nodup_append] at nd'
          exact nd'.2.2.1.1
        obtain ⟨A3, B3, A4, vs3, q1, q2, q3, q4, q5⟩ := OwnT.path h2 ndB hp e4
        refine ⟨a0 :: (A1 ++ A3), B3, A4 ++ A2, vs3, by rw [h3, q1]; simp, q2, q3, q4, fun H' ts' vs' B' k1 k2 k3 => ?_⟩
        have w1 := q5 H' ts' vs' B' (fun b hb => k1 b (by
          rcases List.mem_append.mp hb with z | z
          · simp [z]
          · simp [z])) k2 k3
        have w2 := h4 H' _ _ (fun b hb => k1 b (by
          rcases List.mem_append.mp hb with z | z
          · simp [z]
          · simp [z])) w1
        have w3 := OwnT.cell hg ((k1 a0 (by simp)).trans hh) w2
        have e5 : OT.put (k :: p) (.cell us) (.cell ts') = .cell (us.set k (OT.put p u (.cell ts'))) := by
          show OT.cell (match us[k]? with | some u => us.set k (OT.put p u (.cell ts')) | none => us) = _
          rw [hk]
        rw [e5]
        simpa using w3
end

/-! ### the state, its owned addresses told -/
structure SrA (Γ : Gm) (G H : Hp) (σ : L2.St) (ρ : List Sl) (A : List Addr) : Prop where
  step : Step Γ.G Γ.H G H
  sub : Ex G H
  sl : SlR Γ.K Γ.H G H σ ρ A
  nd : A.Nodup
  fr : ∀ a ∈ A, Γ.H a = none
section
variable {Γ : Gm} {G H G2 H2 : Hp} {σ : L2.St} {ρ : List Sl} {A : List Addr} {i : Nat} {t : OT} {p : List Nat} {ts : List OT} {a : Addr}
theorem SrA.sr (S : SrA Γ G H σ ρ A) : Sr Γ G H σ ρ := ⟨S.step, S.sub, A, S.sl, S.nd, S.fr⟩
theorem Sr.ad (S : Sr Γ G H σ ρ) : ∃ A, SrA Γ G H σ ρ A := let ⟨A, r, n, f⟩ := S.sl; ⟨A, S.step, S.sub, r, n, f⟩
theorem SrA.more (S : SrA Γ G H σ ρ A) (s : Step G H G2 H2) (e : Ex G2 H2) : SrA Γ G2 H2 σ ρ A := ⟨S.step.trans s, e, S.sl.more s, S.nd, S.fr⟩
theorem SrA.mem (S : SrA Γ G H σ ρ A) : ∀ b ∈ A, G b = none ∧ ∃ o, H b = some o := S.sl.mem
theorem nd_mid {A1 B A2 : List Addr} (h : (A1 ++ (B ++ A2)).Nodup) : B.Nodup ∧ ∀ b ∈ B, b ∉ A1 ++ A2 := by
  simp only [List.nodup_append, List.mem_append] at h
  refine ⟨h.2.1.1, fun b hb z => ?_⟩
  rcases List.mem_append.mp z with z | z
  · exact h.2.2 b z b (.inl hb) rfl
  · exact h.2.1.2.2 b hb b z rfl
theorem SrA.mut (S : SrA Γ G H σ ρ A) (h : ρ[i]? = some (.ow t)) (hp : OT.at p t = some (.cell ts)) {v0 : V} (h0 : σ[i]? = some (some v0)) (hv : PathV H p v0 (.ref a)) :
    ∃ vs B, H a = some (.lst vs) ∧ G a = none ∧ a ∈ A ∧ OwnTs G H ts vs B ∧ B.Nodup ∧ a ∉ B ∧ (∀ b ∈ B, b ∈ A) ∧
      ∀ (ts' : List OT) (vs' : List V) (B' : List Addr), OwnTs G H ts' vs' B' → B'.Nodup → a ∉ B' → (∀ b ∈ B', b ∈ B ∨ b ∉ A) → (∀ b ∈ B', Γ.H b = none) → Sr Γ G (upd H a (.lst vs')) σ (ρ.set i (.ow (OT.put p t (.cell ts')))) := by
  obtain ⟨o, A1, Bt, A2, h1, h2, e, h4⟩ := S.sl.focus h
  rw [h0] at h1
  cases h1
  have ndA := S.nd
  rw [e] at ndA
  obtain ⟨ndBt, dBt⟩ := nd_mid ndA
  cases h2 with
  | ow q =>
    obtain ⟨A3, B3, A4, vs, q1, q2, q3, q4, q5⟩ := q.path ndBt hp hv
    have ndBt' := ndBt
    rw [q1] at ndBt'
    obtain ⟨ndaB, daB⟩ := nd_mid ndBt'
    rw [List.nodup_cons] at ndaB
    have sub : ∀ b, b ∈ a :: B3 → b ∈ A := fun b hb => by
      rw [e, q1]
      simp only [List.mem_append]
      exact .inr (.inl (.inr (.inl hb)))
    refine ⟨vs, B3, q3, q2, sub a List.mem_cons_self, q4, ndaB.2, ndaB.1, fun b hb => sub b (List.mem_cons_of_mem _ hb), fun ts' vs' B' o' nd' na' d' f' => ?_⟩
    have dB' : ∀ b ∈ B', b ∉ A1 ++ A2 ∧ b ∉ A3 ++ A4 := fun b hb => by
      rcases d' b hb with z | z
      · refine ⟨dBt b (by rw [q1]; simp [z]), daB b (List.mem_cons_of_mem _ z)⟩
      · rw [e, q1] at z
        simp only [List.mem_append, not_or] at z ⊢
        exact ⟨⟨z.1, z.2.2⟩, ⟨z.2.1.1, z.2.1.2.2⟩⟩
    have aO : a ∉ A1 ++ A2 := dBt a (by rw [q1]; simp)
    have aI : a ∉ A3 ++ A4 := daB a List.mem_cons_self
    have w := q5 (upd H a (.lst vs')) ts' vs' B' (fun b hb => upd_ne (fun z => aI (z ▸ hb))) upd_same (o'.frame (Ex.refl _) (fun _ _ g => g) fun b hb => upd_ne (fun z => na' (z ▸ hb)))
    have w2 := h4 G (upd H a (.lst vs')) (some v0) (.ow (OT.put p t (.cell ts'))) _ (Ex.refl _) (fun _ _ g => g) (fun b hb => upd_ne (fun z => aO (z ▸ hb))) (.ow w)
    have e2 : σ.set i (some v0) = σ := by
      obtain ⟨hi, e⟩ := List.getElem?_eq_some_iff.mp h0
      rw [← e]
      simp
    rw [e2] at w2
    have aΓ : Γ.H a = none := S.fr a (sub a List.mem_cons_self)
    refine ⟨⟨S.step.g, S.step.h.mut aΓ, fun b u g1 g2 => S.step.f b u g1 g2⟩, S.sub.mut q2, _, w2, ?_, ?_⟩
    · refine nd_swap ndA ?_ fun b hb z => ?_
      · refine nd_swap ndBt' (List.nodup_cons.mpr ⟨na', nd'⟩) fun b hb z => ?_
        rcases List.mem_cons.mp hb with hb | hb
        · subst hb; exact aI z
        · exact (dB' b hb).2 z
      · simp only [List.mem_append] at hb
        rcases hb with hb | hb | hb
        · exact dBt b (by rw [q1]; simp [hb]) z
        · rcases List.mem_cons.mp hb with hb | hb
          · subst hb; exact aO z
          · exact (dB' b hb).1 z
        · exact dBt b (by rw [q1]; simp [hb]) z
    · intro x hx
      simp only [List.mem_append, List.mem_cons] at hx
      rcases hx with z | (z | (z | z) | z) | z
      · exact S.fr x (by rw [e]; simp [z])
      · exact S.fr x (by rw [e, q1]; simp [z])
      · subst z; exact aΓ
      · exact f' x z
      · exact S.fr x (by rw [e, q1]; simp [z])
      · exact S.fr x (by rw [e]; simp [z])
/-- an owned thing is taken out of its name -/
theorem SrA.take (S : SrA Γ G H σ ρ A) (h : ρ[i]? = some (.ow t)) : ∃ v B A', σ[i]? = some (some v) ∧ OwnT G H t v B ∧ B.Nodup ∧ SrA Γ G H σ (ρ.set i .un) A' ∧ (∀ b ∈ B, b ∉ A' ∧ b ∈ A) ∧ (∀ b ∈ B, Γ.H b = none) ∧ (∀ b ∈ A', b ∈ A) := by
  obtain ⟨o, A1, Bt, A2, h1, h2, e, h4⟩ := S.sl.focus h
  have ndA := S.nd
  rw [e] at ndA
  obtain ⟨ndBt, dBt⟩ := nd_mid ndA
  cases h2 with
  | @ow v _ _ q =>
    have w := h4 G H (some v) .un [] (Ex.refl _) (fun _ _ g => g) (fun _ _ => rfl) .un
    have e2 : σ.set i (some v) = σ := by
      obtain ⟨hi, e⟩ := List.getElem?_eq_some_iff.mp h1
      rw [← e]
      simp
    rw [e2] at w
    refine ⟨v, Bt, A1 ++ ([] ++ A2), h1, q, ndBt, ⟨S.step, S.sub, w, nd_swap ndA List.nodup_nil (fun _ z => by cases z), fun x hx => S.fr x ?_⟩, fun b hb => ⟨by simpa using dBt b hb, by rw [e]; simp [hb]⟩, fun b hb => S.fr b (by rw [e]; simp [hb]), fun x hx => ?_⟩
    · rw [e]
      simp only [List.nil_append, List.mem_append] at hx ⊢
      rcases hx with z | z
      · exact .inl z
      · exact .inr (.inr z)
    · rw [e]
      simp only [List.nil_append, List.mem_append] at hx ⊢
      rcases hx with z | z
      · exact .inl z
      · exact .inr (.inr z)
end
end DL

set_option Elab.async false
set_option linter.all false
set_option maxRecDepth 100000
set_option maxHeartbeats 2000000
namespace DL
open PySem L2

def tP (Γ : Gm) (ρ : List Sl) (i : Nat) (pa : List Nat) : TE := fun σ H Q => ∃ G, Sr Γ G H σ ρ ∧ ∀ v G2 H2, Step G H G2 H2 → Ex G2 H2 → (∃ v0, σ[i]? = some (some v0) ∧ PathV H2 pa v0 v) → Q v H2
def DPl (X : Cx) (Γ : Gm) (ρ : List Sl) (o : Expr) (i : Nat) (pa : List Nat) : Prop := PE X o (tP Γ ρ i pa)
theorem OwnT.pathRef {G H : Hp} : ∀ {pa : List Nat} {t : OT} {v w : V} {A : List Addr} {ts : List OT}, OwnT G H t v A → OT.at pa t = some (.cell ts) → PathV H pa v w → ∃ a, w = .ref a
  | [], t, v, w, A, ts, o, hp, hv => by
    unfold OT.at at hp
    cases Option.some.inj hp
    have hv' : v = w := hv
    subst hv'
    cases o with
    | cell hg hh r => exact ⟨_, rfl⟩
  | k :: pa, t, v, w, A, ts, o, hp, hv => by
    cases o with
    | fz _ => simp [OT.at] at hp
    | @cell us a0 vs0 A' hg hh r =>
      obtain ⟨a1, vs1, u1, e1, e2, e3, e4⟩ := hv
      cases e1
      rw [hh] at e2
      cases e2
      unfold OT.at at hp
      cases hk : us[k]? with
      | none => rw [hk] at hp; cases hp
      | some u =>
        rw [hk] at hp
        obtain ⟨v', A1, B, A2, h1, h2, _, _⟩ := r.focus hk
        rw [e3] at h1
        cases h1
        exact OwnT.pathRef h2 hp e4
section
variable {X : Cx} {Γ : Gm} {ρ ρ' : List Sl} {e a b c o : Expr} {es : List Expr} {pos p p' apos cpos : Pos} {κ κ' : Kd} {d d' : D} {x y z : V} {t t' : OT} {σ : L2.St} {G H G1 H1 G2 H2 : Hp} {E : En} {st : Stmt} {rest body : List Stmt} {n : Str} {i : Nat} {ts : List OT} {pa : List Nat}
theorem Sr.ref {v0 w : V} (S : Sr Γ G H σ ρ) (h : ρ[i]? = some (.ow t)) (hp : OT.at pa t = some (.cell ts)) (h0 : σ[i]? = some (some v0)) (hv : PathV H pa v0 w) : ∃ a, w = .ref a := by
  obtain ⟨ob, B, h1, h2⟩ := S.slot h
  rw [h0] at h1
  cases h1
  cases h2 with
  | ow q => exact q.pathRef hp hv
theorem dpl_var (i : Nat) (h : ρ[i]? = some (.ow t)) (hN : X.N[i]? = some n := by rfl) (hv : Vis X.env.scope n := by first | exact Or.inl rfl | exact Or.inr (Or.inl rfl) | exact Or.inr (Or.inr rfl)) (hd : (n == ("__debug__" : Str)) = false := by decide) (hcd : (n == ("__classdict__" : Str)) = false := by decide) :
    DPl X Γ ρ (.Name n pos) i [] := (pe_var hN hv hd hcd).weak fun σ H Q ⟨G, S, k⟩ => by
  obtain ⟨ob, B, h1, h2⟩ := S.slot h
  cases h2 with
  | ow q => exact ⟨_, h1, k _ G H (Step.refl _ _) S.sub ⟨_, h1, rfl⟩⟩
theorem dpl_ix {k : Int} {j : Nat} (ho : DPl X Γ ρ o i pa) (hb : DV X Γ ρ b (.int k)) (h : ρ[i]? = some (.ow t)) (hp : OT.at pa t = some (.cell ts)) (hk : ixN ts.length k = some j) (hj : j < ts.length) (hs : PlainIx b := by intro _ _; rfl) : DPl X Γ ρ (.Subscript o b pos) i (pa ++ [j]) :=
  (pe_ix ix_list ho hb hs).weak fun σ H Q ⟨G, S, kk⟩ => ⟨G, S, fun v G1 H1 s1 e1 ⟨v0, h0, hv⟩ => ⟨G1, S.more s1 e1, fun u G2 H2 s2 e2 (q : u = .int k) => by
    have S2 := (S.more s1 e1).more s2 e2
    have hv2 := hv.mono s2.h
    obtain ⟨a, rfl⟩ := S2.ref h hp h0 hv2
    obtain ⟨A, SA⟩ := S2.ad
    obtain ⟨vs, B, q1, _, _, q2, _⟩ := SA.mut h hp h0 hv2
    have ln := q2.len
    have hx : ∃ w, vs[j]? = some w := ⟨vs[j], List.getElem?_eq_getElem (by omega)⟩
    obtain ⟨w, hw⟩ := hx
    refine ⟨a, vs, k, w, rfl, q, SqL.of q1, ?_, kk w G2 H2 (s1.trans s2) e2 ⟨v0, h0, hv2.snoc rfl q1 hw⟩⟩
    unfold atI
    rw [ln, hk]
    exact hw⟩⟩
/-- the ways a list is changed, its value read as nothing -/
theorem ty_list {K : Fg} {a : Addr} {xs : List V} (h : H a = some (.lst xs)) : tyV K "list" (.ref a) H := Or.inl ⟨rfl, _, SqL.of h⟩
theorem ss_app (ho : DPl X Γ ρ o i pa) (he : DO X Γ ρ e t') (h : ρ[i]? = some (.ow t)) (hp : OT.at pa t = some (.cell ts)) (hl : ts.length < sizeLine) (hr : SS X Γ (ρ.set i (.ow (OT.put pa t (.cell (ts ++ [t']))))) rest E)
    (hbase : attributeBase o "append" X.env (eval o X.env) = eval o X.env := by rfl)
    (hfew : ((backTo cpos (starEach [e] X.env)).all (fun x => !x.1) && (backToKw cpos (keywordEach [] X.env)).all (fun x => x.1.isSome) && decide (([e] : List Expr).length + ([] : List Keyword).length + (if ([] : List Keyword).isEmpty then 0 else 1) < 30)) = true := by rfl)
    (hline : (apos.endLine == cpos.line) = true := by rfl) (hs : starEach [e] X.env = (false, eval e X.env) :: starEach [] X.env := by rfl) (hplain : (backTo cpos (starEach [] X.env)).any (·.1) = false := by rfl)
    (hsw : swapsWith (.Call (.Attribute o "append" apos) [e] [] cpos) none pos.line X.env = pure false := by rfl) : SS X Γ ρ (.Expr (.Call (.Attribute o "append" apos) [e] [] cpos) pos :: rest) E :=
  ss_cons (M := fun ρ' => ρ' = ρ.set i (.ow (OT.put pa t (.cell (ts ++ [t']))))) ((ps_expr (pe_bm PySem.F.plainAttrs_list PySem.F.slot_list_append PySem.F.type_list_append mt_append ho (pa_cons he pa_nil hs) hbase hfew hline hs hplain) hsw).weak fun D σ H ⟨G, S, k⟩ =>
    ⟨G, S, fun v G1 H1 s1 e1 ⟨v0, h0, hv⟩ => by
      obtain ⟨A, SA⟩ := (S.more s1 e1).ad
      obtain ⟨a, rfl⟩ := (S.more s1 e1).ref h hp h0 hv
      obtain ⟨vs1, B1, q1, _⟩ := SA.mut h hp h0 hv
      refine ⟨ty_list q1, G1, S.more s1 e1, fun w G2 H2 s2 e2 ⟨C, oc, ndC, fC⟩ => ?_⟩
      have SA2 := SA.more s2 e2
      obtain ⟨vs, B, q1, q2, q3, q4, q5, q6, q7, q8⟩ := SA2.mut h hp h0 (hv.mono s2.h)
      have ln := q4.len
      refine ⟨a, vs, w, rfl, rfl, q1, by omega, ?_⟩
      have CA : ∀ b ∈ C, b ∉ A := fun b hb z => by
        obtain ⟨_, u, hu⟩ := SA.mem b z
        rw [fC b hb] at hu; cases hu
      refine k.nx _ _ G2 _ rfl (q8 _ _ _ (q4.app (OwnTs.one oc)) (List.nodup_append.mpr ⟨q5, ndC, fun x hx y hy z => ?_⟩) ?_ ?_ ?_) (s1.g.trans s2.g)
      · subst z
        exact CA x hy (q7 x hx)
      · intro z
        rcases List.mem_append.mp z with z | z
        · exact q6 z
        · exact CA a z q3
      · intro b hb
        rcases List.mem_append.mp hb with z | z
        · exact .inl z
        · exact .inr (CA b z)
      · intro b hb
        rcases List.mem_append.mp hb with z | z
        · exact SA2.fr b (q7 b z)
        · exact (S.step.trans s1).h.none (fC b z)⟩) fun ρ' e => e ▸ hr
/-- the thing that a name holds goes into the list -/
theorem ss_appV (j : Nat) {m : Str} {p2 : Pos} (ho : DPl X Γ ρ o i pa) (h : ρ[i]? = some (.ow t)) (hp : OT.at pa t = some (.cell ts)) (hj : ρ[j]? = some (.ow t')) (hij : i ≠ j) (hl : ts.length < sizeLine) (hr : SS X Γ ((ρ.set j .un).set i (.ow (OT.put pa t (.cell (ts ++ [t']))))) rest E)
    (hN : X.N[j]? = some m := by rfl) (hvis : Vis X.env.scope m := by first | exact Or.inl rfl | exact Or.inr (Or.inl rfl) | exact Or.inr (Or.inr rfl)) (hd : (m == ("__debug__" : Str)) = false := by decide) (hcd : (m == ("__classdict__" : Str)) = false := by decide)
    (hbase : attributeBase o "append" X.env (eval o X.env) = eval o X.env := by rfl)
    (hfew : ((backTo cpos (starEach [.Name m p2] X.env)).all (fun x => !x.1) && (backToKw cpos (keywordEach [] X.env)).all (fun x => x.1.isSome) && decide (([.Name m p2] : List Expr).length + ([] : List Keyword).length + (if ([] : List Keyword).isEmpty then 0 else 1) < 30)) = true := by rfl)
    (hline : (apos.endLine == cpos.line) = true := by rfl) (hs : starEach [.Name m p2] X.env = (false, eval (.Name m p2) X.env) :: starEach [] X.env := by rfl) (hplain : (backTo cpos (starEach [] X.env)).any (·.1) = false := by rfl)
    (hsw : swapsWith (.Call (.Attribute o "append" apos) [.Name m p2] [] cpos) none pos.line X.env = pure false := by rfl) : SS X Γ ρ (.Expr (.Call (.Attribute o "append" apos) [.Name m p2] [] cpos) pos :: rest) E :=
  ss_cons (M := fun ρ' => ρ' = (ρ.set j .un).set i (.ow (OT.put pa t (.cell (ts ++ [t']))))) ((ps_expr (pe_bm PySem.F.plainAttrs_list PySem.F.slot_list_append PySem.F.type_list_append mt_append ho (pa_cons (pe_var hN hvis hd hcd) pa_nil hs) hbase hfew hline hs hplain) hsw).weak fun D σ H ⟨G, S, k⟩ =>
    ⟨G, S, fun v G1 H1 s1 e1 ⟨v0, h0, hv⟩ => by
      obtain ⟨A, SA⟩ := (S.more s1 e1).ad
      obtain ⟨a, rfl⟩ := (S.more s1 e1).ref h hp h0 hv
      obtain ⟨vs1, B1, q1, _⟩ := SA.mut h hp h0 hv
      obtain ⟨w, C, A', hw, oc, ndC, SA', dC, fC, sub⟩ := SA.take hj
      refine ⟨ty_list q1, w, hw, ?_⟩
      have h' : (ρ.set j .un)[i]? = some (.ow t) := by rw [List.getElem?_set_ne (Ne.symm hij)]; exact h
      obtain ⟨vs, B, q1, q2, q3, q4, q5, q6, q7, q8⟩ := SA'.mut h' hp h0 hv
      have ln := q4.len
      refine ⟨a, vs, w, rfl, rfl, q1, by omega, ?_⟩
      refine k.nx _ _ G1 _ rfl (q8 _ _ _ (q4.app (OwnTs.one oc)) (List.nodup_append.mpr ⟨q5, ndC, fun x hx y hy z => ?_⟩) ?_ ?_ ?_) s1.g
      · subst z
        exact (dC x hy).1 (q7 x hx)
      · intro z
        rcases List.mem_append.mp z with z | z
        · exact q6 z
        · exact (dC a z).1 q3
      · intro b hb
        rcases List.mem_append.mp hb with z | z
        · exact .inl z
        · exact .inr (dC b z).1
      · intro b hb
        rcases List.mem_append.mp hb with z | z
        · exact SA'.fr b (q7 b z)
        · exact fC b z⟩) fun ρ' e => e ▸ hr
theorem OwnTs.at {k : Nat} {vs : List V} {A : List Addr} {u : OT} (h : OwnTs G H ts vs A) (e : ts[k]? = some u) : ∃ v A1 B A2, vs[k]? = some v ∧ OwnT G H u v B ∧ A = A1 ++ (B ++ A2) ∧ ∀ (v' : V) (t' : OT) (B' : List Addr), OwnT G H t' v' B' → OwnTs G H (ts.set k t') (vs.set k v') (A1 ++ (B' ++ A2)) := by
  induction k generalizing ts vs A with
  | zero =>
    cases h with
    | nil => cases e
    | @cons _ _ _ _ A0 B0 h r =>
      obtain rfl := Option.some.inj e
      exact ⟨_, [], A0, B0, rfl, h, by simp, fun v' t' B' h' => by simpa using OwnTs.cons h' r⟩
  | succ k ih =>
    cases h with
    | nil => cases e
    | @cons _ _ _ _ A0 B0 h r =>
      obtain ⟨v, A1, B, A2, h1, h2, h3, h4⟩ := ih r (by simpa using e)
      refine ⟨v, A0 ++ A1, B, A2, by simpa using h1, h2, by rw [h3]; simp, fun v' t' B' h' => ?_⟩
      simpa using OwnTs.cons h (h4 v' t' B' h')
/-- o[i] = e -/
theorem ss_st {k : Int} {j : Nat} {u : OT} (ho : DPl X Γ ρ o i pa) (hb : DV X Γ ρ b (.int k)) (he : DO X Γ ρ e t') (h : ρ[i]? = some (.ow t)) (hp : OT.at pa t = some (.cell ts)) (hk : ixN ts.length k = some j) (hj : ts[j]? = some u) (hr : SS X Γ (ρ.set i (.ow (OT.put pa t (.cell (ts.set j t'))))) rest E)
    (ha : ∀ v, assign (.Subscript o b p) X.env v = (do
      let ov ← holding [v] (eval o X.env)
      let iv ← holding [v, ov] (eval b X.env)
      standAt p
      holding [v, ov, iv] (setItem ov iv v)
      release [v, ov, iv] []) := by intro _; rfl)
    (hs : swapsWithSole [.Subscript o b p] e pos.line X.env = pure false := by rfl) (hw : swappedStores [.Subscript o b p] e X.env = pure none := by rfl) (h1 : (assignEach [.Subscript o b p] X.env).map (·.2) = [assign (.Subscript o b p) X.env] := by rfl) :
    SS X Γ ρ (.Assign [.Subscript o b p] e pos :: rest) E :=
  ss_cons (M := fun ρ' => ρ' = ρ.set i (.ow (OT.put pa t (.cell (ts.set j t'))))) ((ps_asg he (pg_sub ho hb set_list ha) hs hw h1).weak fun D σ H ⟨G, S, kk⟩ => ⟨G, S, fun w G1 H1 s1 e1 ⟨C, oc, ndC, fC⟩ => ⟨G1, S.more s1 e1, fun v G2 H2 s2 e2 ⟨v0, h0, hv⟩ => ⟨G2, (S.more s1 e1).more s2 e2, fun iv G3 H3 s3 e3 (q : iv = .int k) => by
    obtain ⟨A, SA⟩ := S.ad
    have SA3 := ((SA.more s1 e1).more s2 e2).more s3 e3
    have hv3 := hv.mono s3.h
    obtain ⟨a, rfl⟩ := SA3.sr.ref h hp h0 hv3
    obtain ⟨vs, B, q1, q2, q3, q4, q5, q6, q7, q8⟩ := SA3.mut h hp h0 hv3
    have ln := q4.len
    obtain ⟨v', A1, B', A2, w1, w2, w3, w4⟩ := q4.at hj
    refine ⟨a, vs, k, j, rfl, q, q1, by rw [ln]; exact hk, ?_⟩
    have CA : ∀ b ∈ C, b ∉ A := fun b hb z => by
      obtain ⟨_, u, hu⟩ := SA.mem b z
      rw [fC b hb] at hu; cases hu
    have q5' := q5
    rw [w3] at q5'
    refine kk.nx _ _ G3 _ rfl (q8 _ _ _ (w4 w t' C ((oc.more s2).more s3)) (nd_swap q5' ndC fun b hb z => CA b hb (q7 b (by rw [w3]; simp only [List.mem_append] at z ⊢; rcases z with z | z; exact .inl z; exact .inr (.inr z)))) ?_ ?_ ?_) ((s1.g.trans s2.g).trans s3.g)
    · intro z
      simp only [List.mem_append] at z
      rcases z with z | z | z
      · exact q6 (by rw [w3]; simp [z])
      · exact CA a z q3
      · exact q6 (by rw [w3]; simp [z])
    · intro b hb
      simp only [List.mem_append] at hb
      rcases hb with z | z | z
      · exact .inl (by rw [w3]; simp [z])
      · exact .inr (CA b z)
      · exact .inl (by rw [w3]; simp [z])
    · intro b hb
      simp only [List.mem_append] at hb
      rcases hb with z | z | z
      · exact SA3.fr b (q7 b (by rw [w3]; simp [z]))
      · exact S.step.h.none (fC b z)
      · exact SA3.fr b (q7 b (by rw [w3]; simp [z]))⟩⟩⟩) fun ρ' e => e ▸ hr

/-! ### the same, by types -/
variable {α : Type} {g : α → OT}
theorem at_nil (t : OT) : OT.at [] t = some t := rfl
theorem ss_app0 (i : Nat) {xs : List α} {x : α} (ho : DPl X Γ ρ o i []) (he : DO X Γ ρ e (g x)) (h : ρ[i]? = some (.ow (tl g xs))) (hl : xs.length < 16000000) (hr : SS X Γ (ρ.set i (.ow (tl g (xs ++ [x])))) rest E)
    (hbase : attributeBase o "append" X.env (eval o X.env) = eval o X.env := by rfl)
    (hfew : ((backTo cpos (starEach [e] X.env)).all (fun x => !x.1) && (backToKw cpos (keywordEach [] X.env)).all (fun x => x.1.isSome) && decide (([e] : List Expr).length + ([] : List Keyword).length + (if ([] : List Keyword).isEmpty then 0 else 1) < 30)) = true := by rfl)
    (hline : (apos.endLine == cpos.line) = true := by rfl) (hs : starEach [e] X.env = (false, eval e X.env) :: starEach [] X.env := by rfl) (hplain : (backTo cpos (starEach [] X.env)).any (·.1) = false := by rfl)
    (hsw : swapsWith (.Call (.Attribute o "append" apos) [e] [] cpos) none pos.line X.env = pure false := by rfl) : SS X Γ ρ (.Expr (.Call (.Attribute o "append" apos) [e] [] cpos) pos :: rest) E :=
  ss_app ho he h (at_nil _) (by rw [List.length_map]; exact Nat.lt_of_lt_of_le hl (by decide)) (by
    have e1 : OT.put [] (tl g xs) (.cell (xs.map g ++ [g x])) = tl g (xs ++ [x]) := by unfold tl OT.put; rw [List.map_append]; rfl
    rw [e1]; exact hr) hbase hfew hline hs hplain hsw
theorem ss_app0V (i j : Nat) {m : Str} {p2 : Pos} {xs : List α} {x : α} (ho : DPl X Γ ρ o i []) (h : ρ[i]? = some (.ow (tl g xs))) (hj : ρ[j]? = some (.ow (g x))) (hij : i ≠ j) (hl : xs.length < 16000000) (hr : SS X Γ ((ρ.set j .un).set i (.ow (tl g (xs ++ [x])))) rest E)
    (hN : X.N[j]? = some m := by rfl) (hvis : Vis X.env.scope m := by first | exact Or.inl rfl | exact Or.inr (Or.inl rfl) | exact Or.inr (Or.inr rfl)) (hd : (m == ("__debug__" : Str)) = false := by decide) (hcd : (m == ("__classdict__" : Str)) = false := by decide)
    (hbase : attributeBase o "append" X.env (eval o X.env) = eval o X.env := by rfl)
    (hfew : ((backTo cpos (starEach [.Name m p2] X.env)).all (fun x => !x.1) && (backToKw cpos (keywordEach [] X.env)).all (fun x => x.1.isSome) && decide (([.Name m p2] : List Expr).length + ([] : List Keyword).length + (if ([] : List Keyword).isEmpty then 0 else 1) < 30)) = true := by rfl)
    (hline : (apos.endLine == cpos.line) = true := by rfl) (hs : starEach [.Name m p2] X.env = (false, eval (.Name m p2) X.env) :: starEach [] X.env := by rfl) (hplain : (backTo cpos (starEach [] X.env)).any (·.1) = false := by rfl)
    (hsw : swapsWith (.Call (.Attribute o "append" apos) [.Name m p2] [] cpos) none pos.line X.env = pure false := by rfl) : SS X Γ ρ (.Expr (.Call (.Attribute o "append" apos) [.Name m p2] [] cpos) pos :: rest) E :=
  ss_appV j ho h (at_nil _) hj hij (by rw [List.length_map]; exact Nat.lt_of_lt_of_le hl (by decide)) (by
    have e1 : OT.put [] (tl g xs) (.cell (xs.map g ++ [g x])) = tl g (xs ++ [x]) := by unfold tl OT.put; rw [List.map_append]; rfl
    rw [e1]; exact hr) hN hvis hd hcd hbase hfew hline hs hplain hsw
/-- a list's place changed -/
def pyIx (n : Nat) (k : Int) : Nat := if 0 ≤ k then k.toNat else (k + n).toNat
theorem ixN_pyIx {n : Nat} {k : Int} (h : inR n k) : ixN n k = some (pyIx n k) ∧ pyIx n k < n := by
  obtain ⟨h1, h2⟩ := h
  unfold ixN pyIx
  by_cases h0 : 0 ≤ k
  · rw [if_pos h0, if_pos h2, if_pos h0]
    exact ⟨rfl, by omega⟩
  · rw [if_neg h0, if_pos h1, if_neg h0]
    exact ⟨rfl, by omega⟩
theorem pyAt_ix [Inhabited α] (xs : List α) (k : Int) : pyAt xs k = xs.getD (pyIx xs.length k) default := by
  unfold pyAt pyIx
  split <;> rfl
def pySet (xs : List α) (k : Int) (x : α) : List α := xs.set (pyIx xs.length k) x
theorem ss_st0 (i : Nat) {xs : List α} {x : α} {k : Int} (ho : DPl X Γ ρ o i []) (hb : DV X Γ ρ b (.int k)) (he : DO X Γ ρ e (g x)) (h : ρ[i]? = some (.ow (tl g xs))) (hk : inR xs.length k) (hr : SS X Γ (ρ.set i (.ow (tl g (pySet xs k x)))) rest E)
    (ha : ∀ v, assign (.Subscript o b p) X.env v = (do
      let ov ← holding [v] (eval o X.env)
      let iv ← holding [v, ov] (eval b X.env)
      standAt p
      holding [v, ov, iv] (setItem ov iv v)
      release [v, ov, iv] []) := by intro _; rfl)
    (hs : swapsWithSole [.Subscript o b p] e pos.line X.env = pure false := by rfl) (hw : swappedStores [.Subscript o b p] e X.env = pure none := by rfl) (h1 : (assignEach [.Subscript o b p] X.env).map (·.2) = [assign (.Subscript o b p) X.env] := by rfl) :
    SS X Γ ρ (.Assign [.Subscript o b p] e pos :: rest) E := by
  obtain ⟨q1, q2⟩ := ixN_pyIx hk
  have e1 : (xs.map g)[pyIx xs.length k]? = some (g (xs[pyIx xs.length k]'q2)) := by simp [q2]
  exact ss_st ho hb he h (at_nil _) (by rw [List.length_map]; exact q1) e1 (by
    have e1 : OT.put [] (tl g xs) (.cell ((xs.map g).set (pyIx xs.length k) (g x))) = tl g (pySet xs k x) := by
      unfold tl OT.put pySet
      rw [List.map_set]
    rw [e1]; exact hr) ha hs hw h1
/-- .. of a list within a list -/
theorem at_one {xss : List (List α)} {j : Nat} (h : j < xss.length) : OT.at [j] (tl (tl g) xss) = some (.cell ((xss.getD j []).map g)) := by
  unfold tl OT.at
  rw [List.getElem?_map, List.getElem?_eq_getElem h]
  simp [OT.at, tl, List.getD_eq_getElem?_getD, h]
theorem put_one {xss : List (List α)} {j : Nat} {ys : List α} (h : j < xss.length) : OT.put [j] (tl (tl g) xss) (.cell (ys.map g)) = tl (tl g) (xss.set j ys) := by
  unfold tl OT.put
  rw [List.getElem?_map, List.getElem?_eq_getElem h]
  simp [OT.put, List.map_set]
theorem ss_app1 (i : Nat) {xss : List (List α)} {x : α} {j : Nat} (ho : DPl X Γ ρ o i [j]) (he : DO X Γ ρ e (g x)) (h : ρ[i]? = some (.ow (tl (tl g) xss))) (hj : j < xss.length) (hl : (xss.getD j []).length < 16000000) (hr : SS X Γ (ρ.set i (.ow (tl (tl g) (xss.set j (xss.getD j [] ++ [x]))))) rest E)
    (hbase : attributeBase o "append" X.env (eval o X.env) = eval o X.env := by rfl)
    (hfew : ((backTo cpos (starEach [e] X.env)).all (fun x => !x.1) && (backToKw cpos (keywordEach [] X.env)).all (fun x => x.1.isSome) && decide (([e] : List Expr).length + ([] : List Keyword).length + (if ([] : List Keyword).isEmpty then 0 else 1) < 30)) = true := by rfl)
    (hline : (apos.endLine == cpos.line) = true := by rfl) (hs : starEach [e] X.env = (false, eval e X.env) :: starEach [] X.env := by rfl) (hplain : (backTo cpos (starEach [] X.env)).any (·.1) = false := by rfl)
    (hsw : swapsWith (.Call (.Attribute o "append" apos) [e] [] cpos) none pos.line X.env = pure false := by rfl) : SS X Γ ρ (.Expr (.Call (.Attribute o "append" apos) [e] [] cpos) pos :: rest) E :=
  ss_app ho he h (at_one hj) (by rw [List.length_map]; exact Nat.lt_of_lt_of_le hl (by decide)) (by
    have e1 : (xss.getD j []).map g ++ [g x] = (xss.getD j [] ++ [x]).map g := by rw [List.map_append]; rfl
    rw [e1, put_one hj]; exact hr) hbase hfew hline hs hplain hsw
theorem ss_st1 (i : Nat) {xss : List (List α)} {x : α} {k : Int} {j : Nat} (ho : DPl X Γ ρ o i [j]) (hb : DV X Γ ρ b (.int k)) (he : DO X Γ ρ e (g x)) (h : ρ[i]? = some (.ow (tl (tl g) xss))) (hj : j < xss.length) (hk : inR (xss.getD j []).length k) (hr : SS X Γ (ρ.set i (.ow (tl (tl g) (xss.set j (pySet (xss.getD j []) k x))))) rest E)
    (ha : ∀ v, assign (.Subscript o b p) X.env v = (do
      let ov ← holding [v] (eval o X.env)
      let iv ← holding [v, ov] (eval b X.env)
      standAt p
      holding [v, ov, iv] (setItem ov iv v)
      release [v, ov, iv] []) := by intro _; rfl)
    (hs : swapsWithSole [.Subscript o b p] e pos.line X.env = pure false := by rfl) (hw : swappedStores [.Subscript o b p] e X.env = pure none := by rfl) (h1 : (assignEach [.Subscript o b p] X.env).map (·.2) = [assign (.Subscript o b p) X.env] := by rfl) :
    SS X Γ ρ (.Assign [.Subscript o b p] e pos :: rest) E := by
  obtain ⟨q1, q2⟩ := ixN_pyIx hk
  have e1 : ((xss.getD j []).map g)[pyIx (xss.getD j []).length k]? = some (g ((xss.getD j [])[pyIx (xss.getD j []).length k]'q2)) := by rw [List.getElem?_map, List.getElem?_eq_getElem q2] <;> rfl
  exact ss_st ho hb he h (at_one hj) (by rw [List.length_map]; exact q1) e1 (by
    have e1 : ((xss.getD j []).map g).set (pyIx (xss.getD j []).length k) (g x) = (pySet (xss.getD j []) k x).map g := by
      unfold pySet
      rw [List.map_set]
    rw [e1, put_one hj]; exact hr) ha hs hw h1
theorem dpl_ix1 (i : Nat) {xss : List (List α)} {k : Int} (ho : DPl X Γ ρ o i []) (hb : DV X Γ ρ b (.int k)) (h : ρ[i]? = some (.ow (tl (tl g) xss))) (hk : inR xss.length k) (hs : PlainIx b := by intro _ _; rfl) : DPl X Γ ρ (.Subscript o b pos) i [pyIx xss.length k] := by
  obtain ⟨q1, q2⟩ := ixN_pyIx hk
  exact dpl_ix (ts := xss.map (tl g)) ho hb h (at_nil _) (by rw [List.length_map]; exact q1) (by rw [List.length_map]; exact q2) hs
end
end DL

set_option Elab.async false
set_option linter.all false
set_option maxRecDepth 100000
set_option maxHeartbeats 2000000
namespace DL
open PySem L2

/-- the ints in order -/
def sortI (ns : List Int) : List Int := ns.mergeSort (fun a b => decide (a ≤ b))
theorem sortI_perm (ns : List Int) : (sortI ns).Perm ns := List.mergeSort_perm _ _
theorem sortI_sorted (ns : List Int) : (sortI ns).Pairwise (· ≤ ·) := by
  have := List.pairwise_mergeSort (le := fun a b : Int => decide (a ≤ b)) (fun a b c h1 h2 => by simp at *; omega) (fun a b => by simp; omega) ns
  exact this.imp fun h => by simpa using h
theorem sorted_uniq : ∀ {xs ys : List Int}, xs.Perm ys → xs.Pairwise (· ≤ ·) → ys.Pairwise (· ≤ ·) → xs = ys
  | [], ys, p, _, _ => by simpa using p.symm.eq_nil.symm
  | x :: xs, [], p, _, _ => by simpa using p.eq_nil
  | x :: xs, y :: ys, p, hx, hy => by
    rw [List.pairwise_cons] at hx hy
    have e : x = y := by
      have h1 : x ∈ y :: ys := p.subset List.mem_cons_self
      have h2 : y ∈ x :: xs := p.symm.subset List.mem_cons_self
      rcases List.mem_cons.mp h1 with z | z
      · exact z
      · rcases List.mem_cons.mp h2 with w | w
        · exact w.symm
        · have := hx.1 y w
          have := hy.1 x z
          omega
    subst e
    rw [sorted_uniq (List.Perm.cons_inv p) hx.2 hy.2]
theorem sortI_uniq {ns ms : List Int} (p : ms.Perm ns) (h : ms.Pairwise (· ≤ ·)) : ms = sortI ns := sorted_uniq (p.trans (sortI_perm ns).symm) h (sortI_sorted ns)
/-- the greatest, the least -/
def maxI : List Int → Int
  | [] => 0
  | x :: xs => xs.foldl max x
def minI : List Int → Int
  | [] => 0
  | x :: xs => xs.foldl min x
theorem foldl_max : ∀ (xs : List Int) (x : Int), xs.foldl max x ∈ x :: xs ∧ ∀ y ∈ x :: xs, y ≤ xs.foldl max x
  | [], x => by simp
  | z :: xs, x => by
    obtain ⟨h1, h2⟩ := foldl_max xs (max x z)
    rw [List.foldl_cons]
    refine ⟨?_, fun y hy => ?_⟩
    · rcases List.mem_cons.mp h1 with e | e
      · rw [e]
        by_cases q : x ≤ z
        · rw [Int.max_eq_right q]; simp
        · rw [Int.max_eq_left (by omega)]; simp
      · simp [e]
    · have h3 := h2 (max x z) List.mem_cons_self
      rcases List.mem_cons.mp hy with e | hy
      · subst e; have := Int.le_max_left y z; omega
      · rcases List.mem_cons.mp hy with e | hy
        · subst e; have := Int.le_max_right x y; omega
        · exact h2 y (List.mem_cons_of_mem _ hy)
theorem foldl_min : ∀ (xs : List Int) (x : Int), xs.foldl min x ∈ x :: xs ∧ ∀ y ∈ x :: xs, xs.foldl min x ≤ y
  | [], x => by simp
  | z :: xs, x => by
    obtain ⟨h1, h2⟩ := foldl_min xs (min x z)
    rw [List.foldl_cons]
    refine ⟨?_, fun y hy => ?_⟩
    · rcases List.mem_cons.mp h1 with e | e
      · rw [e]
        by_cases q : x ≤ z
        · rw [Int.min_eq_left q]; simp
        · rw [Int.min_eq_right (by omega)]; simp
      · simp [e]
    · have h3 := h2 (min x z) List.mem_cons_self
      rcases List.mem_cons.mp hy with e | hy
      · subst e; have := Int.min_le_left y z; omega
      · rcases List.mem_cons.mp hy with e | hy
        · subst e; have := Int.min_le_right x y; omega
        · exact h2 y (List.mem_cons_of_mem _ hy)
theorem maxI_mem {ns : List Int} (h : 0 < ns.length) : maxI ns ∈ ns := by
  cases ns with
  | nil => simp at h
  | cons x xs => exact (foldl_max xs x).1
theorem maxI_ge {ns : List Int} {y : Int} (h : y ∈ ns) : y ≤ maxI ns := by
  cases ns with
  | nil => simp at h
  | cons x xs => exact (foldl_max xs x).2 y h
theorem minI_mem {ns : List Int} (h : 0 < ns.length) : minI ns ∈ ns := by
  cases ns with
  | nil => simp at h
  | cons x xs => exact (foldl_min xs x).1
theorem minI_le {ns : List Int} {y : Int} (h : y ∈ ns) : minI ns ≤ y := by
  cases ns with
  | nil => simp at h
  | cons x xs => exact (foldl_min xs x).2 y h

section
variable {X : Cx} {Γ : Gm} {ρ ρ' : List Sl} {e a b c o : Expr} {es : List Expr} {pos p p' apos cpos : Pos} {κ κ' : Kd} {d d' : D} {x y z : V} {t t' : OT} {σ : L2.St} {G H G1 H1 G2 H2 : Hp} {n : Str} {i j : Int} {α : Type} {f : α → D} {g : α → OT}
theorem cb1 {r : List V → Hp → VK → Prop} {PA P : Hp → Hp → Hp → V → Prop} (h : PE X e (tCB r (tCons (tX Γ ρ PA) tNil)))
    (w : ∀ (σ : L2.St) (G H G1 H1 : Hp) (v : V) (Q : VK), Sr Γ G H σ ρ → Step G H G1 H1 → Ex G1 H1 → PA H G1 H1 v → (∀ w G2 H2, Step G1 H1 G2 H2 → Ex G2 H2 → P H G2 H2 w → Q w H2) → r [v] H1 Q) : PE X e (tX Γ ρ P) :=
  h.weak fun σ H Q ⟨G, S, k⟩ => ⟨G, S, fun v G1 H1 s1 e1 p1 => w σ G H G1 H1 v Q S s1 e1 p1 fun u G2 H2 s2 e2 p2 => k u G2 H2 (s1.trans s2) e2 p2⟩
theorem cb2 {r : List V → Hp → VK → Prop} {PA PB P : Hp → Hp → Hp → V → Prop} (h : PE X e (tCB r (tCons (tX Γ ρ PA) (tCons (tX Γ ρ PB) tNil))))
    (w : ∀ (σ : L2.St) (G H G1 H1 G2 H2 : Hp) (v u : V) (Q : VK), Sr Γ G H σ ρ → Step G H G1 H1 → Ex G1 H1 → PA H G1 H1 v → Step G1 H1 G2 H2 → Ex G2 H2 → PB H1 G2 H2 u → (∀ w G3 H3, Step G2 H2 G3 H3 → Ex G3 H3 → P H G3 H3 w → Q w H3) → r [v, u] H2 Q) : PE X e (tX Γ ρ P) :=
  h.weak fun σ H Q ⟨G, S, k⟩ => ⟨G, S, fun v G1 H1 s1 e1 p1 => ⟨G1, S.more s1 e1, fun u G2 H2 s2 e2 p2 => w σ G H G1 H1 G2 H2 v u Q S s1 e1 p1 s2 e2 p2 fun z G3 H3 s3 e3 p3 => k z G3 H3 ((s1.trans s2).trans s3) e3 p3⟩⟩
theorem Rep.l {ds : List D} {v : V} (r : Rep H v (.list ds)) : ∃ a xs, v = .ref a ∧ H a = some (.lst xs) ∧ Reps H xs ds := by
  cases r with
  | lst h r => exact ⟨_, _, rfl, h, r⟩
/-- len -/
theorem dv_lenD {ds : List D} (ha : DE X Γ ρ a κ (.list ds)) (hm : X.mg "len" = none) (hg : Gl X "len" := by rfl) (he : starEach [a] X.env = (false, eval a X.env) :: starEach [] X.env := by rfl) (hpl : (backTo pos (starEach [] X.env)).any (·.1) = false := by rfl) : DV X Γ ρ (.Call (.Name "len" p) [a] [] pos) (.int (ds.length : Int)) :=
  cb1 (pe_callB call_len_seq hg hm boot_len (pa_cons ha pa_nil he) (by decide) (by decide) he hpl) fun σ G H G1 H1 v Q S s1 e1 q k => by
    obtain ⟨a, xs, rfl, h, r⟩ := (pK_c S s1 e1 q).l
    exact ⟨a, xs, rfl, .inl (SqL.of h), by rw [r.len]; exact k _ G1 H1 (Step.refl _ _) e1 rfl⟩
theorem dv_len {xs : List α} (ha : DE X Γ ρ a κ (dl f xs)) (hm : X.mg "len" = none) (hg : Gl X "len" := by rfl) (he : starEach [a] X.env = (false, eval a X.env) :: starEach [] X.env := by rfl) (hpl : (backTo pos (starEach [] X.env)).any (·.1) = false := by rfl) : DV X Γ ρ (.Call (.Name "len" p) [a] [] pos) (.int (xs.length : Int)) := by
  have := dv_lenD (ds := xs.map f) (pos := pos) (p := p) ha hm hg he hpl
  rwa [List.length_map] at this
theorem dv_lenS {ns : List Int} (hK : Γ.K = X.K) (ha : DS_ X Γ ρ a ns) (hm : X.mg "len" = none) (hg : Gl X "len" := by rfl) (he : starEach [a] X.env = (false, eval a X.env) :: starEach [] X.env := by rfl) (hpl : (backTo pos (starEach [] X.env)).any (·.1) = false := by rfl) : DV X Γ ρ (.Call (.Name "len" p) [a] [] pos) (.int (ns.length : Int)) :=
  cb1 (pe_callB call_len_seq hg hm boot_len (pa_cons ha pa_nil he) (by decide) (by decide) he hpl) fun σ G H G1 H1 v Q S s1 e1 ⟨a, ev, q⟩ k => by
    rw [hK] at q
    exact ⟨a, _, by rw [ev], .inl q, by rw [List.length_map]; exact k _ G1 H1 (Step.refl _ _) e1 rfl⟩
theorem dv_lenT {u : Str} (ha : DV X Γ ρ a (.str u)) (hu : u.length ≤ sizeLine) (hm : X.mg "len" = none) (hg : Gl X "len" := by rfl) (he : starEach [a] X.env = (false, eval a X.env) :: starEach [] X.env := by rfl) (hpl : (backTo pos (starEach [] X.env)).any (·.1) = false := by rfl) : DV X Γ ρ (.Call (.Name "len" p) [a] [] pos) (.int (u.length : Int)) :=
  cb1 (pe_callB call_len_str hg hm boot_len (pa_cons ha pa_nil he) (by decide) (by decide) he hpl) fun σ G H G1 H1 v Q S s1 e1 q k => ⟨u, by rw [q], hu, k _ G1 H1 (Step.refl _ _) e1 rfl⟩
/-- sum, max, min of ints; all, any of truth values -/
theorem dv_sum {ns : List Int} (xo : XO X) (ha : DE X Γ ρ a κ (dl dI ns)) (hm : X.mg "sum" = none) (hg : Gl X "sum" := by rfl) (he : starEach [a] X.env = (false, eval a X.env) :: starEach [] X.env := by rfl) (hpl : (backTo pos (starEach [] X.env)).any (·.1) = false := by rfl) : DV X Γ ρ (.Call (.Name "sum" p) [a] [] pos) (.int ns.sum) :=
  cb1 (pe_callB (cr_sum xo.calm) hg hm (by decide +kernel) (pa_cons ha pa_nil he) (by decide) (by decide) he hpl) fun σ G H G1 H1 v Q S s1 e1 q k => by
    obtain ⟨a, xs, rfl, h, r⟩ := Rep.l (pK_c S s1 e1 q)
    exact ⟨a, ns, rfl, by rw [← r.ints]; exact SqL.of h, k _ G1 H1 (Step.refl _ _) e1 rfl⟩
theorem dv_max {ns : List Int} (xo : XO X) (ha : DE X Γ ρ a κ (dl dI ns)) (h0 : 0 < ns.length) (hm : X.mg "max" = none) (hg : Gl X "max" := by rfl) (he : starEach [a] X.env = (false, eval a X.env) :: starEach [] X.env := by rfl) (hpl : (backTo pos (starEach [] X.env)).any (·.1) = false := by rfl) : DV X Γ ρ (.Call (.Name "max" p) [a] [] pos) (.int (maxI ns)) :=
  cb1 (pe_callB (cr_max xo.calm) hg hm (by decide +kernel) (pa_cons ha pa_nil he) (by decide) (by decide) he hpl) fun σ G H G1 H1 v Q S s1 e1 q k => by
    obtain ⟨a, xs, rfl, h, r⟩ := Rep.l (pK_c S s1 e1 q)
    refine ⟨a, ns, rfl, by rw [← r.ints]; exact SqL.of h, h0, fun m hm1 hm2 => ?_⟩
    have e : m = maxI ns := by
      have h1 := maxI_ge hm1
      have h2 := hm2 _ (maxI_mem h0)
      omega
    rw [e]
    exact k _ G1 H1 (Step.refl _ _) e1 rfl
theorem dv_min {ns : List Int} (xo : XO X) (ha : DE X Γ ρ a κ (dl dI ns)) (h0 : 0 < ns.length) (hm : X.mg "min" = none) (hg : Gl X "min" := by rfl) (he : starEach [a] X.env = (false, eval a X.env) :: starEach [] X.env := by rfl) (hpl : (backTo pos (starEach [] X.env)).any (·.1) = false := by rfl) : DV X Γ ρ (.Call (.Name "min" p) [a] [] pos) (.int (minI ns)) :=
  cb1 (pe_callB (cr_min xo.calm) hg hm (by decide +kernel) (pa_cons ha pa_nil he) (by decide) (by decide) he hpl) fun σ G H G1 H1 v Q S s1 e1 q k => by
    obtain ⟨a, xs, rfl, h, r⟩ := Rep.l (pK_c S s1 e1 q)
    refine ⟨a, ns, rfl, by rw [← r.ints]; exact SqL.of h, h0, fun m hm1 hm2 => ?_⟩
    have e : m = minI ns := by
      have h1 := minI_le hm1
      have h2 := hm2 _ (minI_mem h0)
      omega
    rw [e]
    exact k _ G1 H1 (Step.refl _ _) e1 rfl
theorem dv_max2 (xo : XO X) (ha : DV X Γ ρ a (.int i)) (hb : DV X Γ ρ b (.int j)) (hm : X.mg "max" = none) (hg : Gl X "max" := by rfl) (he : starEach [a, b] X.env = (false, eval a X.env) :: starEach [b] X.env := by rfl) (he2 : starEach [b] X.env = (false, eval b X.env) :: starEach [] X.env := by rfl) (hpl : (backTo pos (starEach [b] X.env)).any (·.1) = false := by rfl) : DV X Γ ρ (.Call (.Name "max" p) [a, b] [] pos) (.int (max i j)) :=
  cb2 (pe_callB (call_max2 xo.calm) hg hm (by decide +kernel) (pa_cons ha (pa_cons hb pa_nil he2) he) (by decide) (by decide) he hpl) fun σ G H G1 H1 G2 H2 v u Q S s1 e1 q1 s2 e2 q2 k => ⟨i, j, by rw [q1, q2], by
    have : (if j > i then j else i) = max i j := by
      split
      · rw [Int.max_eq_right (by omega)]
      · rw [Int.max_eq_left (by omega)]
    rw [this]
    exact k _ G2 H2 (Step.refl _ _) e2 rfl⟩
theorem dv_min2 (xo : XO X) (ha : DV X Γ ρ a (.int i)) (hb : DV X Γ ρ b (.int j)) (hm : X.mg "min" = none) (hg : Gl X "min" := by rfl) (he : starEach [a, b] X.env = (false, eval a X.env) :: starEach [b] X.env := by rfl) (he2 : starEach [b] X.env = (false, eval b X.env) :: starEach [] X.env := by rfl) (hpl : (backTo pos (starEach [b] X.env)).any (·.1) = false := by rfl) : DV X Γ ρ (.Call (.Name "min" p) [a, b] [] pos) (.int (min i j)) :=
  cb2 (pe_callB (call_min2 xo.calm) hg hm (by decide +kernel) (pa_cons ha (pa_cons hb pa_nil he2) he) (by decide) (by decide) he hpl) fun σ G H G1 H1 G2 H2 v u Q S s1 e1 q1 s2 e2 q2 k => ⟨i, j, by rw [q1, q2], by
    have : (if j < i then j else i) = min i j := by
      split
      · rw [Int.min_eq_right (by omega)]
      · rw [Int.min_eq_left (by omega)]
    rw [this]
    exact k _ G2 H2 (Step.refl _ _) e2 rfl⟩
theorem dv_all {bs : List Bool} (xo : XO X) (ha : DE X Γ ρ a κ (dl .bool bs)) (hm : X.mg "all" = none) (hg : Gl X "all" := by rfl) (he : starEach [a] X.env = (false, eval a X.env) :: starEach [] X.env := by rfl) (hpl : (backTo pos (starEach [] X.env)).any (·.1) = false := by rfl) : DV X Γ ρ (.Call (.Name "all" p) [a] [] pos) (.bl (bs.all id)) :=
  cb1 (pe_callB (cr_all xo.calm) hg hm (by decide +kernel) (pa_cons ha pa_nil he) (by decide) (by decide) he hpl) fun σ G H G1 H1 v Q S s1 e1 q k => by
    obtain ⟨a, xs, rfl, h, r⟩ := Rep.l (pK_c S s1 e1 q)
    exact ⟨a, bs, rfl, by rw [← r.bools]; exact SqL.of h, k _ G1 H1 (Step.refl _ _) e1 rfl⟩
theorem dv_any {bs : List Bool} (xo : XO X) (ha : DE X Γ ρ a κ (dl .bool bs)) (hm : X.mg "any" = none) (hg : Gl X "any" := by rfl) (he : starEach [a] X.env = (false, eval a X.env) :: starEach [] X.env := by rfl) (hpl : (backTo pos (starEach [] X.env)).any (·.1) = false := by rfl) : DV X Γ ρ (.Call (.Name "any" p) [a] [] pos) (.bl (bs.any id)) :=
  cb1 (pe_callB (cr_any xo.calm) hg hm (by decide +kernel) (pa_cons ha pa_nil he) (by decide) (by decide) he hpl) fun σ G H G1 H1 v Q S s1 e1 q k => by
    obtain ⟨a, xs, rfl, h, r⟩ := Rep.l (pK_c S s1 e1 q)
    exact ⟨a, bs, rfl, by rw [← r.bools]; exact SqL.of h, k _ G1 H1 (Step.refl _ _) e1 rfl⟩
/-- int(a truth value), int(an int), str(an int) -/
theorem dv_intB {q : Bool} (ha : DV X Γ ρ a (.bl q)) (hm : X.mg "int" = none) (hg : Gl X "int" := by rfl) (he : starEach [a] X.env = (false, eval a X.env) :: starEach [] X.env := by rfl) (hpl : (backTo pos (starEach [] X.env)).any (·.1) = false := by rfl) : DV X Γ ρ (.Call (.Name "int" p) [a] [] pos) (.int (if q then 1 else 0)) :=
  cb1 (pe_callTy call_int1 hg hm PyProof.Rows.boot_int (pa_cons ha pa_nil he) (by decide) (by decide) he hpl) fun σ G H G1 H1 v Q S s1 e1 qv k => .inr ⟨q, by rw [qv], k _ G1 H1 (Step.refl _ _) e1 rfl⟩
theorem dv_str1 (ha : DV X Γ ρ a (.int i)) (hi : i.natAbs.log2 < 1920) (hm : X.mg "str" = none) (hg : Gl X "str" := by rfl) (he : starEach [a] X.env = (false, eval a X.env) :: starEach [] X.env := by rfl) (hpl : (backTo pos (starEach [] X.env)).any (·.1) = false := by rfl) : DV X Γ ρ (.Call (.Name "str" p) [a] [] pos) (.str (toString i)) :=
  cb1 (pe_callTy call_str_int hg hm PyProof.Rows.boot_str (pa_cons ha pa_nil he) (by decide) (by decide) he hpl) fun σ G H G1 H1 v Q S s1 e1 qv k => ⟨i, by rw [qv], hi, k _ G1 H1 (Step.refl _ _) e1 rfl⟩
/-- sorted of ints: a new list -/
theorem OwnTs.ints {ns : List Int} : OwnTs G H (ns.map tI) (ns.map V.int) [] := by
  induction ns with
  | nil => exact .nil
  | cons n ns ih => exact .cons (A := []) (B := []) (.fz (.int n)) ih
theorem OwnT.intsNew {ns : List Int} {q : Addr} (h : G q = none) (h2 : H q = some (.lst (ns.map V.int))) : OwnT G H (tl tI ns) (.ref q) [q] := .cell h h2 OwnTs.ints
theorem Step.laid {q : Addr} {o : HO} (h : H q = none) : Step G H G (upd H q o) := ⟨Ex.refl _, Ex.new h, fun _ _ e _ => e⟩
theorem do_new {ns : List Int} {q : Addr} {Q : VK} (ex : Ex G H) (hq : H q = none) (H0 : Hp) (e0 : Ex H0 H) (k : ∀ w G2 H2, Step G H G2 H2 → Ex G2 H2 → pO (tl tI ns) H0 G2 H2 w → Q w H2) : Q (.ref q) (upd H q (.lst (ns.map V.int))) :=
  k (.ref q) G _ (Step.laid hq) (ex.trans (Ex.new hq)) ⟨[q], .intsNew (ex.none hq) upd_same, by simp, fun a ha => by
    rw [List.mem_singleton.mp ha]
    exact e0.none hq⟩
theorem do_sorted {ns : List Int} (ha : DE X Γ ρ a κ (dl dI ns)) (hm : X.mg "sorted" = none) (hg : Gl X "sorted" := by rfl) (he : starEach [a] X.env = (false, eval a X.env) :: starEach [] X.env := by rfl) (hpl : (backTo pos (starEach [] X.env)).any (·.1) = false := by rfl) : DO X Γ ρ (.Call (.Name "sorted" p) [a] [] pos) (tl tI (sortI ns)) :=
  cb1 (pe_callB cr_sortedI hg hm PyProof.Rows.boot_sorted (pa_cons ha pa_nil he) (by decide) (by decide) he hpl) fun σ G H G1 H1 v Q S s1 e1 q k => by
    obtain ⟨a, xs, rfl, h, r⟩ := Rep.l (pK_c S s1 e1 q)
    refine ⟨a, ns, rfl, by rw [← r.ints]; exact SqL.of h, fun ns' q pr so hq => ?_⟩
    rw [sortI_uniq pr so]
    exact do_new e1 hq H s1.h k
/-- a new list of what an elder one holds -/
theorem OwnTs.fzs : ∀ {xs : List V} {ds : List D}, Reps G xs ds → OwnTs G H (ds.map OT.fz) xs []
  | _, _, .nil => .nil
  | _, _, .cons h r => .cons (A := []) (B := []) (.fz h) (OwnTs.fzs r)
theorem newF {xs : List V} {ds : List D} {q : Addr} {Q : VK} (ex : Ex G H) (hq : H q = none) (H0 : Hp) (e0 : Ex H0 H) (r : Reps G xs ds) (k : ∀ w G2 H2, Step G H G2 H2 → Ex G2 H2 → pO (.cell (ds.map OT.fz)) H0 G2 H2 w → Q w H2) : Q (.ref q) (upd H q (.lst xs)) :=
  k (.ref q) G _ (Step.laid hq) (ex.trans (Ex.new hq)) ⟨[q], .cell (ex.none hq) upd_same (OwnTs.fzs r), by simp, fun a ha => by
    rw [List.mem_singleton.mp ha]
    exact e0.none hq⟩
theorem tF_map {xs : List α} : OT.cell ((xs.map f).map OT.fz) = tl (tF f) xs := by
  unfold tl
  rw [List.map_map]
  rfl
theorem do_list {xs : List α} (ha : DE X Γ ρ a .z (dl f xs)) (hm : X.mg "list" = none) (hg : Gl X "list" := by rfl) (he : starEach [a] X.env = (false, eval a X.env) :: starEach [] X.env := by rfl) (hpl : (backTo pos (starEach [] X.env)).any (·.1) = false := by rfl) : DO X Γ ρ (.Call (.Name "list" p) [a] [] pos) (tl (tF f) xs) :=
  cb1 (pe_callTy call_list_of hg hm PyProof.Rows.boot_list (pa_cons ha pa_nil he) (by decide) (by decide) he hpl) fun σ G H G1 H1 v Q S s1 e1 q k => by
    obtain ⟨a, vs, rfl, h, r⟩ := Rep.l q
    refine ⟨a, vs, rfl, .inl (SqL.of (e1 _ _ h)), fun q hq => ?_⟩
    exact newF e1 hq H s1.h r (by rw [tF_map]; exact k)
theorem do_listI {ns : List Int} (ha : DE X Γ ρ a κ (dl dI ns)) (hm : X.mg "list" = none) (hg : Gl X "list" := by rfl) (he : starEach [a] X.env = (false, eval a X.env) :: starEach [] X.env := by rfl) (hpl : (backTo pos (starEach [] X.env)).any (·.1) = false := by rfl) : DO X Γ ρ (.Call (.Name "list" p) [a] [] pos) (tl tI ns) :=
  cb1 (pe_callTy call_list_of hg hm PyProof.Rows.boot_list (pa_cons ha pa_nil he) (by decide) (by decide) he hpl) fun σ G H G1 H1 v Q S s1 e1 q k => by
    obtain ⟨a, vs, rfl, h, r⟩ := Rep.l (pK_c S s1 e1 q)
    have ev : vs = ns.map V.int := r.ints
    subst ev
    exact ⟨a, _, rfl, .inl (SqL.of h), fun q hq => do_new e1 hq H s1.h k⟩
/-- list(range(n)) -/
def rgI (n : Nat) : List Int := (List.range n).map fun (i : Nat) => (i : Int)
theorem do_listRg {m : Int} (xo : XO X) {p2 pos2 : Pos} (ha : DV X Γ ρ a (.int m)) (hb : -(2 ^ 62) ≤ m ∧ m ≤ 16000000) (hm : X.mg "list" = none) (hm2 : X.mg "range" = none) (hg : Gl X "list" := by rfl) (hg2 : Gl X "range" := by rfl) (he : starEach [a] X.env = (false, eval a X.env) :: starEach [] X.env := by rfl)
    (he2 : starEach [.Call (.Name "range" p2) [a] [] pos2] X.env = (false, eval (.Call (.Name "range" p2) [a] [] pos2) X.env) :: starEach [] X.env := by rfl) : DO X Γ ρ (.Call (.Name "list" p) [.Call (.Name "range" p2) [a] [] pos2] [] pos) (tl tI (rgI m.toNat)) :=
  (pe_listRg xo.calm hg hm (prg_1 hg2 hm2 ha he) he2).weak fun σ H Q ⟨G, S, k⟩ => ⟨G, S, fun v G1 H1 s1 e1 (q : v = .int m) => ⟨m, q, ⟨by omega, by omega, by omega, by omega, by omega⟩, fun q hq => by
    have e : rgV 0 m = (rgI m.toNat).map V.int := by
      unfold rgV rgI
      rw [List.map_map]
      have : (m - 0).toNat = m.toNat := by rw [Int.sub_zero]
      rw [this]
      exact List.map_congr_left fun i _ => by simp
    rw [e]
    exact do_new e1 hq H s1.h fun w G2 H2 s2 e2 p2 => k w G2 H2 (s1.trans s2) e2 p2⟩⟩
/-- tuple(a list of ints) -/
theorem de_tuple {ns : List Int} (ha : DE X Γ ρ a κ (dl dI ns)) (hm : X.mg "tuple" = none) (hg : Gl X "tuple" := by rfl) (he : starEach [a] X.env = (false, eval a X.env) :: starEach [] X.env := by rfl) : DE X Γ ρ (.Call (.Name "tuple" p) [a] [] pos) .z (.tuple (ns.map dI)) :=
  (pe_tupleOf hg hm ha he).weak fun σ H Q ⟨G, S, k⟩ => ⟨G, S, fun v G1 H1 s1 e1 q => by
    obtain ⟨a, vs, rfl, h, r⟩ := Rep.l (pK_c S s1 e1 q)
    have ev : vs = ns.map V.int := r.ints
    subst ev
    refine .inl ⟨a, _, rfl, SqL.of h, fun q hq => k (.ref q) (upd G1 q (.tup (ns.map V.int))) _ (s1.trans ⟨Ex.new (e1.none hq), Ex.new hq, fun b o g1 g2 => ?_⟩) (fun b o hb => ?_) (.tup upd_same ?_)⟩
    · by_cases z : b = q
      · rw [z, hq] at g2; cases g2
      · rw [upd_ne z]; exact g1
    · by_cases z : b = q
      · rw [z] at hb ⊢; rw [upd_same] at hb ⊢; exact hb
      · rw [upd_ne z] at hb ⊢; exact e1 _ _ hb
    · exact Reps.mono (Ex.refl _) (reps_ints ns)⟩
/-- a tuple written out, of frozen things -/
def slD : Sl → D
  | .v x => vD x
  | .sh d => d
  | _ => .none
def slFz : Sl → Bool
  | .v x => vOk x
  | .sh _ => true
  | _ => false
theorem slR_reps {K : Fg} {I : Hp} : ∀ {vs : List V} {ss : List Sl} {A : List Addr}, SlR K I G H (vs.map some) ss A → ss.all slFz = true → Reps G vs (ss.map slD)
  | [], [], _, .nil, _ => .nil
  | v :: vs, s :: ss, _, .cons h r, q => by
    rw [List.all_cons, Bool.and_eq_true] at q
    refine .cons ?_ (slR_reps r q.2)
    cases h with
    | v => exact vD_rep q.1
    | sh z => exact z
    | un => cases q.1
    | ro _ => cases q.1
    | ow _ => cases q.1
    | sc _ => cases q.1
theorem de_tup {ss : List Sl} {kk} (ha : DA X Γ ρ es ss) (hs : ss.all slFz = true := by rfl) (hl : ss.length ≤ 1000 := by simp) : DE X Γ ρ (.Tuple es kk pos) .z (.tuple (ss.map slD)) :=
  (pe_tup ha).weak fun σ H Q ⟨G, S, k⟩ => ⟨G, S, fun vs G1 H1 A s1 e1 r nd f => by
    have r' := slR_reps r hs
    refine ⟨by rw [slr_len r]; exact Nat.le_trans hl (by decide), fun q hq => k (.ref q) (upd G1 q (.tup vs)) _ (s1.trans ⟨Ex.new (e1.none hq), Ex.new hq, fun b o g1 g2 => ?_⟩) (fun b o hb => ?_) (.tup upd_same (Reps.mono (Ex.new (e1.none hq)) r'))⟩
    · by_cases z : b = q
      · rw [z, hq] at g2; cases g2
      · rw [upd_ne z]; exact g1
    · by_cases z : b = q
      · rw [z] at hb ⊢; rw [upd_same] at hb ⊢; exact hb
      · rw [upd_ne z] at hb ⊢; exact e1 _ _ hb⟩
/-- a list written out -/
def slT : Sl → OT
  | .v x => .fz (vD x)
  | .sh d => .fz d
  | .ow t => t
  | _ => .fz .none
def slOw : Sl → Bool
  | .v x => vOk x
  | .sh _ => true
  | .ow _ => true
  | _ => false
theorem slR_owns {K : Fg} {I : Hp} : ∀ {vs : List V} {ss : List Sl} {A : List Addr}, SlR K I G H (vs.map some) ss A → ss.all slOw = true → OwnTs G H (ss.map slT) vs A
  | [], [], _, .nil, _ => .nil
  | v :: vs, s :: ss, _, .cons h r, q => by
    rw [List.all_cons, Bool.and_eq_true] at q
    refine .cons ?_ (slR_owns r q.2)
    cases h with
    | v => exact .fz (vD_rep q.1)
    | sh z => exact .fz z
    | un => cases q.1
    | ro _ => cases q.1
    | ow z => exact z
    | sc _ => cases q.1
theorem do_lst {ss : List Sl} (ha : DA X Γ ρ es ss) (hs : ss.all slOw = true := by rfl) (hl : ss.length ≤ 1000 := by simp) : DO X Γ ρ (.List es pos) (.cell (ss.map slT)) :=
  (pe_lst ha).weak fun σ H Q ⟨G, S, k⟩ => ⟨G, S, fun vs G1 H1 A s1 e1 r nd f => by
    have r' := slR_owns r hs
    refine ⟨by rw [slr_len r]; exact Nat.le_trans hl (by decide), fun q hq => ?_⟩
    have qA : q ∉ A := fun z => by
      obtain ⟨_, o, ho⟩ := r'.mem q z
      rw [hq] at ho; cases ho
    exact k (.ref q) G1 _ (s1.trans (Step.laid hq)) (e1.trans (Ex.new hq)) ⟨q :: A, .cell (e1.none hq) upd_same (r'.frame (Ex.refl _) (fun _ _ g => g) fun b hb => upd_ne fun z => qA (z ▸ hb)), List.nodup_cons.mpr ⟨qA, nd⟩, fun x hx => by
      rcases List.mem_cons.mp hx with z | z
      · rw [z]; exact s1.h.none hq
      · exact f x z⟩⟩
theorem do_nil (g : α → OT) : DO X Γ ρ (.List [] pos) (tl g []) := do_lst da_nil
/-- + of lists -/
theorem do_cat {xs ys : List α} (ha : DE X Γ ρ a .z (dl f xs)) (hb : DE X Γ ρ b .z (dl f ys)) (hl : xs.length + ys.length ≤ 16000000) : DO X Γ ρ (.BinOp a .Add b pos) (tl (tF f) (xs ++ ys)) :=
  bin_weak (ta := tC .non) (tb := tC .non) (pe_op op_cat ha hb) fun σ G H G1 H1 G2 H2 v u Q S s1 e1 p1 s2 e2 p2 k => by
    obtain ⟨q1, vs, rfl, h1, r1⟩ := Rep.l (Rep.mono s2.g p1)
    obtain ⟨q2, us, rfl, h2, r2⟩ := Rep.l p2
    have l1 := r1.len
    have l2 := r2.len
    rw [List.length_map] at l1 l2
    refine ⟨q1, q2, vs, us, rfl, rfl, e2 _ _ h1, e2 _ _ h2, by rw [l1, l2]; exact Nat.le_trans hl (by decide), fun q hq => ?_⟩
    have r := r1.app r2
    rw [← List.map_append] at r
    exact newF e2 hq H (s1.trans s2).h r (by rw [tF_map]; exact k)
theorem do_catI {xs ys : List Int} (ha : DE X Γ ρ a κ (dl dI xs)) (hb : DE X Γ ρ b κ' (dl dI ys)) (hl : xs.length + ys.length ≤ 16000000) : DO X Γ ρ (.BinOp a .Add b pos) (tl tI (xs ++ ys)) :=
  bin_weak (ta := tC .non) (tb := tC .non) (pe_op op_cat ha hb) fun σ G H G1 H1 G2 H2 v u Q S s1 e1 p1 s2 e2 p2 k => by
    obtain ⟨q1, vs, rfl, h1, r1⟩ := Rep.l (Rep.mono s2.h (pK_c S s1 e1 p1))
    obtain ⟨q2, us, rfl, h2, r2⟩ := Rep.l (pK_c (S.more s1 e1) s2 e2 p2)
    have ev : vs = xs.map V.int := r1.ints
    have eu : us = ys.map V.int := r2.ints
    subst ev eu
    refine ⟨q1, q2, _, _, rfl, rfl, h1, h2, by simp only [List.length_map]; exact Nat.le_trans hl (by decide), fun q hq => ?_⟩
    rw [← List.map_append]
    exact do_new e2 hq H (s1.trans s2).h k
/-- slices -/
def tOx (Γ : Gm) (ρ : List Sl) (o : Option Int) : TO := fun σ H Q => ∃ G, Sr Γ G H σ ρ ∧ ∀ G2 H2, Step G H G2 H2 → Ex G2 H2 → Q o H2
def DOx (X : Cx) (Γ : Gm) (ρ : List Sl) (e : Option Expr) (o : Option Int) : Prop := PO X e (tOx Γ ρ o)
end
end DL

set_option Elab.async false
set_option linter.all false
set_option maxRecDepth 100000
set_option maxHeartbeats 2000000
namespace DL
open PySem L2
section
variable {X : Cx} {Γ : Gm} {ρ ρ' : List Sl} {e a b c o : Expr} {es : List Expr} {pos p p' apos cpos : Pos} {κ κ' : Kd} {d d' : D} {x y z : V} {t t' : OT} {σ : L2.St} {G H G1 H1 G2 H2 : Hp} {n : Str} {i j : Int} {α β : Type} {f : α → D} {g : α → OT} {E : En} {rest body : List Stmt}
/-! ### slices -/
theorem ox_none : DOx X Γ ρ none none := ⟨fun pins s σ H Q I ⟨G, S, k⟩ => po_none.run pins s σ H Q I (k G H (Step.refl _ _) S.sub)⟩
theorem ox_some (h : DV X Γ ρ e (.int i)) : DOx X Γ ρ (some e) (some i) := ⟨fun pins s σ H Q I ⟨G, S, k⟩ => (po_some h).run pins s σ H Q I ⟨G, S, fun v G2 H2 st ex (q : v = .int i) => ⟨i, q, k G2 H2 st ex⟩⟩⟩
variable {lo hi : Option Expr} {l u : Option Int} {p2 : Pos}
theorem cut_pySl (xs : List V) (l u : Option Int) : cutV xs l u = pySl xs l u := rfl
theorem Reps.sl {xs : List V} {ds : List D} (r : Reps H xs ds) : Reps H (pySl xs l u) (pySl ds l u) := by
  unfold pySl
  rw [r.len]
  exact (r.drop _).take _
theorem slW {r : V → Option Int → Option Int → Hp → VK → Prop} {PA P : Hp → Hp → Hp → V → Prop} (h : PE X e (tSl r (tX Γ ρ PA) (tOx Γ ρ l) (tOx Γ ρ u)))
    (w : ∀ (σ : L2.St) (G H G1 H1 G2 H2 : Hp) (v : V) (Q : VK), Sr Γ G H σ ρ → Step G H G1 H1 → Ex G1 H1 → PA H G1 H1 v → Step G1 H1 G2 H2 → Ex G2 H2 → (∀ w G3 H3, Step G2 H2 G3 H3 → Ex G3 H3 → P H G3 H3 w → Q w H3) → r v l u H2 Q) : PE X e (tX Γ ρ P) :=
  h.weak fun σ H Q ⟨G, S, k⟩ => ⟨G, S, fun v G1 H1 s1 e1 p1 => ⟨G1, S.more s1 e1, fun G2 H2 s2 e2 => ⟨G2, (S.more s1 e1).more s2 e2, fun G3 H3 s3 e3 =>
    w σ G H G1 H1 G3 H3 v Q S s1 e1 p1 (s2.trans s3) e3 fun z G4 H4 s4 e4 p4 => k z G4 H4 (((s1.trans s2).trans s3).trans s4) e4 p4⟩⟩⟩
theorem do_sl {xs : List α} (ha : DE X Γ ρ a .z (dl f xs)) (hl : DOx X Γ ρ lo l) (hu : DOx X Γ ρ hi u) : DO X Γ ρ (.Subscript a (.Slice lo hi none p2) pos) (tl (tF f) (pySl xs l u)) :=
  slW (pe_slice sl_list ha hl hu) fun σ G H G1 H1 G2 H2 v Q S s1 e1 p1 s2 e2 k => by
    obtain ⟨q1, vs, rfl, h1, r1⟩ := Rep.l (Rep.mono s2.g p1)
    refine ⟨q1, vs, rfl, SqL.of (e2 _ _ h1), fun q hq => ?_⟩
    have r : Reps G2 (pySl vs l u) ((pySl xs l u).map f) := by rw [← pySl_map]; exact r1.sl
    exact newF e2 hq H (s1.trans s2).h r (by rw [tF_map]; exact k)
theorem do_slI {ns : List Int} (ha : DE X Γ ρ a κ (dl dI ns)) (hl : DOx X Γ ρ lo l) (hu : DOx X Γ ρ hi u) : DO X Γ ρ (.Subscript a (.Slice lo hi none p2) pos) (tl tI (pySl ns l u)) :=
  slW (pe_slice sl_list ha hl hu) fun σ G H G1 H1 G2 H2 v Q S s1 e1 p1 s2 e2 k => by
    obtain ⟨q1, vs, rfl, h1, r1⟩ := Rep.l (Rep.mono s2.h (pK_c S s1 e1 p1))
    have ev : vs = ns.map V.int := r1.ints
    subst ev
    refine ⟨q1, _, rfl, SqL.of h1, fun q hq => ?_⟩
    rw [cut_pySl, pySl_map]
    exact do_new e2 hq H (s1.trans s2).h k
theorem do_slS {ns : List Int} (hK : Γ.K = X.K) (ha : DS_ X Γ ρ a ns) (hl : DOx X Γ ρ lo l) (hu : DOx X Γ ρ hi u) : DO X Γ ρ (.Subscript a (.Slice lo hi none p2) pos) (tl tI (pySl ns l u)) :=
  slW (pe_slice sl_list ha hl hu) fun σ G H G1 H1 G2 H2 v Q S s1 e1 ⟨q1, ev, h1⟩ s2 e2 k => by
    rw [hK] at h1
    refine ⟨q1, _, ev, ex_l s2.h h1, fun q hq => ?_⟩
    rw [cut_pySl, pySl_map]
    exact do_new e2 hq H (s1.trans s2).h k

/-! ### comprehensions -/
structure WalkL (Γ : Gm) (J : It) (xs : List α) (s : α → Sl) : Prop where
  go : ∀ i G H, Ex Γ.G G → Ex G H → Ex Γ.H H → i < xs.length → J.go i H
  yld : ∀ i a G H x H', xs[i]? = some a → Ex Γ.G G → Ex G H → Ex Γ.H H → J.yld i H x H' → ∃ G', Step G H G' H' ∧ Ex G' H' ∧ SlS Γ.K Γ.H G' H' (some x) (s a) []
  stop : ∀ i G H, Ex Γ.G G → Ex G H → Ex Γ.H H → xs.length ≤ i → J.stop i H
def tIc (Γ : Gm) (ρ : List Sl) (xs : List α) (s : α → Sl) : TI := fun σ H R => ∃ G, Sr Γ G H σ ρ ∧ ∀ J G1 H1, Step G H G1 H1 → Ex G1 H1 → WalkL ⟨Γ.K, G1, H1⟩ J xs s → R J H1
def DIc (X : Cx) (Γ : Gm) (ρ : List Sl) (tg e : Expr) (xs : List α) (s : α → Sl) : Prop := PI X tg e (tIc Γ ρ xs s)
variable {tg : Expr}
theorem map_at' {f : α → β} {xs : List α} {i : Nat} {a : α} {b : β} (h : xs[i]? = some a) (hb : (xs.map f)[i]? = some b) : b = f a := by
  rw [List.getElem?_map, h] at hb
  exact (Option.some.inj hb).symm
theorem ic_z {xs : List α} (s : α → Sl) (h : DE X Γ ρ e .z (dl f xs)) (hs : ∀ a, SubSl (f a) (s a)) : DIc X Γ ρ tg e xs s :=
  (pi_list h).weak fun σ H R ⟨G, S, k⟩ => ⟨G, S, fun v G1 H1 s1 e1 q => by
    obtain ⟨a, vs, rfl, hl, r⟩ := Rep.l q
    have ln := r.len
    rw [List.length_map] at ln
    refine ⟨a, rfl, ⟨vs, SqL.of (e1 _ _ hl)⟩, k _ G1 H1 s1 e1 ⟨fun i G' H' g1 g2 _ hi => ?_, fun i a' G' H' x H'' hx g1 g2 _ hy => ?_, fun i G' H' g1 g2 _ hi => ⟨vs, SqL.of (g2 _ _ (g1 _ _ hl)), by omega⟩⟩⟩
    · exact ⟨vs, vs[i], SqL.of (g2 _ _ (g1 _ _ hl)), List.getElem?_eq_getElem (by omega)⟩
    · obtain ⟨rfl, hv⟩ := hy
      obtain ⟨d, h1, h2⟩ := (Reps.mono g1 r).getV (hv vs (SqL.of (g2 _ _ (g1 _ _ hl))))
      rw [map_at' hx h1] at h2
      exact ⟨G', Step.refl _ _, g2, (hs a').sl h2⟩⟩
theorem ic_c {xs : List α} (s : α → Sl) (h : DE X Γ ρ e κ (dl f xs)) (hs : ∀ a, SubRo (f a) (s a)) : DIc X Γ ρ tg e xs s :=
  (pi_list h).weak fun σ H R ⟨G, S, k⟩ => ⟨G, S, fun v G1 H1 s1 e1 q => by
    obtain ⟨a, vs, rfl, hl, r⟩ := Rep.l (pK_c S s1 e1 q)
    have ln := r.len
    rw [List.length_map] at ln
    refine ⟨a, rfl, ⟨vs, SqL.of hl⟩, k _ G1 H1 s1 e1 ⟨fun i G' H' g1 g2 g3 hi => ?_, fun i a' G' H' x H'' hx g1 g2 g3 hy => ?_, fun i G' H' g1 g2 g3 hi => ⟨vs, SqL.of (g3 _ _ hl), by omega⟩⟩⟩
    · exact ⟨vs, vs[i], SqL.of (g3 _ _ hl), List.getElem?_eq_getElem (by omega)⟩
    · obtain ⟨rfl, hv⟩ := hy
      obtain ⟨d, h1, h2⟩ := r.getV (hv vs (SqL.of (g3 _ _ hl)))
      rw [map_at' hx h1] at h2
      exact ⟨G', Step.refl _ _, g2, (hs a').sl h2⟩⟩
theorem ic_range {m : Int} (ha : DV X Γ ρ a (.int m)) (hb : -(2 ^ 62) ≤ m ∧ m < 2 ^ 62) (hm : X.mg "range" = none) (hg : Gl X "range" := by rfl) (hs1 : starEach [a] X.env = (false, eval a X.env) :: starEach [] X.env := by rfl) (hs : starEach [a] X.env = [(false, eval a X.env)] := by rfl) :
    DIc X Γ ρ tg (.Call (.Name "range" p) [a] [] pos) (List.range m.toNat) (fun i => .v (.int (i : Int))) :=
  (pi_range1 hg hm (pa_cons ha pa_nil hs1) hs).weak fun σ H R ⟨G, S, k⟩ => ⟨G, S, fun v G1 H1 s1 e1 (q : v = .int m) => by
    rw [q]
    exact ⟨m, rfl, hb.1, hb.2, k _ G1 H1 s1 e1 ⟨fun i _ _ _ _ _ h => by rwa [List.length_range] at h, fun i a' G' H' x H'' hx g1 g2 _ hy => by
      obtain ⟨rfl, rfl⟩ := hy
      have : a' = i := by
        obtain ⟨h1, h2⟩ := List.getElem?_eq_some_iff.mp hx
        rw [List.getElem_range] at h2
        exact h2.symm
      subst this
      refine ⟨G', Step.refl _ _, g2, ?_⟩
      show SlS _ _ _ _ (some (V.int (0 + (a' : Int)))) _ _
      rw [Int.zero_add]
      exact .v, fun i _ _ _ _ _ h => by rwa [List.length_range] at h⟩⟩⟩
/-- what a name holds, seen from within a block -/
def deo : Sl → Sl
  | .ow t => .ro t.er
  | s => s
def wipeS (ρ : List Sl) : List Nat → List Sl
  | [] => ρ
  | v :: vs => (wipeS ρ vs).set v .un
theorem SlS.deo {K : Fg} {I : Hp} {o s A} (ex : Ex G H) (ei : Ex I H) (h : SlS K I G H o s A) : SlS K H G H o (DL.deo s) [] := by
  cases h with
  | un => exact .un
  | v => exact .v
  | sh r => exact .sh r
  | ro r => exact .ro (r.mono ei)
  | ow q => exact .ro (q.rep ex)
  | sc q => exact .sc (ex_l ei q)
theorem SlR.deo {K : Fg} {I : Hp} (ex : Ex G H) (ei : Ex I H) : ∀ {σ ρ A}, SlR K I G H σ ρ A → SlR K H G H σ (ρ.map DL.deo) []
  | _, _, _, .nil => .nil
  | _, _, _, .cons h r => .cons (A := []) (B := []) (h.deo ex ei) (SlR.deo ex ei r)
theorem SlR.setN {K : Fg} {I : Hp} : ∀ {σ ρ} {k : Nat} {o : Option V} {s : Sl}, SlR K I G H σ ρ [] → SlS K I G H o s [] → SlR K I G H (σ.set k o) (ρ.set k s) []
  | _, _, k, o, s, r, h => by
    by_cases hk : k < ‹List Sl›.length
    · obtain ⟨s0, e0⟩ := r.nth hk
      obtain ⟨o0, A1, B, A2, h1, h2, h3, h4⟩ := r.focus e0
      have z : A1 = [] ∧ B = [] ∧ A2 = [] := by
        have := congrArg List.length h3
        simp only [List.length_nil, List.length_append] at this
        exact ⟨List.eq_nil_of_length_eq_zero (by omega), List.eq_nil_of_length_eq_zero (by omega), List.eq_nil_of_length_eq_zero (by omega)⟩
      obtain ⟨rfl, rfl, rfl⟩ := z
      exact h4 G H o s [] (Ex.refl _) (fun _ _ g => g) (fun _ _ => rfl) h
    · rw [List.set_eq_of_length_le (by rw [r.len]; omega), List.set_eq_of_length_le (by omega)]
      exact r
theorem SlR.wipe {K : Fg} {I : Hp} {σ ρ} (r : SlR K I G H σ ρ []) : ∀ vs : List Nat, SlR K I G H (wipe σ vs) (wipeS ρ vs) []
  | [] => r
  | v :: vs => by
    unfold L2.wipe wipeS
    exact (SlR.wipe r vs).setN .un
theorem wipe_get : ∀ (vs : List Nat) (σ : L2.St) (i : Nat), (wipe σ vs)[i]? = if i ∈ vs then σ[i]?.map (fun _ => none) else σ[i]?
  | [], σ, i => by simp [wipe]
  | v :: vs, σ, i => by
    unfold wipe
    by_cases h : v = i
    · subst h
      rw [if_pos List.mem_cons_self]
      by_cases hv : v < (wipe σ vs).length
      · rw [List.getElem?_set_self hv]
        rw [wipe_length] at hv
        rw [List.getElem?_eq_getElem hv]
        rfl
      · rw [wipe_length] at hv
        rw [List.getElem?_eq_none (by rw [List.length_set, wipe_length]; omega), List.getElem?_eq_none (by omega)]
        rfl
    · rw [List.getElem?_set_ne h, wipe_get vs σ i]
      by_cases q : i ∈ vs
      · rw [if_pos q, if_pos (List.mem_cons_of_mem _ q)]
      · rw [if_neg q, if_neg (fun z => by rcases List.mem_cons.mp z with z | z; exact h z.symm; exact q z)]
theorem wipe_set {vs : List Nat} {σ : L2.St} {j : Nat} {x : Option V} (h : j ∈ vs) : wipe (σ.set j x) vs = wipe σ vs := by
  refine List.ext_getElem? fun i => ?_
  rw [wipe_get, wipe_get]
  by_cases q : i ∈ vs
  · rw [if_pos q, if_pos q]
    by_cases e : j = i
    · subst e
      by_cases hj : j < σ.length
      · rw [List.getElem?_set_self hj, List.getElem?_eq_getElem hj]; rfl
      · rw [List.getElem?_eq_none (by rw [List.length_set]; omega), List.getElem?_eq_none (by omega)]
    · rw [List.getElem?_set_ne e]
  · rw [if_neg q, if_neg q, List.getElem?_set_ne (fun e => by subst e; exact q h)]
theorem wipe_wipe {vs : List Nat} {σ : L2.St} : wipe (wipe σ vs) vs = wipe σ vs := by
  refine List.ext_getElem? fun i => ?_
  rw [wipe_get, wipe_get]
  by_cases q : i ∈ vs
  · rw [if_pos q, if_pos q]
    cases σ[i]? <;> rfl
  · rw [if_neg q, if_neg q]
/-- where a block's target puts the item -/
def TgW (gg : TG) (K : Fg) (js : List Nat) (si : Sl) (h : List Sl → List Sl) : Prop := ∀ (I G H : Hp) (σ : L2.St) (ρ : List Sl) (v : V) (Q : L2.St → Hp → Prop), Ex G H → Ex I H → SlR K I G H σ ρ [] → SlS K I G H (some v) si [] →
  (∀ σ', SlR K I G H σ' (h ρ) [] → (∀ vs : List Nat, (∀ j ∈ js, j ∈ vs) → wipe σ' vs = wipe σ vs) → Q σ' H) → gg v σ H Q
theorem tgw_name (K : Fg) (j : Nat) (s : Sl) : TgW (gName j) K [j] s (fun ρ => ρ.set j s) := fun I G H σ ρ v Q ex ei r hs k => k _ (r.setN hs) fun vs hv => wipe_set (hv j (by simp))
theorem tgw_pair (K : Fg) (j1 j2 : Nat) {d1 d2' : D} {s1 s2 : Sl} (q1 : SubSl d1 s1) (q2 : SubSl d2' s2) : TgW (gTup K 2 (gCons (gName j1) (gCons (gName j2) gNil))) K [j1, j2] (.sh (.tuple [d1, d2'])) (fun ρ => (ρ.set j1 s1).set j2 s2) := fun I G H σ ρ v Q ex ei r hs k => by
  cases hs with
  | sh z =>
    cases z with
    | @tup a xs _ ht rr =>
      cases rr with
      | cons r1 rr =>
        cases rr with
        | cons r2 rr =>
          cases rr
          exact ⟨a, _, rfl, SqT.of (ex _ _ ht), rfl, _, _, rfl, _, _, rfl, rfl, k _ ((r.setN (q1.sl r1)).setN (q2.sl r2)) fun vs hv => by rw [wipe_set (hv j2 (by simp)), wipe_set (hv j1 (by simp))]⟩
theorem tgw_pairR (K : Fg) (j1 j2 : Nat) {d1 d2' : D} {s1 s2 : Sl} (q1 : SubRo d1 s1) (q2 : SubRo d2' s2) : TgW (gTup K 2 (gCons (gName j1) (gCons (gName j2) gNil))) K [j1, j2] (.ro (.tuple [d1, d2'])) (fun ρ => (ρ.set j1 s1).set j2 s2) := fun I G H σ ρ v Q ex ei r hs k => by
  cases hs with
  | ro z =>
    cases z with
    | @tup a xs _ ht rr =>
      cases rr with
      | cons r1 rr =>
        cases rr with
        | cons r2 rr =>
          cases rr
          exact ⟨a, _, rfl, SqT.of (ei _ _ ht), rfl, _, _, rfl, _, _, rfl, rfl, k _ ((r.setN (q1.sl r1)).setN (q2.sl r2)) fun vs hv => by rw [wipe_set (hv j2 (by simp)), wipe_set (hv j1 (by simp))]⟩
def uT (Γ : Gm) (xs : List α) (ρw : α → List Sl) (f : α → Bool) : TT := fun σ H Q => ∃ (Γ' : Gm) (a : α), Γ'.K = Γ.K ∧ a ∈ xs ∧ tT Γ' (ρw a) (f a) σ H Q
def uE (Γ : Gm) (xs : List α) (ρw : α → List Sl) (f : α → Bool) (q : α → OT) : TE := fun σ H Q => ∃ (Γ' : Gm) (a : α), Γ'.K = Γ.K ∧ a ∈ xs ∧ f a = true ∧ tX Γ' (ρw a) (pO (q a)) σ H Q
theorem lc_red {xs : List α} {s : α → Sl} {f : α → Bool} {q : α → OT} {gg : TG} {vs js : List Nat} {h : α → List Sl → List Sl} (hg : ∀ a ∈ xs, TgW gg Γ.K js (s a) (h a)) (hj : ∀ j ∈ js, j ∈ vs) (hl : xs.length ≤ 16000000) {Q : VK}
    (hq : tX Γ ρ (pO (tl q (xs.filter f))) σ H Q) : tLc (tIc Γ ρ xs s) gg (uT Γ xs (fun a => h a (wipeS (ρ.map deo) vs)) f) (uE Γ xs (fun a => h a (wipeS (ρ.map deo) vs)) f q) vs σ H Q := by
  obtain ⟨G, S, k⟩ := hq
  refine ⟨G, S, fun J G1 H1 s1 e1 W D hD => ?_⟩
  have S1 := S.more s1 e1
  obtain ⟨A1, SA1⟩ := S1.ad
  have r0 := (SA1.sl.deo e1 SA1.step.h).wipe vs
  have sz : 16000000 < sizeLine := by decide
  -- the word between the turns
  refine ⟨fun i m H' => m = xs.length - i ∧ i ≤ xs.length ∧ ∃ G' acc B, Step G1 H1 G' H' ∧ Ex G' H' ∧ SlR Γ.K H1 G' H' (wipe σ vs) (wipeS (ρ.map deo) vs) [] ∧ H' D = some (.lst acc) ∧ G' D = none ∧
    OwnTs G' H' (((xs.take i).filter f).map q) acc B ∧ B.Nodup ∧ D ∉ B ∧ (∀ b ∈ B, H1 b = none) ∧ acc.length ≤ i, ⟨xs.length, by simp, Nat.zero_le _, G1, [], [], Step.laid hD, e1.trans (Ex.new hD), ?_, upd_same, e1.none hD, by simpa using OwnTs.nil, List.nodup_nil, by simp, by simp, Nat.le_refl _⟩, ?_⟩
  · exact r0.more (Step.laid hD)
  rintro i m H' ⟨rfl, him, G', acc, B, st, ex, rr, hDl, gD, ow, nd, nDB, fB, al⟩
  by_cases hlt : i < xs.length
  · obtain ⟨a, ha⟩ : ∃ a, xs[i]? = some a := ⟨xs[i], List.getElem?_eq_getElem hlt⟩
    have ham : a ∈ xs := List.mem_of_getElem? ha
    have tk : xs.take (i + 1) = xs.take i ++ [a] := by rw [List.take_add_one, ha]; rfl
    refine .inr ⟨W.go i G' H' st.g ex st.h hlt, fun H2 => ∃ G2 acc B, Step G1 H1 G2 H2 ∧ Ex G2 H2 ∧ SlR Γ.K H1 G2 H2 (wipe σ vs) (wipeS (ρ.map deo) vs) [] ∧ H2 D = some (.lst acc) ∧ G2 D = none ∧
      OwnTs G2 H2 (((xs.take (i + 1)).filter f).map q) acc B ∧ B.Nodup ∧ D ∉ B ∧ (∀ b ∈ B, H1 b = none) ∧ acc.length ≤ i + 1, fun H2 z => ⟨xs.length - (i + 1), by omega, rfl, hlt, z⟩, fun x H2 hy => ?_⟩
    obtain ⟨G2, s2, e2, sl⟩ := W.yld i a G' H' x H2 ha st.g ex st.h hy
    refine hg a ham H1 G2 H2 (wipe σ vs) _ x _ e2 (st.trans s2).h (rr.more s2) sl fun σ' r' hw => ?_
    refine ⟨by rw [hw vs hj, wipe_wipe], ?_⟩
    have Sin : Sr ⟨Γ.K, G1, H1⟩ G2 H2 σ' (h a (wipeS (ρ.map deo) vs)) := ⟨st.trans s2, e2, [], r', List.nodup_nil, fun _ z => by cases z⟩
    refine ⟨⟨Γ.K, G1, H1⟩, a, rfl, ham, G2, Sin, fun G3 H3 s3 e3 => ?_⟩
    cases hf : f a with
    | false =>
      refine iteF ⟨G3, acc, B, (st.trans s2).trans s3, e3, (rr.more s2).more s3, s3.h _ _ (s2.h _ _ hDl), ?_, ?_, nd, nDB, fB, by omega⟩
      · exact s3.f _ _ (s2.f _ _ gD hDl) (s2.h _ _ hDl)
      · rw [tk, List.filter_append, List.map_append]
        simp only [List.filter_cons, hf, List.filter_nil, Bool.false_eq_true, if_false, List.map_nil, List.append_nil]
        exact (ow.more s2).more s3
    | true =>
      refine iteT ⟨⟨Γ.K, G1, H1⟩, a, rfl, ham, hf, G3, Sin.more s3 e3, fun y G4 H4 s4 e4 ⟨C, oc, ndC, fC⟩ => ?_⟩
      have s24 := (s2.trans s3).trans s4
      have hD4 := s24.h _ _ hDl
      have gD4 : G4 D = none := s24.f _ _ gD hDl
      have ow4 := ow.more s24
      have BC : ∀ b ∈ B, b ∉ C := fun b hb hc => by
        obtain ⟨_, o, ho⟩ := (ow.more (s2.trans s3)).mem b hb
        rw [fC b hc] at ho; cases ho
      have DC : D ∉ C := fun hc => by
        have := (s2.trans s3).h _ _ hDl
        rw [fC D hc] at this; cases this
      refine ⟨acc, hD4, by omega, G4, acc ++ [y], B ++ C, ?_, e4.mut gD4, ?_, upd_same, gD4, ?_, ?_, ?_, ?_, by simp; omega⟩
      · exact ⟨(st.trans s24).g, (st.trans s24).h.mut hD, (st.trans s24).f⟩
      · exact (rr.more s24).frame (Ex.refl _) (fun _ _ g => g) (fun _ z => by cases z)
      · rw [tk, List.filter_append, List.map_append]
        simp only [List.filter_cons, hf, List.filter_nil, if_true, List.map_cons, List.map_nil]
        refine OwnTs.frame (Ex.refl _) (fun _ _ g => g) (fun b hb => upd_ne fun z => ?_) (ow4.app (OwnTs.one oc))
        subst z
        rcases List.mem_append.mp hb with z | z
        · exact nDB z
        · exact DC z
      · exact List.nodup_append.mpr ⟨nd, ndC, fun x hx y hy z => BC x hx (z ▸ hy)⟩
      · intro z
        rcases List.mem_append.mp z with z | z
        · exact nDB z
        · exact DC z
      · intro b hb
        rcases List.mem_append.mp hb with z | z
        · exact fB b z
        · exact (st.trans (s2.trans s3)).h.none (fC b z)
  · have e : i = xs.length := by omega
    subst e
    rw [List.take_length] at ow
    refine .inl ⟨W.stop _ G' H' st.g ex st.h (Nat.le_refl _), k (.ref D) G' H' (s1.trans st) ex ⟨D :: B, .cell gD hDl ow, List.nodup_cons.mpr ⟨nDB, nd⟩, fun b hb => ?_⟩⟩
    rcases List.mem_cons.mp hb with z | z
    · rw [z]; exact s1.h.none hD
    · exact s1.h.none (fB b z)
/-- the tests of a clause -/
def DTs (X : Cx) (Γ : Gm) (ρ : List Sl) (ifs : List Expr) (b : Bool) : Prop := PTs X ifs (tT Γ ρ b)
theorem dts_nil : DTs X Γ ρ [] true := ⟨fun pins s σ H Q I ⟨G, S, k⟩ => pts_nil.run pins s σ H Q I (k G H (Step.refl _ _) S.sub)⟩
theorem dts_one {q : Bool} (h : DT X Γ ρ c q) : DTs X Γ ρ [c] q := pts_one h
variable {elt iter : Expr} {ifs : List Expr} {scope : Scope} {own : List (Str × Nat)} {xs : List α} {s : α → Sl} {ft : α → Bool} {q : α → OT} {gg : TG} {js : List Nat} {h : α → List Sl → List Sl}
theorem do_lc (xo : XO X) (own : List (Str × Nat)) (hi : DIc X Γ ρ tg iter xs s) (ok : BlkOk X.N X.env.scope scope own) (hgg : ∀ (s : Shared) (H : Hp) (C : Addr) (cl : List (Str × Addr)) (fp : List Addr), PG (X.blk s H scope (compEnvC scope cl C X.env) fp) tg gg)
    (hg : ∀ a ∈ xs, TgW gg Γ.K js (s a) (h a)) (hj : ∀ j ∈ js, j ∈ own.map (·.2))
    (ht : ∀ (Γ' : Gm), Γ'.K = Γ.K → ∀ a ∈ xs, ∀ (s : Shared) (H : Hp) (C : Addr) (cl : List (Str × Addr)) (fp : List Addr), XO (X.blk s H scope (compEnvC scope cl C X.env) fp) → DTs (X.blk s H scope (compEnvC scope cl C X.env) fp) Γ' (h a (wipeS (ρ.map deo) (own.map (·.2)))) ifs (ft a))
    (he : ∀ (Γ' : Gm), Γ'.K = Γ.K → ∀ a ∈ xs, ft a = true → ∀ (s : Shared) (H : Hp) (C : Addr) (cl : List (Str × Addr)) (fp : List Addr), XO (X.blk s H scope (compEnvC scope cl C X.env) fp) → DO (X.blk s H scope (compEnvC scope cl C X.env) fp) Γ' (h a (wipeS (ρ.map deo) (own.map (·.2)))) elt (q a))
    (hl : xs.length ≤ 16000000) (hs : ∀ x, foldedSetIterable iter X.env x = pure x := by intro _; rfl) : DO X Γ ρ (.ListComp elt [⟨tg, iter, ifs, 0⟩] scope pos) (tl q (xs.filter ft)) := by
  have xb : ∀ (s : Shared) (H : Hp) (C : Addr) (cl : List (Str × Addr)) (fp : List Addr), XO (X.blk s H scope (compEnvC scope cl C X.env) fp) := fun _ _ _ _ _ => ⟨xo.calm, xo.nd, xo.hu⟩
  exact (pe_lc xo.calm xo.nd hi ok hgg (fun s H C cl fp => ⟨fun pins s' σ H' Q I ⟨Γ', a, k1, k2, z⟩ => (ht Γ' k1 a k2 s H C cl fp (xb _ _ _ _ _)).run pins s' σ H' Q I z⟩) (fun s H C cl fp => ⟨fun pins s' σ H' Q I ⟨Γ', a, k1, k2, k3, z⟩ => (he Γ' k1 a k2 k3 s H C cl fp (xb _ _ _ _ _)).run pins s' σ H' Q I z⟩) hs).weak fun σ H Q z => lc_red hg hj hl z
/-- name = [..] -/
theorem ss_lc (i : Nat) {y : Str} {py spos : Pos} (xo : XO X) (own : List (Str × Nat)) (hi : DIc X Γ ρ tg iter xs s) (ok : BlkOk X.N X.env.scope scope own) (hgg : ∀ (s : Shared) (H : Hp) (C : Addr) (cl : List (Str × Addr)) (fp : List Addr), PG (X.blk s H scope (compEnvC scope cl C X.env) fp) tg gg)
    (hg : ∀ a ∈ xs, TgW gg Γ.K js (s a) (h a)) (hj : ∀ j ∈ js, j ∈ own.map (·.2))
    (ht : ∀ (Γ' : Gm), Γ'.K = Γ.K → ∀ a ∈ xs, ∀ (s : Shared) (H : Hp) (C : Addr) (cl : List (Str × Addr)) (fp : List Addr), XO (X.blk s H scope (compEnvC scope cl C X.env) fp) → DTs (X.blk s H scope (compEnvC scope cl C X.env) fp) Γ' (h a (wipeS (ρ.map deo) (own.map (·.2)))) ifs (ft a))
    (he : ∀ (Γ' : Gm), Γ'.K = Γ.K → ∀ a ∈ xs, ft a = true → ∀ (s : Shared) (H : Hp) (C : Addr) (cl : List (Str × Addr)) (fp : List Addr), XO (X.blk s H scope (compEnvC scope cl C X.env) fp) → DO (X.blk s H scope (compEnvC scope cl C X.env) fp) Γ' (h a (wipeS (ρ.map deo) (own.map (·.2)))) elt (q a))
    (hl : xs.length ≤ 16000000) (hr : SS X Γ (ρ.set i (.ow (tl q (xs.filter ft)))) rest E) (hy : X.N[i]? = some y := by rfl) (hyl : X.env.scope.names.lookup y = some .local := by rfl)
    (hsw : swapsWith (.ListComp elt [⟨tg, iter, ifs, 0⟩] scope pos) (some (.Name y py)) spos.line X.env = pure true := by exact sw_true rfl rfl rfl (by decide +kernel)) (hs : ∀ x, foldedSetIterable iter X.env x = pure x := by intro _; rfl) :
    SS X Γ ρ (.Assign [.Name y py] (.ListComp elt [⟨tg, iter, ifs, 0⟩] scope pos) spos :: rest) E := by
  have xb : ∀ (s : Shared) (H : Hp) (C : Addr) (cl : List (Str × Addr)) (fp : List Addr), XO (X.blk s H scope (compEnvC scope cl C X.env) fp) := fun _ _ _ _ _ => ⟨xo.calm, xo.nd, xo.hu⟩
  refine ss_cons (M := fun ρ' => ρ' = ρ.set i (.ow (tl q (xs.filter ft)))) ((ps_setLc (tt := uT Γ xs (fun a => h a (wipeS (ρ.map deo) (own.map (·.2)))) ft) (te := uE Γ xs (fun a => h a (wipeS (ρ.map deo) (own.map (·.2)))) ft q) xo.calm xo.nd hy hyl hsw hi ok hgg (fun s H C cl fp => ⟨fun pins s' σ H' Q I ⟨Γ', a, k1, k2, z⟩ => (ht Γ' k1 a k2 s H C cl fp (xb _ _ _ _ _)).run pins s' σ H' Q I z⟩) (fun s H C cl fp => ⟨fun pins s' σ H' Q I ⟨Γ', a, k1, k2, k3, z⟩ => (he Γ' k1 a k2 k3 s H C cl fp (xb _ _ _ _ _)).run pins s' σ H' Q I z⟩) hs).weak fun D σ H ⟨G, S, k⟩ => ?_) fun ρ' e => e ▸ hr
  exact lc_red hg hj hl ⟨G, S, fun v G2 H2 st ex ⟨A, o, nd, f⟩ => k.nx _ _ G2 H2 rfl (S.store st ex (.ow o) nd f) st.g⟩
end
end DL

set_option Elab.async false
set_option linter.all false
set_option maxRecDepth 100000
set_option maxHeartbeats 2000000
namespace DL
open PySem L2

/-! ### len(set(..)) of ints -/
def ddup (ns : List Int) : List Int := PyProof.Rows.firstMet (fun i => ns.getD i 0) ns.length
def tLenSetG (K : Fg) (ta : TE) : TE := fun σ H Q => ta σ H fun x H1 => ∃ (l : Addr) (ns : List Int), x = .ref l ∧ SqL K H1 l (ns.map V.int) ∧ ns.length ≤ 4000 ∧ Q (.int ((ddup ns).length : Nat)) H1
theorem pe_lenSetG {X : Cx} {a : Expr} {ta : TE} {p p2 q pos : Pos} (hg : Gl X "len") (hm : X.mg "len" = none) (hg2 : Gl X "set") (hm2 : X.mg "set" = none) (ha : PE X a ta) (hc : X.calm = true)
    (na : starEach [a] X.env = (false, eval a X.env) :: starEach [] X.env) : PE X (.Call (.Name "len" p) [.Call (.Name "set" p2) [a] [] q] [] pos) (tLenSetG X.K ta) := by
  refine ⟨fun pins s σ H Q I h => ?_⟩
  refine PyProof.Rows.Call_ (ld_blt I hg hm boot_len ?_)
  refine PyProof.Rows.callWith_builtin1 (PyProof.Rows.args_cons ?_ rfl) rfl rfl
  refine PyProof.Rows.Call_ (ld_blt I hg2 hm2 PyProof.Rows.boot_set ?_)
  refine PyProof.Rows.callWith_type1 (PyProof.Rows.args_cons (thn (ha.run pins s σ H _ I h) fun v s1 ⟨x, H1, I1, r1, q1⟩ => PyProof.Rows.args_nil ?_) na) na rfl
  obtain ⟨l, ns, rfl, hq, hl, q1⟩ := q1
  cases r1
  obtain ⟨its, r, pl, hz⟩ := I1.list hq
  have hlen : its.toArray.size = ns.length := by rw [List.size_toArray, ← r.length, List.length_map]
  refine call_set_list (I1.ok.hd hc) pl.isList (by simpa using RZ.intsAre_vals r) (by rw [hlen]; unfold scanBound; omega) fun h' tk hS hk => ?_
  refine PyProof.Rows.args_nil ?_
  rw [hlen] at hS
  have hle : (PyProof.Rows.firstMet (fun i => ns.getD i 0) ns.length).length ≤ ns.length := PyProof.Rows.firstMet_length_le _ _
  obtain ⟨o, es, ep, t, ho, hex, hd, _, _, _, hf, hn⟩ := hS
  have I2 : Inv X pins σ H1 { s1 with heap := h', toks := tk } := I1.kept fun b o e => hk b o (Heap.lt_size e) e
  exact call_len_set ho hex hd hf (by rw [hn] <;> omega) ⟨.int ((ddup ns).length : Nat), H1, I2.tok _, ⟨_, by rw [hn] <;> rfl⟩, q1⟩
theorem ddup_sub (ns : List Int) : ∀ k, k ≤ ns.length → (PyProof.Rows.firstMet (fun i => ns.getD i 0) k).Nodup ∧ ∀ x, x ∈ PyProof.Rows.firstMet (fun i => ns.getD i 0) k ↔ x ∈ ns.take k
  | 0, _ => by simp [PyProof.Rows.firstMet_zero]
  | k + 1, hk => by
    obtain ⟨h1, h2⟩ := ddup_sub ns k (by omega)
    have e : ns.getD k 0 = ns[k] := by simp [List.getD_eq_getElem?_getD, List.getElem?_eq_getElem (show k < ns.length by omega)]
    have tk : ns.take (k + 1) = ns.take k ++ [ns[k]] := by rw [List.take_add_one, List.getElem?_eq_getElem (by omega)]; rfl
    rw [PyProof.Rows.firstMet_succ]
    unfold PyProof.Rows.step_dedup
    rw [tk, e]
    split
    · rename_i hb
      obtain ⟨y, hy, ey⟩ := List.any_eq_true.mp hb
      have ey : y = ns[k] := eq_of_beq ey
      subst ey
      refine ⟨h1, fun x => ?_⟩
      rw [h2, List.mem_append, List.mem_singleton]
      refine ⟨.inl, fun z => z.elim id fun z => ?_⟩
      rw [z]
      exact (h2 _).mp hy
    · rename_i hb
      have nin : ns[k] ∉ PyProof.Rows.firstMet (fun i => ns.getD i 0) k := fun z => hb (List.any_eq_true.mpr ⟨_, z, beq_self_eq_true _⟩)
      refine ⟨List.nodup_append.mpr ⟨h1, by simp, fun x hx y hy z => ?_⟩, fun x => ?_⟩
      · rw [List.mem_singleton] at hy
        subst z hy
        exact nin hx
      · rw [List.mem_append, List.mem_append, h2]
theorem nodup_sub_len : ∀ {xs ys : List Int}, xs.Nodup → (∀ x ∈ xs, x ∈ ys) → xs.length ≤ ys.length
  | [], _, _, _ => Nat.zero_le _
  | x :: xs, ys, nd, h => by
    rw [List.nodup_cons] at nd
    have hx := h x List.mem_cons_self
    have := nodup_sub_len (xs := xs) (ys := ys.erase x) nd.2 fun z hz => (List.mem_erase_of_ne (fun e => by rw [e] at hz; exact nd.1 hz)).mpr (h z (List.mem_cons_of_mem _ hz))
    rw [List.length_erase_of_mem hx] at this
    have : 0 < ys.length := List.length_pos_of_mem hx
    simp only [List.length_cons]
    omega
theorem ddup_len (ns : List Int) : (ddup ns).length = ns.length ↔ ns.Nodup := by
  obtain ⟨h1, h2⟩ := ddup_sub ns ns.length (Nat.le_refl _)
  rw [List.take_length] at h2
  constructor
  · intro e
    induction ns with
    | nil => simp
    | cons n ns ih =>
      refine Classical.byContradiction fun hn => ?_
      -- some item stands twice: fewer different ones than items
      have key : ∀ (ms : List Int), ¬ ms.Nodup → ∃ z : List Int, (∀ x ∈ ms, x ∈ z) ∧ z.length < ms.length := by
        intro ms
        induction ms with
        | nil => intro h; exact absurd List.nodup_nil h
        | cons m ms ih2 =>
          intro h
          by_cases hm : m ∈ ms
          · exact ⟨ms, fun x hx => (List.mem_cons.mp hx).elim (fun e => by rw [e]; exact hm) id, by simp⟩
          · have : ¬ ms.Nodup := fun z => h (List.nodup_cons.mpr ⟨hm, z⟩)
            obtain ⟨z, z1, z2⟩ := ih2 this
            refine ⟨m :: z, fun x hx => (List.mem_cons.mp hx).elim (fun e => by simp [e]) fun q => List.mem_cons_of_mem _ (z1 x q), by simp; omega⟩
      obtain ⟨z, z1, z2⟩ := key _ hn
      have := nodup_sub_len h1 fun x hx => z1 x ((h2 x).mp hx)
      have e' : (PyProof.Rows.firstMet (fun i => (n :: ns).getD i 0) (n :: ns).length).length = (n :: ns).length := e
      omega
  · intro nd
    have a1 := nodup_sub_len h1 fun x hx => (h2 x).mp hx
    have a2 := nodup_sub_len nd fun x hx => (h2 x).mpr hx
    unfold ddup
    omega

/-! ### isinstance -/
def tyD : D → String
  | .none => "NoneType"
  | .bool _ => "bool"
  | .int _ => "int"
  | .str _ => "str"
  | .list _ => "list"
  | .tuple _ => "tuple"
  | .dict _ => "dict"
theorem rep_ty {K : Fg} {H : Hp} {v : V} {d : D} (h : Rep H v d) : TyX K H v (.type (tyD d)) := by
  cases h with
  | non => exact .base .non
  | bl b => exact .base (.bl b)
  | int b => exact .base (.int b)
  | str b => exact .base (.str b)
  | lst h _ => exact .base (.lst h)
  | tup h _ => exact .base (.tup h)
  | dct h => exact .base (.dK h)
def isInt : D → Bool
  | .int _ => true
  | .bool _ => true
  | _ => false
def isBool : D → Bool
  | .bool _ => true
  | _ => false
def isList : D → Bool
  | .list _ => true
  | _ => false
def isStr : D → Bool
  | .str _ => true
  | _ => false
def isTuple : D → Bool
  | .tuple _ => true
  | _ => false
theorem kit_int : ∀ d : D, kitB (tyD d) "int" = some (isInt d)
  | .none => by decide +kernel
  | .bool _ => by show kitB "bool" "int" = some true; decide +kernel
  | .int _ => by show kitB "int" "int" = some true; decide +kernel
  | .str _ => by show kitB "str" "int" = some false; decide +kernel
  | .list _ => by show kitB "list" "int" = some false; decide +kernel
  | .tuple _ => by show kitB "tuple" "int" = some false; decide +kernel
  | .dict _ => by show kitB "dict" "int" = some false; decide +kernel
theorem kit_bool : ∀ d : D, kitB (tyD d) "bool" = some (isBool d)
  | .none => by decide +kernel
  | .bool _ => by show kitB "bool" "bool" = some true; decide +kernel
  | .int _ => by show kitB "int" "bool" = some false; decide +kernel
  | .str _ => by show kitB "str" "bool" = some false; decide +kernel
  | .list _ => by show kitB "list" "bool" = some false; decide +kernel
  | .tuple _ => by show kitB "tuple" "bool" = some false; decide +kernel
  | .dict _ => by show kitB "dict" "bool" = some false; decide +kernel
theorem kit_list : ∀ d : D, kitB (tyD d) "list" = some (isList d)
  | .none => by decide +kernel
  | .bool _ => by show kitB "bool" "list" = some false; decide +kernel
  | .int _ => by show kitB "int" "list" = some false; decide +kernel
  | .str _ => by show kitB "str" "list" = some false; decide +kernel
  | .list _ => by show kitB "list" "list" = some true; decide +kernel
  | .tuple _ => by show kitB "tuple" "list" = some false; decide +kernel
  | .dict _ => by show kitB "dict" "list" = some false; decide +kernel
theorem kit_str : ∀ d : D, kitB (tyD d) "str" = some (isStr d)
  | .none => by decide +kernel
  | .bool _ => by show kitB "bool" "str" = some false; decide +kernel
  | .int _ => by show kitB "int" "str" = some false; decide +kernel
  | .str _ => by show kitB "str" "str" = some true; decide +kernel
  | .list _ => by show kitB "list" "str" = some false; decide +kernel
  | .tuple _ => by show kitB "tuple" "str" = some false; decide +kernel
  | .dict _ => by show kitB "dict" "str" = some false; decide +kernel
theorem kit_tuple : ∀ d : D, kitB (tyD d) "tuple" = some (isTuple d)
  | .none => by decide +kernel
  | .bool _ => by show kitB "bool" "tuple" = some false; decide +kernel
  | .int _ => by show kitB "int" "tuple" = some false; decide +kernel
  | .str _ => by show kitB "str" "tuple" = some false; decide +kernel
  | .list _ => by show kitB "list" "tuple" = some false; decide +kernel
  | .tuple _ => by show kitB "tuple" "tuple" = some true; decide +kernel
  | .dict _ => by show kitB "dict" "tuple" = some false; decide +kernel
section
variable {X : Cx} {Γ : Gm} {ρ ρ' : List Sl} {e a b c o : Expr} {es : List Expr} {pos p p' p2 q2 apos cpos : Pos} {κ κ' : Kd} {d d' : D} {x y z : V} {t t' : OT} {σ : L2.St} {G H G1 H1 G2 H2 : Hp} {n : Str} {i j : Int} {α β : Type} {f : α → D} {g : α → OT} {E : En} {rest body : List Stmt}
theorem dv_lenSet {ns : List Int} (xo : XO X) (ha : DE X Γ ρ a κ (dl dI ns)) (hl : ns.length ≤ 4000) (hm : X.mg "len" = none) (hm2 : X.mg "set" = none) (hg : Gl X "len" := by rfl) (hg2 : Gl X "set" := by rfl) (na : starEach [a] X.env = (false, eval a X.env) :: starEach [] X.env := by rfl) :
    DV X Γ ρ (.Call (.Name "len" p) [.Call (.Name "set" p2) [a] [] q2] [] pos) (.int ((ddup ns).length : Int)) :=
  (pe_lenSetG hg hm hg2 hm2 ha xo.calm na).weak fun σ H Q ⟨G, S, k⟩ => ⟨G, S, fun v G1 H1 s1 e1 q => by
    obtain ⟨a, xs, rfl, h, r⟩ := Rep.l (pK_c S s1 e1 q)
    exact ⟨a, ns, rfl, by rw [← r.ints]; exact SqL.of h, hl, k _ G1 H1 s1 e1 rfl⟩⟩
theorem dv_isi {T : String} {tn : Str} {r : Bool} (ha : DE X Γ ρ a κ d) (hq : kitB (tyD d) T = some r) (hm2 : X.mg tn = none) (hv2 : bootBuiltins tn = some (.type T)) (hm : X.mg "isinstance" = none) (hg : Gl X "isinstance" := by rfl) (hg2 : Gl X tn := by rfl) (hn : tn ≠ "__name__" := by decide) (hd : (tn == ("__debug__" : Str)) = false := by decide)
    (he : starEach [a, .Name tn p2] X.env = (false, eval a X.env) :: starEach [.Name tn p2] X.env := by rfl) (he2 : starEach [.Name tn p2] X.env = (false, eval (.Name tn p2) X.env) :: starEach [] X.env := by rfl) (hpl : (backTo pos (starEach [.Name tn p2] X.env)).any (·.1) = false := by rfl) :
    DV X Γ ρ (.Call (.Name "isinstance" p) [a, .Name tn p2] [] pos) (.bl r) :=
  cb2 (pe_callB call_isi hg hm PyProof.Rows.boot_isinstance (pa_cons ha (pa_cons (dv_bltn (x := .ty T) (Γ := Γ) (ρ := ρ) hg2 hm2 hv2 rfl hn hd) pa_nil he2) he) (by decide) (by decide) he hpl) fun σ G H G1 H1 G2 H2 v u Q S s1 e1 q1 s2 e2 q2 k =>
    ⟨v, u, _, _, r, rfl, by rw [q2]; exact .ty T, rep_ty (Rep.mono s2.h (pK_c S s1 e1 q1)), kit_ty hq, k _ G2 H2 (Step.refl _ _) e2 rfl⟩

/-! ### loops in short -/
theorem Wk.trans : ∀ {ρ1 ρ2 ρ3 : List Sl}, Wk ρ1 ρ2 → Wk ρ2 ρ3 → Wk ρ1 ρ3
  | _, _, _, .nil, .nil => .nil
  | _, _, _, .same w, .same w' => .same (Wk.trans w w')
  | _, _, _, .same w, .un w' => .un (Wk.trans w w')
  | _, _, _, .un w, .same w' => .un (Wk.trans w w')
  | _, _, _, .un w, .un w' => .un (Wk.trans w w')
theorem Wk.eq {s s' : Sl} {ρ ρ' : List Sl} (h : s = s') (w : Wk ρ ρ') : Wk (s :: ρ) (s' :: ρ') := h ▸ .same w
theorem Wk_set : ∀ {ρ ρ' : List Sl}, Wk ρ ρ' → ∀ (j : Nat) (s : Sl), Wk (ρ.set j s) (ρ'.set j s)
  | _, _, .nil, _, _ => .nil
  | _, _, .same w, 0, _ => .same w
  | _, _, .un w, 0, _ => .same w
  | _, _, .same w, j + 1, s => .same (Wk_set w j s)
  | _, _, .un w, j + 1, s => .un (Wk_set w j s)
theorem ss_for1 {m : Nat} {it : Nat → Sl} (xo : XO X) (hp : PassesOwn (model X.prog X.w) X.A X.env X.xe) (j : Nat) (hi : DI X Γ ρ (.Name n p) e m it) (u : Nat → List Sl → List Sl) (I : Nat → Prop) (w0 : Wk ρ (u 0 ρ)) (i0 : I 0)
    (hs : ∀ i, i < m → I i → SS X Γ ((u i ρ).set j (it i)) body { E with nx := fun ρ2 => Wk ρ2 (u (i + 1) ρ) ∧ I (i + 1), ct := fun ρ2 => Wk ρ2 (u (i + 1) ρ) ∧ I (i + 1), bk := fun _ => False })
    (hd : I m → SS X Γ (u m ρ) rest E) (hj : X.N[j]? = some n := by rfl) (hx : Loc X.env.scope n := by first | exact .inl rfl | exact .inr rfl) (hf : X.fn n = true ∨ X.env.scope.names.lookup n = some .local := by first | exact .inl rfl | exact .inr rfl)
    (hs2 : ∀ x, foldedSetIterable e X.env x = pure x := by intro _; rfl) : SS X Γ ρ (.For (.Name n p) e body [] pos :: rest) E :=
  ss_for (hh := fun i ρ => ρ.set j (it i)) hp xo.calm hi (pg_name xo.nd hj hx hf) (fun i _ ρ σ G H v Q S h k => k _ (S.store (Step.refl _ _) S.sub h List.nodup_nil fun _ z => by cases z))
    (fun ρ' i => Wk ρ' (u i ρ) ∧ I i) (fun _ _ => False) ⟨w0, i0⟩ (fun i ρ' h1 ⟨h2, h3⟩ => ss_wk (Wk_set h2 j (it i)) (hs i h1 h3)) (fun ρ' ⟨h1, h2⟩ => ss_wk h1 (hd h2)) (fun _ _ _ z => z.elim) hs2
/-- for a, b in .. -/
theorem ss_for2 {m : Nat} {d1 d2' : Nat → D} {s1 s2 : Nat → Sl} {n1 n2 : Str} {p1 p2 : Pos} {kk} (xo : XO X) (hp : PassesOwn (model X.prog X.w) X.A X.env X.xe) (j1 j2 : Nat) (hi : DI X Γ ρ (.Tuple [.Name n1 p1, .Name n2 p2] kk p) e m (fun i => .sh (.tuple [d1 i, d2' i]))) (q1 : ∀ i, SubSl (d1 i) (s1 i)) (q2 : ∀ i, SubSl (d2' i) (s2 i))
    (u : Nat → List Sl → List Sl) (I : Nat → Prop) (w0 : Wk ρ (u 0 ρ)) (i0 : I 0)
    (hs : ∀ i, i < m → I i → SS X Γ (((u i ρ).set j1 (s1 i)).set j2 (s2 i)) body { E with nx := fun ρ2 => Wk ρ2 (u (i + 1) ρ) ∧ I (i + 1), ct := fun ρ2 => Wk ρ2 (u (i + 1) ρ) ∧ I (i + 1), bk := fun _ => False })
    (hd : I m → SS X Γ (u m ρ) rest E) (hj1 : X.N[j1]? = some n1 := by rfl) (hx1 : Loc X.env.scope n1 := by first | exact .inl rfl | exact .inr rfl) (hf1 : X.fn n1 = true ∨ X.env.scope.names.lookup n1 = some .local := by first | exact .inl rfl | exact .inr rfl)
    (hj2 : X.N[j2]? = some n2 := by rfl) (hx2 : Loc X.env.scope n2 := by first | exact .inl rfl | exact .inr rfl) (hf2 : X.fn n2 = true ∨ X.env.scope.names.lookup n2 = some .local := by first | exact .inl rfl | exact .inr rfl)
    (ha1 : (assignEach [.Name n1 p1, .Name n2 p2] X.env).map (·.2) = assign (.Name n1 p1) X.env :: (assignEach [.Name n2 p2] X.env).map (·.2) := by rfl) (ha2 : (assignEach [.Name n2 p2] X.env).map (·.2) = assign (.Name n2 p2) X.env :: (assignEach [] X.env).map (·.2) := by rfl)
    (hn : (assignEach [.Name n1 p1, .Name n2 p2] X.env).length = 2 := by rfl) (hst : (assignEach [.Name n1 p1, .Name n2 p2] X.env).findIdx? (·.1) = none := by rfl)
    (hs2 : ∀ x, foldedSetIterable e X.env x = pure x := by intro _; rfl) : SS X Γ ρ (.For (.Tuple [.Name n1 p1, .Name n2 p2] kk p) e body [] pos :: rest) E :=
  ss_for (hh := fun i ρ => (ρ.set j1 (s1 i)).set j2 (s2 i)) hp xo.calm hi (pg_tup xo.calm (pgs_cons (pg_name xo.nd hj1 hx1 hf1) (pgs_cons (pg_name xo.nd hj2 hx2 hf2) pgs_nil ha2) ha1) hn hst)
    (fun i _ ρ σ G H v Q S h k => by
      cases h with
      | sh r =>
        cases r with
        | @tup a xs _ ht r =>
          cases r with
          | cons r1 r =>
            cases r with
            | cons r2 r =>
              cases r
              exact ⟨a, _, rfl, SqT.of (S.sub _ _ ht), rfl, _, _, rfl, _, _, rfl, rfl, k _ ((S.store (Step.refl _ _) S.sub ((q1 i).sl r1) List.nodup_nil fun _ z => by cases z).store (Step.refl _ _) S.sub ((q2 i).sl r2) List.nodup_nil fun _ z => by cases z)⟩)
    (fun ρ' i => Wk ρ' (u i ρ) ∧ I i) (fun _ _ => False) ⟨w0, i0⟩ (fun i ρ' h1 ⟨h2, h3⟩ => ss_wk (Wk_set (Wk_set h2 j1 (s1 i)) j2 (s2 i)) (hs i h1 h3)) (fun ρ' ⟨h1, h2⟩ => ss_wk h1 (hd h2)) (fun _ _ _ z => z.elim) hs2
/-- while: τ the state, b the test's answer, μ falls -/
theorem ss_while {τ : Type} (xo : XO X) (hp : PassesOwn (model X.prog X.w) X.A X.env X.xe) (uu : τ → List Sl → List Sl) (I : τ → Prop) (μ : τ → Nat) (bb : τ → Bool) (t0 : τ) (w0 : Wk ρ (uu t0 ρ)) (i0 : I t0) (hc : ∀ t, I t → DT X Γ (uu t ρ) c (bb t))
    (hb : ∀ t, I t → bb t = true → SS X Γ (uu t ρ) body { E with nx := fun ρ2 => ∃ t', I t' ∧ μ t' < μ t ∧ Wk ρ2 (uu t' ρ), ct := fun ρ2 => ∃ t', I t' ∧ μ t' < μ t ∧ Wk ρ2 (uu t' ρ), bk := fun _ => False })
    (hd : ∀ t, I t → bb t = false → SS X Γ (uu t ρ) rest E) : SS X Γ ρ (.While c body [] pos :: rest) E := by
  have hC : PT X c (fun σ H Q => ∃ t, I t ∧ tT Γ (uu t ρ) (bb t) σ H Q) := ⟨fun pins s σ H Q II ⟨t, h, q⟩ => (hc t h).run pins s σ H Q II q⟩
  have hB : PSs X body (fun D σ H => ∃ t, I t ∧ bb t = true ∧ tS Γ (uu t ρ) { E with nx := fun ρ2 => ∃ t', I t' ∧ μ t' < μ t ∧ Wk ρ2 (uu t' ρ), ct := fun ρ2 => ∃ t', I t' ∧ μ t' < μ t ∧ Wk ρ2 (uu t' ρ), bk := fun _ => False } D σ H) := ⟨fun pins s σ H D II ⟨t, h1, h2, q⟩ => (hb t h1 h2).run pins s σ H D II q⟩
  refine ss_wk w0 (ss_cons (M := fun ρ' => ∃ t, I t ∧ bb t = false ∧ ρ' = uu t ρ) ((ps_while hp hC hB).weak fun D σ H ⟨G0, S0, k⟩ => ?_) fun ρ' ⟨t, h1, h2, h3⟩ => h3 ▸ hd t h1 h2)
  refine ⟨fun m σ H => ∃ t G, μ t = m ∧ I t ∧ Sr Γ G H σ (uu t ρ) ∧ Ex G0 G, ⟨_, t0, G0, rfl, i0, S0, Ex.refl _⟩, ?_⟩
  rintro m σ1 H1 ⟨t, G, rfl, it, S, eg⟩
  refine ⟨t, it, G, S, fun G2 H2 st2 ex => ?_⟩
  cases hbt : bb t with
  | true =>
    refine iteT ⟨fun σ3 H3 => ∃ t' G3, I t' ∧ μ t' < μ t ∧ Sr Γ G3 H3 σ3 (uu t' ρ) ∧ Ex G0 G3, fun σ3 H3 ⟨t', G3, h1, h2, h3, h4⟩ => ⟨μ t', h2, t', G3, rfl, h1, h3, h4⟩, ?_⟩
    exact ⟨t, it, hbt, G2, S.more st2 ex, ⟨fun ρ3 σ3 G3 H3 ⟨t', h1, h2, h3⟩ S3 x => ⟨t', G3, h1, h2, S3.wk h3, (eg.trans st2.g).trans x⟩, fun _ _ _ _ z => z.elim, fun ρ3 σ3 G3 H3 ⟨t', h1, h2, h3⟩ S3 x => ⟨t', G3, h1, h2, S3.wk h3, (eg.trans st2.g).trans x⟩, k.rt⟩⟩
  | false => exact iteF (k.nx _ _ G2 H2 ⟨t, it, hbt, rfl⟩ (S.more st2 ex) (eg.trans st2.g))

/-! ### more changes of lists of ints -/
theorem OwnTs.intsV {ns : List Int} {vs : List V} {B : List Addr} (h : OwnTs G H (ns.map tI) vs B) : vs = ns.map V.int ∧ B = [] := by
  induction ns generalizing vs B with
  | nil => cases h; exact ⟨rfl, rfl⟩
  | cons n ns ih =>
    rw [List.map_cons] at h
    unfold tI at h
    cases h with
    | cons h r =>
      cases h with
      | fz hr =>
        cases hr
        obtain ⟨e1, e2⟩ := ih r
        rw [e1, e2]
        exact ⟨rfl, rfl⟩
/-- left.remove(k) -/
theorem ss_rem (i : Nat) {ns : List Int} {k : Int} (ho : DPl X Γ ρ o i []) (he : DV X Γ ρ e (.int k)) (h : ρ[i]? = some (.ow (tl tI ns))) (hk : k ∈ ns) (hr : SS X Γ (ρ.set i (.ow (tl tI (ns.erase k)))) rest E)
    (hbase : attributeBase o "remove" X.env (eval o X.env) = eval o X.env := by rfl)
    (hfew : ((backTo cpos (starEach [e] X.env)).all (fun x => !x.1) && (backToKw cpos (keywordEach [] X.env)).all (fun x => x.1.isSome) && decide (([e] : List Expr).length + ([] : List Keyword).length + (if ([] : List Keyword).isEmpty then 0 else 1) < 30)) = true := by rfl)
    (hline : (apos.endLine == cpos.line) = true := by rfl) (hs : starEach [e] X.env = (false, eval e X.env) :: starEach [] X.env := by rfl) (hplain : (backTo cpos (starEach [] X.env)).any (·.1) = false := by rfl)
    (hsw : swapsWith (.Call (.Attribute o "remove" apos) [e] [] cpos) none pos.line X.env = pure false := by rfl) : SS X Γ ρ (.Expr (.Call (.Attribute o "remove" apos) [e] [] cpos) pos :: rest) E :=
  ss_cons (M := fun ρ' => ρ' = ρ.set i (.ow (tl tI (ns.erase k)))) ((ps_expr (pe_bm PySem.F.plainAttrs_list PySem.F.slot_list_remove PySem.F.type_list_remove mt_remove ho (pa_cons he pa_nil hs) hbase hfew hline hs hplain) hsw).weak fun D σ H ⟨G, S, kk⟩ =>
    ⟨G, S, fun v G1 H1 s1 e1 ⟨v0, h0, hv⟩ => by
      obtain ⟨A, SA⟩ := (S.more s1 e1).ad
      obtain ⟨a, rfl⟩ := (S.more s1 e1).ref (ts := ns.map tI) h (at_nil _) h0 hv
      obtain ⟨vs1, B1, q1, _⟩ := SA.mut (ts := ns.map tI) h (at_nil _) h0 hv
      refine ⟨ty_list q1, G1, S.more s1 e1, fun w G2 H2 s2 e2 (qw : w = .int k) => ?_⟩
      have SA2 := SA.more s2 e2
      obtain ⟨vs, B, q1, q2, q3, q4, q5, q6, q7, q8⟩ := SA2.mut (ts := ns.map tI) h (at_nil _) h0 (hv.mono s2.h)
      obtain ⟨ev, eB⟩ := q4.intsV
      subst ev eB
      have hj : ns.idxOf k < ns.length := List.idxOf_lt_length_iff.mpr hk
      refine ⟨a, ns, k, ns.idxOf k, rfl, by rw [qw], q1, ?_, fun m hm hx => ?_, ?_⟩
      · rw [List.getElem?_eq_getElem hj]
        simp
      · have hml : m < ns.length := by omega
        have h1 : ns[m] = k := by rw [List.getElem?_eq_getElem hml] at hx; exact Option.some.inj hx
        have h2 := List.not_of_lt_findIdx (p := (· == k)) (xs := ns) (i := m) hm
        rw [h1] at h2
        simp at h2
      · rw [← List.erase_eq_eraseIdx_of_idxOf rfl]
        have w := q8 ((ns.erase k).map tI) ((ns.erase k).map V.int) [] OwnTs.ints List.nodup_nil (by simp) (by simp) (by simp)
        exact kk.nx _ _ G2 _ rfl w (s1.g.trans s2.g)⟩) fun ρ' e => e ▸ hr
/-- xs.clear() -/
theorem ss_clear (i : Nat) {ts : List OT} (ho : DPl X Γ ρ o i []) (h : ρ[i]? = some (.ow (.cell ts))) (hr : SS X Γ (ρ.set i (.ow (.cell []))) rest E)
    (hbase : attributeBase o "clear" X.env (eval o X.env) = eval o X.env := by rfl) (hline : (apos.endLine == cpos.line) = true := by rfl)
    (hsw : swapsWith (.Call (.Attribute o "clear" apos) [] [] cpos) none pos.line X.env = pure false := by rfl) : SS X Γ ρ (.Expr (.Call (.Attribute o "clear" apos) [] [] cpos) pos :: rest) E :=
  ss_cons (M := fun ρ' => ρ' = ρ.set i (.ow (.cell []))) ((ps_expr (pe_bm0 PySem.F.plainAttrs_list PySem.F.slot_list_clear PySem.F.type_list_clear mt_clear ho hbase hline) hsw).weak fun D σ H ⟨G, S, kk⟩ =>
    ⟨G, S, fun v G1 H1 s1 e1 ⟨v0, h0, hv⟩ => by
      obtain ⟨A, SA⟩ := (S.more s1 e1).ad
      obtain ⟨a, rfl⟩ := (S.more s1 e1).ref (ts := ts) h (at_nil _) h0 hv
      obtain ⟨vs, B, q1, q2, q3, q4, q5, q6, q7, q8⟩ := SA.mut (ts := ts) h (at_nil _) h0 hv
      refine ⟨ty_list q1, a, vs, rfl, rfl, q1, ?_⟩
      exact kk.nx _ _ G1 _ rfl (q8 [] [] [] .nil List.nodup_nil (by simp) (by simp) (by simp)) s1.g⟩) fun ρ' e => e ▸ hr
theorem eraseIdx_map' {α β : Type} (f : α → β) : ∀ (xs : List α) (k : Nat), (xs.map f).eraseIdx k = (xs.eraseIdx k).map f
  | [], _ => by simp
  | x :: xs, 0 => by simp
  | x :: xs, k + 1 => by simp [eraseIdx_map' f xs k]
/-- x.append(y.pop(k)), both of ints -/
theorem ss_appPop (i j : Nat) {o2 ek : Expr} {apos2 cpos2 : Pos} {ns ms : List Int} {k : Int} (ho : DPl X Γ ρ o i []) (ho2 : DPl X Γ ρ o2 j []) (hk : DV X Γ ρ ek (.int k)) (h : ρ[i]? = some (.ow (tl tI ns))) (h2 : ρ[j]? = some (.ow (tl tI ms))) (hij : i ≠ j) (hl : ns.length < 16000000) (hr0 : 0 ≤ k ∧ k < ms.length) (hb : k < 2 ^ 63)
    (hr : SS X Γ ((ρ.set j (.ow (tl tI (ms.eraseIdx k.toNat)))).set i (.ow (tl tI (ns ++ [ms.getD k.toNat 0])))) rest E)
    (hbase : attributeBase o "append" X.env (eval o X.env) = eval o X.env := by rfl)
    (hfew : ((backTo cpos (starEach [.Call (.Attribute o2 "pop" apos2) [ek] [] cpos2] X.env)).all (fun x => !x.1) && (backToKw cpos (keywordEach [] X.env)).all (fun x => x.1.isSome) && decide (([.Call (.Attribute o2 "pop" apos2) [ek] [] cpos2] : List Expr).length + ([] : List Keyword).length + (if ([] : List Keyword).isEmpty then 0 else 1) < 30)) = true := by rfl)
    (hline : (apos.endLine == cpos.line) = true := by rfl) (hs : starEach [.Call (.Attribute o2 "pop" apos2) [ek] [] cpos2] X.env = (false, eval (.Call (.Attribute o2 "pop" apos2) [ek] [] cpos2) X.env) :: starEach [] X.env := by rfl) (hplain : (backTo cpos (starEach [] X.env)).any (·.1) = false := by rfl)
    (hbase2 : attributeBase o2 "pop" X.env (eval o2 X.env) = eval o2 X.env := by rfl)
    (hfew2 : ((backTo cpos2 (starEach [ek] X.env)).all (fun x => !x.1) && (backToKw cpos2 (keywordEach [] X.env)).all (fun x => x.1.isSome) && decide (([ek] : List Expr).length + ([] : List Keyword).length + (if ([] : List Keyword).isEmpty then 0 else 1) < 30)) = true := by rfl)
    (hline2 : (apos2.endLine == cpos2.line) = true := by rfl) (hs2 : starEach [ek] X.env = (false, eval ek X.env) :: starEach [] X.env := by rfl) (hplain2 : (backTo cpos2 (starEach [] X.env)).any (·.1) = false := by rfl)
    (hsw : swapsWith (.Call (.Attribute o "append" apos) [.Call (.Attribute o2 "pop" apos2) [ek] [] cpos2] [] cpos) none pos.line X.env = pure false := by rfl) :
    SS X Γ ρ (.Expr (.Call (.Attribute o "append" apos) [.Call (.Attribute o2 "pop" apos2) [ek] [] cpos2] [] cpos) pos :: rest) E :=
  ss_cons (M := fun ρ' => ρ' = (ρ.set j (.ow (tl tI (ms.eraseIdx k.toNat)))).set i (.ow (tl tI (ns ++ [ms.getD k.toNat 0])))) ((ps_expr (pe_bm PySem.F.plainAttrs_list PySem.F.slot_list_append PySem.F.type_list_append mt_append ho
      (pa_cons (pe_bm PySem.F.plainAttrs_list PySem.F.slot_list_pop PySem.F.type_list_pop mt_popAt ho2 (pa_cons hk pa_nil hs2) hbase2 hfew2 hline2 hs2 hplain2) pa_nil hs) hbase hfew hline hs hplain) hsw).weak fun D σ H ⟨G, S, kk⟩ =>
    ⟨G, S, fun v G1 H1 s1 e1 ⟨v0, h0, hv⟩ => by
      have S1 := S.more s1 e1
      obtain ⟨A, SA⟩ := S1.ad
      obtain ⟨a, rfl⟩ := S1.ref (ts := ns.map tI) h (at_nil _) h0 hv
      obtain ⟨vs1, B1, q1, _⟩ := SA.mut (ts := ns.map tI) h (at_nil _) h0 hv
      refine ⟨ty_list q1, G1, S1, fun v2 G2 H2 s2 e2 ⟨w0, g0, gv⟩ => ?_⟩
      have S2 := S1.more s2 e2
      obtain ⟨b, rfl⟩ := S2.ref (ts := ms.map tI) h2 (at_nil _) g0 gv
      have SA2 := SA.more s2 e2
      obtain ⟨us1, C1, z1, _⟩ := SA2.mut (ts := ms.map tI) h2 (at_nil _) g0 gv
      refine ⟨ty_list z1, G2, S2, fun w G3 H3 s3 e3 (qw : w = .int k) => ?_⟩
      have SA3 := SA2.more s3 e3
      obtain ⟨us, C, z1, z2, z3, z4, z5, z6, z7, z8⟩ := SA3.mut (ts := ms.map tI) h2 (at_nil _) g0 (gv.mono s3.h)
      obtain ⟨eu, eC⟩ := z4.intsV
      subst eu eC
      have hkl : k.toNat < ms.length := by omega
      have eg : (ms.map V.int)[k.toNat]? = some (.int (ms.getD k.toNat 0)) := by
        rw [List.getElem?_map, List.getElem?_eq_getElem hkl]
        simp [List.getD_eq_getElem?_getD, hkl]
      refine ⟨b, _, k, k.toNat, _, rfl, by rw [qw], z1, by omega, hb, ?_, eg, ?_⟩
      · rw [PySem.seqIndex_of hr0.1 (by rw [List.length_map]; exact hr0.2)]
      have S4 := z8 ((ms.eraseIdx k.toNat).map tI) ((ms.map V.int).eraseIdx k.toNat) [] (by rw [eraseIdx_map']; exact OwnTs.ints) List.nodup_nil (by simp) (by simp) (by simp)
      have h' : (ρ.set j (.ow (OT.put [] (tl tI ms) (.cell ((ms.eraseIdx k.toNat).map tI)))))[i]? = some (.ow (tl tI ns)) := by rw [List.getElem?_set_ne (Ne.symm hij)]; exact h
      obtain ⟨A4, SA4⟩ := S4.ad
      have hva : v0 = .ref a := hv
      obtain ⟨vs, B, y1, y2, y3, y4, y5, y6, y7, y8⟩ := SA4.mut (p := []) (a := a) (ts := ns.map tI) h' (at_nil _) h0 hva
      obtain ⟨ev, eB⟩ := y4.intsV
      subst ev eB
      refine ⟨a, _, _, rfl, rfl, y1, by rw [List.length_map]; exact Nat.lt_of_lt_of_le hl (by decide), ?_⟩
      have w := y8 ((ns ++ [ms.getD k.toNat 0]).map tI) ((ns.map V.int) ++ [.int (ms.getD k.toNat 0)]) [] (by
        have : (ns.map V.int) ++ [V.int (ms.getD k.toNat 0)] = (ns ++ [ms.getD k.toNat 0]).map V.int := by rw [List.map_append]; rfl
        rw [this]; exact OwnTs.ints) List.nodup_nil (by simp) (by simp) (by simp)
      exact kk.nx _ _ G3 _ rfl w ((s1.g.trans s2.g).trans s3.g)⟩) fun ρ' e => e ▸ hr
/-- xs.index(k) of ints -/
theorem dv_index {ns : List Int} {k : Int} (ho : DE X Γ ρ o κ (dl dI ns)) (he : DV X Γ ρ e (.int k)) (hk : k ∈ ns)
    (hbase : attributeBase o "index" X.env (eval o X.env) = eval o X.env := by rfl)
    (hfew : ((backTo cpos (starEach [e] X.env)).all (fun x => !x.1) && (backToKw cpos (keywordEach [] X.env)).all (fun x => x.1.isSome) && decide (([e] : List Expr).length + ([] : List Keyword).length + (if ([] : List Keyword).isEmpty then 0 else 1) < 30)) = true := by rfl)
    (hline : (apos.endLine == cpos.line) = true := by rfl) (hs : starEach [e] X.env = (false, eval e X.env) :: starEach [] X.env := by rfl) (hplain : (backTo cpos (starEach [] X.env)).any (·.1) = false := by rfl) :
    DV X Γ ρ (.Call (.Attribute o "index" apos) [e] [] cpos) (.int (ns.idxOf k : Int)) :=
  (pe_bm PySem.F.plainAttrs_list PySem.F.slot_list_index PySem.F.type_list_index mt_index ho (pa_cons he pa_nil hs) hbase hfew hline hs hplain).weak fun σ H Q ⟨G, S, kk⟩ => ⟨G, S, fun v G1 H1 s1 e1 q => by
    obtain ⟨a, xs, rfl, h, r⟩ := Rep.l (pK_c S s1 e1 q)
    have ev : xs = ns.map V.int := r.ints
    subst ev
    refine ⟨ty_list h, G1, S.more s1 e1, fun w G2 H2 s2 e2 (qw : w = .int k) => ?_⟩
    have hj : ns.idxOf k < ns.length := List.idxOf_lt_length_iff.mpr hk
    refine ⟨a, _, .int k, ns.idxOf k, .int k, rfl, by rw [qw], SqL.of (s2.h _ _ h), rfl, ?_, ?_, ?_, fun m z hm hx => ?_, kk _ G2 H2 (s1.trans s2) e2 rfl⟩
    · simp [flatV]
    · rw [List.getElem?_map, List.getElem?_eq_getElem hj]
      simp
    · simp [eqV]
    · have hml : m < ns.length := by omega
      rw [List.getElem?_map, List.getElem?_eq_getElem hml] at hx
      obtain rfl := Option.some.inj hx
      have h2 := List.not_of_lt_findIdx (p := (· == k)) (xs := ns) (i := m) hm
      simpa [eqV] using h2⟩
end
end DL
namespace DL
open PySem L2
section
variable {X : Cx} {Γ : Gm} {ρ ρ' : List Sl} {e a b c o : Expr} {es : List Expr} {pos p p' p2 q2 apos cpos : Pos} {κ κ' : Kd} {d d' : D} {x y z : V} {t t' : OT} {σ : L2.St} {G H G1 H1 G2 H2 : Hp} {n : Str} {i j : Int} {α β : Type} {f : α → D} {g : β → OT} {E : En} {rest body : List Stmt}
variable {tg elt iter : Expr} {ifs : List Expr} {scope : Scope} {own : List (Str × Nat)} {xs : List α} {s : α → Sl} {ft : α → Bool} {k : α → β} {gg : TG} {js : List Nat} {h : α → List Sl → List Sl}
theorem DV.oI (h : DV X Γ ρ e (.int i)) : DO X Γ ρ e (tI i) := h.dat.own
theorem DV.oB {q : Bool} (h : DV X Γ ρ e (.bl q)) : DO X Γ ρ e (tF PyData.bool q) := h.dat.own
theorem DV.oS {q : Str} (h : DV X Γ ρ e (.str q)) : DO X Γ ρ e (tF PyData.str q) := h.dat.own
theorem DE.oF {x : α} (h : DE X Γ ρ e .z (f x)) : DO X Γ ρ e (tF f x) := h.own
theorem DO.vI (h : DO X Γ ρ e (tI i)) : DV X Γ ρ e (.int i) := h.fzv.int
theorem DO.vB {q : Bool} (h : DO X Γ ρ e (.fz (.bool q))) : DV X Γ ρ e (.bl q) := h.fzv.bool
theorem DO.vS {q : Str} (h : DO X Γ ρ e (.fz (.str q))) : DV X Γ ρ e (.str q) := h.fzv.str
theorem DO.vN (h : DO X Γ ρ e (.fz .none)) : DV X Γ ρ e .non := h.fzv.val rfl
theorem tl_mapf (ys : List α) : tl (fun a => g (k a)) ys = tl g (ys.map k) := by
  unfold tl
  rw [List.map_map]
  rfl
theorem filter_all (xs : List α) : xs.filter (fun _ => true) = xs := by simp
theorem do_lcM (xo : XO X) (own : List (Str × Nat)) (hi : DIc X Γ ρ tg iter xs s) (ok : BlkOk X.N X.env.scope scope own) (hgg : ∀ (s : Shared) (H : Hp) (C : Addr) (cl : List (Str × Addr)) (fp : List Addr), PG (X.blk s H scope (compEnvC scope cl C X.env) fp) tg gg)
    (hg : ∀ a ∈ xs, TgW gg Γ.K js (s a) (h a)) (hj : ∀ j ∈ js, j ∈ own.map (·.2))
    (ht : ∀ (Γ' : Gm), Γ'.K = Γ.K → ∀ a ∈ xs, ∀ (s : Shared) (H : Hp) (C : Addr) (cl : List (Str × Addr)) (fp : List Addr), XO (X.blk s H scope (compEnvC scope cl C X.env) fp) → DTs (X.blk s H scope (compEnvC scope cl C X.env) fp) Γ' (h a (wipeS (ρ.map deo) (own.map (·.2)))) ifs (ft a))
    (he : ∀ (Γ' : Gm), Γ'.K = Γ.K → ∀ a ∈ xs, ft a = true → ∀ (s : Shared) (H : Hp) (C : Addr) (cl : List (Str × Addr)) (fp : List Addr), XO (X.blk s H scope (compEnvC scope cl C X.env) fp) → DO (X.blk s H scope (compEnvC scope cl C X.env) fp) Γ' (h a (wipeS (ρ.map deo) (own.map (·.2)))) elt (g (k a)))
    (hl : xs.length ≤ 16000000) (hs : ∀ x, foldedSetIterable iter X.env x = pure x := by intro _; rfl) : DO X Γ ρ (.ListComp elt [⟨tg, iter, ifs, 0⟩] scope pos) (tl g ((xs.filter ft).map k)) := by
  rw [← tl_mapf]
  exact do_lc xo own hi ok hgg hg hj ht he hl hs
theorem do_lcM0 (xo : XO X) (own : List (Str × Nat)) (hi : DIc X Γ ρ tg iter xs s) (ok : BlkOk X.N X.env.scope scope own) (hgg : ∀ (s : Shared) (H : Hp) (C : Addr) (cl : List (Str × Addr)) (fp : List Addr), PG (X.blk s H scope (compEnvC scope cl C X.env) fp) tg gg)
    (hg : ∀ a ∈ xs, TgW gg Γ.K js (s a) (h a)) (hj : ∀ j ∈ js, j ∈ own.map (·.2))
    (he : ∀ (Γ' : Gm), Γ'.K = Γ.K → ∀ a ∈ xs, ∀ (s : Shared) (H : Hp) (C : Addr) (cl : List (Str × Addr)) (fp : List Addr), XO (X.blk s H scope (compEnvC scope cl C X.env) fp) → DO (X.blk s H scope (compEnvC scope cl C X.env) fp) Γ' (h a (wipeS (ρ.map deo) (own.map (·.2)))) elt (g (k a)))
    (hl : xs.length ≤ 16000000) (hs : ∀ x, foldedSetIterable iter X.env x = pure x := by intro _; rfl) : DO X Γ ρ (.ListComp elt [⟨tg, iter, [], 0⟩] scope pos) (tl g (xs.map k)) := by
  have := do_lcM (ft := fun _ => true) (pos := pos) xo own hi ok hgg hg hj (fun _ _ _ _ _ _ _ _ _ _ => dts_nil) (fun Γ' q a ha _ => he Γ' q a ha) hl hs
  rwa [filter_all] at this
theorem ss_lcM (i : Nat) {y : Str} {py spos : Pos} (xo : XO X) (own : List (Str × Nat)) (hi : DIc X Γ ρ tg iter xs s) (ok : BlkOk X.N X.env.scope scope own) (hgg : ∀ (s : Shared) (H : Hp) (C : Addr) (cl : List (Str × Addr)) (fp : List Addr), PG (X.blk s H scope (compEnvC scope cl C X.env) fp) tg gg)
    (hg : ∀ a ∈ xs, TgW gg Γ.K js (s a) (h a)) (hj : ∀ j ∈ js, j ∈ own.map (·.2))
    (ht : ∀ (Γ' : Gm), Γ'.K = Γ.K → ∀ a ∈ xs, ∀ (s : Shared) (H : Hp) (C : Addr) (cl : List (Str × Addr)) (fp : List Addr), XO (X.blk s H scope (compEnvC scope cl C X.env) fp) → DTs (X.blk s H scope (compEnvC scope cl C X.env) fp) Γ' (h a (wipeS (ρ.map deo) (own.map (·.2)))) ifs (ft a))
    (he : ∀ (Γ' : Gm), Γ'.K = Γ.K → ∀ a ∈ xs, ft a = true → ∀ (s : Shared) (H : Hp) (C : Addr) (cl : List (Str × Addr)) (fp : List Addr), XO (X.blk s H scope (compEnvC scope cl C X.env) fp) → DO (X.blk s H scope (compEnvC scope cl C X.env) fp) Γ' (h a (wipeS (ρ.map deo) (own.map (·.2)))) elt (g (k a)))
    (hl : xs.length ≤ 16000000) (hr : SS X Γ (ρ.set i (.ow (tl g ((xs.filter ft).map k)))) rest E) (hy : X.N[i]? = some y := by rfl) (hyl : X.env.scope.names.lookup y = some .local := by rfl)
    (hsw : swapsWith (.ListComp elt [⟨tg, iter, ifs, 0⟩] scope pos) (some (.Name y py)) spos.line X.env = pure true := by exact sw_true rfl rfl rfl (by decide +kernel)) (hs : ∀ x, foldedSetIterable iter X.env x = pure x := by intro _; rfl) :
    SS X Γ ρ (.Assign [.Name y py] (.ListComp elt [⟨tg, iter, ifs, 0⟩] scope pos) spos :: rest) E :=
  ss_lc i xo own hi ok hgg hg hj ht he hl (by rw [tl_mapf]; exact hr) hy hyl hsw hs
theorem ss_lcM0 (i : Nat) {y : Str} {py spos : Pos} (xo : XO X) (own : List (Str × Nat)) (hi : DIc X Γ ρ tg iter xs s) (ok : BlkOk X.N X.env.scope scope own) (hgg : ∀ (s : Shared) (H : Hp) (C : Addr) (cl : List (Str × Addr)) (fp : List Addr), PG (X.blk s H scope (compEnvC scope cl C X.env) fp) tg gg)
    (hg : ∀ a ∈ xs, TgW gg Γ.K js (s a) (h a)) (hj : ∀ j ∈ js, j ∈ own.map (·.2))
    (he : ∀ (Γ' : Gm), Γ'.K = Γ.K → ∀ a ∈ xs, ∀ (s : Shared) (H : Hp) (C : Addr) (cl : List (Str × Addr)) (fp : List Addr), XO (X.blk s H scope (compEnvC scope cl C X.env) fp) → DO (X.blk s H scope (compEnvC scope cl C X.env) fp) Γ' (h a (wipeS (ρ.map deo) (own.map (·.2)))) elt (g (k a)))
    (hl : xs.length ≤ 16000000) (hr : SS X Γ (ρ.set i (.ow (tl g (xs.map k)))) rest E) (hy : X.N[i]? = some y := by rfl) (hyl : X.env.scope.names.lookup y = some .local := by rfl)
    (hsw : swapsWith (.ListComp elt [⟨tg, iter, [], 0⟩] scope pos) (some (.Name y py)) spos.line X.env = pure true := by exact sw_true rfl rfl rfl (by decide +kernel)) (hs : ∀ x, foldedSetIterable iter X.env x = pure x := by intro _; rfl) :
    SS X Γ ρ (.Assign [.Name y py] (.ListComp elt [⟨tg, iter, [], 0⟩] scope pos) spos :: rest) E :=
  ss_lcM (ft := fun _ => true) i xo own hi ok hgg hg hj (fun _ _ _ _ _ _ _ _ _ _ => dts_nil) (fun Γ' q a ha _ => he Γ' q a ha) hl (by rw [filter_all]; exact hr) hy hyl hsw hs
theorem de_roT (i : Nat) {α : Type} {g : α → OT} {f : α → D} [E : Er g f] {xs : α} {n : Str} (h : ρ[i]? = some (.ro (g xs).er)) (hN : X.N[i]? = some n := by rfl) (hv : Vis X.env.scope n := by first | exact Or.inl rfl | exact Or.inr (Or.inl rfl) | exact Or.inr (Or.inr rfl)) (hd : (n == ("__debug__" : Str)) = false := by decide) (hcd : (n == ("__classdict__" : Str)) = false := by decide) :
    DE X Γ ρ (.Name n pos) .r (f xs) := E.er xs ▸ de_ro i h hN hv hd hcd
end
end DL
namespace DL
open PySem L2
section
variable {X : Cx} {Γ : Gm} {ρ ρ' : List Sl} {e : Expr} {pos p : Pos} {t : OT} {σ : L2.St} {G H : Hp} {n : Str} {E : En} {rest : List Stmt}
/-- an owned name handed back -/
theorem ss_retOw (i : Nat) (h : ρ[i]? = some (.ow t)) (hE : E.rt t) (hN : X.N[i]? = some n := by rfl) (hv : Vis X.env.scope n := by first | exact Or.inl rfl | exact Or.inr (Or.inl rfl) | exact Or.inr (Or.inr rfl)) (hd : (n == ("__debug__" : Str)) = false := by decide) (hcd : (n == ("__classdict__" : Str)) = false := by decide) : SS X Γ ρ (.Return (some (.Name n p)) pos :: rest) E :=
  ss_cons (M := fun _ => False) ((ps_ret (pe_var hN hv hd hcd)).weak fun D σ H ⟨G, S, k⟩ => by
    obtain ⟨A, SA⟩ := S.ad
    obtain ⟨v, B, A', h1, h2, h3, h4, h5, h6, h7⟩ := SA.take h
    exact ⟨v, h1, k.rt t v G H B hE S.step S.sub h2 h3 h6⟩) fun ρ' e => e.elim
end
end DL
namespace DL
open PySem L2
/-! ### a law's end -/
def spLaw (K : Fg) : Sp := fun vs H Q _ => ∃ (a : Addr) (ns : List Int), vs = [.ref a] ∧ SqL K H a (ns.map V.int) ∧ ns.length ≤ 63 ∧ ∀ H', Q (.bl true) H'
theorem law_ok {P : Program} {w : World} {K : Fg} {mg : Str → Option Value} {base : Heap} {k : Nat} {f : Addr} {fd : FuncData} {ps : List Str} (F : ∀ ns : List Int, ns.length ≤ 63 → FnOk P w K mg base (L2.CX P w) k f fd ps (sp1 K [.sc ns] (.ret (.fz (.bool true))))) :
    FnOk P w K mg base (L2.CX P w) k f fd ps (spLaw K) := by
  have key : ∀ (vs : List V) (H : Hp) (Q : VK) (E : XK), spLaw K vs H Q E → ∃ ns : List Int, ns.length ≤ 63 ∧ sp1 K [.sc ns] (.ret (.fz (.bool true))) vs H Q E := fun vs H Q E h => by
    obtain ⟨a, ns, rfl, hS, hl, k⟩ := h
    refine ⟨ns, hl, fun _ => none, (fun _ _ z => by cases z), SlR.cons (A := []) (B := []) (SlS.sc hS) SlR.nil, fun v G2 H2 A st ex o nd f => ?_⟩
    cases o with
    | fz r =>
      cases r
      exact k H2
  refine ⟨fun vs H Q E h => ?_, fun A outer s H args us vs Q E hr he hb hv h => ?_⟩
  · obtain ⟨ns, hl, h'⟩ := key vs H Q E h
    exact (F ns hl).len vs H Q E h'
  · obtain ⟨ns, hl, h'⟩ := key vs H Q E h
    exact (F ns hl).run A outer s H args us vs Q E hr he hb hv h'
theorem law_walk {l : PySem.W.OpenLaw} {q : Program} {loose : List Str} {XP : (Str → Option Value) → Heap → Prop} {YP : World → Heap → Prop} {d : DefRec} {K : Params → Fg} {k : Nat} {x : Str} (hn : l.most = some 63) (hdf : d.params.defaults = []) (hr : Room k callerA)
    (hY : ∀ (w : World) (h : Heap), YP w h → (K w.params).In h)
    (F : ∀ (w : World) (mg : Str → Option Value) (fa : Addr) (h : Heap), (K w.params).In h → h.Ns mainGlobals mg → mg d.name = some (.ref fa) →
      ∃ fd : FuncData, (∀ (s : Shared) (u : Value), BindsTo s fd ⟨[u], []⟩ [(x, u)]) ∧ ∀ base : Heap, (K w.params).In base → base.Ns mainGlobals mg → FnOk l.prog w (K w.params) mg base (L2.CX l.prog w) k fa fd [x] (spLaw (K w.params))) :
    PySem.W.WalkO q loose XP YP l.row.toRowW d [] (fun f vs => PySem.call f vs) :=
  L2.walk_of (n := 63) (k := k) (x := x) (CX := fun w => L2.CX l.prog w) (sp := fun w => spLaw (K w.params)) hn (by decide) hdf hr hY F (fun _ _ a ns hl _ hS => ⟨a, ns, rfl, hS, hl, fun _ => rfl⟩)
    fun w H s e s' h => by
      obtain ⟨_, _, _, _, _, _, _, _, _, _, _, _, z⟩ := h
      exact z
end DL

namespace DL
open PySem L2
section
variable {X : Cx} {Γ : Gm} {ρ ρ' : List Sl} {e a tg : Expr} {pos p : Pos}
theorem di_rangeN {m : Nat} (ha : DV X Γ ρ a (.int (m : Int))) (hb : m < 16000000) (hm : X.mg "range" = none) (hg : Gl X "range" := by rfl) (hs1 : starEach [a] X.env = (false, eval a X.env) :: starEach [] X.env := by rfl) (hs : starEach [a] X.env = [(false, eval a X.env)] := by rfl) :
    DI X Γ ρ tg (.Call (.Name "range" p) [a] [] pos) m (fun i => .v (.int (i : Int))) := by
  have := di_range (tg := tg) (p := p) (pos := pos) (pr := ⟨0, 0, 0, 0⟩) ha (by omega) (by omega) hm hg hs1 hs
  rwa [Int.toNat_natCast] at this
theorem ic_rangeN {m : Nat} (ha : DV X Γ ρ a (.int (m : Int))) (hb : m < 16000000) (hm : X.mg "range" = none) (hg : Gl X "range" := by rfl) (hs1 : starEach [a] X.env = (false, eval a X.env) :: starEach [] X.env := by rfl) (hs : starEach [a] X.env = [(false, eval a X.env)] := by rfl) :
    DIc X Γ ρ tg (.Call (.Name "range" p) [a] [] pos) (List.range m) (fun i => .v (.int (i : Int))) := by
  have := ic_range (tg := tg) (p := p) (pos := pos) ha (by omega) hm hg hs1 hs
  rwa [Int.toNat_natCast] at this
theorem do_listRgN {m : Nat} (xo : XO X) {p2 pos2 : Pos} (ha : DV X Γ ρ a (.int (m : Int))) (hb : m ≤ 16000000) (hm : X.mg "list" = none) (hm2 : X.mg "range" = none) (hg : Gl X "list" := by rfl) (hg2 : Gl X "range" := by rfl) (he : starEach [a] X.env = (false, eval a X.env) :: starEach [] X.env := by rfl)
    (he2 : starEach [.Call (.Name "range" p2) [a] [] pos2] X.env = (false, eval (.Call (.Name "range" p2) [a] [] pos2) X.env) :: starEach [] X.env := by rfl) : DO X Γ ρ (.Call (.Name "list" p) [.Call (.Name "range" p2) [a] [] pos2] [] pos) (tl tI (rgI m)) := by
  have := do_listRg (p := p) (pos := pos) (p2 := p2) (pos2 := pos2) xo ha (by omega) hm hm2 hg hg2 he he2
  rwa [Int.toNat_natCast] at this
end
end DL

namespace DL
open PySem L2
/-! ### comparisons as tests -/
section
variable {X : Cx} {Γ : Gm} {ρ : List Sl} {e a b c : Expr} {pos : Pos} {κ κ' : Kd} {d : D} {x y : V} {i j k : Int} {α : Type} {f : α → D}
theorem binT_weak {r : R2} {PA PB : Hp → Hp → Hp → V → Prop} {q : Bool} (h : PT X e (tTest (tOp r (tX Γ ρ PA) (tX Γ ρ PB))))
    (w : ∀ (σ : L2.St) (G H G1 H1 G2 H2 : Hp) (v u : V) (Q : VK), Sr Γ G H σ ρ → Step G H G1 H1 → Ex G1 H1 → PA H G1 H1 v → Step G1 H1 G2 H2 → Ex G2 H2 → PB H1 G2 H2 u →
      (∀ w G3 H3, Step G2 H2 G3 H3 → Ex G3 H3 → w = .bl q → Q w H3) → r v u H2 Q) : DT X Γ ρ e q :=
  h.weak fun σ H Q ⟨G, S, k⟩ => ⟨G, S, fun v G1 H1 s1 e1 p1 => ⟨G1, S.more s1 e1, fun u G2 H2 s2 e2 p2 => w σ G H G1 H1 G2 H2 v u _ S s1 e1 p1 s2 e2 p2 fun x G3 H3 s3 e3 p3 => ⟨q, p3, k G3 H3 ((s1.trans s2).trans s3) e3⟩⟩⟩
theorem dt_cmpR {op : CmpOp} {r : R2} {q : Bool} (ho : OpR X (compareOp op) r) (ha : DV X Γ ρ a x) (hb : DV X Γ ρ b y) (hm : behindInMarks op b = false) (hr : ∀ (H : Hp) (Q : VK), Q (.bl q) H → r x y H Q) : DT X Γ ρ (.Compare a [op] [b] pos) q :=
  binT_weak (pt_cmpR ho ha hb hm) fun σ G H G1 H1 G2 H2 v u Q S s1 e1 p1 s2 e2 p2 k => by
    have p1' : v = x := p1
    have p2' : u = y := p2
    rw [p1', p2']
    exact hr _ _ (k _ G2 H2 (Step.refl _ _) e2 rfl)
theorem dt_lt (ha : DV X Γ ρ a (.int i)) (hb : DV X Γ ρ b (.int j)) : DT X Γ ρ (.Compare a [.Lt] [b] pos) (decide (i < j)) := dt_cmpR op_lt ha hb (nomark _) fun _ _ q => ⟨_, _, rfl, rfl, q⟩
theorem dt_le (ha : DV X Γ ρ a (.int i)) (hb : DV X Γ ρ b (.int j)) : DT X Γ ρ (.Compare a [.LtE] [b] pos) (decide (i ≤ j)) := dt_cmpR op_le ha hb (nomark _) fun _ _ q => ⟨_, _, rfl, rfl, q⟩
theorem dt_gt (ha : DV X Γ ρ a (.int i)) (hb : DV X Γ ρ b (.int j)) : DT X Γ ρ (.Compare a [.Gt] [b] pos) (decide (j < i)) := dt_cmpR op_gt ha hb (nomark _) fun _ _ q => ⟨_, _, rfl, rfl, q⟩
theorem dt_ge (ha : DV X Γ ρ a (.int i)) (hb : DV X Γ ρ b (.int j)) : DT X Γ ρ (.Compare a [.GtE] [b] pos) (decide (j ≤ i)) := dt_cmpR op_ge ha hb (nomark _) fun _ _ q => ⟨_, _, rfl, rfl, q⟩
theorem dt_eqS (ha : DV X Γ ρ a x) (hb : DV X Γ ρ b y) (hs : scal x y = true := by rfl) : DT X Γ ρ (.Compare a [.Eq] [b] pos) (decide (x = y)) := dt_cmpR op_eq ha hb (nomark _) fun _ _ q => ⟨hs, q⟩
theorem dt_neS (ha : DV X Γ ρ a x) (hb : DV X Γ ρ b y) (hs : scal x y = true := by rfl) : DT X Γ ρ (.Compare a [.NotEq] [b] pos) (!decide (x = y)) := dt_cmpR op_ne ha hb (nomark _) fun _ _ q => ⟨hs, q⟩
theorem dt_eq (ha : DV X Γ ρ a (.int i)) (hb : DV X Γ ρ b (.int j)) : DT X Γ ρ (.Compare a [.Eq] [b] pos) (decide (i = j)) := dec_i ▸ dt_eqS ha hb
theorem dt_ne (ha : DV X Γ ρ a (.int i)) (hb : DV X Γ ρ b (.int j)) : DT X Γ ρ (.Compare a [.NotEq] [b] pos) (!decide (i = j)) := dec_i ▸ dt_neS ha hb
theorem dt_eqStr {i j : Str} (ha : DV X Γ ρ a (.str i)) (hb : DV X Γ ρ b (.str j)) : DT X Γ ρ (.Compare a [.Eq] [b] pos) (decide (i = j)) := dec_s ▸ dt_eqS ha hb
theorem dt_neStr {i j : Str} (ha : DV X Γ ρ a (.str i)) (hb : DV X Γ ρ b (.str j)) : DT X Γ ρ (.Compare a [.NotEq] [b] pos) (!decide (i = j)) := dec_s ▸ dt_neS ha hb
theorem dt_eqBl {i j : Bool} (ha : DV X Γ ρ a (.bl i)) (hb : DV X Γ ρ b (.bl j)) : DT X Γ ρ (.Compare a [.Eq] [b] pos) (decide (i = j)) := dec_b ▸ dt_eqS ha hb
theorem dt_neBl {i j : Bool} (ha : DV X Γ ρ a (.bl i)) (hb : DV X Γ ρ b (.bl j)) : DT X Γ ρ (.Compare a [.NotEq] [b] pos) (!decide (i = j)) := dec_b ▸ dt_neS ha hb
theorem dt_isNv (ha : DV X Γ ρ a x) {j q} : DT X Γ ρ (.Compare a [.Is] [.Constant .none j q] pos) (decide (x = .non)) := dt_cmpR op_isN ha dv_non (nomark _) fun _ _ q => ⟨rfl, q⟩
theorem dt_notNv (ha : DV X Γ ρ a x) {j q} : DT X Γ ρ (.Compare a [.IsNot] [.Constant .none j q] pos) (!decide (x = .non)) := dt_cmpR op_notN ha dv_non (nomark _) fun _ _ q => ⟨rfl, q⟩
theorem dt_isN (ha : DE X Γ ρ a κ d) {j q} : DT X Γ ρ (.Compare a [.Is] [.Constant .none j q] pos) (isN d) :=
  binT_weak (pt_cmpR op_isN ha (dv_non (Γ := Γ) (ρ := ρ)) (nomark _)) fun σ G H G1 H1 G2 H2 v u Q S s1 e1 p1 s2 e2 p2 k => by
    have p2' : u = .non := p2
    refine ⟨p2', ?_⟩
    rw [rep_isN (pK_c S s1 e1 p1)]
    exact k _ G2 H2 (Step.refl _ _) e2 rfl
theorem dt_notN (ha : DE X Γ ρ a κ d) {j q} : DT X Γ ρ (.Compare a [.IsNot] [.Constant .none j q] pos) (!isN d) :=
  binT_weak (pt_cmpR op_notN ha (dv_non (Γ := Γ) (ρ := ρ)) (nomark _)) fun σ G H G1 H1 G2 H2 v u Q S s1 e1 p1 s2 e2 p2 k => by
    have p2' : u = .non := p2
    refine ⟨p2', ?_⟩
    rw [rep_isN (pK_c S s1 e1 p1)]
    exact k _ G2 H2 (Step.refl _ _) e2 rfl
theorem shp {n : Nat} [E : EqN f n] (hn : n ≤ 64) (z : α) : SeqAt.shaped (f z) = true := by
  have := E.dep z
  simp only [SeqAt.shaped, E.lay, Bool.true_and, decide_eq_true_eq]
  omega
theorem dt_eqD {xs ys : α} {n : Nat} [DecidableEq α] [E : EqN f n] (hu : X.A.units + 64 < cLine) (ha : DE X Γ ρ a κ (f xs)) (hb : DE X Γ ρ b κ' (f ys)) (hn : n ≤ 64 := by decide) : DT X Γ ρ (.Compare a [.Eq] [b] pos) (decide (xs = ys)) :=
  binT_weak (pt_cmpR (op_eqD hu) ha hb (nomark _)) fun σ G H G1 H1 G2 H2 v u Q S s1 e1 p1 s2 e2 p2 k => by
    have q1 := Rep.mono s2.h (pK_c S s1 e1 p1)
    have q2 := pK_c (S.more s1 e1) s2 e2 p2
    refine ⟨_, _, rep_dp q1 (E.lay _), rep_dp q2 (E.lay _), shp hn _, shp hn _, k _ G2 H2 (Step.refl _ _) e2 ?_⟩
    congr 1
    rw [Bool.eq_iff_iff]
    simp [E.eqv]
theorem dt_neD {xs ys : α} {n : Nat} [DecidableEq α] [E : EqN f n] (hu : X.A.units + 64 < cLine) (ha : DE X Γ ρ a κ (f xs)) (hb : DE X Γ ρ b κ' (f ys)) (hn : n ≤ 64 := by decide) : DT X Γ ρ (.Compare a [.NotEq] [b] pos) (!decide (xs = ys)) :=
  binT_weak (pt_cmpR (op_neD hu) ha hb (nomark _)) fun σ G H G1 H1 G2 H2 v u Q S s1 e1 p1 s2 e2 p2 k => by
    have q1 := Rep.mono s2.h (pK_c S s1 e1 p1)
    have q2 := pK_c (S.more s1 e1) s2 e2 p2
    refine ⟨_, _, rep_dp q1 (E.lay _), rep_dp q2 (E.lay _), shp hn _, shp hn _, k _ G2 H2 (Step.refl _ _) e2 ?_⟩
    congr 2
    rw [Bool.eq_iff_iff]
    simp [E.eqv]
theorem dt_inD {xs : α} {ys : List α} {n : Nat} [DecidableEq α] [E : EqN f n] (hu : X.A.units + 65 < cLine) (ha : DE X Γ ρ a κ (f xs)) (hb : DE X Γ ρ b κ' (dl f ys)) (hm : behindInMarks .In b = false := by rfl) (hn : n + 1 ≤ 64 := by decide) : DT X Γ ρ (.Compare a [.In] [b] pos) (decide (xs ∈ ys)) :=
  binT_weak (pt_cmpR (op_inD hu) ha hb hm) fun σ G H G1 H1 G2 H2 v u Q S s1 e1 p1 s2 e2 p2 k => by
    have q1 := Rep.mono s2.h (pK_c S s1 e1 p1)
    have q2 := pK_c (S.more s1 e1) s2 e2 p2
    have E2 : EqN (dl f) (n + 1) := inferInstance
    refine ⟨_, _, rep_dp q1 (E.lay _), rep_dp q2 (E2.lay _), shp (by omega) _, shp (f := dl f) hn _, k _ G2 H2 (Step.refl _ _) e2 ?_⟩
    rw [eqvAny]
theorem dt_notInD {xs : α} {ys : List α} {n : Nat} [DecidableEq α] [E : EqN f n] (hu : X.A.units + 65 < cLine) (ha : DE X Γ ρ a κ (f xs)) (hb : DE X Γ ρ b κ' (dl f ys)) (hm : behindInMarks .NotIn b = false := by rfl) (hn : n + 1 ≤ 64 := by decide) : DT X Γ ρ (.Compare a [.NotIn] [b] pos) (!decide (xs ∈ ys)) :=
  binT_weak (pt_cmpR (op_notInD hu) ha hb hm) fun σ G H G1 H1 G2 H2 v u Q S s1 e1 p1 s2 e2 p2 k => by
    have q1 := Rep.mono s2.h (pK_c S s1 e1 p1)
    have q2 := pK_c (S.more s1 e1) s2 e2 p2
    have E2 : EqN (dl f) (n + 1) := inferInstance
    refine ⟨_, _, rep_dp q1 (E.lay _), rep_dp q2 (E2.lay _), shp (by omega) _, shp (f := dl f) hn _, k _ G2 H2 (Step.refl _ _) e2 ?_⟩
    rw [eqvAny]
theorem dt_in {ys : List Int} (hu : X.A.units + 65 < cLine) (ha : DV X Γ ρ a (.int i)) (hb : DE X Γ ρ b κ (dl dI ys)) (hm : behindInMarks .In b = false := by rfl) : DT X Γ ρ (.Compare a [.In] [b] pos) (decide (i ∈ ys)) := dt_inD (f := dI) hu (DV.dat ha) hb hm
theorem dt_notIn {ys : List Int} (hu : X.A.units + 65 < cLine) (ha : DV X Γ ρ a (.int i)) (hb : DE X Γ ρ b κ (dl dI ys)) (hm : behindInMarks .NotIn b = false := by rfl) : DT X Γ ρ (.Compare a [.NotIn] [b] pos) (!decide (i ∈ ys)) := dt_notInD (f := dI) hu (DV.dat ha) hb hm
theorem dt_chain {op op' : CmpOp} {f g : Int → Int → Bool} (ho : OpR X (compareOp op) (rI0 fun i j => .bl (f i j))) (ho' : OpR X (compareOp op') (rI0 fun i j => .bl (g i j))) (ha : DV X Γ ρ a (.int i)) (hb : DV X Γ ρ b (.int j)) (hc : DV X Γ ρ c (.int k))
    (hm : lastMarks [op, op'] [b, c] = false := by with_unfolding_all rfl) : DT X Γ ρ (.Compare a [op, op'] [b, c] pos) (f i j && g j k) :=
  (pt_chain ho ho' ha hb hc hm).weak fun σ H Q ⟨G, S, kk⟩ => ⟨G, S, fun v G1 H1 s1 e1 p1 => ⟨G1, S.more s1 e1, fun u G2 H2 s2 e2 p2 => ⟨i, j, p1, p2, f i j, rfl, by
    cases hf : f i j with
    | true =>
      rw [if_pos rfl]
      exact ⟨G2, (S.more s1 e1).more s2 e2, fun w G3 H3 s3 e3 p3 => ⟨j, k, p2, p3, g j k, rfl, by have := kk G3 H3 ((s1.trans s2).trans s3) e3; rwa [hf] at this⟩⟩
    | false =>
      rw [if_neg Bool.false_ne_true]
      exact ⟨false, rfl, by have := kk G2 H2 (s1.trans s2) e2; rwa [hf] at this⟩⟩⟩⟩
theorem dt_leLe (ha : DV X Γ ρ a (.int i)) (hb : DV X Γ ρ b (.int j)) (hc : DV X Γ ρ c (.int k)) (hm : lastMarks [.LtE, .LtE] [b, c] = false := by with_unfolding_all rfl) : DT X Γ ρ (.Compare a [.LtE, .LtE] [b, c] pos) (decide (i ≤ j) && decide (j ≤ k)) := dt_chain op_le op_le ha hb hc hm
theorem dt_leLt (ha : DV X Γ ρ a (.int i)) (hb : DV X Γ ρ b (.int j)) (hc : DV X Γ ρ c (.int k)) (hm : lastMarks [.LtE, .Lt] [b, c] = false := by with_unfolding_all rfl) : DT X Γ ρ (.Compare a [.LtE, .Lt] [b, c] pos) (decide (i ≤ j) && decide (j < k)) := dt_chain op_le op_lt ha hb hc hm
end
end DL

set_option Elab.async false
set_option linter.all false
set_option maxRecDepth 100000
set_option maxHeartbeats 2000000
/-! DL, last: a whole number or None; tuples walked; places two deep; a walk that appends to what it walks. -/
namespace DL
open PySem L2
def dO : Option Int → D
  | none => .none
  | some i => .int i
instance : EqN dO 0 := ⟨fun x y => by cases x <;> cases y <;> simp [dO, PyData.eqv], fun x => by cases x <;> simp [dO, PyData.canLay0], fun x => by cases x <;> simp [dO, PyData.depth]⟩
theorem Rep.t {H : Hp} {v : V} {ds : List D} (h : Rep H v (.tuple ds)) : ∃ a vs, v = .ref a ∧ H a = some (.tup vs) ∧ Reps H vs ds := by
  cases h with
  | tup h r => exact ⟨_, _, rfl, h, r⟩
section
variable {X : Cx} {Γ : Gm} {ρ ρ' : List Sl} {e a b c o tg : Expr} {es : List Expr} {pos p p' apos cpos : Pos} {κ κ' : Kd} {d d' : D} {x y z : V} {t t' : OT} {σ : L2.St} {G H G1 H1 G2 H2 : Hp} {E : En} {st : Stmt} {rest body : List Stmt} {n : Str} {i : Nat} {ts : List OT} {pa : List Nat} {α β : Type} {f : α → D} {g : α → OT}
theorem ic_t {xs : List α} (s : α → Sl) (h : DE X Γ ρ e κ (.tuple (xs.map f))) (hs : ∀ a, SubRo (f a) (s a)) : DIc X Γ ρ tg e xs s :=
  (pi_tup h).weak fun σ H R ⟨G, S, k⟩ => ⟨G, S, fun v G1 H1 s1 e1 q => by
    obtain ⟨a, vs, rfl, hl, r⟩ := Rep.t (pK_c S s1 e1 q)
    have ln := r.len
    rw [List.length_map] at ln
    refine ⟨a, rfl, ⟨vs, SqT.of hl⟩, k _ G1 H1 s1 e1 ⟨fun i G' H' g1 g2 g3 hi => ?_, fun i a' G' H' x H'' hx g1 g2 g3 hy => ?_, fun i G' H' g1 g2 g3 hi => ⟨vs, SqT.of (g3 _ _ hl), by omega⟩⟩⟩
    · exact ⟨vs, vs[i], SqT.of (g3 _ _ hl), List.getElem?_eq_getElem (by omega)⟩
    · obtain ⟨rfl, hv⟩ := hy
      obtain ⟨d, h1, h2⟩ := r.getV (hv vs (SqT.of (g3 _ _ hl)))
      rw [map_at' hx h1] at h2
      exact ⟨G', Step.refl _ _, g2, (hs a').sl h2⟩⟩
theorem at_two {x3 : List (List (List α))} {j k : Nat} (h1 : j < x3.length) (h2 : k < (x3.getD j []).length) : OT.at [j, k] (tl (tl (tl g)) x3) = some (.cell (((x3.getD j []).getD k []).map g)) := by
  have e : x3.getD j [] = x3[j] := by simp [List.getD_eq_getElem?_getD, h1]
  rw [e] at h2 ⊢
  unfold tl OT.at
  rw [List.getElem?_map, List.getElem?_eq_getElem h1]
  exact at_one (g := g) h2
theorem put_two {x3 : List (List (List α))} {j k : Nat} {ys : List α} (h1 : j < x3.length) (h2 : k < (x3.getD j []).length) : OT.put [j, k] (tl (tl (tl g)) x3) (.cell (ys.map g)) = tl (tl (tl g)) (x3.set j ((x3.getD j []).set k ys)) := by
  have e : x3.getD j [] = x3[j] := by simp [List.getD_eq_getElem?_getD, h1]
  rw [e] at h2 ⊢
  have := put_one (g := g) (ys := ys) h2
  unfold tl OT.put at *
  rw [List.getElem?_map, List.getElem?_eq_getElem h1]
  simp only [Option.map_some]
  rw [List.map_set]
  congr 2
theorem dpl_ix2 (i : Nat) {x3 : List (List (List α))} {j : Nat} {k : Int} (ho : DPl X Γ ρ o i [j]) (hb : DV X Γ ρ b (.int k)) (h : ρ[i]? = some (.ow (tl (tl (tl g)) x3))) (hj : j < x3.length) (hk : inR (x3.getD j []).length k) (hs : PlainIx b := by intro _ _; rfl) : DPl X Γ ρ (.Subscript o b pos) i [j, pyIx (x3.getD j []).length k] := by
  obtain ⟨q1, q2⟩ := ixN_pyIx hk
  exact dpl_ix (ts := (x3.getD j []).map (tl g)) ho hb h (at_one hj) (by rw [List.length_map]; exact q1) (by rw [List.length_map]; exact q2) hs
theorem ss_st2 (i : Nat) {x3 : List (List (List α))} {x : α} {q : Int} {j k : Nat} (ho : DPl X Γ ρ o i [j, k]) (hb : DV X Γ ρ b (.int q)) (he : DO X Γ ρ e (g x)) (h : ρ[i]? = some (.ow (tl (tl (tl g)) x3))) (hj : j < x3.length) (hk : k < (x3.getD j []).length) (hq : inR ((x3.getD j []).getD k []).length q) (hr : SS X Γ (ρ.set i (.ow (tl (tl (tl g)) (x3.set j ((x3.getD j []).set k (pySet ((x3.getD j []).getD k []) q x)))))) rest E)
    (ha : ∀ v, assign (.Subscript o b p) X.env v = (do
      let ov ← holding [v] (eval o X.env)
      let iv ← holding [v, ov] (eval b X.env)
      standAt p
      holding [v, ov, iv] (setItem ov iv v)
      release [v, ov, iv] []) := by intro _; rfl)
    (hs : swapsWithSole [.Subscript o b p] e pos.line X.env = pure false := by rfl) (hw : swappedStores [.Subscript o b p] e X.env = pure none := by rfl) (h1 : (assignEach [.Subscript o b p] X.env).map (·.2) = [assign (.Subscript o b p) X.env] := by rfl) :
    SS X Γ ρ (.Assign [.Subscript o b p] e pos :: rest) E := by
  obtain ⟨q1, q2⟩ := ixN_pyIx hq
  have e1 : (((x3.getD j []).getD k []).map g)[pyIx ((x3.getD j []).getD k []).length q]? = some (g (((x3.getD j []).getD k [])[pyIx ((x3.getD j []).getD k []).length q]'q2)) := by rw [List.getElem?_map, List.getElem?_eq_getElem q2] <;> rfl
  exact ss_st ho hb he h (at_two hj hk) (by rw [List.length_map]; exact q1) e1 (by
    have e1 : (((x3.getD j []).getD k []).map g).set (pyIx ((x3.getD j []).getD k []).length q) (g x) = (pySet ((x3.getD j []).getD k []) q x).map g := by
      unfold pySet
      rw [List.map_set]
    rw [e1, put_two hj hk]; exact hr) ha hs hw h1

/-! ### for v in n: v.append(e) -/
def Al (H : Hp) (σ : L2.St) (j i : Nat) (pa : List Nat) : Prop := ∃ v0 w, σ[i]? = some (some v0) ∧ σ[j]? = some (some w) ∧ PathV H pa v0 w
theorem ps_appA {j : Nat} (he : DO X Γ ρ e t') (h : ρ[i]? = some (.ow t)) (hp : OT.at pa t = some (.cell ts)) (hl : ts.length < sizeLine)
    (hN : X.N[j]? = some n := by rfl) (hv : Vis X.env.scope n := by first | exact Or.inl rfl | exact Or.inr (Or.inl rfl) | exact Or.inr (Or.inr rfl)) (hd : (n == ("__debug__" : Str)) = false := by decide) (hcd : (n == ("__classdict__" : Str)) = false := by decide)
    (hbase : attributeBase (.Name n p) "append" X.env (eval (.Name n p) X.env) = eval (.Name n p) X.env := by rfl)
    (hfew : ((backTo cpos (starEach [e] X.env)).all (fun x => !x.1) && (backToKw cpos (keywordEach [] X.env)).all (fun x => x.1.isSome) && decide (([e] : List Expr).length + ([] : List Keyword).length + (if ([] : List Keyword).isEmpty then 0 else 1) < 30)) = true := by rfl)
    (hline : (apos.endLine == cpos.line) = true := by rfl) (hs : starEach [e] X.env = (false, eval e X.env) :: starEach [] X.env := by rfl) (hplain : (backTo cpos (starEach [] X.env)).any (·.1) = false := by rfl)
    (hsw : swapsWith (.Call (.Attribute (.Name n p) "append" apos) [e] [] cpos) none pos.line X.env = pure false := by rfl) : PS X (.Expr (.Call (.Attribute (.Name n p) "append" apos) [e] [] cpos) pos) (fun D σ H => ∃ G, Sr Γ G H σ ρ ∧ Al H σ j i pa ∧ ∀ G2 H2, Sr Γ G2 H2 σ (ρ.set i (.ow (OT.put pa t (.cell (ts ++ [t']))))) → Ex G G2 → D.nx σ H2) :=
  (ps_expr (pe_bm PySem.F.plainAttrs_list PySem.F.slot_list_append PySem.F.type_list_append mt_append (pe_var hN hv hd hcd) (pa_cons he pa_nil hs) hbase hfew hline hs hplain) hsw).weak fun D σ H ⟨G, S, ⟨v0, w0, h0, hw0, hv⟩, k⟩ =>
    ⟨w0, hw0, by
      obtain ⟨A, SA⟩ := S.ad
      obtain ⟨a, rfl⟩ := S.ref h hp h0 hv
      obtain ⟨vs1, B1, q1, _⟩ := SA.mut h hp h0 hv
      refine ⟨ty_list q1, G, S, fun w G2 H2 s2 e2 ⟨C, oc, ndC, fC⟩ => ?_⟩
      have SA2 := SA.more s2 e2
      obtain ⟨vs, B, q1, q2, q3, q4, q5, q6, q7, q8⟩ := SA2.mut h hp h0 (hv.mono s2.h)
      have ln := q4.len
      refine ⟨a, vs, w, rfl, rfl, q1, by omega, ?_⟩
      have CA : ∀ b ∈ C, b ∉ A := fun b hb z => by
        obtain ⟨_, u, hu⟩ := SA.mem b z
        rw [fC b hb] at hu; cases hu
      refine k G2 _ (q8 _ _ _ (q4.app (OwnTs.one oc)) (List.nodup_append.mpr ⟨q5, ndC, fun x hx y hy z => ?_⟩) ?_ ?_ ?_) s2.g
      · subst z
        exact CA x hy (q7 x hx)
      · intro z
        rcases List.mem_append.mp z with z | z
        · exact q6 z
        · exact CA a z q3
      · intro b hb
        rcases List.mem_append.mp hb with z | z
        · exact .inl z
        · exact .inr (CA b z)
      · intro b hb
        rcases List.mem_append.mp hb with z | z
        · exact SA2.fr b (q7 b z)
        · exact S.step.h.none (fC b z)⟩
theorem ss_forApp (i j : Nat) {m : Str} {pn pv : Pos} {xss : List (List α)} {x : α} (xo : XO X) (hpo : PassesOwn (model X.prog X.w) X.A X.env X.xe) (h : ρ[i]? = some (.ow (tl (tl g) xss))) (hij : i ≠ j) (hj : j < ρ.length) (he : ∀ ρ', DO X Γ ρ' e (g x)) (hl : ∀ r ∈ xss, r.length < 16000000)
    (hr : SS X Γ ((ρ.set j .un).set i (.ow (tl (tl g) (xss.map (· ++ [x]))))) rest E)
    (hN : X.N[j]? = some n := by rfl) (hM : X.N[i]? = some m := by rfl) (hv : Vis X.env.scope n := by first | exact Or.inl rfl | exact Or.inr (Or.inl rfl) | exact Or.inr (Or.inr rfl)) (hd : (n == ("__debug__" : Str)) = false := by decide) (hcd : (n == ("__classdict__" : Str)) = false := by decide)
    (hv2 : Vis X.env.scope m := by first | exact Or.inl rfl | exact Or.inr (Or.inl rfl) | exact Or.inr (Or.inr rfl)) (hd2 : (m == ("__debug__" : Str)) = false := by decide) (hcd2 : (m == ("__classdict__" : Str)) = false := by decide)
    (hx : Loc X.env.scope n := by first | exact .inl rfl | exact .inr rfl) (hf : X.fn n = true ∨ X.env.scope.names.lookup n = some .local := by first | exact .inl rfl | exact .inr rfl)
    (hs2 : ∀ x, foldedSetIterable (.Name m pn) X.env x = pure x := by intro _; rfl)
    (hbase : attributeBase (.Name n p) "append" X.env (eval (.Name n p) X.env) = eval (.Name n p) X.env := by rfl)
    (hfew : ((backTo cpos (starEach [e] X.env)).all (fun x => !x.1) && (backToKw cpos (keywordEach [] X.env)).all (fun x => x.1.isSome) && decide (([e] : List Expr).length + ([] : List Keyword).length + (if ([] : List Keyword).isEmpty then 0 else 1) < 30)) = true := by rfl)
    (hline : (apos.endLine == cpos.line) = true := by rfl) (hs : starEach [e] X.env = (false, eval e X.env) :: starEach [] X.env := by rfl) (hplain : (backTo cpos (starEach [] X.env)).any (·.1) = false := by rfl)
    (hsw : swapsWith (.Call (.Attribute (.Name n p) "append" apos) [e] [] cpos) none pos.line X.env = pure false := by rfl) :
    SS X Γ ρ (.For (.Name n pv) (.Name m pn) [.Expr (.Call (.Attribute (.Name n p) "append" apos) [e] [] cpos) pos] [] p' :: rest) E := by
  let up : Nat → List (List α) := fun k => (xss.take k).map (· ++ [x]) ++ xss.drop k
  let R : Nat → List Sl := fun k => (ρ.set j .un).set i (.ow (tl (tl g) (up k)))
  have upl : ∀ k, (up k).length = xss.length := fun k => by simp [up]; omega
  have hil : i < ρ.length := by
    obtain ⟨q, _⟩ := List.getElem?_eq_some_iff.mp h
    exact q
  have ri : ∀ k, (R k)[i]? = some (.ow (tl (tl g) (up k))) := fun k => by simp [R, hil]
  have upk : ∀ k (hk : k < xss.length), (up k).getD k [] = xss[k] := fun k hk => by
    simp [up, List.getD_eq_getElem?_getD, List.getElem?_append, Nat.min_eq_left (Nat.le_of_lt hk), hk]
  have ups : ∀ k (hk : k < xss.length), (up k).set k (xss[k] ++ [x]) = up (k + 1) := fun k hk => by
    have hlen : ((xss.take k).map (· ++ [x])).length = k := by simp; omega
    simp only [up]
    rw [List.set_append_right _ _ (by omega), hlen, Nat.sub_self, List.drop_eq_getElem_cons hk, List.set_cons_zero, List.take_add_one, List.getElem?_eq_getElem hk, List.map_append, List.append_assoc]
    rfl
  have hbody : PSs X [.Expr (.Call (.Attribute (.Name n p) "append" apos) [e] [] cpos) pos] (fun D σ H => ∃ k, k < xss.length ∧ ∃ G, Sr Γ G H σ (R k) ∧ Al H σ j i [k] ∧ ∀ G2 H2, Sr Γ G2 H2 σ (R (k + 1)) → Ex G G2 → D.nx σ H2) := by
    refine ⟨fun pins s σ H D I ⟨k, hk, G, S, al, ok⟩ => ?_⟩
    have hku : k < (up k).length := by rw [upl]; exact hk
    have Pk := ps_appA (X := X) (Γ := Γ) (ρ := R k) (p := p) (apos := apos) (cpos := cpos) (pos := pos) (n := n) (j := j) (he (R k)) (ri k) (at_one hku) (by rw [List.length_map, upk k hk]; exact Nat.lt_of_lt_of_le (hl _ (List.getElem_mem hk)) (by decide)) hN hv hd hcd hbase hfew hline hs hplain hsw
    have e1 : (R k).set i (.ow (OT.put [k] (tl (tl g) (up k)) (.cell (((up k).getD k []).map g ++ [g x])))) = R (k + 1) := by
      have e2 : ((up k).getD k []).map g ++ [g x] = ((up k).getD k [] ++ [x]).map g := by rw [List.map_append]; rfl
      rw [e2, put_one hku, upk k hk, ups k hk]
      simp [R]
    rw [e1] at Pk
    have := (pss_cons Pk (pss_nil (X := X))).run pins s σ H D I ⟨G, S, al, ok⟩
    exact this
  refine ss_cons (M := fun ρ' => ρ' = R xss.length) ((ps_for hpo xo.calm (pi_list (pe_var hM hv2 hd2 hcd2)) (pg_name xo.nd hN hx hf) hbody hs2).weak fun D σ H ⟨G, S, k⟩ => ?_) fun ρ' e => by
    have e3 : up xss.length = xss.map (· ++ [x]) := by simp only [up, List.take_length, List.drop_length, List.append_nil]
    rw [e]
    simp only [R]
    rw [e3]
    exact hr
  obtain ⟨ob, B, h1, h2⟩ := S.slot h
  cases h2 with
  | @ow v0 _ _ q =>
    obtain ⟨a, rfl⟩ : ∃ a, v0 = .ref a := by
      unfold tl at q
      cases q with
      | cell hg hh r => exact ⟨_, rfl⟩
    have look : ∀ {k : Nat} {G' H' : Hp} {σ' : L2.St}, Sr Γ G' H' σ' (R k) → σ'[i]? = some (some (.ref a)) → ∃ vs, H' a = some (.lst vs) ∧ vs.length = xss.length := fun {k G' H' σ'} S' hσ => by
      obtain ⟨ob', B', h1', h2'⟩ := S'.slot (ri k)
      rw [hσ] at h1'
      cases h1'
      cases h2' with
      | ow q' =>
        unfold tl at q'
        cases q' with
        | cell hg hh r =>
          have := r.len
          rw [List.length_map, upl] at this
          exact ⟨_, hh, this⟩
    have S0 : Sr Γ G H σ (R 0) := by
      have w : Wk ρ (R 0) := by
        have e0 : R 0 = ρ.set j .un := by
          have eu : up 0 = xss := by simp [up]
          simp only [R]
          rw [eu]
          refine List.ext_getElem? fun q => ?_
          by_cases hq : i = q
          · subst hq
            rw [List.getElem?_set_self (by simpa using hil), List.getElem?_set_ne (Ne.symm hij), h]
          · rw [List.getElem?_set_ne hq]
        rw [e0]
        have go : ∀ (ρ : List Sl) (j : Nat), Wk ρ (ρ.set j .un) := fun ρ => by
          induction ρ with
          | nil => intro j; exact .nil
          | cons s ρ ih =>
            intro j
            cases j with
            | zero => exact .un (Wk.refl _)
            | succ j => exact .same (ih j)
        exact go ρ j
      exact S.wk w
    obtain ⟨vs0, hv0, ln0⟩ := look S0 h1
    refine ⟨_, h1, a, rfl, ⟨vs0, SqL.of hv0⟩, fun k μ σ H => μ = xss.length - k ∧ k ≤ xss.length ∧ σ[i]? = some (some (.ref a)) ∧ ∃ G1, Sr Γ G1 H σ (R k) ∧ Ex G G1, ⟨_, rfl, Nat.zero_le _, h1, G, S0, Ex.refl _⟩, ?_⟩
    rintro k' μ σ' H' ⟨rfl, him, hσ, G', S', eg⟩
    obtain ⟨vs, hvs, ln⟩ := look S' hσ
    by_cases hlt : k' < xss.length
    · refine .inr ⟨⟨vs, vs[k'], SqL.of hvs, List.getElem?_eq_getElem (by omega)⟩, fun σ2 H2 => σ2[i]? = some (some (.ref a)) ∧ ∃ G2, Sr Γ G2 H2 σ2 (R (k' + 1)) ∧ Ex G G2, fun σ2 H2 ⟨h3, G2, S2, e2⟩ => ⟨xss.length - (k' + 1), by omega, rfl, hlt, h3, G2, S2, e2⟩, fun x' H'' hy => ?_⟩
      obtain ⟨rfl, hx'⟩ := hy
      have hx2 := hx' vs (SqL.of hvs)
      have hji : j ≠ i := fun z => hij z.symm
      have eR : (R k').set j .un = R k' := by
        simp only [R]
        rw [List.set_comm _ _ hij, List.set_set, List.set_comm _ _ hji]
      have S3 : Sr Γ G' H'' (σ'.set j (some x')) (R k') := eR ▸ S'.store (s := .un) (Step.refl _ _) S'.sub .un List.nodup_nil fun _ z => by cases z
      have hσ2 : (σ'.set j (some x'))[i]? = some (some (.ref a)) := by rw [List.getElem?_set_ne hji]; exact hσ
      refine ⟨k', hlt, G', S3, ⟨.ref a, x', hσ2, ?_, ⟨a, vs, x', rfl, hvs, hx2, rfl⟩⟩, fun G2 H2 S2 e2 => ⟨hσ2, G2, S2, eg.trans e2⟩⟩
      have hjl : j < σ'.length := by
        obtain ⟨A, r, _⟩ := S'.sl
        have := r.len
        rw [this]
        simpa [R] using hj
      rw [List.getElem?_set_self hjl]
    · have e : k' = xss.length := by omega
      subst e
      exact .inl ⟨⟨vs, SqL.of hvs, by omega⟩, k.nx _ _ _ _ rfl S' eg⟩
end
end DL
namespace DL
open PySem L2
section
variable {X : Cx} {Γ : Gm} {ρ : List Sl} {c : Expr} {pos : Pos} {E : En} {q : Bool} {bd el rest : List Stmt}
/-- two ways that meet -/
theorem ss_ifJ (u : List Sl → List Sl) (hc : DT X Γ ρ c q) (h1 : q = true → SS X Γ ρ bd { E with nx := fun ρ' => Wk ρ' (u ρ) }) (h2 : q = false → SS X Γ ρ el { E with nx := fun ρ' => Wk ρ' (u ρ) }) (hr : SS X Γ (u ρ) rest E) : SS X Γ ρ (.If c bd el pos :: rest) E :=
  ss_if hc h1 h2 fun _ w => ss_wk w hr
end
end DL
namespace DL
open PySem L2
/-- a list written out of things that are only looked at -/
def slC : Sl → D
  | .v x => vD x
  | .sh d => d
  | .ro d => d
  | _ => .none
def slRd : Sl → Bool
  | .v x => vOk x
  | .sh _ => true
  | .ro _ => true
  | _ => false
theorem slR_repsC {K : Fg} {I G H : Hp} (e : Ex G I) : ∀ {vs : List V} {ss : List Sl} {A : List Addr}, SlR K I G H (vs.map some) ss A → ss.all slRd = true → Reps I vs (ss.map slC)
  | [], _, _, .nil, _ => .nil
  | v :: vs, s :: ss, _, .cons h r, q => by
    simp only [List.all_cons, Bool.and_eq_true] at q
    refine .cons ?_ (slR_repsC e r q.2)
    cases h with
    | v => exact vD_rep q.1
    | sh h => exact Rep.mono e h
    | ro h => exact h
    | un => cases q.1
    | ow _ => cases q.1
    | sc _ => cases q.1
section
variable {X : Cx} {Γ : Gm} {ρ : List Sl} {es : List Expr} {pos : Pos}
theorem de_lstC {ss : List Sl} (ha : DA X Γ ρ es ss) (hs : ss.all slRd = true := by rfl) (hl : ss.length ≤ 1000 := by simp) : DE X Γ ρ (.List es pos) .c (.list (ss.map slC)) :=
  (pe_lst ha).weak fun σ H Q ⟨G, S, k⟩ => ⟨G, S, fun vs G1 H1 A s1 e1 r nd f => by
    have r' := slR_repsC e1 r hs
    refine ⟨by rw [slr_len r]; exact Nat.le_trans hl (by decide), fun q hq => ?_⟩
    exact k (.ref q) G1 _ (s1.trans (Step.laid hq)) (e1.trans (Ex.new hq)) (.lst upd_same (Reps.mono (Ex.new hq) r'))⟩
end
end DL
namespace DL
open PySem L2
theorem ss_re {X : Cx} {Γ : Gm} {ρ : List Sl} {E : En} {rest : List Stmt} (u : List Sl → List Sl) (w : Wk ρ (u ρ)) (h : SS X Γ (u ρ) rest E) : SS X Γ ρ rest E := ss_wk w h
end DL

set_option Elab.async false
set_option linter.all false
set_option maxRecDepth 100000
set_option maxHeartbeats 2000000
/-! return [name.pop(e) for k in range(n)], the name's list being of ints and the only owned thing -/
namespace DL
open PySem L2
def popS (idx : Nat → List Int → Int) (ms : List Int) : Nat → List Int × List Int
  | 0 => (ms, [])
  | k + 1 => ((popS idx ms k).1.eraseIdx (idx k (popS idx ms k).1).toNat, (popS idx ms k).2 ++ [(popS idx ms k).1.getD (idx k (popS idx ms k).1).toNat 0])
def slNo : Sl → Bool
  | .ow _ => false
  | _ => true
section
variable {Γ : Gm} {G H G2 H2 : Hp} {σ : L2.St} {ρ : List Sl} {A : List Addr} {i j : Nat} {a : Addr} {ls : List Int}
theorem SlR.noA {K : Fg} {I : Hp} : ∀ {σ ρ A}, SlR K I G H σ ρ A → ρ.all slNo = true → A = []
  | _, _, _, .nil, _ => rfl
  | _, _, _, .cons h r, q => by
    simp only [List.all_cons, Bool.and_eq_true] at q
    have e := SlR.noA r q.2
    subst e
    cases h with
    | ow _ => cases q.1
    | un => rfl
    | v => rfl
    | sh _ => rfl
    | ro _ => rfl
    | sc _ => rfl
theorem SlR.unset {K : Fg} {I : Hp} : ∀ {σ ρ A} (k : Nat), SlR K I G H σ ρ A → ∃ B, SlR K I G H (σ.set k none) (ρ.set k .un) B ∧ B.Sublist A
  | _, _, _, _, .nil => ⟨[], .nil, List.Sublist.refl _⟩
  | _, _, _, 0, .cons (A := A0) h r => ⟨[] ++ _, .cons .un r, List.Sublist.append (List.nil_sublist _) (List.Sublist.refl _)⟩
  | _, _, _, k + 1, .cons (A := A0) h r => by
    obtain ⟨B, r', s⟩ := SlR.unset k r
    exact ⟨A0 ++ B, .cons h r', List.Sublist.append (List.Sublist.refl _) s⟩
/-- the one owned list -/
theorem SlR.one {K : Fg} {I : Hp} (r : SlR K I G H σ ρ A) (h : ρ[i]? = some (.ow (tl tI ls))) (hno : (ρ.set i .un).all slNo = true) : ∃ a, A = [a] ∧ σ[i]? = some (some (.ref a)) ∧ G a = none ∧ H a = some (.lst (ls.map V.int)) ∧
    ∀ G2 H2 ls', Ex G G2 → G2 a = none → H2 a = some (.lst (ls'.map V.int)) → SlR K I G2 H2 σ (ρ.set i (.ow (tl tI ls'))) [a] := by
  obtain ⟨o, A1, B, A2, h1, h2, h3, h4⟩ := r.focus h
  have z := (h4 G H none .un [] (Ex.refl _) (fun _ _ g => g) (fun _ _ => rfl) .un).noA hno
  have z1 : A1 = [] ∧ A2 = [] := by simpa using z
  obtain ⟨rfl, rfl⟩ := z1
  cases h2 with
  | @ow v _ _ q =>
    unfold tl at q
    cases q with
    | @cell _ a vs B0 hg hh r0 =>
      obtain ⟨e1, e2⟩ := r0.intsV
      subst e1 e2
      refine ⟨a, by simpa using h3, h1, hg, hh, fun G2 H2 ls' eg g2 h2 => ?_⟩
      have w := h4 G2 H2 (some (.ref a)) (.ow (tl tI ls')) [a] eg (fun b hb => by simp at hb) (fun b hb => by simp at hb) (.ow (OwnT.intsNew g2 h2))
      have e2 : σ.set i (some (V.ref a)) = σ := by
        obtain ⟨hi, e⟩ := List.getElem?_eq_some_iff.mp h1
        rw [← e]
        simp
      rw [e2] at w
      simpa using w
end
section
variable {X : Cx} {Γ : Gm} {ρ : List Sl} {a ek : Expr} {pos p p' apos cpos lpos : Pos} {E : En} {rest : List Stmt} {n : Str} {i j : Nat}
def RP (ρ : List Sl) (i j : Nat) (t : Nat) (ls : List Int) : List Sl := ((ρ.set j .un).set i (.ow (tl tI ls))).set j (.v (.int t))
def tePop (Γ : Gm) (ρ : List Sl) (i j m : Nat) (ms : List Int) (idx : Nat → List Int → Int) : TE := fun σ H Q => ∃ (t : Nat) (ls : List Int) (G : Hp) (a : Addr), t < m ∧ ls.length = ms.length - t ∧ SrA Γ G H σ (RP ρ i j t ls) [a] ∧
  ∀ G2 H2, Ex G G2 → SrA Γ G2 H2 σ (RP ρ i j t (ls.eraseIdx (idx t ls).toNat)) [a] → (∀ b o, b ≠ a → H b = some o → H2 b = some o) → (∀ b o, b ≠ a → G b = none → H b = some o → G2 b = none) → Q (.int (ls.getD (idx t ls).toNat 0)) H2
theorem RP_i {ρ : List Sl} (hij : i ≠ j) (hi : i < ρ.length) (t : Nat) (ls : List Int) : (RP ρ i j t ls)[i]? = some (.ow (tl tI ls)) := by
  unfold RP
  rw [List.getElem?_set_ne (Ne.symm hij)]
  simp [hi]
theorem RP_set {ρ : List Sl} (hij : i ≠ j) (t : Nat) (ls ls' : List Int) : (RP ρ i j t ls).set i (.ow (tl tI ls')) = RP ρ i j t ls' := by
  unfold RP
  rw [List.set_comm _ _ (Ne.symm hij), List.set_set]
theorem RP_no {ρ : List Sl} (hij : i ≠ j) (hno : (ρ.set i .un).all slNo = true) (t : Nat) (ls : List Int) : ((RP ρ i j t ls).set i .un).all slNo = true := by
  unfold RP
  rw [List.set_comm _ _ (Ne.symm hij), List.set_set]
  rw [List.all_eq_true] at hno ⊢
  intro s hs
  rcases List.mem_or_eq_of_mem_set hs with z | z
  · rw [List.set_comm _ _ (Ne.symm hij)] at z
    rcases List.mem_or_eq_of_mem_set z with y | y
    · exact hno s y
    · rw [y]; rfl
  · rw [z]; rfl
theorem pe_popK {X' : Cx} {m : Nat} {ms : List Int} {idx : Nat → List Int → Int} (hij : i ≠ j) (hil : i < ρ.length) (hno : (ρ.set i .un).all slNo = true)
    (hN : X'.N[i]? = some n) (hv : Vis X'.env.scope n) (hd : (n == ("__debug__" : Str)) = false) (hcd : (n == ("__classdict__" : Str)) = false)
    (hek : ∀ t ls, t < m → ls.length = ms.length - t → DV X' Γ (RP ρ i j t ls) ek (.int (idx t ls))) (hbd : ∀ t ls, t < m → ls.length = ms.length - t → 0 ≤ idx t ls ∧ idx t ls < ls.length ∧ idx t ls < 2 ^ 63)
    (hbase2 : attributeBase (.Name n p) "pop" X'.env (eval (.Name n p) X'.env) = eval (.Name n p) X'.env)
    (hfew2 : ((backTo cpos (starEach [ek] X'.env)).all (fun x => !x.1) && (backToKw cpos (keywordEach [] X'.env)).all (fun x => x.1.isSome) && decide (([ek] : List Expr).length + ([] : List Keyword).length + (if ([] : List Keyword).isEmpty then 0 else 1) < 30)) = true)
    (hline2 : (apos.endLine == cpos.line) = true) (hs2 : starEach [ek] X'.env = (false, eval ek X'.env) :: starEach [] X'.env) (hplain2 : (backTo cpos (starEach [] X'.env)).any (·.1) = false) :
    PE X' (.Call (.Attribute (.Name n p) "pop" apos) [ek] [] cpos) (tePop Γ ρ i j m ms idx) := by
  let tK : TE := fun σ H Q => ∃ (t : Nat) (ls : List Int) (G : Hp) (a : Addr), t < m ∧ ls.length = ms.length - t ∧ SrA Γ G H σ (RP ρ i j t ls) [a] ∧ ∀ G2 H2, Step G H G2 H2 → Ex G2 H2 → Q (.int (idx t ls)) H2
  have hK : PE X' ek tK := ⟨fun pins s σ H Q I ⟨t, ls, G, a, h1, h2, S, k⟩ => (hek t ls h1 h2).run pins s σ H Q I ⟨G, S.sr, fun v G2 H2 st ex (e : v = _) => by rw [e]; exact k G2 H2 st ex⟩⟩
  refine (pe_bm PySem.F.plainAttrs_list PySem.F.slot_list_pop PySem.F.type_list_pop mt_popAt (pe_var hN hv hd hcd) (pa_cons hK pa_nil hs2) hbase2 hfew2 hline2 hs2 hplain2).weak fun σ H Q ⟨t, ls, G, a, h1, h2, S, k⟩ => ?_
  obtain ⟨a', ea, e1, e2, e3, e4⟩ := S.sl.one (RP_i hij hil t ls) (RP_no hij hno t ls)
  cases ea
  refine ⟨_, e1, ty_list e3, t, ls, G, a, h1, h2, S, fun G2 H2 st ex => ?_⟩
  obtain ⟨q1, q2, q3⟩ := hbd t ls h1 h2
  have hkl : (idx t ls).toNat < ls.length := by omega
  have eg : (ls.map V.int)[(idx t ls).toNat]? = some (.int (ls.getD (idx t ls).toNat 0)) := by
    rw [List.getElem?_map, List.getElem?_eq_getElem hkl]
    simp [List.getD_eq_getElem?_getD, hkl]
  refine ⟨a, _, idx t ls, (idx t ls).toNat, _, rfl, rfl, st.h _ _ e3, by omega, q3, ?_, eg, ?_⟩
  · rw [PySem.seqIndex_of q1 (by rw [List.length_map]; exact q2)]
  have ga : G2 a = none := st.f _ _ e2 e3
  have aΓ : Γ.H a = none := S.fr a (by simp)
  have S2 := S.more st ex
  have w := e4 G2 (upd H2 a (.lst ((ls.map V.int).eraseIdx (idx t ls).toNat))) (ls.eraseIdx (idx t ls).toNat) st.g ga (by rw [upd_same, eraseIdx_map'])
  rw [RP_set hij] at w
  refine k G2 _ st.g ⟨⟨S2.step.g, S2.step.h.mut aΓ, S2.step.f⟩, ex.mut ga, w, by simp, by simpa using aΓ⟩ (fun b o hb ho => by rw [upd_ne hb]; exact st.h _ _ ho) (fun b o hb g0 ho => st.f _ _ g0 ho)
theorem ss_retPop (i j m : Nat) {kn : Str} {pn pr : Pos} {scope : Scope} {ms : List Int} (idx : Nat → List Int → Int) (xo : XO X) (h : ρ[i]? = some (.ow (tl tI ms))) (hij : i ≠ j) (hno : (ρ.set i .un).all slNo = true)
    (ha : DV X Γ ρ a (.int (m : Int))) (hm0 : m < 16000000) (hm : X.mg "range" = none)
    (ok : BlkOk X.N X.env.scope scope [(kn, j)])
    (hgg : ∀ (s : Shared) (H : Hp) (C : Addr) (cl : List (Str × Addr)) (fp : List Addr), PG (X.blk s H scope (compEnvC scope cl C X.env) fp) (.Name kn pn) (gName j))
    (hek : ∀ t ls, t < m → ls.length = ms.length - t → ∀ (s : Shared) (H : Hp) (C : Addr) (cl : List (Str × Addr)) (fp : List Addr), XO (X.blk s H scope (compEnvC scope cl C X.env) fp) → DV (X.blk s H scope (compEnvC scope cl C X.env) fp) Γ (RP ρ i j t ls) ek (.int (idx t ls))) (hbd : ∀ t ls, t < m → ls.length = ms.length - t → 0 ≤ idx t ls ∧ idx t ls < ls.length ∧ idx t ls < 2 ^ 63)
    (hE : E.rt (tl tI (popS idx ms m).2)) (hml : m ≤ ms.length)
    (hN : ∀ (s : Shared) (H : Hp) (C : Addr) (cl : List (Str × Addr)) (fp : List Addr), (X.blk s H scope (compEnvC scope cl C X.env) fp).N[i]? = some n := by intros; rfl)
    (hv : ∀ (s : Shared) (H : Hp) (C : Addr) (cl : List (Str × Addr)) (fp : List Addr), Vis (X.blk s H scope (compEnvC scope cl C X.env) fp).env.scope n := by intros; first | exact Or.inl rfl | exact Or.inr (Or.inl rfl) | exact Or.inr (Or.inr rfl)) (hd : (n == ("__debug__" : Str)) = false := by decide) (hcd : (n == ("__classdict__" : Str)) = false := by decide)
    (hbase2 : ∀ (s : Shared) (H : Hp) (C : Addr) (cl : List (Str × Addr)) (fp : List Addr), attributeBase (.Name n p) "pop" (X.blk s H scope (compEnvC scope cl C X.env) fp).env (eval (.Name n p) (X.blk s H scope (compEnvC scope cl C X.env) fp).env) = eval (.Name n p) (X.blk s H scope (compEnvC scope cl C X.env) fp).env := by intros; rfl)
    (hfew2 : ∀ (s : Shared) (H : Hp) (C : Addr) (cl : List (Str × Addr)) (fp : List Addr), ((backTo cpos (starEach [ek] (X.blk s H scope (compEnvC scope cl C X.env) fp).env)).all (fun x => !x.1) && (backToKw cpos (keywordEach [] (X.blk s H scope (compEnvC scope cl C X.env) fp).env)).all (fun x => x.1.isSome) && decide (([ek] : List Expr).length + ([] : List Keyword).length + (if ([] : List Keyword).isEmpty then 0 else 1) < 30)) = true := by intros; rfl)
    (hline2 : (apos.endLine == cpos.line) = true := by rfl) (hs2 : ∀ (s : Shared) (H : Hp) (C : Addr) (cl : List (Str × Addr)) (fp : List Addr), starEach [ek] (X.blk s H scope (compEnvC scope cl C X.env) fp).env = (false, eval ek (X.blk s H scope (compEnvC scope cl C X.env) fp).env) :: starEach [] (X.blk s H scope (compEnvC scope cl C X.env) fp).env := by intros; rfl)
    (hplain2 : ∀ (s : Shared) (H : Hp) (C : Addr) (cl : List (Str × Addr)) (fp : List Addr), (backTo cpos (starEach [] (X.blk s H scope (compEnvC scope cl C X.env) fp).env)).any (·.1) = false := by intros; rfl)
    (hg : Gl X "range" := by rfl) (hs1 : starEach [a] X.env = (false, eval a X.env) :: starEach [] X.env := by rfl) (hs : starEach [a] X.env = [(false, eval a X.env)] := by rfl)
    (hs3 : ∀ x, foldedSetIterable (.Call (.Name "range" p') [a] [] pr) X.env x = pure x := by intro _; rfl) :
    SS X Γ ρ (.Return (some (.ListComp (.Call (.Attribute (.Name n p) "pop" apos) [ek] [] cpos) [⟨.Name kn pn, .Call (.Name "range" p') [a] [] pr, [], 0⟩] scope lpos)) pos :: rest) E := by
  have hil : i < ρ.length := (List.getElem?_eq_some_iff.mp h).1
  have xb : ∀ (s : Shared) (H : Hp) (C : Addr) (cl : List (Str × Addr)) (fp : List Addr), XO (X.blk s H scope (compEnvC scope cl C X.env) fp) := fun _ _ _ _ _ => ⟨xo.calm, xo.nd, xo.hu⟩
  have he := fun s H C cl fp => pe_popK (X' := X.blk s H scope (compEnvC scope cl C X.env) fp) (Γ := Γ) (m := m) (ms := ms) (idx := idx) (p := p) (apos := apos) (cpos := cpos) hij hil hno (hN s H C cl fp) (hv s H C cl fp) hd hcd (fun t ls h1 h2 => hek t ls h1 h2 s H C cl fp (xb _ _ _ _ _)) hbd (hbase2 s H C cl fp) (hfew2 s H C cl fp) hline2 (hs2 s H C cl fp) (hplain2 s H C cl fp)
  have hit : PI X (.Name kn pn) (.Call (.Name "range" p') [a] [] pr) (fun σ H R => ∃ G, Sr Γ G H σ ρ ∧ ∀ G1 H1, Step G H G1 H1 → Ex G1 H1 → R (Itr 0 m) H1) :=
    (pi_range1 hg hm (pa_cons ha pa_nil hs1) hs).weak fun σ H R ⟨G, S, k⟩ => ⟨G, S, fun v G1 H1 s1 e1 (q : v = .int m) => by
      rw [q]
      refine ⟨m, rfl, by omega, by omega, ?_⟩
      have := k G1 H1 s1 e1
      rwa [show ((m : Int)).toNat = m by omega]⟩
  have plen : ∀ k, k ≤ m → (popS idx ms k).1.length = ms.length - k := by
    intro k
    induction k with
    | zero => intro _; simp [popS]
    | succ k ih =>
      intro hk
      have ih := ih (by omega)
      obtain ⟨q1, q2, q3⟩ := hbd k (popS idx ms k).1 (by omega) ih
      simp only [popS, List.length_eraseIdx]
      rw [if_pos (by omega)]
      omega
  have plen2 : ∀ k, (popS idx ms k).2.length = k := by
    intro k
    induction k with
    | zero => simp [popS]
    | succ k ih => simp only [popS, List.length_append, ih]; rfl
  let Rw : Nat → List Sl := fun k => (ρ.set j .un).set i (.ow (tl tI (popS idx ms k).1))
  have RwP : ∀ k, (Rw k).set j (.v (.int (k : Int))) = RP ρ i j k (popS idx ms k).1 := fun k => rfl
  have RwU : ∀ k, (RP ρ i j k ((popS idx ms k).1.eraseIdx (idx k (popS idx ms k).1).toNat)).set j .un = Rw (k + 1) := fun k => by
    show (((ρ.set j .un).set i _).set j _).set j .un = (ρ.set j .un).set i _
    rw [List.set_set, List.set_comm _ _ hij, List.set_set]
    rfl
  refine ss_cons (M := fun _ => False) ((ps_ret (pe_lc xo.calm xo.nd hit ok hgg (fun _ _ _ _ _ => pts_nil) he hs3)).weak fun D σ H ⟨G, S, k⟩ => ?_) fun _ e => e.elim
  refine ⟨G, S, fun G1 H1 s1 e1 Dd hD => ?_⟩
  have S1 := S.more s1 e1
  obtain ⟨A, SA⟩ := S1.ad
  obtain ⟨a', eA, o0, g0, h0, _⟩ := SA.sl.one h hno
  subst eA
  have hne : Dd ≠ a' := fun z => by rw [z, h0] at hD; cases hD
  have DΓ : Γ.H Dd = none := S1.step.h.none hD
  have aΓ : Γ.H a' = none := SA.fr a' (by simp)
  have w0 : SlR Γ.K Γ.H G1 H1 (σ.set j none) (Rw 0) [a'] := by
    obtain ⟨B, r, sub⟩ := SA.sl.unset j
    have hi' : (ρ.set j .un)[i]? = some (.ow (tl tI ms)) := by rw [List.getElem?_set_ne (Ne.symm hij)]; exact h
    have hno' : ((ρ.set j .un).set i .un).all slNo = true := by
      rw [List.all_eq_true] at hno ⊢
      intro s hs
      rw [List.set_comm _ _ (Ne.symm hij)] at hs
      rcases List.mem_or_eq_of_mem_set hs with y | y
      · exact hno s y
      · rw [y]; rfl
    obtain ⟨a2, eB, o2, g2, h2, kk⟩ := r.one hi' hno'
    have : a2 = a' := by
      rw [eB] at sub
      simpa using sub
    subst this
    exact kk G1 H1 ms (Ex.refl _) g2 h2
  refine ⟨fun k μ H' => μ = m - k ∧ k ≤ m ∧ ∃ G', SrA Γ G' H' (σ.set j none) (Rw k) [a'] ∧ H' Dd = some (.lst ((popS idx ms k).2.map V.int)) ∧ G' Dd = none, ⟨m, by simp, Nat.zero_le _, G1, ⟨S1.step.trans (Step.laid hD), e1.trans (Ex.new hD), w0.more (Step.laid hD), by simp, by simpa using aΓ⟩, upd_same, e1.none hD⟩, ?_⟩
  rintro kq μ H' ⟨rfl, him, G', S', hDl, gD⟩
  by_cases hlt : kq < m
  · refine .inr ⟨hlt, fun H2 => ∃ G2, SrA Γ G2 H2 (σ.set j none) (Rw (kq + 1)) [a'] ∧ H2 Dd = some (.lst ((popS idx ms (kq + 1)).2.map V.int)) ∧ G2 Dd = none, fun H2 z => ⟨m - (kq + 1), by omega, rfl, hlt, z⟩, fun x H'' hy => ?_⟩
    obtain ⟨rfl, rfl⟩ := hy
    have hw1 : wipe σ [j] = σ.set j none := rfl
    refine ⟨?_, ?_⟩
    · show wipe ((wipe σ [j]).set j _) [j] = wipe σ [j]
      rw [wipe_set (by simp), wipe_wipe]
    simp only [tYes, if_true]
    have hun : (Rw kq)[j]? = some .un ∨ (Rw kq)[j]? = none := by
      by_cases hj : j < ρ.length
      · exact .inl (by simp only [Rw]; rw [List.getElem?_set_ne hij, List.getElem?_set_self hj])
      · exact .inr (List.getElem?_eq_none (by simp [Rw]; omega))
    have S3 : SrA Γ G' H'' ((σ.set j none).set j (some (V.int (0 + (kq : Int))))) (RP ρ i j kq (popS idx ms kq).1) [a'] := by
      rw [← RwP, Int.zero_add]
      refine ⟨S'.step, S'.sub, ?_, S'.nd, S'.fr⟩
      rcases hun with z | z
      · obtain ⟨o, A1, B, A2, q1, q2, q3, q4⟩ := S'.sl.focus z
        cases q2
        have := q4 G' H'' (some (.int (kq : Int))) (.v (.int (kq : Int))) [] (Ex.refl _) (fun _ _ g => g) (fun _ _ => rfl) .v
        rw [← q3] at this
        exact this
      · have l1 := S'.sl.len
        have l2 : (Rw kq).length ≤ j := List.getElem?_eq_none_iff.mp z
        rw [List.length_set] at l1
        have e1 : (σ.set j none).set j (some (V.int (kq : Int))) = σ.set j none := List.set_eq_of_length_le (by rw [List.length_set]; omega)
        rw [e1, List.set_eq_of_length_le l2]
        exact S'.sl
    refine ⟨kq, _, G', a', hlt, plen kq him, S3, fun G2 H2 eg S2 kk kg => ?_⟩
    have hD2 := kk Dd _ hne hDl
    have gD2 := kg Dd _ hne gD hDl
    refine ⟨_, hD2, by rw [List.length_map, plen2]; exact Nat.lt_trans hlt (Nat.lt_trans hm0 (by decide)), G2, ⟨⟨S2.step.g, S2.step.h.mut DΓ, S2.step.f⟩, S2.sub.mut gD2, ?_, by simp, by simpa using aΓ⟩, by rw [upd_same]; simp only [popS, List.map_append]; rfl, gD2⟩
    obtain ⟨B, r, sub⟩ := S2.sl.unset j
    rw [RwU, List.set_set] at r
    change SlR Γ.K Γ.H G2 H2 ((σ.set j none).set j none) (Rw (kq + 1)) B at r
    rw [List.set_set] at r
    have hi' : (Rw (kq + 1))[i]? = some (.ow (tl tI (popS idx ms (kq + 1)).1)) := by simp [Rw, hil]
    have hno' : ((Rw (kq + 1)).set i .un).all slNo = true := by
      simp only [Rw]
      rw [List.set_set]
      rw [List.all_eq_true] at hno ⊢
      intro s hs
      rw [List.set_comm _ _ (Ne.symm hij)] at hs
      rcases List.mem_or_eq_of_mem_set hs with y | y
      · exact hno s y
      · rw [y]; rfl
    obtain ⟨a2, eB, o2, g2, h2, _⟩ := r.one hi' hno'
    have : a2 = a' := by
      rw [eB] at sub
      simpa using sub
    subst this
    rw [eB] at r
    exact r.frame (Ex.refl _) (fun _ _ g => g) (fun b hb => upd_ne fun z => hne (by simp at hb; rw [← z, hb]))
  · have e : kq = m := by omega
    subst e
    exact .inl ⟨Nat.le_refl _, k.rt _ (.ref Dd) G' H' [Dd] hE S'.step S'.sub (OwnT.intsNew gD hDl) (by simp) (by simpa using DΓ)⟩
end
end DL

set_option Elab.async false
set_option linter.all false
set_option maxRecDepth 100000
set_option maxHeartbeats 2000000
/-! lists of two or three things of several kinds -/
namespace DL
open PySem L2
def dH2 {α β : Type} (f : α → D) (g : β → D) (p : α × β) : D := .list [f p.1, g p.2]
def dH3 {α β γ : Type} (f : α → D) (g : β → D) (h : γ → D) (p : α × β × γ) : D := .list [f p.1, g p.2.1, h p.2.2]
def tH2 {α β : Type} (f : α → OT) (g : β → OT) (p : α × β) : OT := .cell [f p.1, g p.2]
def tH3 {α β γ : Type} (f : α → OT) (g : β → OT) (h : γ → OT) (p : α × β × γ) : OT := .cell [f p.1, g p.2.1, h p.2.2]
theorem er_cell (ts : List OT) : (OT.cell ts).er = .list (ts.map OT.er) := by
  unfold OT.er
  rw [ers_map]
instance {α β : Type} (f : α → OT) (g : β → OT) (f' : α → D) (g' : β → D) [h : Er f f'] [k : Er g g'] : Er (tH2 f g) (dH2 f' g') := ⟨fun x => by
  unfold tH2 dH2
  rw [er_cell]
  simp [h.er, k.er]⟩
instance {α β γ : Type} (f : α → OT) (g : β → OT) (q : γ → OT) (f' : α → D) (g' : β → D) (q' : γ → D) [h : Er f f'] [k : Er g g'] [l : Er q q'] : Er (tH3 f g q) (dH3 f' g' q') := ⟨fun x => by
  unfold tH3 dH3
  rw [er_cell]
  simp [h.er, k.er, l.er]⟩
instance {α β : Type} (f : α → D) (g : β → D) (n m : Nat) [h : EqN f n] [k : EqN g m] : EqN (dH2 f g) (n + m + 1) := ⟨fun x y => by
    unfold dH2
    simp only [PyData.eqv, PyData.eqvAll, Bool.and_eq_true, h.eqv, k.eqv, Prod.ext_iff, and_true], fun x => by simp [dH2, PyData.canLay0, PyData.canLayAll0, h.lay, k.lay], fun x => by
    have := h.dep x.1
    have := k.dep x.2
    simp only [dH2, PyData.depth, PyData.depthAll]
    omega⟩
instance {α β γ : Type} (f : α → D) (g : β → D) (q : γ → D) (n m l : Nat) [h : EqN f n] [k : EqN g m] [j : EqN q l] : EqN (dH3 f g q) (n + m + l + 1) := ⟨fun x y => by
    unfold dH3
    simp only [PyData.eqv, PyData.eqvAll, Bool.and_eq_true, h.eqv, k.eqv, j.eqv, Prod.ext_iff, and_true], fun x => by simp [dH3, PyData.canLay0, PyData.canLayAll0, h.lay, k.lay, j.lay], fun x => by
    have := h.dep x.1
    have := k.dep x.2.1
    have := j.dep x.2.2
    simp only [dH3, PyData.depth, PyData.depthAll]
    omega⟩
section
variable {X : Cx} {Γ : Gm} {ρ : List Sl} {e a b : Expr} {pos : Pos} {κ : Kd} {α β γ : Type} {f : α → D} {g : β → D} {q : γ → D}
theorem de_H0 {p : α × β} (ha : DE X Γ ρ a κ (dH2 f g p)) (hb : DV X Γ ρ b (.int 0)) (hs : PlainIx b := by intro _ _; rfl) : DE X Γ ρ (.Subscript a b pos) κ (f p.1) := de_at ha hb rfl hs
theorem de_H1 {p : α × β} (ha : DE X Γ ρ a κ (dH2 f g p)) (hb : DV X Γ ρ b (.int 1)) (hs : PlainIx b := by intro _ _; rfl) : DE X Γ ρ (.Subscript a b pos) κ (g p.2) := de_at ha hb rfl hs
theorem de_J0 {p : α × β × γ} (ha : DE X Γ ρ a κ (dH3 f g q p)) (hb : DV X Γ ρ b (.int 0)) (hs : PlainIx b := by intro _ _; rfl) : DE X Γ ρ (.Subscript a b pos) κ (f p.1) := de_at ha hb rfl hs
theorem de_J1 {p : α × β × γ} (ha : DE X Γ ρ a κ (dH3 f g q p)) (hb : DV X Γ ρ b (.int 1)) (hs : PlainIx b := by intro _ _; rfl) : DE X Γ ρ (.Subscript a b pos) κ (g p.2.1) := de_at ha hb rfl hs
theorem de_J2 {p : α × β × γ} (ha : DE X Γ ρ a κ (dH3 f g q p)) (hb : DV X Γ ρ b (.int 2)) (hs : PlainIx b := by intro _ _; rfl) : DE X Γ ρ (.Subscript a b pos) κ (q p.2.2) := de_at ha hb rfl hs
end
end DL

set_option Elab.async false
set_option linter.all false
set_option maxRecDepth 100000
set_option maxHeartbeats 2000000
/-! list(reversed(a list of ints)) -/
namespace DL
open PySem PySem.Spec PyProof.Rows L2 RT
section
variable {prog : Program} {w : World} {A : Around} {E : Value → Shared → Prop} {s : Shared} {R : Result → Shared → Prop}
theorem grow_rev {it l S : Addr} {items : Array Value} {n0 : Nat} (hh : A.handled = none) (hit : s.heap.IsRevIter it l ((items.size : Int) - 1)) (hl : s.heap.IsList l items) (hne : l ≠ it) (hn : items.size ≤ sizeLine) (hSi : S ≠ it) (hSl : S ≠ l) (hS : s.heap.get? S = some { cls := .type "list", data := .seq #[] n0 })
    (hR : ∀ (h' : Heap) (tk : Nat) (acc : Array Value) (c : Nat), (∀ b o, b ≠ S → b ≠ it → s.heap.get? b = some o → h'.get? b = some o) → h'.get? S = some { cls := .type "list", dict := none, data := .seq acc c, slots := #[] } → ItemsOf (fun i v => items[items.size - 1 - i]? = some v) acc items.size → R (.ok (.ret .none)) { s with heap := h', toks := tk }) :
    wpAny (model prog w) A.in1 (Builtin.List.listExtendWith (.ref S) (.ref it) .none) (fun fin s' => match fin with | .done f => R (.ok f) s' | .again c' => c'.quiet = true ∧ codeAny (model prog w) A c' R s') (fun e s' => R (.error e) s') s := by
  have W := (Walks.listRev (prog := prog) (w := w) (A := A.in1) hh it l hne items).toS
  have hSf : S ∉ [it, l] := by simp [hSi, hSl]
  have hT : s.TypeIs (.ref it) "list_reverseiterator" := Heap.IsRevIter.typeIs hit
  have h1 : Builtin.List.listSameRef (.ref S) (.ref it) = false := by simp [Builtin.List.listSameRef, hSi]
  unfold Builtin.List.listExtendWith; refine wpAny_bind (wpAny_typeOf hT ?_); rw [if_neg (by rw [h1]; decide)]; refine wpAny_bind (wpAny_pyIter_revIter hit ?_); refine wpAny_bind (wpAny_holding ?_); unfold Builtin.List.listLengthHint
  refine wpAny_bind (wpAny_specialOf hT nolen_lri ?_); show wpAny _ A.in1 (specialOf (Value.ref it) (Str.ofString "__length_hint__") >>= _) _ _ _
  refine wpAny_bind (wpAny_specialOf hT hint_lri ?_); generalize hid : ("list_reverseiterator.__length_hint__" : String) = idd
  wp_delta
  rw [show splitId idd = some ("list_reverseiterator", "__length_hint__") from by subst hid; decide +kernel]; subst hid
  refine wpAny_bind (wpAny_isInstance (b := true) hT (by rw [isSubtype_type]; kernel_rfl) ?_); refine wpAny_pure ?_
  rw [if_neg (by decide)]; have e0 : ((items.size : Nat) : Int) - 1 - ((0 : Nat) : Int) = (items.size : Int) - 1 := by omega
  refine wpAny_pure ⟨plainId_quiet F.plain_extend_loop _, codeAny_extend_loopS W hn S hSf .none items.size 0 _ _ _ rfl (Nat.zero_le _) ⟨Nat.zero_le _, by rw [e0]; exact hit, hl⟩ hS (ItemsOf.nil _) fun s' acc' c' hm hS' hacc => ?_⟩
  rw [Moved.eq_with hm]
  refine hR s'.heap s'.toks acc' c' (fun b o hb hb2 e => hm.heap b o (fun hmem => ?_) e) hS' hacc
  rcases List.mem_cons.mp hmem with z | z
  · exact hb z
  · exact hb2 (List.mem_singleton.mp z)
theorem init_rev {it l S : Addr} {items : Array Value} (hh : A.handled = none) (hit : s.heap.IsRevIter it l ((items.size : Int) - 1)) (hl : s.heap.IsList l items) (hne : l ≠ it) (hn : items.size ≤ sizeLine) (hSi : S ≠ it) (hSl : S ≠ l) (hS : s.heap.get? S = some { cls := .type "list", data := .seq #[] })
    (hR : ∀ (h' : Heap) (tk : Nat) (acc : Array Value) (c : Nat), (∀ b o, b ≠ S → b ≠ it → s.heap.get? b = some o → h'.get? b = some o) → h'.get? S = some { cls := .type "list", dict := none, data := .seq acc c, slots := #[] } → ItemsOf (fun i v => items[items.size - 1 - i]? = some v) acc items.size → R (.ok (.ret .none)) { s with heap := h', toks := tk }) :
    wpAny (model prog w) A.in1 (Builtin.«list.__init__» ⟨[.ref S, .ref it], []⟩) (fun fin s' => match fin with | .done f => R (.ok f) s' | .again c' => c'.quiet = true ∧ codeAny (model prog w) A c' R s') (fun e s' => R (.error e) s') s := by
  show wpAny _ A.in1 (Builtin.List.listItems (.ref S) >>= fun old => Builtin.List.listUpdate (.ref S) (fun _ => #[]) >>= fun _ => letGo old.toList.reverse >>= fun _ => Builtin.List.listExtendWith (.ref S) (.ref it) .none) _ _ s
  refine wpAny_bind ?_
  unfold Builtin.List.listItems; refine wpAny_bind (wpAny_seqItems hS rfl (wpAny_pure ?_)); show wpAny _ A.in1 (updateSeq S (fun _ => #[]) >>= fun _ => letGo (#[] : Array Value).toList.reverse >>= fun _ => Builtin.List.listExtendWith (.ref S) (.ref it) .none) _ _ s
  refine wpAny_bind (wpAny_updateSeq hS rfl ?_); have hS2 := Heap.get?_update_self (Obj.mapSeq (fun _ => (#[] : Array Value))) hS rfl
  have oth : ∀ b o, b ≠ S → s.heap.get? b = some o → (s.heap.update S (Obj.mapSeq (fun _ => (#[] : Array Value)))).get? b = some o := fun b o hb e => (Heap.get?_update_other _ _ (Ne.symm hb)).trans e
  refine wpAny_bind (wpAny_letGo ?_)
  obtain ⟨ol, q1, q2, qn, q3⟩ := hl
  have hl2 : (s.heap.update S (Obj.mapSeq (fun _ => (#[] : Array Value)))).IsList l items := ⟨ol, oth l ol (Ne.symm hSl) q1, q2, qn, q3⟩
  refine grow_rev (s := { s with heap := s.heap.update S (Obj.mapSeq (fun _ => (#[] : Array Value))) }) hh (hit.at fun o e => oth it o (Ne.symm hSi) e) hl2 hne hn hSi hSl hS2 fun h' tk acc c hk hS' ha => ?_
  exact hR h' tk acc c (fun b o hb hb2 e => hk b o hb hb2 (oth b o hb e)) hS' ha
theorem list_rev {it l : Addr} {items : Array Value} {Q : Value → Shared → Prop} (hh : A.handled = none) (hit : s.heap.IsRevIter it l ((items.size : Int) - 1)) (hl : s.heap.IsList l items) (hne : l ≠ it) (hn : items.size ≤ sizeLine)
    (hQ : ∀ (h' : Heap) (tk : Nat) (acc : Array Value) (c : Nat), (∀ b o, b ≠ it → s.heap.get? b = some o → h'.get? b = some o) → h'.get? s.heap.objs.size = some { cls := .type "list", dict := none, data := .seq acc c, slots := #[] } → ItemsOf (fun i v => items[items.size - 1 - i]? = some v) acc items.size → Q (.ref s.heap.objs.size) { s with heap := h', toks := tk }) :
    wpAny (model prog w) A (call (.type "list") [.ref it]) Q E s := by
  obtain ⟨oi, hoi, hoi2⟩ := id hit
  obtain ⟨ol, hol, q2⟩ := id hl
  refine callType_codes (Q₁ := fun obj t => obj = .ref s.heap.objs.size ∧ t = { s with heap := s.heap.push { cls := .type "list", data := .seq #[] } }) F.called_list (F.typeCall_list_1 _) F.entry_list_init (code_list_new _ ⟨rfl, rfl⟩) fun obj t ht => ?_
  obtain ⟨rfl, rfl⟩ := ht
  have hS : (s.heap.push { cls := .type "list", data := .seq #[] }).get? s.heap.objs.size = some { cls := .type "list", data := .seq #[] } := Heap.get?_push_size _ rfl
  refine ⟨⟨_, hS, rfl⟩, F.args_list_init_2 _ _, init_rev (A := A.in1) (s := { s with heap := s.heap.push { cls := .type "list", data := .seq #[] } }) hh (hit.at fun o e => Heap.get?_push_of_some _ e) (hl.push _) hne hn (Nat.ne_of_gt (Heap.lt_size hoi)) (Nat.ne_of_gt (Heap.lt_size hol)) hS fun h' tk acc c hk hS' ha => ?_⟩
  exact ⟨rfl, hQ h' tk acc c (fun b o hb e => hk b o (Nat.ne_of_lt (Heap.lt_size e)) hb (Heap.get?_push_of_some _ e)) hS' ha⟩
end
/-- list(reversed(x)), x a list: a new list -/
def tLstRev (K : PySem.W.Frag) (te : TE) : TE := fun σ H Q => te σ H fun v H1 => ∃ (a : Addr) (xs : List V), v = .ref a ∧ SqL K H1 a xs ∧ ∀ q, H1 q = none → Q (.ref q) (upd H1 q (.lst xs.reverse))
theorem pe_lstRev {X : Cx} {e : Expr} {te : TE} {p p2 pos pos2 : Pos} (hc : X.calm = true) (hg : Gl X "list") (hm : X.mg "list" = none) (hg2 : Gl X "reversed") (hm2 : X.mg "reversed" = none) (he : PE X e te) (hs : starEach [e] X.env = (false, eval e X.env) :: starEach [] X.env)
    (hs2 : starEach [.Call (.Name "reversed" p2) [e] [] pos2] X.env = (false, eval (.Call (.Name "reversed" p2) [e] [] pos2) X.env) :: starEach [] X.env) : PE X (.Call (.Name "list" p) [.Call (.Name "reversed" p2) [e] [] pos2] [] pos) (tLstRev X.K te) := by
  refine ⟨fun pins s σ H Q I h => ?_⟩
  refine Call_ (ld_blt I hg hm boot_list (PyProof.Rows.callWith_type1 (args_cons (Call_ (ld_blt I hg2 hm2 PyProof.Rows.boot_reversed (PyProof.Rows.callWith_type1 (args_cons (thn (he.run pins s σ H _ I h) fun u s1 ⟨v, H1, I1, r1, q1⟩ => args_nil ?_) hs) hs rfl))) hs2) hs2 rfl))
  obtain ⟨a, xs, ev, hq, q⟩ := q1
  subst ev
  obtain rfl : u = Value.ref a := r1
  obtain ⟨its, rv, p', hz⟩ := I1.list hq
  refine call_reversed_list p'.isList (args_nil ?_)
  have hl := p'.isList
  obtain ⟨ol, hol, _⟩ := id hl
  have hne : a ≠ s1.heap.objs.size := Nat.ne_of_lt (Heap.lt_size hol)
  have hn : its.toArray.size ≤ sizeLine := by rw [List.size_toArray, ← rv.length]; exact hz
  refine list_rev (s := { s1 with heap := s1.heap.push (revObj a ((its.toArray.size : Int) - 1)) }) (I1.ok.hd hc) ⟨_, Heap.get?_push_size _ rfl, rfl, rfl⟩ (hl.push _) hne hn fun h' tk acc c hk hS' hi => ?_
  have hsz : s1.heap.objs.size ≤ (s1.heap.push (revObj a ((its.toArray.size : Int) - 1))).objs.size := by simp [Heap.push]
  have kk : ∀ b o, s1.heap.get? b = some o → h'.get? b = some o := fun b o e => hk b o (Nat.ne_of_lt (Heap.lt_size e)) (Heap.get?_push_of_some _ e)
  refine ⟨.ref (s1.heap.push (revObj a ((its.toArray.size : Int) - 1))).objs.size, upd H1 (s1.heap.push (revObj a ((its.toArray.size : Int) - 1))).objs.size (.lst xs.reverse), I1.laid (t' := tk) kk hsz (show ObjOk X.prog X.w _ _ _ (.lst xs.reverse) from ⟨by rw [List.length_reverse]; exact hz, acc.toList, c, vals_rev rv hi, ?_⟩), rfl, q _ (I1.hok.fresh hsz)⟩
  rw [Array.toArray_toList]; exact hS'
end DL
namespace DL
open PySem L2
section
variable {X : Cx} {Γ : Gm} {ρ : List Sl} {a : Expr} {pos p : Pos} {κ : Kd}
theorem do_lstRev {ns : List Int} {p2 pos2 : Pos} (xo : XO X) (ha : DE X Γ ρ a κ (dl dI ns)) (hm : X.mg "list" = none) (hm2 : X.mg "reversed" = none) (hg : Gl X "list" := by rfl) (hg2 : Gl X "reversed" := by rfl) (hs : starEach [a] X.env = (false, eval a X.env) :: starEach [] X.env := by rfl)
    (hs2 : starEach [.Call (.Name "reversed" p2) [a] [] pos2] X.env = (false, eval (.Call (.Name "reversed" p2) [a] [] pos2) X.env) :: starEach [] X.env := by rfl) : DO X Γ ρ (.Call (.Name "list" p) [.Call (.Name "reversed" p2) [a] [] pos2] [] pos) (tl tI ns.reverse) :=
  (pe_lstRev xo.calm hg hm hg2 hm2 ha hs hs2).weak fun σ H Q ⟨G, S, k⟩ => ⟨G, S, fun v G1 H1 s1 e1 q => by
    obtain ⟨q1, vs, rfl, h1, r1⟩ := Rep.l (pK_c S s1 e1 q)
    have ev : vs = ns.map V.int := r1.ints
    subst ev
    refine ⟨q1, _, rfl, SqL.of h1, fun q hq => ?_⟩
    rw [← List.map_reverse]
    exact do_new e1 hq H s1.h fun w G2 H2 s2 e2 p2 => k w G2 H2 (s1.trans s2) e2 p2⟩
end
end DL
namespace DL
open PySem L2
/-- None or a list of ints -/
def dOL : Option (List Int) → D
  | none => .none
  | some l => dL l
def tOL : Option (List Int) → OT
  | none => .fz .none
  | some l => tL l
instance : Er tOL dOL := ⟨fun x => by
  cases x with
  | none => unfold tOL OT.er; rfl
  | some l => exact Er.er (g := tL) (f := dL) l⟩
end DL

set_option Elab.async false
set_option linter.all false
set_option maxRecDepth 100000
set_option maxHeartbeats 2000000
/-! try: a call that is refused, except C as e: a suite that looks at e alone -/
namespace DL
open PySem L2
theorem takes_len {X : Cx} {W : WX} (tk : Takes X W) : Takes X (fun cls d σ H => σ.length = X.N.length → W cls d σ H) := fun u s' ⟨a, B, sI, pins, σ, H, cls, d, e, I, nb, up, sky, na, os, ag, w⟩ =>
  tk u s' ⟨a, B, sI, pins, σ, H, cls, d, e, I, nb, up, sky, na, os, ag, w I.len⟩
theorem call_isET {X : Cx} {a D : Addr} {oe : Obj} {pn : List (Addr × Obj)} (C : ExcC X.K D) (hz : Zc (.ref D) none oe) (hf : ∃ vs, oe.data = .fields vs) : CallR (X.suite a ((a, oe) :: pn)) (.builtin "isinstance")
    (fun xs H Q => ∃ (tp : Addr) (cs : List V) (us : List Value) (b : Bool), xs = [.ref a, .ref tp] ∧ H tp = some (.tup cs) ∧ Paired ClsV cs us ∧ PySem.W.kitAny X.K (.ref D) us = some b ∧ Q (.bl b) H) := by
  intro pins s σ H xs us Q I r h
  obtain ⟨tp, cs, ws, b, rfl, hT, k, e, q⟩ := h
  cases r with
  | cons rx rr =>
    cases rr with
    | cons rt rr =>
      cases rr
      cases rx
      cases rt
      obtain ⟨hget, _⟩ := I.pin (a, oe) (List.mem_append.mpr (.inl List.mem_cons_self))
      obtain ⟨vs, hv⟩ := hf
      have J : PySem.W.InstAt s.heap a oe D none := by
        obtain ⟨oc, od, oda, osl⟩ := oe
        obtain ⟨h1, h2⟩ := hz; dsimp only at h1 h2 hv; subst h1 h2 hv
        exact ⟨hget, rfl, rfl, trivial⟩
      obtain ⟨_, its, rv, o, h1, h2, n, h3⟩ := (show ObjOk X.prog X.w H s.heap tp (.tup cs) from I.hok tp _ hT)
      have e3 := ClsV.all k rv; subst e3
      obtain ⟨oc, od, dt, sl⟩ := o
      simp only at h2 h3; subst h2 h3
      exact PySem.W.kia_tup (PySem.W.handS_kitx_exc C.hg C.hk C.hs C.hd C.ha C.hn C.ht C.hm) I.kIn J h1 e (fun z => nomatch z) fun tk => ⟨.bl b, H, I.kept (t' := tk) fun _ _ z => z, rfl, q⟩
section
variable {X : Cx} {Γ : Gm} {ρ : List Sl} {pos p p2 np pos' cp : Pos} {E : En} {rest : List Stmt} {n x : Str} {i : Nat} {a : Addr} {oe : Obj} {pn : List (Addr × Obj)} {D : Addr} {c : V} {cv : Value} {b : Bool} {ea ec : Expr}
/-- isinstance(e, a class) in the suite -/
theorem dv_isE (C : ExcC X.K D) (hz : Zc (.ref D) none oe) (hf : ∃ vs, oe.data = .fields vs) (ha : DV (X.suite a ((a, oe) :: pn)) Γ ρ ea (.ref a)) (hc : DV (X.suite a ((a, oe) :: pn)) Γ ρ ec c) (hcv : ∀ u, RelV c u → u = cv) (hk : PySem.W.kitOne X.K (.ref D) cv = some b) (hm : X.mg "isinstance" = none)
    (hg : Gl (X.suite a ((a, oe) :: pn)) "isinstance" := by rfl) (he : starEach [ea, ec] X.env = (false, eval ea X.env) :: starEach [ec] X.env := by rfl) (he2 : starEach [ec] X.env = (false, eval ec X.env) :: starEach [] X.env := by rfl) (hpl : (backTo pos (starEach [ec] X.env)).any (·.1) = false := by rfl) :
    DV (X.suite a ((a, oe) :: pn)) Γ ρ (.Call (.Name "isinstance" p) [ea, ec] [] pos) (.bl b) :=
  cb2 (pe_callB (call_isE C hz hf) hg hm PyProof.Rows.boot_isinstance (pa_cons ha (pa_cons hc pa_nil he2) he) (by decide) (by decide) he hpl) fun σ G H G1 H1 G2 H2 v u Q S s1 e1 q1 s2 e2 q2 k =>
    ⟨c, cv, b, by rw [q1, q2], hcv, hk, k _ G2 H2 (Step.refl _ _) e2 rfl⟩
theorem ss_tryE {C : Addr} {cx : Value} {call : Expr} {b0 : Stmt} {suite : List Stmt} {epos : Pos} (i : Nat) (eg : Ex Γ.G Γ.H) (hN : X.N.Nodup) (hc : Names X x cx) (hmatch : PySem.W.exmOne X.K (.ref C) cx = some true)
    (hb : ∀ (pn : List (Addr × Obj)) (xe : Value → Shared → Prop), RX (X.tr pn xe) Γ C → DN (X.tr pn xe) Γ ρ call)
    (hsu : ∀ (a : Addr) (oe : Obj) (pn : List (Addr × Obj)), Zc (.ref C) none oe → (∃ vs, oe.data = .fields vs) → SS (X.suite a ((a, oe) :: pn)) Γ ((List.replicate X.N.length Sl.un).set i (.v (.ref a))) (b0 :: suite) { nx := fun _ => False, rt := E.rt })
    (hi : X.N[i]? = some n := by rfl) (hs : X.stack = X.env :: X.outer := by rfl) (hf : X.env.frame = some X.env.locals := by rfl) (hln : X.env.kindOf n = some .local := by rfl) (hsw : ∀ pn xe, swapsWith call none epos.line (X.tr pn xe).env = pure false := by intros; rfl) :
    SS X Γ ρ (.Try [.Expr call epos] [.ExceptHandler (some (.Name x np)) (some n) (b0 :: suite) pos'] [] [] pos :: rest) E := by
  let E' : En := { nx := fun _ => False, rt := E.rt }
  let ts : Addr → Value → Option Addr → TS := fun a cls d => fun D' σ H => (cls = .ref C ∧ d = none) ∧ tS Γ ((List.replicate X.N.length Sl.un).set i (.v (.ref a))) E' D' σ H
  let tb : WX → TS := fun W => fun D' σ H => (∀ (σ' : L2.St) (H2 : Hp), σ'.length = X.N.length → Ex Γ.H H2 → W (.ref C) none σ' H2) ∧ ∃ G, Sr Γ G H σ ρ
  have tk0 : Takes X (fun _ _ _ _ => False) := fun u s' ⟨_, _, _, _, _, _, _, _, _, _, _, _, _, _, _, _, w⟩ => w.elim
  have h1 : ∀ (W : WX) (pn : List (Addr × Obj)) (xe : Value → Shared → Prop), Takes (X.tr pn xe) W → PassesOwn (model X.prog X.w) X.A X.env xe → PSs (X.tr pn xe) [.Expr call epos] (tb W) := fun W pn xe tk hp => ⟨fun pins s σ H D' I ⟨hw, G, S⟩ => by
    have rx : RX (X.tr pn xe) Γ C := ⟨_, takes_len tk, fun σ' H2 e hl => hw σ' H2 hl e⟩
    have dn := hb pn xe rx
    have := ((pss_cons (ps_expr dn (hsw pn xe)) (pss_nil (X := X.tr pn xe))).run pins s σ H D' I ⟨G, S, fun v G2 H2 st ex q => q.elim⟩)
    exact this⟩
  have h2 : ∀ (a : Addr) (oe : Obj) (cls : Value) (d : Option Addr) (pn : List (Addr × Obj)), Zc cls d oe → (∃ vs, oe.data = .fields vs) → PSs (X.suite a ((a, oe) :: pn)) (b0 :: suite) (ts a cls d) := fun a oe cls d pn hz hf => ⟨fun pins s σ H D' I ⟨⟨e1, e2⟩, q⟩ => by
    subst e1 e2
    exact (hsu a oe pn hz hf).run pins s σ H D' I q⟩
  refine ss_cons (M := fun _ => False) ((ps_try_as hs hf hN hi hln hc tk0 h1 h2).weak fun D' σ H ⟨G, S, k⟩ => ?_) fun _ e => e.elim
  refine ⟨fun σ' H2 hl e => ⟨true, hmatch, fun _ a ha => ⟨⟨rfl, rfl⟩, Γ.G, ⟨⟨Ex.refl _, e, fun b u g _ => g⟩, eg.trans e, [], ?_, List.nodup_nil, fun _ z => by cases z⟩, ⟨fun _ _ _ _ z => z.elim, fun _ _ _ _ z => z.elim, fun _ _ _ _ z => z.elim, k.rt⟩⟩, fun z => by cases z⟩, G, S⟩
  exact (SlR.uns _ σ' hl).setN .v
end
end DL
namespace DL
open PySem L2
section
variable {X : Cx} {Γ : Gm} {ρ : List Sl} {pos p tpos : Pos} {a : Addr} {oe : Obj} {pn : List (Addr × Obj)} {D : Addr} {b : Bool} {ea : Expr} {es : List Expr} {kk : Nat} {cs : List V} {us : List Value}
/-- classes written out -/
theorem slR_vs {K : Fg} {I G H : Hp} : ∀ {vs cs : List V} {A : List Addr}, SlR K I G H (vs.map some) (cs.map Sl.v) A → vs = cs
  | [], [], _, .nil => rfl
  | v :: vs, c :: cs, _, .cons h r => by
    cases h with
    | v => rw [slR_vs r]
/-- isinstance(e, (classes)) in the suite -/
theorem dv_isET (C : ExcC X.K D) (hz : Zc (.ref D) none oe) (hf : ∃ vs, oe.data = .fields vs) (ha : DV (X.suite a ((a, oe) :: pn)) Γ ρ ea (.ref a)) (hc : DA (X.suite a ((a, oe) :: pn)) Γ ρ es (cs.map Sl.v)) (hp : Paired ClsV cs us) (hl : cs.length ≤ 1000) (hk : PySem.W.kitAny X.K (.ref D) us = some b) (hm : X.mg "isinstance" = none)
    (hg : Gl (X.suite a ((a, oe) :: pn)) "isinstance" := by rfl) (he : starEach [ea, .Tuple es kk tpos] X.env = (false, eval ea X.env) :: starEach [.Tuple es kk tpos] X.env := by rfl) (he2 : starEach [.Tuple es kk tpos] X.env = (false, eval (.Tuple es kk tpos) X.env) :: starEach [] X.env := by rfl) (hpl : (backTo pos (starEach [.Tuple es kk tpos] X.env)).any (·.1) = false := by rfl) :
    DV (X.suite a ((a, oe) :: pn)) Γ ρ (.Call (.Name "isinstance" p) [ea, .Tuple es kk tpos] [] pos) (.bl b) := by
  let pT : Hp → Hp → Hp → V → Prop := fun _ _ H2 v => ∃ t, v = .ref t ∧ H2 t = some (.tup cs)
  have ht : PE (X.suite a ((a, oe) :: pn)) (.Tuple es kk tpos) (tX Γ ρ pT) := (pe_tup hc).weak fun σ H Q ⟨G, S, k⟩ => ⟨G, S, fun vs G1 H1 A s1 e1 r nd f => by
    have ev := slR_vs r
    subst ev
    exact ⟨Nat.le_trans hl (by decide), fun q hq => k (.ref q) G1 _ (s1.trans (Step.laid hq)) (e1.trans (Ex.new hq)) ⟨q, rfl, upd_same⟩⟩⟩
  exact cb2 (pe_callB (call_isET C hz hf) hg hm PyProof.Rows.boot_isinstance (pa_cons ha (pa_cons ht pa_nil he2) he) (by decide) (by decide) he hpl) fun σ G H G1 H1 G2 H2 v u Q S s1 e1 q1 s2 e2 q2 k => by
    obtain ⟨t, rfl, ht⟩ := q2
    exact ⟨t, cs, us, b, by rw [q1], ht, hp, hk, k _ G2 H2 (Step.refl _ _) e2 rfl⟩
end
end DL

set_option Elab.async false
set_option linter.all false
set_option maxRecDepth 100000
set_option maxHeartbeats 2000000
/-! defs whose arguments are as good as frozen: their result is plain, or only looked at; texts joined -/
namespace DL
open PySem L2
def tz : Sl → Sl
  | .ro d => .sh d
  | s => s
theorem SlR.tz {K : Fg} {G H : Hp} (e : Ex G H) : ∀ {σ : L2.St} {ss : List Sl} {A : List Addr}, SlR K H G H σ ss A → ss.all argOk = true → SlR K H H H σ (ss.map DL.tz) []
  | _, _, _, .nil, _ => .nil
  | _, _, _, .cons h r, q => by
    rw [List.all_cons, Bool.and_eq_true] at q
    have r' := SlR.tz e r q.2
    cases h with
    | ow _ => cases q.1
    | un => exact .cons (A := []) (B := []) .un r'
    | v => exact .cons (A := []) (B := []) .v r'
    | sh z => exact .cons (A := []) (B := []) (.sh (Rep.mono e z)) r'
    | ro z => exact .cons (A := []) (B := []) (.sh z) r'
    | sc z => exact .cons (A := []) (B := []) (.sc z) r'
theorem rep_sc {G H : Hp} {v x : V} {d : D} (hd : dV d = some x) (r : Rep G v d) : Rep H v d := by
  cases r with
  | non => exact .non
  | bl b => exact .bl b
  | int i => exact .int i
  | str s => exact .str s
  | lst _ _ => cases hd
  | tup _ _ => cases hd
  | dct _ => cases hd
/-- what a def hands back is only looked at -/
def spC (K : Fg) (ss : List Sl) (d : D) : Sp := fun vs H Q E => ∃ G, Ex G H ∧ SlR K H G H (vs.map some) ss [] ∧ ∀ v H2, Ex H H2 → Rep H2 v d → Q v H2
section
variable {P : Program} {w : World} {K : Fg} {mg : Str → Option Value} {base : Heap}
theorem ok_defC {x qual : Str} {st : Stmt} {f : Addr} {fd : FuncData} {N ps : List Str} {k m : Nat} {ss : List Sl} {d : D} (F : Fun K x qual st f fd) (S : FnScope N ps (defScope st)) (hl : ss.length = ps.length) (hm : N.length - ps.length = m) (ha : ss.all argOk = true)
    (hbody : ∀ (cdv : Value) (A : Around) (outer : List Env) (s : Shared) (H : Hp) (E : XK), Room k (A.deeper (PyProof.Rows.envOfC qual (defScope st) s.heap.objs.size f cdv)) →
      XO (cxOf (L2.CX P w) P w K mg base N qual (defScope st) f cdv A outer s H E) →
      PassesOwn (model P w) (A.deeper (PyProof.Rows.envOfC qual (defScope st) s.heap.objs.size f cdv)) (PyProof.Rows.envOfC qual (defScope st) s.heap.objs.size f cdv) (cxOf (L2.CX P w) P w K mg base N qual (defScope st) f cdv A outer s H E).xe →
      SS (cxOf (L2.CX P w) P w K mg base N qual (defScope st) f cdv A outer s H E) ⟨K, H, H⟩ (ss.map DL.tz ++ List.replicate m .un) (defBody st) { nx := fun _ => False, rt := fun t => t.er = d }) :
    FnOk P w K mg base (L2.CX P w) (k + 1) f fd ps (spC K ss d) := by
  have len : ∀ vs H Q E, spC K ss d vs H Q E → vs.length = ps.length := fun vs H Q E ⟨G, _, r, _⟩ => by rw [slr_len r, hl]
  refine F.okX S len (fun cdv A outer s H vs Q E hr h => ?_)
  have hv := len _ _ _ _ h
  have xo : XO (cxOf (L2.CX P w) P w K mg base N qual (defScope st) f cdv A outer s H E) := ⟨rfl, S.nd, by have := hr.un; show (A.deeper (PyProof.Rows.envOfC qual (defScope st) s.heap.objs.size f cdv)).units + 65 < cLine; omega⟩
  have hp : PassesOwn (model P w) (A.deeper (PyProof.Rows.envOfC qual (defScope st) s.heap.objs.size f cdv)) (PyProof.Rows.envOfC qual (defScope st) s.heap.objs.size f cdv) (cxOf (L2.CX P w) P w K mg base N qual (defScope st) f cdv A outer s H E).xe := passes_of (X := cxOf (L2.CX P w) P w K mg base N qual (defScope st) f cdv A outer s H E) rfl
  obtain ⟨G, eg, r, kk⟩ := h
  refine ⟨_, hbody cdv A outer s H E hr xo hp, H, ⟨⟨Ex.refl _, Ex.refl _, fun _ _ e _ => e⟩, Ex.refl _, [], slr_start (SlR.tz eg r ha) (by rw [hv, hm]), List.nodup_nil, fun _ z => by cases z⟩, ?_⟩
  refine ⟨fun _ _ _ _ z => z.elim, fun _ _ _ _ z => z.elim, fun _ _ _ _ z => z.elim, fun t' v G' H' A' e st' ex o nd f' => ?_⟩
  cases e
  exact kk v H' st'.h (o.rep ex)
theorem ok_defZ {x qual : Str} {st : Stmt} {f : Addr} {fd : FuncData} {N ps : List Str} {k m : Nat} {ss : List Sl} {d : D} {u : V} (hd : dV d = some u) (F : Fun K x qual st f fd) (S : FnScope N ps (defScope st)) (hl : ss.length = ps.length) (hm : N.length - ps.length = m) (ha : ss.all argOk = true)
    (hbody : ∀ (cdv : Value) (A : Around) (outer : List Env) (s : Shared) (H : Hp) (E : XK), Room k (A.deeper (PyProof.Rows.envOfC qual (defScope st) s.heap.objs.size f cdv)) →
      XO (cxOf (L2.CX P w) P w K mg base N qual (defScope st) f cdv A outer s H E) →
      PassesOwn (model P w) (A.deeper (PyProof.Rows.envOfC qual (defScope st) s.heap.objs.size f cdv)) (PyProof.Rows.envOfC qual (defScope st) s.heap.objs.size f cdv) (cxOf (L2.CX P w) P w K mg base N qual (defScope st) f cdv A outer s H E).xe →
      SS (cxOf (L2.CX P w) P w K mg base N qual (defScope st) f cdv A outer s H E) ⟨K, H, H⟩ (ss.map DL.tz ++ List.replicate m .un) (defBody st) { nx := fun _ => False, rt := fun t => Oc.ret (.fz d) = .ret t }) :
    FnOk P w K mg base (L2.CX P w) (k + 1) f fd ps (sp1 K ss (.ret (.fz d))) := by
  have len : ∀ vs H Q E, sp1 K ss (.ret (.fz d)) vs H Q E → vs.length = ps.length := fun vs H Q E ⟨G, _, r, _⟩ => by rw [slr_len r, hl]
  refine F.okX S len (fun cdv A outer s H vs Q E hr h => ?_)
  have hv := len _ _ _ _ h
  have xo : XO (cxOf (L2.CX P w) P w K mg base N qual (defScope st) f cdv A outer s H E) := ⟨rfl, S.nd, by have := hr.un; show (A.deeper (PyProof.Rows.envOfC qual (defScope st) s.heap.objs.size f cdv)).units + 65 < cLine; omega⟩
  have hp : PassesOwn (model P w) (A.deeper (PyProof.Rows.envOfC qual (defScope st) s.heap.objs.size f cdv)) (PyProof.Rows.envOfC qual (defScope st) s.heap.objs.size f cdv) (cxOf (L2.CX P w) P w K mg base N qual (defScope st) f cdv A outer s H E).xe := passes_of (X := cxOf (L2.CX P w) P w K mg base N qual (defScope st) f cdv A outer s H E) rfl
  obtain ⟨G, eg, r, kk⟩ := h
  refine ⟨_, hbody cdv A outer s H E hr xo hp, H, ⟨⟨Ex.refl _, Ex.refl _, fun _ _ e _ => e⟩, Ex.refl _, [], slr_start (SlR.tz eg r ha) (by rw [hv, hm]), List.nodup_nil, fun _ z => by cases z⟩, ?_⟩
  refine ⟨fun _ _ _ _ z => z.elim, fun _ _ _ _ z => z.elim, fun _ _ _ _ z => z.elim, fun t' v G' H' A' e st' ex o nd f' => ?_⟩
  cases e
  cases o with
  | fz q => exact kk v G H' [] ⟨Ex.refl _, st'.h, fun _ _ g _ => g⟩ (eg.trans st'.h) (.fz (rep_sc hd q)) List.nodup_nil fun _ z => by cases z
end
section
variable {X : Cx} {Γ : Gm} {ρ : List Sl} {e o tg : Expr} {es : List Expr} {pos p apos : Pos} {κ : Kd} {d : D} {α : Type} {f : α → D} {k : Nat} {fa : Addr} {fd : FuncData} {ps : List Str} {ss : List Sl} {n : Str}
theorem de_callC (F : FnOk X.prog X.w X.K X.mg X.base (L2.CX X.prog X.w) k fa fd ps (spC X.K ss d)) (hr : Room k X.A) (hm : X.mg n = some (.ref fa)) (hk : PySem.W.keepIn X.K (.ref fa) = true) (hb : Binds X.K fd ps []) (hK : Γ.K = X.K) (ha : DA X Γ ρ (e :: es) ss) (hs : ss.all argOk = true := by rfl)
    (hg : Gl X n := by rfl) (hdb : (n == ("__debug__" : Str)) = false := by decide) (he : starEach (e :: es) X.env = (false, eval e X.env) :: starEach es X.env := by rfl) (hpl : (backTo pos (starEach es X.env)).any (·.1) = false := by rfl) :
    DE X Γ ρ (.Call (.Name n p) (e :: es) [] pos) .c d :=
  (pe_call F hr hg hm hk hb .nil (passL (X := X)) ha hdb he hpl).weak fun σ H Q ⟨G, S, kk⟩ => ⟨G, S, fun vs G2 H2 A s2 e2 r nd f => by
    show spC X.K ss d (vs ++ []) H2 _ _
    rw [List.append_nil]
    refine ⟨G2, e2, ?_, fun v H3 e3 q => kk v G2 H3 (s2.trans ⟨Ex.refl _, e3, fun _ _ g _ => g⟩) (e2.trans e3) q⟩
    rw [← hK]
    exact slR_arg r hs⟩
theorem dv_join {u : Str} {ws : List Str} (ho : DV X Γ ρ o (.str u)) (he : DE X Γ ρ e κ (dl PyData.str ws)) (hz : (ws.map (·.length)).sum + ws.length * u.length ≤ 16777216) (hs : starEach [e] X.env = [(false, eval e X.env)] := by rfl) (hbase : attributeBase o "join" X.env (eval o X.env) = eval o X.env := by rfl) (hline : (apos.endLine == pos.line) = true := by rfl) :
    DV X Γ ρ (.Call (.Attribute o "join" apos) [e] [] pos) (.str (Txt.join u ws)) :=
  (pe_join ho he hs hbase hline).weak fun σ H Q ⟨G, S, k⟩ => ⟨G, S, fun v G1 H1 s1 e1 (q1 : v = .str u) => ⟨⟨u, q1⟩, G1, S.more s1 e1, fun y G2 H2 s2 e2 q2 => by
    obtain ⟨a, xs, rfl, h, r⟩ := Rep.l (pK_c (S.more s1 e1) s2 e2 q2)
    have ev := r.strs
    subst ev
    exact ⟨u, a, ws, q1, rfl, .inl (SqL.of h), hz, k _ G2 H2 (s1.trans s2) e2 rfl⟩⟩⟩
/-- for i, x in enumerate(frozen) in a comprehension -/
theorem ic_enum [Inhabited α] {xs : List α} {elts : List Expr} {kk : Nat} {tpos : Pos} (h : DE X Γ ρ e .z (dl f xs)) (hm : X.mg "enumerate" = none) (hg : Gl X "enumerate" := by rfl) (hs1 : starEach [e] X.env = (false, eval e X.env) :: starEach [] X.env := by rfl) (hs : starEach [e] X.env = [(false, eval e X.env)] := by rfl) :
    DIc X Γ ρ (.Tuple elts kk tpos) (.Call (.Name "enumerate" p) [e] [] pos) (List.range xs.length) (fun i => .sh (.tuple [.int (i : Int), f (xs.getD i default)])) :=
  (pi_enum hg hm (pa_cons h pa_nil hs1) hs).weak fun σ H R ⟨G, S, k⟩ => ⟨G, S, fun v G1 H1 s1 e1 q => by
    obtain ⟨a, vs, rfl, hl, r⟩ := Rep.l q
    have ln := r.len
    rw [List.length_map] at ln
    refine ⟨a, vs, rfl, SqL.of (e1 _ _ hl), k _ G1 H1 s1 e1 ⟨fun i G' H' g1 g2 _ hi => ?_, fun i a' G' H' x H'' hx g1 g2 _ hy => ?_, fun i G' H' g1 g2 _ hi => ⟨vs, SqL.of (g2 _ _ (g1 _ _ hl)), by rw [List.length_range] at hi; omega⟩⟩⟩
    · rw [List.length_range] at hi
      exact ⟨vs, vs[i], SqL.of (g2 _ _ (g1 _ _ hl)), List.getElem?_eq_getElem (by omega)⟩
    · obtain ⟨T, y, rfl, hT, rfl, hv⟩ := hy
      obtain ⟨h1, h2⟩ := List.getElem?_eq_some_iff.mp hx
      rw [List.getElem_range] at h2
      subst h2
      rw [List.length_range] at h1
      obtain ⟨d, q1, q2⟩ := (Reps.mono g1 r).getV (hv vs (SqL.of (g2 _ _ (g1 _ _ hl))))
      have ed := map_at q1
      subst ed
      have gT : G' T = none := g2.none hT
      refine ⟨upd G' T (.tup [.int (i : Nat), y]), ⟨Ex.new gT, Ex.new hT, fun b u g3 g4 => ?_⟩, fun b u hb => ?_, .sh (.tup upd_same (.cons (.int _) (.cons (Rep.mono (Ex.new gT) q2) .nil)))⟩
      · rw [upd_ne (fun z => by rw [z, hT] at g4; cases g4)]
        exact g3
      · by_cases z : b = T
        · subst z
          rw [upd_same] at hb ⊢
          exact hb
        · rw [upd_ne z] at hb ⊢
          exact g2 _ _ hb⟩
end
end DL

set_option Elab.async false
set_option linter.all false
set_option maxRecDepth 100000
set_option maxHeartbeats 2000000
/-! frozen lists of all kinds of things: written out, joined, repeated, made tuples -/
namespace DL
open PySem L2
section
variable {X : Cx} {Γ : Gm} {ρ : List Sl} {a b : Expr} {es : List Expr} {pos p : Pos} {κ : Kd} {xs ys : List D} {k : Int} {ss : List Sl} {G H : Hp}
theorem frzNew {P : Hp → Hp → Hp → V → Prop} {q : Addr} {o : HO} {v : V} {H0 G1 H1 : Hp} {Q : VK} (e1 : Ex G1 H1) (hq : H1 q = none) (s0 : Step G H0 G1 H1) (k : ∀ v G2 H2, Step G H0 G2 H2 → Ex G2 H2 → P H0 G2 H2 v → Q v H2) (h : P H0 (upd G1 q o) (upd H1 q o) v) : Q v (upd H1 q o) := by
  refine k v (upd G1 q o) _ (s0.trans ⟨Ex.new (e1.none hq), Ex.new hq, fun b u g1 g2 => ?_⟩) (fun b u hb => ?_) h
  · rw [upd_ne (fun z => by rw [z, hq] at g2; cases g2)]
    exact g1
  · by_cases z : b = q
    · rw [z] at hb ⊢; rw [upd_same] at hb ⊢; exact hb
    · rw [upd_ne z] at hb ⊢; exact e1 _ _ hb
theorem de_lstZ (ha : DA X Γ ρ es ss) (hs : ss.all slFz = true := by rfl) (hl : ss.length ≤ 1000 := by simp) : DE X Γ ρ (.List es pos) .z (.list (ss.map slD)) :=
  (pe_lst ha).weak fun σ H Q ⟨G, S, k⟩ => ⟨G, S, fun vs G1 H1 A s1 e1 r nd f => by
    have r' := slR_reps r hs
    refine ⟨by rw [slr_len r]; exact Nat.le_trans hl (by decide), fun q hq => ?_⟩
    exact frzNew (P := fun _ G2 _ v => Rep G2 v (.list (ss.map slD))) e1 hq s1 k (.lst upd_same (Reps.mono (Ex.new (e1.none hq)) r'))⟩
theorem de_catZ (ha : DE X Γ ρ a .z (.list xs)) (hb : DE X Γ ρ b .z (.list ys)) (hl : xs.length + ys.length ≤ 16000000) : DE X Γ ρ (.BinOp a .Add b pos) .z (.list (xs ++ ys)) :=
  bin_weak (ta := tC .non) (tb := tC .non) (pe_op op_cat ha hb) fun σ G H G1 H1 G2 H2 v u Q S s1 e1 p1 s2 e2 p2 k => by
    obtain ⟨q1, vs, rfl, h1, r1⟩ := Rep.l (Rep.mono s2.g p1)
    obtain ⟨q2, us, rfl, h2, r2⟩ := Rep.l p2
    have l1 := r1.len
    have l2 := r2.len
    refine ⟨q1, q2, vs, us, rfl, rfl, e2 _ _ h1, e2 _ _ h2, by rw [l1, l2]; exact Nat.le_trans hl (by decide), fun q hq => ?_⟩
    exact frzNew (P := fun _ G2 _ v => Rep G2 v (.list (xs ++ ys))) e2 hq (Step.refl _ _) (fun v G3 H3 s3 e3 h3 => k v G3 H3 s3 e3 h3) (.lst upd_same (Reps.mono (Ex.new (e2.none hq)) (r1.app r2)))
theorem Reps.rep {H : Hp} {vs : List V} {ds : List D} (r : Reps H vs ds) : ∀ n : Nat, Reps H (List.replicate n vs).flatten (List.replicate n ds).flatten
  | 0 => .nil
  | n + 1 => by
    rw [List.replicate_succ, List.replicate_succ, List.flatten_cons, List.flatten_cons]
    exact r.app (Reps.rep r n)
theorem de_repZ (ha : DE X Γ ρ a .z (.list xs)) (hb : DV X Γ ρ b (.int k)) (hl : xs.length * k.toNat ≤ 16000000) (hk : -(2 ^ 63) ≤ k ∧ k < 2 ^ 63) : DE X Γ ρ (.BinOp a .Mult b pos) .z (.list (List.replicate k.toNat xs).flatten) :=
  bin_weak (ta := tC .non) (tb := tC .non) (pe_op op_rep ha hb) fun σ G H G1 H1 G2 H2 v u Q S s1 e1 p1 s2 e2 p2 kk => by
    obtain ⟨q1, vs, rfl, h1, r1⟩ := Rep.l (Rep.mono s2.g p1)
    have l1 := r1.len
    refine ⟨q1, k, vs, rfl, p2, e2 _ _ h1, hk.1, hk.2, by rw [l1]; exact Nat.le_trans hl (by decide), fun q hq => ?_⟩
    exact frzNew (P := fun _ G2 _ v => Rep G2 v (.list (List.replicate k.toNat xs).flatten)) e2 hq (Step.refl _ _) (fun v G3 H3 s3 e3 h3 => kk v G3 H3 s3 e3 h3) (.lst upd_same (Reps.mono (Ex.new (e2.none hq)) (r1.rep _)))
theorem de_tupleZ (ha : DE X Γ ρ a .z (.list xs)) (hm : X.mg "tuple" = none) (hg : Gl X "tuple" := by rfl) (he : starEach [a] X.env = (false, eval a X.env) :: starEach [] X.env := by rfl) : DE X Γ ρ (.Call (.Name "tuple" p) [a] [] pos) .z (.tuple xs) :=
  (pe_tupleOf hg hm ha he).weak fun σ H Q ⟨G, S, k⟩ => ⟨G, S, fun v G1 H1 s1 e1 q => by
    obtain ⟨a, vs, rfl, h, r⟩ := Rep.l q
    refine .inl ⟨a, _, rfl, SqL.of (e1 _ _ h), fun q hq => ?_⟩
    exact frzNew (P := fun _ G2 _ v => Rep G2 v (.tuple xs)) e1 hq s1 k (.tup upd_same (Reps.mono (Ex.new (e1.none hq)) r))⟩
end
end DL

set_option Elab.async false
set_option linter.all false
set_option maxRecDepth 100000
set_option maxHeartbeats 2000000
/-! small things: items of lists of data, slices by natural numbers -/
namespace DL
open PySem L2
theorem atI_gD {ds : List D} {i : Int} (h : 0 ≤ i ∧ i < ds.length) : atI ds i = some (ds.getD i.toNat .none) := by
  obtain ⟨j, rfl⟩ : ∃ j : Nat, i = j := ⟨i.toNat, by omega⟩
  have hj : j < ds.length := by omega
  exact atI_nat (by simp [List.getD_eq_getElem?_getD, hj])
theorem kc_of {K : Fg} {S C : Addr} {b : Bool} (h2 : PySem.W.isClsIn K C = true) (h3 : PySem.W.typeIn K (.ref C) = some (.type "type")) (h4 : PySem.W.subIn K (.ref S) (.ref C) = some b) : PySem.W.kitCls K (.ref S) (.ref C) = some b := by
  have e2 : ((PySem.W.clsIn K C).isSome && PySem.W.typeIn K (.ref C) == some (.type "type")) = true := by
    have h2' : (PySem.W.clsIn K C).isSome = true := h2
    rw [h2', h3] <;> rfl
  show (if ((PySem.W.clsIn K C).isSome && PySem.W.typeIn K (.ref C) == some (.type "type")) = true then PySem.W.subIn K (.ref S) (.ref C) else none) = some b
  rw [if_pos e2]
  exact h4
theorem exm_of {K : Fg} {S C : Addr} {b : Bool} (h1 : PySem.W.subIn K (.ref C) (.type "BaseException") = some true) (h2 : PySem.W.isClsIn K C = true) (h3 : PySem.W.typeIn K (.ref C) = some (.type "type")) (h4 : PySem.W.subIn K (.ref S) (.ref C) = some b) : PySem.W.exmOne K (.ref S) (.ref C) = some b := by
  have e1 : (PySem.W.subIn K (.ref C) (.type "BaseException") == some true) = true := by rw [h1] <;> rfl
  unfold PySem.W.exmOne
  rw [if_pos e1]
  exact kc_of h2 h3 h4
theorem kit_self {K : Fg} {S : Addr} : PySem.W.kitOne K (.ref S) (.ref S) = some true := if_pos (by simp)
theorem kit_not {K : Fg} {S C : Addr} (h0 : PySem.W.subIn K (.ref S) (.ref S) = some true) (h2 : PySem.W.isClsIn K C = true) (h3 : PySem.W.typeIn K (.ref C) = some (.type "type")) (h4 : PySem.W.subIn K (.ref S) (.ref C) = some false) : PySem.W.kitOne K (.ref S) (.ref C) = some false := by
  unfold PySem.W.kitOne
  by_cases h : ((Value.ref S) == (Value.ref C)) = true
  · have e : Value.ref S = Value.ref C := eq_of_beq h
    rw [← e, h0] at h4
    cases h4
  · rw [if_neg h]
    exact kc_of h2 h3 h4
theorem kit_tyOf {K : Fg} {S : Addr} {n : String} (hn : PySem.W.kitMeta n = true) (h4 : PySem.W.subIn K (.ref S) (.type n) = some true) : PySem.W.kitOne K (.ref S) (.type n) = some true := by
  unfold PySem.W.kitOne
  rw [if_neg (by simp)]
  show (if PySem.W.kitMeta n = true then PySem.W.subIn K (.ref S) (.type n) else none) = some true
  rw [if_pos hn]
  exact h4
theorem er_fz (d : D) : (OT.fz d).er = d := by unfold OT.er; rfl
theorem sl_from {α : Type} (xs : List α) {i : Int} (h : 0 ≤ i) : pySl xs (some i) none = xs.drop i.toNat := by
  obtain ⟨k, rfl⟩ : ∃ j : Nat, i = j := ⟨i.toNat, by omega⟩
  unfold pySl
  have h1 : HT.sIx xs.length 0 (some (k : Int)) = min k xs.length := HT.sIx_nat _ _ k
  have h2 : HT.sIx xs.length xs.length none = xs.length := HT.sIx_none _ _
  rw [h1, h2, Int.toNat_natCast]
  by_cases q : k ≤ xs.length
  · rw [Nat.min_eq_left q, List.take_of_length_le (by simp)]
  · rw [Nat.min_eq_right (by omega), List.drop_eq_nil_of_le (by omega : xs.length ≤ k)]
    simp
theorem sl_to {α : Type} (xs : List α) {i : Int} (h : 0 ≤ i) : pySl xs none (some i) = xs.take i.toNat := by
  obtain ⟨k, rfl⟩ : ∃ j : Nat, i = j := ⟨i.toNat, by omega⟩
  unfold pySl
  have h1 : HT.sIx xs.length 0 none = 0 := HT.sIx_none _ _
  have h2 : HT.sIx xs.length xs.length (some (k : Int)) = min k xs.length := HT.sIx_nat _ _ k
  rw [h1, h2, Int.toNat_natCast, List.drop_zero, Nat.sub_zero]
  by_cases q : k ≤ xs.length
  · rw [Nat.min_eq_left q]
  · rw [Nat.min_eq_right (by omega), List.take_of_length_le (by omega), List.take_of_length_le (by omega)]
theorem sl_len {α : Type} (xs : List α) (lo hi : Option Int) : (pySl xs lo hi).length ≤ xs.length := by
  unfold pySl
  rw [List.length_take, List.length_drop]
  omega
theorem sl_cut {α : Type} (xs : List α) {i : Int} (h : 0 ≤ i ∧ i < xs.length) (x : α) : pySl xs none (some i) ++ [x] ++ pySl xs (some (i + 1)) none = pySet xs i x := by
  rw [sl_to _ h.1, sl_from _ (by omega)]
  obtain ⟨k, rfl⟩ : ∃ j : Nat, i = j := ⟨i.toNat, by omega⟩
  have hk : k < xs.length := by omega
  have e : ((k : Int) + 1).toNat = k + 1 := by omega
  unfold pySet pyIx
  rw [if_pos (by omega), e, Int.toNat_natCast, List.append_assoc]
  exact (List.set_eq_take_append_cons_drop.trans (if_pos hk)).symm
end DL

set_option Elab.async false
set_option linter.all false
set_option maxRecDepth 100000
set_option maxHeartbeats 2000000
/-! texts: split, slices, signs, int(text), walks -/
namespace DL
open PySem L2
/-- a text of one sign -/
def sg (c : Nat) : Str := ⟨#[c]⟩
def sgAt (u : Str) (i : Int) : Str := sg (pyAt u.cps.toList i)
section
variable {X : Cx} {Γ : Gm} {ρ : List Sl} {e a b o tg : Expr} {pos p apos p2 : Pos} {κ : Kd} {u w : Str} {i : Int} {lo hi : Option Expr} {l m : Option Int} {c : Nat}
theorem do_split (ho : DV X Γ ρ o (.str u)) (he : DV X Γ ρ e (.str w)) (hw : (w.length == 0) = false := by decide) (hu : u.length + 2 ≤ sizeLine) (hs : starEach [e] X.env = [(false, eval e X.env)] := by rfl) (hbase : attributeBase o "split" X.env (eval o X.env) = eval o X.env := by rfl) (hline : (apos.endLine == pos.line) = true := by rfl) :
    DO X Γ ρ (.Call (.Attribute o "split" apos) [e] [] pos) (tl (tF PyData.str) (Txt.split u w)) :=
  (pe_split ho he hs hbase hline).weak fun σ H Q ⟨G, S, k⟩ => ⟨G, S, fun v G1 H1 s1 e1 (q1 : v = .str u) => ⟨⟨u, q1⟩, G1, S.more s1 e1, fun y G2 H2 s2 e2 (q2 : y = .str w) => by
    refine ⟨u, w, q1, by rw [q2], hw, hu, fun q hq => ?_⟩
    exact newF (ds := (Txt.split u w).map .str) e2 hq H (s1.trans s2).h (reps_strs _) (by rw [tF_map]; exact fun z G3 H3 s3 e3 h3 => k z G3 H3 ((s1.trans s2).trans s3) e3 h3)⟩⟩
theorem dv_slT (ha : DV X Γ ρ a (.str u)) (hl : DOx X Γ ρ lo l) (hu : DOx X Γ ρ hi m) (hz : u.length ≤ sizeLine) : DV X Γ ρ (.Subscript a (.Slice lo hi none p2) pos) (.str (cutS u l m)) :=
  slW (pe_slice sl_str ha hl hu) fun σ G H G1 H1 G2 H2 v Q S s1 e1 (p1 : v = .str u) s2 e2 k => ⟨u, p1, hz, k _ G2 H2 (Step.refl _ _) e2 rfl⟩
theorem dv_ixT (ha : DV X Γ ρ a (.str u)) (hb : DV X Γ ρ b (.int i)) (h : inR u.length i) (hz : u.length ≤ sizeLine) (hs : PlainIx b := by intro _ _; rfl) : DV X Γ ρ (.Subscript a b pos) (.str (sgAt u i)) :=
  bin_weak (ta := tC .non) (tb := tC .non) (pe_ix ix_str ha hb hs) fun σ G H G1 H1 G2 H2 v y Q S s1 e1 (p1 : v = .str u) s2 e2 (p2 : y = .int i) k => by
    have := atI_pyAt (f := fun x : Nat => x) (xs := u.cps.toList) (i := i) (by rw [← TL.len_tl u]; exact h)
    rw [List.map_id'] at this
    exact ⟨u, i, _, p1, p2, hz, this, k _ G2 H2 (Step.refl _ _) e2 rfl⟩
theorem dv_intT {n : Int} (ha : DV X Γ ρ a (.str u)) (hn : PySem.intText? u = some n) (hz : u.length ≤ 640) (hm : X.mg "int" = none) (hg : Gl X "int" := by rfl) (he : starEach [a] X.env = (false, eval a X.env) :: starEach [] X.env := by rfl) (hpl : (backTo pos (starEach [] X.env)).any (·.1) = false := by rfl) : DV X Γ ρ (.Call (.Name "int" p) [a] [] pos) (.int n) :=
  cb1 (pe_callTy call_int_str hg hm PyProof.Rows.boot_int (pa_cons ha pa_nil he) (by decide) (by decide) he hpl) fun σ G H G1 H1 v Q S s1 e1 qv k => ⟨u, n, by rw [qv], hn, hz, k _ G1 H1 (Step.refl _ _) e1 rfl⟩
theorem dv_inT (ha : DV X Γ ρ a (.str (sg c))) (hb : DV X Γ ρ b (.str w)) (hm : behindInMarks .In b = false := by rfl) : DV X Γ ρ (.Compare a [.In] [b] pos) (.bl (decide (c ∈ w.cps.toList))) := dv_cmpR op_in_sign ha hb hm fun _ _ q => ⟨c, w, rfl, rfl, q⟩
theorem dv_notInT (ha : DV X Γ ρ a (.str (sg c))) (hb : DV X Γ ρ b (.str w)) (hm : behindInMarks .NotIn b = false := by rfl) : DV X Γ ρ (.Compare a [.NotIn] [b] pos) (.bl (!decide (c ∈ w.cps.toList))) := dv_cmpR op_notIn_sign ha hb hm fun _ _ q => ⟨c, w, rfl, rfl, q⟩
theorem dt_inT (ha : DV X Γ ρ a (.str (sg c))) (hb : DV X Γ ρ b (.str w)) (hm : behindInMarks .In b = false := by rfl) : DT X Γ ρ (.Compare a [.In] [b] pos) (decide (c ∈ w.cps.toList)) := dt_cmpR op_in_sign ha hb hm fun _ _ q => ⟨c, w, rfl, rfl, q⟩
theorem dt_notInT (ha : DV X Γ ρ a (.str (sg c))) (hb : DV X Γ ρ b (.str w)) (hm : behindInMarks .NotIn b = false := by rfl) : DT X Γ ρ (.Compare a [.NotIn] [b] pos) (!decide (c ∈ w.cps.toList)) := dt_cmpR op_notIn_sign ha hb hm fun _ _ q => ⟨c, w, rfl, rfl, q⟩
theorem di_str (ha : DV X Γ ρ e (.str u)) : DI X Γ ρ tg e u.cps.toList.length (fun i => .v (.str (sg (u.cps.toList.getD i default)))) :=
  (pi_str ha).weak fun σ H R ⟨G, S, k⟩ => ⟨G, S, fun v G1 H1 s1 e1 (q : v = .str u) => by
    have hs : u.cps.size = u.cps.toList.length := by simp
    refine ⟨u, q, k _ G1 H1 s1 e1 ⟨fun i G' H' g1 g2 _ hi => ?_, fun i G' H' x H'' g1 g2 _ hi hy => ?_, fun i G' H' g1 g2 _ hi => ?_⟩⟩
    · show i < u.cps.size
      omega
    · obtain ⟨rfl, c, hc, rfl⟩ := hy
      refine ⟨G', Step.refl _ _, g2, ?_⟩
      have : u.cps.toList.getD i default = c := by
        rw [List.getD_eq_getElem?_getD, Array.getElem?_toList, hc]
        rfl
      rw [this]
      exact .v
    · show u.cps.size ≤ i
      omega⟩
theorem ic_str (ha : DV X Γ ρ e (.str u)) : DIc X Γ ρ tg e u.cps.toList (fun c => .v (.str (sg c))) :=
  (pi_str ha).weak fun σ H R ⟨G, S, k⟩ => ⟨G, S, fun v G1 H1 s1 e1 (q : v = .str u) => by
    have hs : u.cps.size = u.cps.toList.length := by simp
    refine ⟨u, q, k _ G1 H1 s1 e1 ⟨fun i G' H' g1 g2 _ hi => ?_, fun i a' G' H' x H'' hx g1 g2 _ hy => ?_, fun i G' H' g1 g2 _ hi => ?_⟩⟩
    · show i < u.cps.size
      omega
    · obtain ⟨rfl, c, hc, rfl⟩ := hy
      refine ⟨G', Step.refl _ _, g2, ?_⟩
      rw [Array.getElem?_toList, hc] at hx
      obtain rfl := Option.some.inj hx
      exact .v
    · show u.cps.size ≤ i
      omega⟩
theorem di_zS {xs : List Str} (h : DE X Γ ρ e .z (dl PyData.str xs)) : DI X Γ ρ tg e xs.length (fun i => .v (.str (xs.getD i default))) := by
  have := di_list (tg := tg) (it := fun i => .v (.str (xs.getD i default))) h fun i d hd => by rw [map_at hd]; exact .v rfl
  rwa [List.length_map] at this
theorem dv_ixL {xs : List Str} (ha : DE X Γ ρ a κ (dl PyData.str xs)) (hb : DV X Γ ρ b (.int i)) (h : inR xs.length i) (hs : PlainIx b := by intro _ _; rfl) : DV X Γ ρ (.Subscript a b pos) (.str (pyAt xs i)) := (de_ix ha hb h hs).str
end
end DL

set_option Elab.async false
set_option linter.all false
set_option maxRecDepth 100000
/-! the program's own looks, as plain functions -/
namespace Th
open PySem L2 DL
instance : Inhabited D := ⟨.none⟩
theorem take_succ_map {α β : Type} [Inhabited α] (f : α → β) (xs : List α) {i : Nat} (hi : i < xs.length) : (xs.take (i + 1)).map f = (xs.take i).map f ++ [f (xs.getD i default)] := by
  have e : xs.getD i default = xs[i] := by simp [List.getD_eq_getElem?_getD, hi]
  rw [List.take_add_one, List.getElem?_eq_getElem hi, List.map_append, e]
  rfl
def iOf : D → Int
  | .int i => i
  | _ => 0
def dsOf : D → List D
  | .list ds => ds
  | _ => []
theorem dV_iOf {d : D} (h : isInt d = true) (h2 : isBool d = false) : dV d = some (.int (iOf d)) := by
  cases d <;> simp [isInt, isBool, dV, iOf] at *
theorem d_iOf {d : D} (h : isInt d = true) (h2 : isBool d = false) : d = .int (iOf d) := by
  cases d <;> simp [isInt, isBool, iOf] at *
theorem d_dsOf {d : D} (h : isList d = true) : d = .list (dsOf d) := by
  cases d <;> simp [isList, dsOf] at *
theorem d_dl {d : D} (h : isList d = true) : d = dl (fun x => x) (dsOf d) := by
  unfold dl
  simpa using d_dsOf h
def isAmong (d : D) (lo hi : Int) : Bool := isInt d && (!isBool d && (decide (lo ≤ iOf d) && decide (iOf d ≤ hi)))
theorem isAmong_int {i lo hi : Int} : isAmong (.int i) lo hi = (decide (lo ≤ i) && decide (i ≤ hi)) := rfl
theorem isAmong_d {d : D} {lo hi : Int} (h : isAmong d lo hi = true) : d = .int (iOf d) ∧ lo ≤ iOf d ∧ iOf d ≤ hi := by
  simp [isAmong] at h
  exact ⟨d_iOf h.1 h.2.1, h.2.2.1, h.2.2.2⟩
def nums (d : D) : List Int := (dsOf d).map iOf
theorem nums_dL (ns : List Int) : nums (dL ns) = ns := by
  show (ns.map dI).map iOf = ns
  rw [List.map_map]
  exact (List.map_congr_left fun a _ => rfl).trans (List.map_id _)
theorem d_nums {d : D} {lo hi : Int} (h : isList d = true) (h2 : ((dsOf d).map fun x => isAmong x lo hi).all id = true) : d = dL (nums d) := by
  have e := d_dsOf h
  have e2 : dL (nums d) = .list (dsOf d) := by
    show PyData.list (((dsOf d).map iOf).map dI) = _
    rw [List.map_map]
    congr 1
    refine (List.map_congr_left fun a ha => ?_).trans (List.map_id _)
    have := List.all_eq_true.mp h2 (isAmong a lo hi) (List.mem_map.mpr ⟨a, ha, rfl⟩)
    exact (isAmong_d (by simpa using this)).1.symm
  rw [e2]
  exact e
def isRow (d : D) (many : Int) : Bool := isList d && (decide (((dsOf d).length : Int) = many) && ((dsOf d).map fun x => isAmong x 0 1000000).all id)
def hdD (d : D) : D := (dsOf d).getD 0 .none
def isTable (d : D) : Bool :=
  if (!isList d || (!(decide (1 ≤ ((dsOf d).length : Int)) && decide (((dsOf d).length : Int) ≤ 8)) || !isList (hdD d))) = true then false
  else decide (((dsOf (hdD d)).length : Int) ≤ 40) && ((dsOf d).map fun r => isRow r ((dsOf (hdD d)).length : Int)).all id
def areThings (d : D) (many : Int) : Bool :=
  if (!isList d || !((dsOf d).map fun x => isAmong x 0 (many - 1)).all id) = true then false
  else decide (((ddup (nums d)).length : Int) = ((nums d).length : Int))
def told (d : D) : List Int := ((dsOf d).map nums).flatten
def areShares (d : D) (heirs things : Int) : Bool :=
  if (!isList d || !decide (((dsOf d).length : Int) = heirs)) = true then false
  else if (!((dsOf d).map fun s => areThings s things && decide (nums s = sortI (nums s))).all id) = true then false
  else decide (((ddup (told d)).length : Int) = ((told d).length : Int))
theorem areThings_d {d : D} {many : Int} (h : areThings d many = true) : isList d = true ∧ d = dL (nums d) ∧ (∀ x ∈ nums d, 0 ≤ x ∧ x < many) ∧ (nums d).Nodup := by
  unfold areThings at h
  split at h
  · cases h
  rename_i q
  simp only [Bool.or_eq_true, Bool.not_eq_true', not_or, Bool.not_eq_false] at q
  refine ⟨q.1, d_nums q.1 q.2, fun x hx => ?_, ?_⟩
  · unfold nums at hx
    obtain ⟨a, ha, rfl⟩ := List.mem_map.mp hx
    have := List.all_eq_true.mp q.2 (isAmong a 0 (many - 1)) (List.mem_map.mpr ⟨a, ha, rfl⟩)
    have := isAmong_d (by simpa using this)
    omega
  · have := of_decide_eq_true h
    exact (ddup_len _).mp (by omega)
/-- a good table of typed worths -/
structure GoodT (t : List (List Int)) (m : Nat) : Prop where
  n1 : 1 ≤ t.length
  n8 : t.length ≤ 8
  m40 : m ≤ 40
  len : ∀ r ∈ t, r.length = m
  wor : ∀ r ∈ t, ∀ x ∈ r, 0 ≤ x ∧ x ≤ 1000000
/-- good shares of it -/
structure GoodS (s : List (List Int)) (n m : Nat) : Prop where
  n : s.length = n
  bd : ∀ r ∈ s, ∀ x ∈ r, 0 ≤ x ∧ x < (m : Int)
  up : ∀ r ∈ s, r.Pairwise (· < ·)
  nd : s.flatten.Nodup
theorem dsOf_dLL {α : Type} (f : α → D) (t : List α) : dsOf (dl f t) = t.map f := rfl
theorem all_true {α : Type} {xs : List α} {p : α → Bool} (h : ∀ x ∈ xs, p x = true) : (xs.map p).all id = true := by
  rw [List.all_eq_true]
  intro b hb
  obtain ⟨x, hx, rfl⟩ := List.mem_map.mp hb
  exact h x hx
theorem isRow_y {r : List Int} {m : Nat} (hl : r.length = m) (hw : ∀ x ∈ r, 0 ≤ x ∧ x ≤ 1000000) : isRow (dL r) m = true := by
  unfold isRow
  rw [dsOf_dLL, List.length_map, hl, List.map_map]
  simp only [dl, isList, decide_true, Bool.true_and]
  exact all_true fun x hx => by
    show isAmong (.int x) 0 1000000 = true
    rw [isAmong_int]
    simp [hw x hx]
theorem GoodT.hd {t : List (List Int)} {m : Nat} (h : GoodT t m) : ∃ r, hdD (dLL t) = dL r ∧ r ∈ t := by
  have := h.n1
  refine ⟨t[0], ?_, List.getElem_mem _⟩
  show (t.map dL).getD 0 .none = _
  simp [List.getD_eq_getElem?_getD, List.getElem?_map, List.getElem?_eq_getElem this]
theorem GoodT.isTable {t : List (List Int)} {m : Nat} (h : GoodT t m) : isTable (dLL t) = true := by
  obtain ⟨r, e, hr⟩ := h.hd
  unfold Th.isTable
  rw [e, dsOf_dLL, dsOf_dLL, List.length_map, List.length_map, h.len r hr, List.map_map]
  have h1 := h.n1
  have h8 := h.n8
  have h40 := h.m40
  have a : (t.map ((fun r => isRow r (m : Int)) ∘ dL)).all id = true := all_true fun x hx => isRow_y (h.len x hx) (h.wor x hx)
  rw [a]
  have e1 : isList (dLL t) = true := rfl
  have e2 : isList (dL r) = true := rfl
  rw [e1, e2]
  simp
  omega
theorem GoodT.dsz {t : List (List Int)} {m : Nat} (h : GoodT t m) : ∀ x ∈ dsOf (dLL t), (dsOf x).length ≤ 16000000 := fun x hx => by
  rw [dsOf_dLL] at hx
  obtain ⟨r, hr, rfl⟩ := List.mem_map.mp hx
  rw [dsOf_dLL, List.length_map, h.len r hr]
  have := h.m40
  omega
theorem GoodT.m0 {t : List (List Int)} {m : Nat} (h : GoodT t m) : (pyAt t 0).length = m := by
  have := h.n1
  unfold pyAt
  rw [if_pos (by omega)]
  exact h.len _ (by simp [List.getD_eq_getElem?_getD, show 0 < t.length by omega])
theorem pyAt_mem {α : Type} [Inhabited α] {xs : List α} {i : Int} (h : inR xs.length i) : pyAt xs i ∈ xs := by
  rw [pyAt_ix]
  have := (ixN_pyIx h).2
  simp [List.getD_eq_getElem?_getD, this]
theorem pyAt_nat {α : Type} [Inhabited α] (xs : List α) (i : Nat) : pyAt xs (i : Int) = xs.getD i default := by
  unfold pyAt
  rw [if_pos (by omega), Int.toNat_natCast]
theorem GoodT.at {t : List (List Int)} {m : Nat} (h : GoodT t m) {i : Int} (hi : inR t.length i) : (pyAt t i).length = m := h.len _ (pyAt_mem hi)
theorem areThings_y {ts : List Int} {m : Nat} (hb : ∀ x ∈ ts, 0 ≤ x ∧ x < (m : Int)) (nd : ts.Nodup) : areThings (dL ts) m = true := by
  unfold areThings
  rw [dsOf_dLL, List.map_map, nums_dL]
  have a : (ts.map ((fun x => isAmong x 0 ((m : Int) - 1)) ∘ dI)).all id = true := all_true fun x hx => by
    show isAmong (.int x) 0 _ = true
    rw [isAmong_int]
    have := hb x hx
    simp
    omega
  rw [a]
  have e1 : isList (dL ts) = true := rfl
  rw [e1, (ddup_len ts).mpr nd]
  simp
theorem told_dLL (s : List (List Int)) : told (dLL s) = s.flatten := by
  unfold told
  rw [dsOf_dLL, List.map_map]
  congr 1
  exact (List.map_congr_left fun a _ => nums_dL a).trans (List.map_id _)
theorem up_sorted {r : List Int} (h : r.Pairwise (· < ·)) : r = sortI r := sortI_uniq (List.Perm.refl _) (h.imp fun h => by omega)
theorem nodup_bd {xs : List Int} {m : Nat} (nd : xs.Nodup) (h : ∀ x ∈ xs, 0 ≤ x ∧ x < (m : Int)) : xs.length ≤ m := by
  have := nodup_sub_len (ys := (List.range m).map fun (i : Nat) => (i : Int)) nd fun x hx => by
    have := h x hx
    exact List.mem_map.mpr ⟨x.toNat, List.mem_range.mpr (by omega), by omega⟩
  simpa using this
theorem GoodS.fl {s : List (List Int)} {n m : Nat} (h : GoodS s n m) : s.flatten.length ≤ m := nodup_bd h.nd fun x hx => by
  obtain ⟨r, hr, hx⟩ := List.mem_flatten.mp hx
  exact h.bd r hr x hx
theorem nodup_of_up {r : List Int} (h : r.Pairwise (· < ·)) : r.Nodup := by
  rw [List.nodup_iff_pairwise_ne]
  exact h.imp fun h => by omega
theorem GoodS.row {s : List (List Int)} {n m : Nat} (h : GoodS s n m) {r : List Int} (hr : r ∈ s) : r.length ≤ m := nodup_bd (nodup_of_up (h.up r hr)) (h.bd r hr)
theorem GoodS.areShares {s : List (List Int)} {n m : Nat} (h : GoodS s n m) : areShares (dLL s) n m = true := by
  unfold Th.areShares
  rw [told_dLL, dsOf_dLL, List.length_map, h.n, List.map_map]
  have a : (s.map ((fun s => areThings s (m : Int) && decide (nums s = sortI (nums s))) ∘ dL)).all id = true := all_true fun x hx => by
    show (areThings (dL x) (m : Int) && decide (nums (dL x) = sortI (nums (dL x)))) = true
    rw [nums_dL, areThings_y (h.bd x hx) (nodup_of_up (h.up x hx))]
    simp [← up_sorted (h.up x hx)]
  rw [a]
  have e1 : isList (dLL s) = true := rfl
  rw [e1, (ddup_len _).mpr h.nd]
  simp
theorem GoodS.z1 {s : List (List Int)} {n m : Nat} (h : GoodS s n m) {t : List (List Int)} (ht : GoodT t m) (e : n = t.length := by rfl) : (dsOf (dLL s)).length ≤ 4000 := by
  rw [dsOf_dLL, List.length_map, h.n, e]
  have := ht.n8
  omega
theorem GoodS.z2 {s : List (List Int)} {n m : Nat} (h : GoodS s n m) {t : List (List Int)} (ht : GoodT t m) : ∀ x ∈ dsOf (dLL s), (dsOf x).length ≤ 4000 := fun x hx => by
  rw [dsOf_dLL] at hx
  obtain ⟨r, hr, rfl⟩ := List.mem_map.mp hx
  rw [dsOf_dLL, List.length_map]
  have := h.row hr
  have := ht.m40
  omega
theorem GoodS.z3 {s : List (List Int)} {n m : Nat} (h : GoodS s n m) {t : List (List Int)} (ht : GoodT t m) : (told (dLL s)).length ≤ 4000 := by
  rw [told_dLL]
  have := h.fl
  have := ht.m40
  omega
end Th

set_option Elab.async false
set_option linter.all false
set_option maxRecDepth 100000
/-! the laws' own helpers, as plain functions -/
namespace Th
open PySem L2 DL
def lAt (s : List Int) (k : Int) : Int := if k < s.length then pyAt s k else 0
def lMixed (c k : Int) : Int := (c + 7919 * k + 17) * 48271 % 2147483647
def lHeirs (c : Int) : Int := if c / 5 % 8 = 1 then 1 + c / 40 % 8 else 1 + c % 5
def lThings (c : Int) : Int := if c / 9 % 8 = 1 then 9 + c / 72 % 6 else c % 9
def lWorth (n m : Int) : Int := if m = 0 then n % 1000001 else if m = 1 then 1000000 - n % 3 else n % pyAt [7, 2, 40] (m - 2)
theorem lHeirs_bd (c : Int) : 1 ≤ lHeirs c ∧ lHeirs c ≤ 8 := by unfold lHeirs; split <;> omega
theorem lThings_bd (c : Int) : 0 ≤ lThings c ∧ lThings c ≤ 14 := by unfold lThings; split <;> omega
def lCell (s : List Int) (m : Int) (k : Int) : Int := lWorth (lMixed (lAt s (4 + k % 36)) k / 3) m
/-- a row of the law's table -/
def lRow (s : List Int) (many : Nat) (m : Int) (h : Nat) (j : Nat) : List Int := (List.range j).map fun (t : Nat) => lCell s m ((h : Int) * many + t)
def lTable (s : List Int) (n many : Nat) : List (List Int) := (List.range n).map fun h => lRow s many (lAt s 2 % 5) h many
theorem lWorth_bd {n m : Int} (hn : 0 ≤ n) (h : 0 ≤ m ∧ m < 5) : 0 ≤ lWorth n m ∧ lWorth n m ≤ 1000000 := by
  unfold lWorth
  split
  · omega
  split
  · omega
  have : m = 2 ∨ m = 3 ∨ m = 4 := by omega
  rcases this with e | e | e <;> subst e <;> simp [pyAt] <;> omega
theorem lMixed_bd (c k : Int) : 0 ≤ lMixed c k ∧ lMixed c k < 2147483647 := by unfold lMixed; omega
theorem lCell_bd (s : List Int) {m : Int} (h : 0 ≤ m ∧ m < 5) (k : Int) : 0 ≤ lCell s m k ∧ lCell s m k ≤ 1000000 := by
  unfold lCell
  have := (lMixed_bd (lAt s (4 + k % 36)) k).1
  exact lWorth_bd (by omega) h
theorem lTable_good (s : List Int) {n many : Nat} (h1 : 1 ≤ n) (h8 : n ≤ 8) (hm : many ≤ 40) : GoodT (lTable s n many) many where
  n1 := by simp [lTable]; omega
  n8 := by simp [lTable]; omega
  m40 := hm
  len := fun r hr => by
    simp only [lTable, List.mem_map] at hr
    obtain ⟨h, _, rfl⟩ := hr
    simp [lRow]
  wor := fun r hr x hx => by
    simp only [lTable, List.mem_map] at hr
    obtain ⟨h, _, rfl⟩ := hr
    simp only [lRow, List.mem_map] at hx
    obtain ⟨t, _, rfl⟩ := hx
    exact lCell_bd s (by omega) _
end Th
namespace Th
open PySem L2 DL
/-- to whom the law's shares give a thing -/
def lShTo (s : List Int) (n : Nat) (t : Nat) : Int := lMixed (lAt s (40 + (t : Int) % 8)) t / 5 % ((n : Int) + 1 - (if decide (lAt s 3 % 3 = 1) = true then 1 else 0))
def lShares (s : List Int) (n k : Nat) : List (List Int) := (List.range n).map fun (h : Nat) => ((List.range k).filter fun t => decide (lShTo s n t = (h : Int))).map fun (t : Nat) => (t : Int)
theorem lShTo_nn (s : List Int) {n : Nat} (t : Nat) (hn : 1 ≤ n) : 0 ≤ lShTo s n t := by
  unfold lShTo
  apply Int.emod_nonneg
  split <;> omega
theorem getD_map_range {α : Type} (f : Nat → α) {n j : Nat} (h : j < n) (d : α) : ((List.range n).map f).getD j d = f j := by
  simp [List.getD_eq_getElem?_getD, h]
theorem set_map_range {α : Type} (f g : Nat → α) {n j : Nat} (h : ∀ i, i < n → i ≠ j → f i = g i) : ((List.range n).map f).set j (g j) = (List.range n).map g := by
  refine List.ext_getElem (by simp) fun i h1 h2 => ?_
  simp at h1 h2
  by_cases e : j = i
  · subst e; simp
  · rw [List.getElem_set_ne e]
    simpa using h i h2 (Ne.symm e)
theorem pyIx_nat {n j : Nat} : pyIx n (j : Int) = j := by unfold pyIx; rw [if_pos (by omega)]; omega
theorem lShares_yes (s : List Int) {n k : Nat} (h0 : 0 ≤ lShTo s n k) (h1 : lShTo s n k < n) : (lShares s n k).set (pyIx (lShares s n k).length (lShTo s n k)) ((lShares s n k).getD (pyIx (lShares s n k).length (lShTo s n k)) [] ++ [(k : Int)]) = lShares s n (k + 1) := by
  obtain ⟨j, hj⟩ : ∃ j : Nat, lShTo s n k = j := ⟨(lShTo s n k).toNat, by omega⟩
  have hjn : j < n := by omega
  rw [hj, pyIx_nat]
  unfold lShares
  rw [getD_map_range _ hjn]
  have e : ((List.range k).filter fun t => decide (lShTo s n t = (j : Int))).map (fun (t : Nat) => (t : Int)) ++ [(k : Int)] = (fun (h : Nat) => ((List.range (k + 1)).filter fun t => decide (lShTo s n t = (h : Int))).map fun (t : Nat) => (t : Int)) j := by
    simp [List.range_succ, List.filter_append, hj]
  rw [e]
  refine set_map_range (g := fun (h : Nat) => ((List.range (k + 1)).filter fun t => decide (lShTo s n t = (h : Int))).map fun (t : Nat) => (t : Int)) _ fun i hi hne => ?_
  have : ¬ (lShTo s n k = (i : Int)) := by omega
  simp [List.range_succ, List.filter_append, this]
theorem lShares_no (s : List Int) {n k : Nat} (h1 : ¬ lShTo s n k < n) : lShares s n k = lShares s n (k + 1) := by
  unfold lShares
  refine List.map_congr_left fun i hi => ?_
  have : i < n := List.mem_range.mp hi
  have : ¬ (lShTo s n k = (i : Int)) := by omega
  simp [List.range_succ, List.filter_append, this]
def summed (row things : List Int) : Int := (things.map fun t => pyAt row t).sum
/-- the law's choice of things -/
def lSomeS (c : Int) (m : Nat) : Nat → List Int × List Int
  | 0 => (rgI m, [])
  | k + 1 => let p := lSomeS c m k
    let i := lMixed c k / 7 % (p.1.length : Int)
    (p.1.eraseIdx i.toNat, p.2 ++ [p.1.getD i.toNat 0])
def lSome (c : Int) (m : Nat) : List Int := (lSomeS c m (c % ((m : Int) + 1)).toNat).2
theorem lSomeS_len (c : Int) (m : Nat) : ∀ k, k ≤ m → (lSomeS c m k).1.length = m - k ∧ (lSomeS c m k).2.length = k
  | 0, _ => by simp [lSomeS, rgI]
  | k + 1, h => by
    obtain ⟨h1, h2⟩ := lSomeS_len c m k (by omega)
    have hp : 0 < (lSomeS c m k).1.length := by omega
    have hi : (lMixed c k / 7 % ((lSomeS c m k).1.length : Int)).toNat < (lSomeS c m k).1.length := by
      have := Int.emod_lt_of_pos (lMixed c k / 7) (show (0 : Int) < ((lSomeS c m k).1.length : Int) by omega)
      have := Int.emod_nonneg (lMixed c k / 7) (show ((lSomeS c m k).1.length : Int) ≠ 0 by omega)
      omega
    simp only [lSomeS, List.length_eraseIdx, List.length_append, List.length_singleton]
    rw [if_pos hi]
    omega
theorem rgI_len (m : Nat) : (rgI m).length = m := by simp [rgI]
theorem rgI_mem {m : Nat} {x : Int} : x ∈ rgI m ↔ 0 ≤ x ∧ x < m := by
  simp only [rgI, List.mem_map, List.mem_range]
  constructor
  · rintro ⟨a, h, rfl⟩; omega
  · rintro ⟨h1, h2⟩; exact ⟨x.toNat, by omega, by omega⟩
theorem rgI_nodup (m : Nat) : (rgI m).Nodup := by
  unfold rgI
  rw [List.nodup_iff_pairwise_ne, List.pairwise_map]
  exact List.nodup_range.imp fun h => by omega
theorem erase_perm {α : Type} {xs : List α} {i : Nat} {d : α} (h : i < xs.length) : (xs.eraseIdx i ++ [xs.getD i d]).Perm xs := by
  have e : xs.getD i d = xs[i] := by simp [List.getD_eq_getElem?_getD, h]
  rw [e]
  have : (xs[i] :: xs.eraseIdx i).Perm xs := by
    rw [List.eraseIdx_eq_take_drop_succ]
    have h2 : xs = xs.take i ++ xs[i] :: xs.drop (i + 1) := by simp
    conv => rhs; rw [h2]
    exact List.perm_middle.symm
  exact (List.perm_append_singleton _ _).trans this
theorem lSomeS_perm (c : Int) (m : Nat) : ∀ k, k ≤ m → ((lSomeS c m k).1 ++ (lSomeS c m k).2).Perm (rgI m)
  | 0, _ => by simp [lSomeS]
  | k + 1, h => by
    have ih := lSomeS_perm c m k (by omega)
    obtain ⟨h1, h2⟩ := lSomeS_len c m k (by omega)
    have hp : 0 < (lSomeS c m k).1.length := by omega
    have hi : (lMixed c k / 7 % ((lSomeS c m k).1.length : Int)).toNat < (lSomeS c m k).1.length := by
      have := Int.emod_lt_of_pos (lMixed c k / 7) (show (0 : Int) < ((lSomeS c m k).1.length : Int) by omega)
      have := Int.emod_nonneg (lMixed c k / 7) (show ((lSomeS c m k).1.length : Int) ≠ 0 by omega)
      omega
    refine List.Perm.trans ?_ ih
    simp only [lSomeS]
    refine (List.Perm.append_left _ List.perm_append_comm).trans ?_
    rw [← List.append_assoc]
    exact (erase_perm hi).append_right _
theorem lSome_sub (c : Int) (m : Nat) : (lSome c m).Nodup ∧ ∀ x ∈ lSome c m, 0 ≤ x ∧ x < m := by
  have hk : (c % ((m : Int) + 1)).toNat ≤ m := by
    have := Int.emod_lt_of_pos c (show (0 : Int) < (m : Int) + 1 by omega)
    omega
  have p := lSomeS_perm c m _ hk
  have nd := p.nodup_iff.mpr (rgI_nodup m)
  exact ⟨(List.nodup_append.mp nd).2.1, fun x hx => rgI_mem.mp (p.subset (List.mem_append_right _ hx))⟩
theorem lSome_len (c : Int) (m : Nat) : (lSome c m).length ≤ m := by
  have hk : (c % ((m : Int) + 1)).toNat ≤ m := by
    have := Int.emod_lt_of_pos c (show (0 : Int) < (m : Int) + 1 by omega)
    omega
  have := (lSomeS_len c m _ hk).2
  unfold lSome
  omega
end Th

namespace Th
open PySem L2 DL
theorem lw_inR {m : Int} (hm : 0 ≤ m ∧ m < 5) (h1 : decide (m = 0) = false) (h2 : decide (m = 1) = false) : inR [7, 2, 40].length (m - 2) := by
  have := of_decide_eq_false h1
  have := of_decide_eq_false h2
  exact ⟨by simp; omega, by simp; omega⟩
theorem lw_mod {m : Int} (hm : 0 ≤ m ∧ m < 5) (h1 : decide (m = 0) = false) (h2 : decide (m = 1) = false) : 0 < (pyAt [7, 2, 40] (m - 2) : Int) := by
  have := of_decide_eq_false h1
  have := of_decide_eq_false h2
  have : m = 2 ∨ m = 3 ∨ m = 4 := by omega
  rcases this with e | e | e <;> subst e <;> simp [pyAt]
theorem lSh_inR {s : List Int} {n i : Nat} {x : Int} (h0 : 0 ≤ x) (h1 : x < n) : inR (lShares s n i).length x := by
  have : (lShares s n i).length = n := by simp [lShares]
  rw [this]
  exact ⟨by omega, h1⟩
theorem lSh_row (s : List Int) (n i : Nat) : ∀ r ∈ lShares s n i, r.length ≤ i := fun r hr => by
  simp only [lShares, List.mem_map] at hr
  obtain ⟨h, _, rfl⟩ := hr
  rw [List.length_map]
  exact Nat.le_trans (List.length_filter_le _ _) (by simp)
theorem lSh_sz {s : List Int} {n i j : Nat} (hi : i < 1000) : ((lShares s n i).getD j []).length < 16000000 := by
  by_cases h : j < (lShares s n i).length
  · have := lSh_row s n i ((lShares s n i).getD j []) (by simp [List.getD_eq_getElem?_getD, h])
    omega
  · rw [List.getD_eq_getElem?_getD, List.getElem?_eq_none (by omega)]
    simp
theorem getD_mem {xs : List Int} {i : Nat} (h : i < xs.length) : xs.getD i default ∈ xs := by simp [List.getD_eq_getElem?_getD, h]
theorem summed_take {row things : List Int} {i : Nat} (hi : i < things.length) : summed row (things.take (i + 1)) = summed row (things.take i) + pyAt row (things.getD i default) := by
  unfold summed
  have e : things.getD i default = things[i] := by simp [List.getD_eq_getElem?_getD, hi]
  rw [List.take_add_one, List.getElem?_eq_getElem hi, e, List.map_append, List.sum_append]
  simp only [Option.toList, List.map_cons, List.map_nil, List.sum_cons, List.sum_nil, Int.add_zero]
theorem lSome_k (c : Int) (m : Nat) : (c % ((m : Int) + 1)).toNat ≤ m := by
  have := Int.emod_lt_of_pos c (show (0 : Int) < (m : Int) + 1 by omega)
  omega
def nH (s : List Int) : Nat := (lHeirs (lAt s 0)).toNat
def nM (s : List Int) : Nat := (lThings (lAt s 1)).toNat
theorem nH_eq (s : List Int) : V.int (lHeirs (lAt s 0)) = V.int (nH s) := by
  have := lHeirs_bd (lAt s 0)
  unfold nH
  congr 1
  omega
theorem nM_eq (s : List Int) : V.int (lThings (lAt s 1)) = V.int (nM s) := by
  have := lThings_bd (lAt s 1)
  unfold nM
  congr 1
  omega
theorem nH_bd (s : List Int) : 1 ≤ nH s ∧ nH s ≤ 8 := by
  have := lHeirs_bd (lAt s 0)
  unfold nH
  omega
theorem nM_bd (s : List Int) : nM s ≤ 14 := by
  have := lThings_bd (lAt s 1)
  unfold nM
  omega
theorem lShares_good (s : List Int) {n many : Nat} (hn : 1 ≤ n) : GoodS (lShares s n many) n many where
  n := by simp [lShares]
  bd := fun r hr x hx => by
    simp only [lShares, List.mem_map] at hr
    obtain ⟨h, _, rfl⟩ := hr
    obtain ⟨t, ht, rfl⟩ := List.mem_map.mp hx
    have := List.mem_range.mp (List.mem_filter.mp ht).1
    omega
  up := fun r hr => by
    simp only [lShares, List.mem_map] at hr
    obtain ⟨h, _, rfl⟩ := hr
    rw [List.pairwise_map]
    have : (List.range many).Pairwise (· < ·) := List.pairwise_lt_range
    exact (this.filter _).imp fun h => by omega
  nd := by
    unfold lShares
    rw [List.nodup_iff_pairwise_ne, List.pairwise_flatten]
    refine ⟨fun r hr => ?_, ?_⟩
    · obtain ⟨h, _, rfl⟩ := List.mem_map.mp hr
      rw [List.pairwise_map]
      have : (List.range many).Pairwise (· < ·) := List.pairwise_lt_range
      exact (this.filter _).imp fun h => by omega
    · rw [List.pairwise_map]
      have : (List.range n).Pairwise (· < ·) := List.pairwise_lt_range
      refine this.imp fun {a b} hab => ?_
      intro x hx y hy e
      obtain ⟨t, ht, rfl⟩ := List.mem_map.mp hx
      obtain ⟨u, hu, e2⟩ := List.mem_map.mp hy
      have h1 := of_decide_eq_true (List.mem_filter.mp ht).2
      have h2 := of_decide_eq_true (List.mem_filter.mp hu).2
      have : t = u := by omega
      subst this
      omega
theorem k01_sum {t : List (List Int)} {m : Nat} (g : GoodT t m) {ts : List Int} (hb : ∀ x ∈ ts, 0 ≤ x ∧ x < (m : Int)) {h : Int} (hh : inR t.length h) : ∀ x ∈ ts, inR (pyAt t h).length x := fun x hx => by
  rw [g.at hh]
  have := hb x hx
  exact ⟨by omega, this.2⟩
end Th

set_option Elab.async false
set_option linter.all false
set_option maxRecDepth 100000
/-! shares as a text -/
namespace Th
open PySem L2 DL
def numT (i : Int) : Str := Str.ofString (toString i)
theorem numT_len : ∀ n : Fin 100, (numT ((n.val : Nat) : Int)).length ≤ 2 := by decide +kernel
theorem numT_le {i : Int} (h : 0 ≤ i ∧ i < 100) : (numT i).length ≤ 2 := by
  have := numT_len ⟨i.toNat, by omega⟩
  simp only at this
  rwa [Int.toNat_of_nonneg h.1] at this
theorem str_assoc (a b c : Str) : a ++ b ++ c = a ++ (b ++ c) := TL.ext_tl (by rw [TL.tl_append, TL.tl_append, TL.tl_append, TL.tl_append, List.append_assoc])
theorem str_len (a b : Str) : (a ++ b).length = a.length + b.length := by rw [TL.len_tl, TL.len_tl, TL.len_tl, TL.tl_append, List.length_append]
theorem fold_app (sep : Str) (g : α → Str) : ∀ (ws : List α) (a b : Str), ws.foldl (fun r w => r ++ sep ++ g w) (a ++ b) = a ++ ws.foldl (fun r w => r ++ sep ++ g w) b
  | [], _, _ => rfl
  | w :: ws, a, b => by
    simp only [List.foldl_cons]
    rw [str_assoc, str_assoc, ← str_assoc b]
    exact fold_app sep g ws a _
theorem join_fold0 (sep : Str) (g : α → Str) : ∀ (ws : List α) (a : Str), Str.join sep (a :: ws.map g) = ws.foldl (fun r w => r ++ sep ++ g w) a
  | [], _ => rfl
  | w :: ws, a => by
    have ih := join_fold0 sep g ws (g w)
    show a ++ sep ++ Str.join sep (g w :: ws.map g) = _
    rw [ih, List.foldl_cons, ← fold_app]
theorem join_fold (sep : Str) (g : α → Str) (ws : List α) (a : Str) : Txt.join sep (a :: ws.map g) = ws.foldl (fun r w => r ++ sep ++ g w) a := by
  rw [TL.join_eq, join_fold0]
def rowW (h : Int) (sh : List Int) : List Str := [numT h ++ ":"] ++ sh.map fun x => numT x
def rowT (h : Int) (sh : List Int) : Str := Txt.join " " (rowW h sh)
def shownT (s : List (List Int)) : Str := Txt.join "\n" ((List.range s.length).map fun (i : Nat) => rowT (i : Int) (s.getD i default))
def lwRow (h : Int) (sh : List Int) (k : Nat) : Str := (sh.take k).foldl (fun r x => r ++ (" " : Str) ++ numT x) (numT h ++ ":")
theorem lwRow_all (h : Int) (sh : List Int) : lwRow h sh sh.length = rowT h sh := by
  unfold lwRow rowT rowW
  rw [List.take_length]
  exact (join_fold " " (fun x => numT x) sh _).symm
theorem lwRow_succ {h : Int} {sh : List Int} {k : Nat} (hk : k < sh.length) : lwRow h sh (k + 1) = lwRow h sh k ++ (" " : Str) ++ numT (sh.getD k default) := by
  unfold lwRow
  have e : sh.getD k default = sh[k] := by simp [List.getD_eq_getElem?_getD, hk]
  rw [List.take_add_one, List.getElem?_eq_getElem hk, List.foldl_append, e]
  rfl
theorem sum_le {α : Type} {xs : List α} {g : α → Nat} {b : Nat} (h : ∀ x ∈ xs, g x ≤ b) : (xs.map g).sum ≤ xs.length * b := by
  induction xs with
  | nil => simp
  | cons a as ih =>
    rw [List.map_cons, List.sum_cons, List.length_cons, Nat.succ_mul]
    have := h a (by simp)
    have := ih fun x hx => h x (by simp [hx])
    omega
end Th
namespace Th
open PySem L2 DL
theorem num_log {i : Int} (h : 0 ≤ i ∧ i < 100) : i.natAbs.log2 < 1920 := Nat.lt_of_le_of_lt (Nat.log2_le_self _) (by omega)
theorem rowW_sz {h : Int} {sh : List Int} (hh : 0 ≤ h ∧ h < 100) (hb : ∀ x ∈ sh, 0 ≤ x ∧ x < 100) (hl : sh.length ≤ 4000) : ((rowW h sh).map (·.length)).sum + (rowW h sh).length * (" " : Str).length ≤ 16777216 := by
  have e1 : (" " : Str).length = 1 := by decide
  have e2 : (":" : Str).length = 1 := by decide
  have l : (rowW h sh).length = sh.length + 1 := by simp [rowW]
  have := sum_le (xs := rowW h sh) (g := fun w => w.length) (b := 3) fun w hw => by
    unfold rowW at hw
    rcases List.mem_append.mp hw with z | z
    · simp only [List.mem_singleton] at z
      rw [z, str_len, e2]
      have := numT_le hh
      omega
    · obtain ⟨x, hx, rfl⟩ := List.mem_map.mp z
      have := numT_le (hb x hx)
      omega
  rw [l] at this
  rw [l, e1]
  omega
theorem join_len (sep : Str) (ws : List Str) : (Txt.join sep ws).length ≤ (ws.map (·.length)).sum + ws.length * sep.length := by
  rw [TL.join_eq]
  induction ws with
  | nil => simp [Str.join, Str.empty, Str.length]
  | cons a as ih =>
    cases as with
    | nil => simp [Str.join]
    | cons b bs =>
      show (a ++ sep ++ Str.join sep (b :: bs)).length ≤ _
      rw [str_len, str_len, List.map_cons, List.sum_cons, List.length_cons, Nat.succ_mul]
      omega
theorem rowT_len {h : Int} {sh : List Int} (hh : 0 ≤ h ∧ h < 100) (hb : ∀ x ∈ sh, 0 ≤ x ∧ x < 100) (hl : sh.length ≤ 4000) : (rowT h sh).length ≤ 20000 := by
  have e1 : (" " : Str).length = 1 := by decide
  have jl := join_len " " (rowW h sh)
  have l : (rowW h sh).length = sh.length + 1 := by simp [rowW]
  have := sum_le (xs := rowW h sh) (g := fun w => w.length) (b := 3) fun w hw => by
    have e2 : (":" : Str).length = 1 := by decide
    unfold rowW at hw
    rcases List.mem_append.mp hw with z | z
    · simp only [List.mem_singleton] at z
      rw [z, str_len, e2]
      have := numT_le hh
      omega
    · obtain ⟨x, hx, rfl⟩ := List.mem_map.mp z
      have := numT_le (hb x hx)
      omega
  unfold rowT
  rw [l] at this
  rw [l, e1] at jl
  omega
def okShares (d : D) : Bool := !(!isList d || !(decide (1 ≤ ((dsOf d).length : Int)) && decide (((dsOf d).length : Int) ≤ 8))) && areShares d ((dsOf d).length : Int) 40
end Th
namespace Th
open PySem L2 DL
theorem GoodS.y2 {s : List (List Int)} {n m : Nat} (h : GoodS s n m) (hm : m ≤ 4000 := by omega) : ∀ x ∈ dsOf (dLL s), (dsOf x).length ≤ 4000 := fun x hx => by
  rw [dsOf_dLL] at hx
  obtain ⟨r, hr, rfl⟩ := List.mem_map.mp hx
  rw [dsOf_dLL, List.length_map]
  have := h.row hr
  omega
theorem getD_memA {α : Type} [Inhabited α] {xs : List α} {i : Nat} (h : i < xs.length) : xs.getD i default ∈ xs := by simp [List.getD_eq_getElem?_getD, h]
theorem shown_sz {s : List (List Int)} {n : Nat} (hs : GoodS s n 40) (h8 : n ≤ 8) : (((List.range s.length).map fun (i : Nat) => rowT (i : Int) (s.getD i default)).map (·.length)).sum + ((List.range s.length).map fun (i : Nat) => rowT (i : Int) (s.getD i default)).length * ("\n" : Str).length ≤ 16777216 := by
  have e1 : ("\n" : Str).length = 1 := by decide
  have hn := hs.n
  have l : ((List.range s.length).map fun (i : Nat) => rowT (i : Int) (s.getD i default)).length = s.length := by simp
  have := sum_le (xs := (List.range s.length).map fun (i : Nat) => rowT (i : Int) (s.getD i default)) (g := fun w => w.length) (b := 20000) fun w hw => by
    obtain ⟨i, hi, rfl⟩ := List.mem_map.mp hw
    have hi := List.mem_range.mp hi
    have hr := getD_memA hi
    have := hs.row hr
    exact rowT_len ⟨by omega, by omega⟩ (fun x hx => by have := hs.bd _ hr x hx; omega) (by omega)
  rw [l] at this
  rw [l, e1]
  omega
end Th
namespace Th
open PySem L2 DL
theorem cat_sz {h : Int} (hh : 0 ≤ h ∧ h < 100) : (numT h).length + (":" : Str).length ≤ sizeLine := by
  have e1 : (":" : Str).length = 1 := by decide
  have := numT_le hh
  rw [e1]
  exact Nat.le_trans (show _ ≤ 1000 by omega) (by decide)
end Th
namespace Th
open PySem L2 DL
/-- things given out by a function of theirs -/
def gSh (to : Nat → Int) (n k : Nat) : List (List Int) := (List.range n).map fun (h : Nat) => ((List.range k).filter fun t => decide (to t = (h : Int))).map fun (t : Nat) => (t : Int)
theorem gSh_yes {to : Nat → Int} {n k : Nat} (h0 : 0 ≤ to k) (h1 : to k < n) : (gSh to n k).set (pyIx (gSh to n k).length (to k)) ((gSh to n k).getD (pyIx (gSh to n k).length (to k)) [] ++ [(k : Int)]) = gSh to n (k + 1) := by
  obtain ⟨j, hj⟩ : ∃ j : Nat, to k = j := ⟨(to k).toNat, by omega⟩
  have hjn : j < n := by omega
  rw [hj, pyIx_nat]
  unfold gSh
  rw [getD_map_range _ hjn]
  have e : ((List.range k).filter fun t => decide (to t = (j : Int))).map (fun (t : Nat) => (t : Int)) ++ [(k : Int)] = (fun (h : Nat) => ((List.range (k + 1)).filter fun t => decide (to t = (h : Int))).map fun (t : Nat) => (t : Int)) j := by
    simp [List.range_succ, List.filter_append, hj]
  rw [e]
  refine set_map_range (g := fun (h : Nat) => ((List.range (k + 1)).filter fun t => decide (to t = (h : Int))).map fun (t : Nat) => (t : Int)) _ fun i hi hne => ?_
  have : ¬ (to k = (i : Int)) := by omega
  simp [List.range_succ, List.filter_append, this]
theorem gSh_no {to : Nat → Int} {n k : Nat} (h1 : ¬ to k < n) : gSh to n k = gSh to n (k + 1) := by
  unfold gSh
  refine List.map_congr_left fun i hi => ?_
  have : i < n := List.mem_range.mp hi
  have : ¬ (to k = (i : Int)) := by omega
  simp [List.range_succ, List.filter_append, this]
theorem gSh_good (to : Nat → Int) (n many : Nat) : GoodS (gSh to n many) n many where
  n := by simp [gSh]
  bd := fun r hr x hx => by
    simp only [gSh, List.mem_map] at hr
    obtain ⟨h, _, rfl⟩ := hr
    obtain ⟨t, ht, rfl⟩ := List.mem_map.mp hx
    have := List.mem_range.mp (List.mem_filter.mp ht).1
    omega
  up := fun r hr => by
    simp only [gSh, List.mem_map] at hr
    obtain ⟨h, _, rfl⟩ := hr
    rw [List.pairwise_map]
    have : (List.range many).Pairwise (· < ·) := List.pairwise_lt_range
    exact (this.filter _).imp fun h => by omega
  nd := by
    unfold gSh
    rw [List.nodup_iff_pairwise_ne, List.pairwise_flatten]
    refine ⟨fun r hr => ?_, ?_⟩
    · obtain ⟨h, _, rfl⟩ := List.mem_map.mp hr
      rw [List.pairwise_map]
      have : (List.range many).Pairwise (· < ·) := List.pairwise_lt_range
      exact (this.filter _).imp fun h => by omega
    · rw [List.pairwise_map]
      have : (List.range n).Pairwise (· < ·) := List.pairwise_lt_range
      refine this.imp fun {a b} hab => ?_
      intro x hx y hy e
      obtain ⟨t, ht, rfl⟩ := List.mem_map.mp hx
      obtain ⟨u, hu, e2⟩ := List.mem_map.mp hy
      have h1 := of_decide_eq_true (List.mem_filter.mp ht).2
      have h2 := of_decide_eq_true (List.mem_filter.mp hu).2
      have : t = u := by omega
      subst this
      omega
/-- k13's shares -/
def pN (ns : List Int) : Nat := (1 + lAt ns 0 % 8).toNat
theorem pN_bd (ns : List Int) : 1 ≤ pN ns ∧ pN ns ≤ 8 := by unfold pN; omega
theorem pN_eq (ns : List Int) : V.int (1 + lAt ns 0 % 8) = V.int (pN ns) := congrArg V.int (by unfold pN; omega)
def pTo (ns : List Int) (t : Nat) : Int := lMixed (lAt ns (2 + (t : Int) % 20)) t / 5 % ((pN ns : Int) + lAt ns 1 % 40)
theorem pTo_nn (ns : List Int) (t : Nat) : 0 ≤ pTo ns t := Int.emod_nonneg _ (by have := pN_bd ns; omega)
def lParts (ns : List Int) : List (List Int) := gSh (pTo ns) (pN ns) 40
theorem lParts_good (ns : List Int) : GoodS (lParts ns) (pN ns) 40 := gSh_good _ _ _
def lText (s : List (List Int)) : Str := Txt.join "\n" ((List.range s.length).map fun (h : Nat) => rowT (h : Int) (s.getD h default))
theorem lText_eq (s : List (List Int)) : lText s = shownT s := rfl
end Th
namespace Th
open PySem L2 DL
theorem gSh_in {to : Nat → Int} {n i : Nat} {x : Int} (h0 : 0 ≤ x) (h1 : x < n) : inR (gSh to n i).length x := by
  have : (gSh to n i).length = n := by simp [gSh]
  rw [this]
  exact ⟨by omega, h1⟩
theorem szG {s : List (List Int)} {n m : Nat} (h : GoodS s n m) (hm : m ≤ 4000) (j : Nat) : (s.getD j []).length < 16000000 := by
  by_cases hj : j < s.length
  · have := h.row (show s.getD j [] ∈ s by simp [List.getD_eq_getElem?_getD, hj])
    omega
  · rw [List.getD_eq_getElem?_getD, List.getElem?_eq_none (by omega)]
    simp
theorem lwRow_len {h : Int} {sh : List Int} (hh : 0 ≤ h ∧ h < 100) (hb : ∀ x ∈ sh, 0 ≤ x ∧ x < 100) : ∀ k, k ≤ sh.length → (lwRow h sh k).length ≤ 3 + 3 * k
  | 0, _ => by
    have e1 : (":" : Str).length = 1 := by decide
    have := numT_le hh
    show (numT h ++ (":" : Str)).length ≤ _
    rw [str_len, e1]
    omega
  | k + 1, hk => by
    have ih := lwRow_len hh hb k (by omega)
    have e1 : (" " : Str).length = 1 := by decide
    have := numT_le (hb _ (getD_memA (xs := sh) (i := k) (by omega)))
    rw [lwRow_succ (by omega), str_len, str_len, e1]
    omega
theorem lw_cat1 {h : Int} {sh : List Int} (hh : 0 ≤ h ∧ h < 100) (hb : ∀ x ∈ sh, 0 ≤ x ∧ x < 100) {k : Nat} (hk : k < sh.length) (hl : sh.length ≤ 1000) : (lwRow h sh k).length + (" " : Str).length ≤ sizeLine := by
  have := lwRow_len hh hb k (by omega)
  have e1 : (" " : Str).length = 1 := by decide
  rw [e1]
  exact Nat.le_trans (show _ ≤ 10000 by omega) (by decide)
theorem lw_cat2 {h : Int} {sh : List Int} (hh : 0 ≤ h ∧ h < 100) (hb : ∀ x ∈ sh, 0 ≤ x ∧ x < 100) {k : Nat} (hk : k < sh.length) (hl : sh.length ≤ 1000) : (lwRow h sh k ++ (" " : Str)).length + (numT (sh.getD k default)).length ≤ sizeLine := by
  have := lwRow_len hh hb k (by omega)
  have e1 : (" " : Str).length = 1 := by decide
  have := numT_le (hb _ (getD_memA (xs := sh) (i := k) hk))
  rw [str_len, e1]
  exact Nat.le_trans (show _ ≤ 10000 by omega) (by decide)
end Th

set_option Elab.async false
set_option linter.all false
set_option maxRecDepth 100000
/-! texts split at one sign, and joined again -/
namespace Th
open PySem L2 DL
theorem spl1 (c : Nat) (acc : List Nat) (d : Nat) (r : List Nat) : TL.spl [c] 0 acc (d :: r) = if d = c then acc :: TL.spl [c] 0 [] r else TL.spl [c] 0 (acc ++ [d]) r := by
  by_cases h : d = c
  · subst h
    rw [if_pos rfl, TL.spl_hit (show TL.pre [d] (d :: r) = true from TL.pre_self [d] r)]
    rfl
  · rw [if_neg h, TL.spl_miss (TL.pre_of_head [] r h)]
theorem spl1_ne (c : Nat) : ∀ (l acc : List Nat), TL.spl [c] 0 acc l ≠ []
  | [], acc => by rw [TL.spl_nil]; simp
  | d :: r, acc => by
    rw [spl1]
    by_cases h : d = c
    · rw [if_pos h]; simp
    · rw [if_neg h]; exact spl1_ne c r _
theorem spl1_join (c : Nat) : ∀ (l acc : List Nat), TL.joinL [c] (TL.spl [c] 0 acc l) = acc ++ l
  | [], acc => by rw [TL.spl_nil]; simp [TL.joinL]
  | d :: r, acc => by
    rw [spl1]
    by_cases h : d = c
    · rw [if_pos h]
      have ih := spl1_join c r []
      cases e : TL.spl [c] 0 [] r with
      | nil => exact absurd e (spl1_ne c r [])
      | cons q s =>
        rw [e] at ih
        show acc ++ ([c] ++ TL.joinL [c] (q :: s)) = _
        rw [ih, h]
        simp
    · rw [if_neg h, spl1_join c r]
      simp
theorem spl1_free (c : Nat) : ∀ (l acc : List Nat), c ∉ acc → ∀ p ∈ TL.spl [c] 0 acc l, c ∉ p
  | [], acc, ha, p, hp => by
    rw [TL.spl_nil] at hp
    rw [List.mem_singleton.mp hp]
    exact ha
  | d :: r, acc, ha, p, hp => by
    rw [spl1] at hp
    by_cases h : d = c
    · rw [if_pos h] at hp
      rcases List.mem_cons.mp hp with z | z
      · rw [z]; exact ha
      · exact spl1_free c r [] (by simp) p z
    · rw [if_neg h] at hp
      exact spl1_free c r _ (by simp; exact ⟨ha, fun z => h z.symm⟩) p hp
/-- a separator of one plain sign -/
structure Sep (y : Str) (c : Nat) : Prop where
  e : TL.tl y = [c]
  k : y.cps.all (· < 256) = true
theorem sep_nl : Sep "\n" 10 := ⟨by decide, by decide +kernel⟩
theorem sep_sp : Sep " " 32 := ⟨by decide, by decide +kernel⟩
section
variable {y : Str} {c : Nat} (S : Sep y c)
include S
theorem Sep.spl (x : Str) : (Txt.split x y).map TL.tl = TL.spl [c] 0 [] (TL.tl x) := by
  rw [TL.split_spl x y (by rw [S.e]; simp) (TL.kind_ok S.k), S.e]
theorem Sep.ne (x : Str) : Txt.split x y ≠ [] := fun z => by
  have := S.spl x
  rw [z] at this
  exact spl1_ne c _ _ this.symm
theorem Sep.pos (x : Str) : 0 < (Txt.split x y).length := List.length_pos_iff.mpr (S.ne x)
theorem Sep.back (x : Str) : Txt.join y (Txt.split x y) = x := TL.ext_tl (by
  rw [TL.join_eq, TL.tl_join, S.spl, S.e, spl1_join]
  rfl)
theorem Sep.free (x : Str) : ∀ p ∈ Txt.split x y, c ∉ TL.tl p := fun p hp => spl1_free c (TL.tl x) [] (by simp) (TL.tl p) (by
  rw [← S.spl]
  exact List.mem_map.mpr ⟨p, hp, rfl⟩)
theorem Sep.forth {parts : List Str} (h : parts ≠ []) (hp : ∀ p ∈ parts, c ∉ TL.tl p) : Txt.split (Txt.join y parts) y = parts := TL.split_join S.e S.k h hp
end
theorem joinL_sum (c : Nat) : ∀ ps : List (List Nat), ps ≠ [] → (TL.joinL [c] ps).length + 1 = (ps.map (·.length)).sum + ps.length
  | [], h => absurd rfl h
  | [p], _ => by simp [TL.joinL]
  | p :: q :: r, _ => by
    have ih := joinL_sum c (q :: r) (by simp)
    show (p ++ ([c] ++ TL.joinL [c] (q :: r))).length + 1 = _
    simp only [List.length_append, List.map_cons, List.sum_cons, List.length_cons, List.length_nil] at ih ⊢
    omega
theorem Sep.sum {y : Str} {c : Nat} (S : Sep y c) (x : Str) : x.length + 1 = ((Txt.split x y).map (·.length)).sum + (Txt.split x y).length := by
  have h := joinL_sum c ((Txt.split x y).map TL.tl) (by intro z; exact S.ne x (List.map_eq_nil_iff.mp z))
  rw [S.spl, spl1_join, ← S.spl, List.length_map, List.map_map] at h
  have e : (List.length ∘ TL.tl) = fun z : Str => z.length := funext fun z => (TL.len_tl z).symm
  rw [e] at h
  rw [← h, TL.len_tl x]
  rfl
theorem Sep.sumJ {y : Str} {c : Nat} (S : Sep y c) {ps : List Str} (h : ps ≠ []) : (Txt.join y ps).length + 1 = (ps.map (·.length)).sum + ps.length := by
  have h := joinL_sum c (ps.map TL.tl) (by intro z; exact h (List.map_eq_nil_iff.mp z))
  rw [List.length_map, List.map_map] at h
  have e : (List.length ∘ TL.tl) = fun z : Str => z.length := funext fun z => (TL.len_tl z).symm
  rw [e] at h
  rw [← h, TL.len_tl, TL.join_eq, TL.tl_join, S.e]
theorem sum_mem {xs : List Str} {x : Str} (h : x ∈ xs) : x.length ≤ (xs.map (·.length)).sum := by
  induction xs with
  | nil => cases h
  | cons a as ih =>
    rw [List.map_cons, List.sum_cons]
    rcases List.mem_cons.mp h with z | z
    · rw [z]; omega
    · have := ih z; omega
theorem Sep.part_len {y : Str} {c : Nat} (S : Sep y c) {x p : Str} (h : p ∈ Txt.split x y) : p.length ≤ x.length := by
  have := S.sum x
  have := sum_mem h
  have := S.pos x
  omega
theorem Sep.parts_len {y : Str} {c : Nat} (S : Sep y c) (x : Str) : (Txt.split x y).length ≤ x.length + 1 := by
  have := S.sum x
  omega
end Th
namespace Th
open PySem L2 DL
/-- numbers written and read -/
def intOf (w : Str) : Int := ((NumText.digitsVal (TL.tl w) : Nat) : Int)
theorem tl_figs : TL.tl "0123456789" = [48, 49, 50, 51, 52, 53, 54, 55, 56, 57] := by decide
theorem fig_iff {c : Nat} : c ∈ TL.tl "0123456789" ↔ 48 ≤ c ∧ c ≤ 57 := by
  rw [tl_figs]
  simp only [List.mem_cons, List.not_mem_nil, or_false]
  omega
def figB (c : Nat) : Bool := decide (c ∈ TL.tl "0123456789")
theorem figB_iff {c : Nat} : figB c = true ↔ 48 ≤ c ∧ c ≤ 57 := by unfold figB; rw [decide_eq_true_eq]; exact fig_iff
def figs (w : Str) : Bool := (TL.tl w).all figB
theorem figs_all {w : Str} : figs w = true ↔ NumText.AllDigits (TL.tl w) := by
  unfold figs NumText.AllDigits
  rw [List.all_eq_true]
  exact ⟨fun h c hc => figB_iff.mp (h c hc), fun h c hc => figB_iff.mpr (h c hc)⟩
theorem tl_numT (n : Nat) : TL.tl (numT (n : Int)) = TL.numL n := TL.tl_num n
theorem numT_val (n : Nat) : intOf (numT (n : Int)) = n := by
  unfold intOf
  rw [tl_numT, TL.numL_val]
theorem int_read {w : Str} (h : figs w = true) (h1 : 1 ≤ w.length) (h2 : w.length ≤ 640) : intText? w = some (intOf w) :=
  PySem.intText_digits (figs_all.mp h) (by intro z; rw [TL.len_tl, show TL.tl w = [] from z] at h1; simp at h1) (by omega)
def numOf (w : Str) : Option Int := if ((!(decide ((1 : Int) ≤ (w.length : Int)) && decide ((w.length : Int) ≤ 2)) || (decide ((w.length : Int) = 2) && decide (sgAt w 0 = "0"))) || !figs w) = true then none else some (intOf w)
theorem two_list {l : List Nat} (h1 : 1 ≤ l.length) (h2 : l.length ≤ 2) : (∃ a, l = [a]) ∨ ∃ a b, l = [a, b] := by
  match l, h1, h2 with
  | [a], _, _ => exact .inl ⟨a, rfl⟩
  | [a, b], _, _ => exact .inr ⟨a, b, rfl⟩
theorem sg0 : ("0" : Str) = sg 48 := by decide
theorem numOf_some {w : Str} {n : Int} (h : numOf w = some n) : n = intOf w ∧ w = numT n ∧ 0 ≤ n ∧ n < 100 ∧ figs w = true ∧ 1 ≤ w.length ∧ w.length ≤ 2 := by
  unfold numOf at h
  split at h
  · cases h
  rename_i q
  obtain rfl := Option.some.inj h
  simp only [Bool.or_eq_true, Bool.not_eq_true', Bool.and_eq_false_imp, Bool.and_eq_true, decide_eq_true_eq, decide_eq_false_iff_not, not_or, not_and, Bool.not_eq_false] at q
  obtain ⟨⟨q1, q2⟩, q3⟩ := q
  have l1 : 1 ≤ w.length ∧ w.length ≤ 2 := by
    refine ⟨?_, ?_⟩
    · by_cases z : (1 : Int) ≤ w.length
      · omega
      · exact absurd (fun y => absurd y z) q1
    · by_cases z : (w.length : Int) ≤ 2
      · omega
      · exact absurd (fun _ => z) q1
  have dg := figs_all.mp q3
  have lt : (TL.tl w).length = w.length := (TL.len_tl w).symm
  refine ⟨rfl, ?_, ?_, ?_, q3, l1.1, l1.2⟩
  · refine TL.ext_tl ?_
    unfold intOf
    rw [tl_numT]
    rcases two_list (l := TL.tl w) (by omega) (by omega) with ⟨a, e⟩ | ⟨a, b, e⟩
    · rw [e] at dg ⊢
      have := dg a (by simp)
      have v : NumText.digitsVal [a] = a - 48 := by simp [NumText.digitsVal]
      rw [v, TL.numL_lt (by omega)]
      congr 1
      omega
    · have hz : a ≠ 48 := fun z => by
        refine q2 (by rw [← lt, e]; rfl) ?_
        unfold sgAt
        rw [sg0]
        have : pyAt w.cps.toList 0 = 48 := by rw [show w.cps.toList = [a, b] from e, z]; rfl
        rw [this]
      rw [e] at dg ⊢
      have h1 := dg a (by simp)
      have h2 := dg b (by simp)
      have v : NumText.digitsVal [a, b] = (a - 48) * 10 + (b - 48) := by simp [NumText.digitsVal]
      rw [v, TL.numL_step (by omega), TL.numL_lt (by omega)]
      have e1 : 48 + ((a - 48) * 10 + (b - 48)) / 10 = a := by omega
      have e2 : 48 + ((a - 48) * 10 + (b - 48)) % 10 = b := by omega
      rw [e1, e2]
      rfl
  · unfold intOf; omega
  · unfold intOf
    rcases two_list (l := TL.tl w) (by omega) (by omega) with ⟨a, e⟩ | ⟨a, b, e⟩
    · rw [e] at dg ⊢
      have := dg a (by simp)
      have v : NumText.digitsVal [a] = a - 48 := by simp [NumText.digitsVal]
      omega
    · rw [e] at dg ⊢
      have h1 := dg a (by simp)
      have h2 := dg b (by simp)
      have v : NumText.digitsVal [a, b] = (a - 48) * 10 + (b - 48) := by simp [NumText.digitsVal]
      omega
theorem numOf_numT : ∀ n : Fin 100, numOf (numT ((n.val : Nat) : Int)) = some ((n.val : Nat) : Int) := by decide +kernel
theorem numOf_back {n : Int} (h : 0 ≤ n ∧ n < 100) : numOf (numT n) = some n := by
  have := numOf_numT ⟨n.toNat, by omega⟩
  simp only at this
  rwa [Int.toNat_of_nonneg h.1] at this
end Th

set_option Elab.async false
set_option linter.all false
set_option maxRecDepth 100000
/-! shares spoilt -/
namespace Th
open PySem L2 DL
theorem areShares_d {d : D} {n m : Int} (h : areShares d n m = true) : isList d = true ∧ ((dsOf d).length : Int) = n ∧ (∀ x ∈ dsOf d, areThings x m = true ∧ nums x = sortI (nums x)) ∧ (told d).Nodup := by
  unfold areShares at h
  split at h
  · cases h
  rename_i h1
  split at h
  · cases h
  rename_i h2
  simp only [Bool.or_eq_true, Bool.not_eq_true', not_or, Bool.not_eq_false, decide_eq_false_iff_not, Decidable.not_not] at h1 h2
  refine ⟨h1.1, h1.2, fun x hx => ?_, (ddup_len _).mp (by have := of_decide_eq_true h; omega)⟩
  have := List.all_eq_true.mp h2 _ (List.mem_map.mpr ⟨x, hx, rfl⟩)
  simpa using this
theorem okShares_d {d : D} (h : okShares d = true) : isList d = true ∧ 1 ≤ (dsOf d).length ∧ (dsOf d).length ≤ 8 ∧ (∀ x ∈ dsOf d, areThings x 40 = true ∧ nums x = sortI (nums x)) ∧ (told d).Nodup := by
  unfold okShares at h
  simp only [Bool.and_eq_true, Bool.not_eq_true', Bool.or_eq_false_iff, Bool.not_eq_false', decide_eq_true_eq] at h
  have := areShares_d h.2
  exact ⟨this.1, by omega, by omega, this.2.2.1, this.2.2.2⟩
theorem areThings_mem {d : D} {m : Int} (h : areThings d m = true) : ∀ x ∈ dsOf d, isAmong x 0 (m - 1) = true := by
  unfold areThings at h
  split at h
  · cases h
  rename_i q
  simp only [Bool.or_eq_true, Bool.not_eq_true', not_or, Bool.not_eq_false] at q
  intro x hx
  have := List.all_eq_true.mp q.2 _ (List.mem_map.mpr ⟨x, hx, rfl⟩)
  simpa using this
def sOne (s : List (List Int)) (n : Int) : Int := n / 16 % (s.length : Int)
def sOdd (n : Int) : D := ([.int (-1), .int 40, .bool true, .bool false, .str "0", .none, .list [.int 0], .int (40 + n / 128 % 100)] : List D).getD (n % 16).toNat .none
def sBad (row : List Int) (n : Int) : D := ([.list (row.map dI ++ (List.replicate (Int.toNat 2) ((pySl (row ++ [3]) (some (-1)) none).map dI)).flatten), dL [1, 0], .tuple (row.map dI), .none] : List D).getD (n % 16 - 8).toNat .none
def sEls (s : List (List Int)) (n : Int) : D := ([.list [], .list (List.replicate (Int.toNat 9) [.list []]).flatten, .tuple (s.map dL), .none, .int 5, .str "0:"] : List D).getD (n / 16 % 6).toNat .none
def sp13 (s : List (List Int)) (n : Int) : D :=
  if n % 16 < 8 then .list (((pySl s none (some (sOne s n))).map dL ++ [.list [sOdd n]]) ++ ((pySl s (some (sOne s n + 1)) none).map fun _ => PyData.list []).map id)
  else if n % 16 < 12 then .list (((pySl s none (some (sOne s n))).map fun _ => PyData.list []).map id ++ [sBad (pyAt s (sOne s n)) n] ++ ((pySl s (some (sOne s n + 1)) none).map fun _ => PyData.list []).map id)
  else if n % 16 = 12 then dLL [[0], [0]]
  else sEls s n
theorem sOne_bd {s : List (List Int)} (n : Int) (h : 1 ≤ s.length) : 0 ≤ sOne s n ∧ sOne s n < s.length := ⟨Int.emod_nonneg _ (by omega), Int.emod_lt_of_pos _ (by omega)⟩
theorem last_two (r : List Int) : ¬ (r ++ (List.replicate (Int.toNat 2) (pySl (r ++ [3]) (some (-1)) none)).flatten).Nodup := by
  have e : Int.toNat 2 = 2 := rfl
  have h : pySl (r ++ [3]) (some (-1)) none = [3] := by
    unfold pySl
    have h2 : HT.sIx (r ++ [3]).length (r ++ [3]).length none = (r ++ [3]).length := HT.sIx_none _ _
    have h1 : HT.sIx (r ++ [3]).length 0 (some (-1)) = r.length := by
      unfold HT.sIx
      simp
      try omega
    rw [h1, h2]
    simp
  rw [e, h]
  intro q
  have := (List.nodup_append.mp q).2.1
  simp [List.replicate] at this
theorem nums_l (ns : List Int) : nums (.list (ns.map dI)) = ns := nums_dL ns
theorem i8 {k : Int} (h : 0 ≤ k) (h8 : k < 8) : k = 0 ∨ k = 1 ∨ k = 2 ∨ k = 3 ∨ k = 4 ∨ k = 5 ∨ k = 6 ∨ k = 7 := by omega
theorem sOdd_bad {n : Int} (h : n % 16 < 8) : isAmong (sOdd n) 0 (40 - 1) = false := by
  have h0 : 0 ≤ n % 16 := Int.emod_nonneg _ (by omega)
  have hk : 0 ≤ n / 128 % 100 := Int.emod_nonneg _ (by omega)
  unfold sOdd
  rcases i8 h0 h with e | e | e | e | e | e | e | e <;> rw [e] <;> first | rfl | skip
  show isAmong (.int (40 + n / 128 % 100)) 0 (40 - 1) = false
  rw [isAmong_int]
  simp
  omega
theorem sBad_bad {row : List Int} {n : Int} (h : 8 ≤ n % 16) (h2 : n % 16 < 12) : ¬ (areThings (sBad row n) 40 = true ∧ nums (sBad row n) = sortI (nums (sBad row n))) := by
  unfold sBad
  have : n % 16 = 8 ∨ n % 16 = 9 ∨ n % 16 = 10 ∨ n % 16 = 11 := by omega
  rintro ⟨h1, h2⟩
  rcases this with e | e | e | e <;> rw [e] at h1 h2
  · have q := (areThings_d h1).2.2.2
    have e2 : (PyData.list (row.map dI ++ (List.replicate (Int.toNat 2) ((pySl (row ++ [3]) (some (-1)) none).map dI)).flatten)) = dL (row ++ (List.replicate (Int.toNat 2) (pySl (row ++ [3]) (some (-1)) none)).flatten) := by
      have e : Int.toNat 2 = 2 := rfl
      simp [dl, e, List.replicate]
    have e3 : nums (PyData.list (row.map dI ++ (List.replicate (Int.toNat 2) ((pySl (row ++ [3]) (some (-1)) none).map dI)).flatten)) = row ++ (List.replicate (Int.toNat 2) (pySl (row ++ [3]) (some (-1)) none)).flatten := by rw [e2, nums_dL]
    exact last_two row (e3 ▸ q)
  · have e3 : nums (dL [1, 0]) = [1, 0] := nums_dL _
    have h2 : nums (dL [1, 0]) = sortI (nums (dL [1, 0])) := h2
    rw [e3] at h2
    have := sortI_sorted [1, 0]
    rw [← h2] at this
    simp at this
  · cases (areThings_d h1).1
  · cases (areThings_d h1).1
theorem sp13_bad {s : List (List Int)} (n : Int) : okShares (sp13 s n) = false := by
  cases q : okShares (sp13 s n) with
  | false => rfl
  | true =>
    exfalso
    obtain ⟨q1, q2, q3, q4, q5⟩ := okShares_d q
    have h0 : 0 ≤ n % 16 := Int.emod_nonneg _ (by omega)
    unfold sp13 at q1 q2 q3 q4 q5
    by_cases c1 : n % 16 < 8
    · rw [if_pos c1] at q4
      have := areThings_mem (q4 (.list [sOdd n]) (by simp [dsOf])).1 (sOdd n) (by simp [dsOf])
      rw [sOdd_bad c1] at this
      cases this
    by_cases c2 : n % 16 < 12
    · rw [if_neg c1, if_pos c2] at q4
      exact sBad_bad (row := pyAt s (sOne s n)) (by omega) c2 (q4 _ (by simp [dsOf]))
    by_cases c3 : n % 16 = 12
    · rw [if_neg c1, if_neg c2, if_pos c3] at q5
      rw [told_dLL] at q5
      simp at q5
    · rw [if_neg c1, if_neg c2, if_neg c3] at q1 q2 q3
      have h6 : 0 ≤ n / 16 % 6 := Int.emod_nonneg _ (by omega)
      have : n / 16 % 6 = 0 ∨ n / 16 % 6 = 1 ∨ n / 16 % 6 = 2 ∨ n / 16 % 6 = 3 ∨ n / 16 % 6 = 4 ∨ n / 16 % 6 = 5 := by omega
      unfold sEls at q1 q2 q3
      rcases this with e | e | e | e | e | e <;> rw [e] at q1 q2 q3
      · exact absurd q2 (by show ¬ 1 ≤ 0; omega)
      · exact absurd q3 (by show ¬ 9 ≤ 8; omega)
      · cases q1
      · cases q1
      · cases q1
      · cases q1
theorem sp13_sz {s : List (List Int)} (hs : GoodS s k 40) (h1 : 1 ≤ k) (h8 : k ≤ 8) (n : Int) : (dsOf (sp13 s n)).length ≤ 20 ∧ (∀ x ∈ dsOf (sp13 s n), (dsOf x).length ≤ 200) := by
  have hn := hs.n
  have rl : ∀ r ∈ s, r.length ≤ 40 := fun r hr => hs.row hr
  have hdl : ∀ r ∈ s, (dsOf (dL r)).length ≤ 40 := fun r hr => by rw [dsOf_dLL, List.length_map]; exact rl r hr
  have h0 : 0 ≤ n % 16 := Int.emod_nonneg _ (by omega)
  have sb : ∀ {x} {lo hi : Option Int}, x ∈ pySl s lo hi → x ∈ s := fun {x lo hi} h => List.mem_of_mem_drop (List.mem_of_mem_take h)
  have ob := sOne_bd n (s := s) (by omega)
  unfold sp13
  by_cases c1 : n % 16 < 8
  · rw [if_pos c1]
    refine ⟨?_, ?_⟩
    · have := sl_len s none (some (sOne s n))
      have := sl_len s (some (sOne s n + 1)) none
      simp [dsOf]
      omega
    · intro x hx
      simp only [dsOf, List.mem_append, List.mem_map, List.mem_singleton] at hx
      rcases hx with (⟨r, hr, rfl⟩ | rfl) | ⟨r, hr, rfl⟩
      · have := hdl r (sb hr); omega
      · simp [dsOf]
      · obtain ⟨_, _, rfl⟩ := hr; simp [dsOf, dl]
  by_cases c2 : n % 16 < 12
  · rw [if_neg c1, if_pos c2]
    refine ⟨?_, ?_⟩
    · have := sl_len s none (some (sOne s n))
      have := sl_len s (some (sOne s n + 1)) none
      simp [dsOf]
      omega
    · intro x hx
      simp only [dsOf, List.mem_append, List.mem_map, List.mem_singleton] at hx
      rcases hx with (⟨r, hr, rfl⟩ | rfl) | ⟨r, hr, rfl⟩
      · obtain ⟨_, _, rfl⟩ := hr; simp [dsOf, dl]
      · have hl := rl _ (pyAt_mem (xs := s) (i := sOne s n) ⟨by omega, ob.2⟩)
        have hq := sl_len (pyAt s (sOne s n) ++ [3]) (some (-1)) none
        rw [List.length_append, List.length_singleton] at hq
        have e : Int.toNat 2 = 2 := rfl
        have : n % 16 = 8 ∨ n % 16 = 9 ∨ n % 16 = 10 ∨ n % 16 = 11 := by omega
        unfold sBad
        rcases this with e' | e' | e' | e' <;> rw [e']
        · show (List.map dI (pyAt s (sOne s n)) ++ (List.replicate (Int.toNat 2) (List.map dI (pySl (pyAt s (sOne s n) ++ [3]) (some (-1)) none))).flatten).length ≤ 200
          rw [e]
          simp [List.replicate]
          omega
        · show 2 ≤ 200; omega
        · show 0 ≤ 200; omega
        · show 0 ≤ 200; omega
      · obtain ⟨_, _, rfl⟩ := hr; simp [dsOf, dl]
  by_cases c3 : n % 16 = 12
  · rw [if_neg c1, if_neg c2, if_pos c3]
    refine ⟨show 2 ≤ 20 by omega, fun x hx => ?_⟩
    have hx : x ∈ [dL [0], dL [0]] := hx
    simp at hx
    rw [hx]
    show 1 ≤ 200; omega
  · rw [if_neg c1, if_neg c2, if_neg c3]
    have h6 : 0 ≤ n / 16 % 6 := Int.emod_nonneg _ (by omega)
    have : n / 16 % 6 = 0 ∨ n / 16 % 6 = 1 ∨ n / 16 % 6 = 2 ∨ n / 16 % 6 = 3 ∨ n / 16 % 6 = 4 ∨ n / 16 % 6 = 5 := by omega
    unfold sEls
    have em : ∀ x ∈ ([] : List D), (dsOf x).length ≤ 200 := fun x hx => by cases hx
    rcases this with e | e | e | e | e | e <;> rw [e]
    · exact ⟨show 0 ≤ 20 by omega, em⟩
    · refine ⟨show 9 ≤ 20 by omega, fun x hx => ?_⟩
      have hx : x ∈ (List.replicate 9 [PyData.list []]).flatten := hx
      obtain ⟨l, h1, h2⟩ := List.mem_flatten.mp hx
      rw [(List.mem_replicate.mp h1).2] at h2
      rw [List.mem_singleton.mp h2]
      show 0 ≤ 200; omega
    · exact ⟨show 0 ≤ 20 by omega, em⟩
    · exact ⟨show 0 ≤ 20 by omega, em⟩
    · exact ⟨show 0 ≤ 20 by omega, em⟩
    · exact ⟨show 0 ≤ 20 by omega, em⟩
theorem flat_len {α : Type} {xss : List (List α)} {b : Nat} (h : ∀ x ∈ xss, x.length ≤ b) : xss.flatten.length ≤ xss.length * b := by
  induction xss with
  | nil => simp
  | cons a as ih =>
    have := ih fun x hx => h x (by simp [hx])
    have := h a (by simp)
    rw [List.flatten_cons, List.length_append, List.length_cons, Nat.succ_mul]
    omega
theorem told_len {d : D} {b : Nat} (h : ∀ x ∈ dsOf d, (dsOf x).length ≤ b) : (told d).length ≤ (dsOf d).length * b := by
  have := flat_len (xss := (dsOf d).map nums) (b := b) fun x hx => by
    obtain ⟨y, hy, rfl⟩ := List.mem_map.mp hx
    unfold nums
    rw [List.length_map]
    exact h y hy
  rwa [List.length_map] at this
theorem sp13_zs {s : List (List Int)} (hs : GoodS s k 40) (h1 : 1 ≤ k) (h8 : k ≤ 8) (n : Int) : (dsOf (sp13 s n)).length ≤ 4000 ∧ (∀ x ∈ dsOf (sp13 s n), (dsOf x).length ≤ 4000) ∧ (told (sp13 s n)).length ≤ 4000 := by
  have z := sp13_sz hs h1 h8 n
  have t := told_len z.2
  exact ⟨by omega, fun x hx => by have := z.2 x hx; omega, Nat.le_trans t (Nat.le_trans (Nat.mul_le_mul_right 200 z.1) (by decide))⟩
/-- the shares with a thing left out of one of them -/
def cutP (s : List (List Int)) (i : Int) : List (List Int) := pySet s i (pySl (pyAt s i) (some 1) none)
theorem cutP_good {s : List (List Int)} {n m : Nat} (h : GoodS s n m) {i : Int} (hi : 0 ≤ i ∧ i < s.length) : GoodS (cutP s i) n m := by
  obtain ⟨k, rfl⟩ : ∃ j : Nat, i = j := ⟨i.toNat, by omega⟩
  have hk : k < s.length := by omega
  have e : cutP s (k : Int) = s.set k ((s.getD k default).drop 1) := by
    unfold cutP
    rw [sl_from _ (by omega), pyAt_nat]
    unfold pySet pyIx
    rw [if_pos (by omega)]
    rfl
  have hm : s.getD k default ∈ s := getD_memA hk
  have sub : (s.set k ((s.getD k default).drop 1)).flatten.Sublist s.flatten := by
    have e1 : s = s.take k ++ s.getD k default :: s.drop (k + 1) := by
      have : s.getD k default = s[k] := by simp [List.getD_eq_getElem?_getD, hk]
      rw [this, ← List.drop_eq_getElem_cons hk, List.take_append_drop]
    have e2 : s.set k ((s.getD k default).drop 1) = s.take k ++ (s.getD k default).drop 1 :: s.drop (k + 1) := List.set_eq_take_append_cons_drop.trans (if_pos hk)
    rw [e2]
    conv => rhs; rw [e1]
    rw [List.flatten_append, List.flatten_append, List.flatten_cons, List.flatten_cons]
    exact (List.Sublist.refl _).append ((List.drop_sublist _ _).append (List.Sublist.refl _))
  have mem : ∀ r ∈ s.set k ((s.getD k default).drop 1), ∃ r' ∈ s, r.Sublist r' := fun r hr => by
    rcases List.mem_or_eq_of_mem_set hr with z | z
    · exact ⟨r, z, List.Sublist.refl _⟩
    · exact ⟨_, hm, z ▸ List.drop_sublist _ _⟩
  rw [e]
  refine ⟨by rw [List.length_set]; exact h.n, fun r hr x hx => ?_, fun r hr => ?_, h.nd.sublist sub⟩
  · obtain ⟨r', h1, h2⟩ := mem r hr
    exact h.bd r' h1 x (h2.subset hx)
  · obtain ⟨r', h1, h2⟩ := mem r hr
    exact (h.up r' h1).sublist h2
theorem cutP_eq {s : List (List Int)} {i : Int} (hi : 0 ≤ i ∧ i < s.length) : (pySl s none (some i) ++ [pySl (pyAt s i) (some 1) none]) ++ pySl s (some (i + 1)) none = cutP s i := sl_cut s hi _
end Th

set_option Elab.async false
set_option linter.all false
set_option maxRecDepth 100000
/-! a text read, by the program and by the law -/
namespace Th
open PySem L2 DL
abbrev rowsOf (u : Str) : List Str := Txt.split u "\n"
abbrev wordsOf (r : Str) : List Str := Txt.split r " "
abbrev restOf (r : Str) : List Str := pySl (wordsOf r) (some 1) none
theorem restOf_eq (r : Str) : restOf r = (wordsOf r).drop 1 := by unfold restOf; rw [sl_from _ (by omega)]; rfl
def shOf (u : Str) : List (List (Option Int)) := (rowsOf u).map fun r => (restOf r).map numOf
def headOk (u : Str) (i : Nat) : Bool := decide (pyAt (wordsOf ((rowsOf u).getD i default)) 0 = numT (i : Int) ++ (":" : Str))
def readB (u : Str) : Bool := ((List.range (rowsOf u).length).all (headOk u)) && (!decide ((8 : Int) < (rowsOf u).length) && areShares (dl (dl dO) (shOf u)) ((rowsOf u).length : Int) 40)
/-- the law's way -/
def wBad (w : Str) : Bool := decide (w = "") || (decide ((2 : Int) < (w.length : Int)) || !decide (((TL.tl w).filter fun c => !decide (c ∈ TL.tl "0123456789")).map sg = []))
def dueH (u : Str) : List (List Int) := (rowsOf u).map fun r => (restOf r).map intOf
def dueW (u : Str) : Bool := (rowsOf u).all fun r => (restOf r).all fun w => !wBad w
def due2 (u : Str) : Bool := decide ((8 : Int) < (dueH u).length) || (!decide (lText (dueH u) = u) || decide (((ddup (dueH u).flatten).length : Int) < ((dueH u).flatten.length : Int)))
def due3 (u : Str) : Bool := !decide (((dueH u).filter fun s => !decide (s = sortI s)) = []) || decide ((39 : Int) < maxI ((dueH u).flatten ++ [0]))
def dueO (u : Str) : Option (List (List Int)) := if dueW u = true then (if due2 u = true then none else if due3 u = true then none else some (dueH u)) else none
theorem wBad_iff {w : Str} : wBad w = false ↔ 1 ≤ w.length ∧ w.length ≤ 2 ∧ figs w = true := by
  unfold wBad
  have e0 : w = "" ↔ w.length = 0 := ⟨fun z => by rw [z]; decide, fun z => TL.ext_tl (by
    have e : TL.tl w = [] := List.length_eq_zero_iff.mp (by rw [← TL.len_tl]; exact z)
    rw [e]; decide)⟩
  have e1 : ((TL.tl w).filter fun c => !decide (c ∈ TL.tl "0123456789")).map sg = [] ↔ figs w = true := by
    rw [List.map_eq_nil_iff, List.filter_eq_nil_iff]
    unfold figs figB
    rw [List.all_eq_true]
    simp
  rw [Bool.or_eq_false_iff, Bool.or_eq_false_iff, decide_eq_false_iff_not, decide_eq_false_iff_not, Bool.not_eq_false', decide_eq_true_eq, e0, e1]
  constructor
  · rintro ⟨h1, h2, h3⟩; exact ⟨by omega, by omega, h3⟩
  · rintro ⟨h1, h2, h3⟩; exact ⟨by omega, by omega, h3⟩
theorem words_cons (r : Str) : ∃ w ws, wordsOf r = w :: ws := by
  cases e : wordsOf r with
  | nil => exact absurd e (sep_sp.ne r)
  | cons w ws => exact ⟨w, ws, rfl⟩
theorem words_split (r : Str) : wordsOf r = pyAt (wordsOf r) 0 :: restOf r := by
  obtain ⟨w, ws, e⟩ := words_cons r
  rw [restOf_eq, e]
  rfl
theorem rowT_words (h : Int) (sh : List Int) : rowT h sh = Txt.join " " ((numT h ++ (":" : Str)) :: sh.map numT) := rfl
theorem numT_free {n : Int} (h : 0 ≤ n) {c : Nat} (hc : c < 48 ∨ 57 < c) : c ∉ TL.tl (numT n) := by
  obtain ⟨k, rfl⟩ : ∃ j : Nat, n = j := ⟨n.toNat, by omega⟩
  rw [tl_numT]
  exact TL.numL_free hc
theorem head_free {n : Int} (h : 0 ≤ n) {c : Nat} (hc : c < 48 ∨ 58 < c) : c ∉ TL.tl (numT n ++ (":" : Str)) := by
  rw [TL.tl_append, List.mem_append]
  have e : TL.tl ":" = [58] := by decide
  rw [e]
  rintro (z | z)
  · exact numT_free h (by omega) z
  · simp at z; omega
/-- what a joined row bears -/
theorem joinL_mem {c x : Nat} : ∀ {ps : List (List Nat)}, x ∈ TL.joinL [c] ps → x = c ∨ ∃ p ∈ ps, x ∈ p
  | [], h => by simp [TL.joinL] at h
  | [p], h => .inr ⟨p, by simp, h⟩
  | p :: q :: r, h => by
    have h : x ∈ p ++ ([c] ++ TL.joinL [c] (q :: r)) := h
    rw [List.mem_append, List.mem_append] at h
    rcases h with h | h | h
    · exact .inr ⟨p, by simp, h⟩
    · exact .inl (by simpa using h)
    · rcases joinL_mem h with z | ⟨p', h1, h2⟩
      · exact .inl z
      · exact .inr ⟨p', List.mem_cons_of_mem _ h1, h2⟩
theorem rowT_free {h : Int} {sh : List Int} (hh : 0 ≤ h) (hb : ∀ x ∈ sh, 0 ≤ x) : 10 ∉ TL.tl (rowT h sh) := by
  rw [rowT_words, TL.join_eq, TL.tl_join, sep_sp.e]
  intro z
  rcases joinL_mem z with z | ⟨p, hp, z⟩
  · omega
  · obtain ⟨w, hw, rfl⟩ := List.mem_map.mp hp
    rcases List.mem_cons.mp hw with e | hw
    · rw [e] at z; exact head_free hh (by omega) z
    · obtain ⟨x, hx, rfl⟩ := List.mem_map.mp hw
      exact numT_free (hb x hx) (by omega) z
theorem dueH_nn (u : Str) : ∀ r ∈ dueH u, ∀ x ∈ r, 0 ≤ x := fun r hr x hx => by
  obtain ⟨y, _, rfl⟩ := List.mem_map.mp hr
  obtain ⟨w, _, rfl⟩ := List.mem_map.mp hx
  unfold intOf
  omega
theorem dueH_len (u : Str) : (dueH u).length = (rowsOf u).length := by simp [dueH]
theorem dOs (xss : List (List Int)) : dl (dl dO) (xss.map fun xs => xs.map some) = dLL xss := by
  unfold dl
  rw [List.map_map]
  refine congrArg PyData.list (List.map_congr_left fun xs _ => ?_)
  show PyData.list ((xs.map some).map dO) = PyData.list (xs.map dI)
  rw [List.map_map]
  rfl
theorem map_getD {α β : Type} [Inhabited α] (f : α → β) (xs : List α) : (List.range xs.length).map (fun i => f (xs.getD i default)) = xs.map f := by
  refine List.ext_getElem (by simp) fun i h1 h2 => ?_
  have h3 : i < xs.length := by simpa using h2
  rw [List.getElem_map, List.getElem_range, List.getElem_map]
  simp [List.getD_eq_getElem?_getD, h3]
theorem ddup_le (ns : List Int) : (ddup ns).length ≤ ns.length := by
  have h := ddup_sub ns ns.length (Nat.le_refl _)
  exact nodup_sub_len h.1 fun x hx => by
    have := (h.2 x).mp hx
    rwa [List.take_length] at this
/-- where the law finds shares, the program does -/
theorem due_good {u : Str} (h2 : due2 u = false) (h3 : due3 u = false) : GoodS (dueH u) (rowsOf u).length 40 := by
  unfold due2 at h2
  unfold due3 at h3
  simp only [Bool.or_eq_false_iff, decide_eq_false_iff_not, Bool.not_eq_false', decide_eq_true_eq] at h2 h3
  have nd : (dueH u).flatten.Nodup := (ddup_len _).mp (by
    have := h2.2.2
    have : (ddup (dueH u).flatten).length ≤ (dueH u).flatten.length := ddup_le _
    omega)
  refine ⟨dueH_len u, fun r hr x hx => ⟨dueH_nn u r hr x hx, ?_⟩, fun r hr => ?_, nd⟩
  · have := maxI_ge (ns := (dueH u).flatten ++ [0]) (y := x) (List.mem_append_left _ (List.mem_flatten.mpr ⟨r, hr, hx⟩))
    have := h3.2
    omega
  · have e : r = sortI r := by
      have := List.filter_eq_nil_iff.mp h3.1 r hr
      simpa using this
    have so : r.Pairwise (· ≤ ·) := e ▸ sortI_sorted r
    have nr : r.Pairwise (· ≠ ·) := (List.pairwise_flatten.mp (List.nodup_iff_pairwise_ne.mp nd)).1 r hr
    exact (so.and nr).imp fun h => by omega
theorem due_rows {u : Str} (h2 : due2 u = false) : rowsOf u = (List.range (dueH u).length).map fun (i : Nat) => rowT (i : Int) ((dueH u).getD i default) := by
  unfold due2 at h2
  simp only [Bool.or_eq_false_iff, decide_eq_false_iff_not, Bool.not_eq_false', decide_eq_true_eq] at h2
  have e := h2.2.1
  have hp : 0 < (dueH u).length := by rw [dueH_len]; exact sep_nl.pos u
  have := sep_nl.forth (parts := (List.range (dueH u).length).map fun (i : Nat) => rowT (i : Int) ((dueH u).getD i default)) (by intro z; have := congrArg List.length z; rw [List.length_map, List.length_range, List.length_nil] at this; omega) fun p hp' => by
    obtain ⟨i, hi, rfl⟩ := List.mem_map.mp hp'
    exact rowT_free (by omega) (dueH_nn u _ (getD_memA (List.mem_range.mp hi)))
  unfold rowsOf
  conv => lhs; rw [← e]
  exact this
theorem rowT_split {h : Int} {sh : List Int} (hh : 0 ≤ h) (hb : ∀ x ∈ sh, 0 ≤ x) : wordsOf (rowT h sh) = (numT h ++ (":" : Str)) :: sh.map numT := by
  rw [rowT_words]
  refine sep_sp.forth (by simp) fun p hp => ?_
  rcases List.mem_cons.mp hp with e | hp
  · rw [e]; exact head_free hh (by omega)
  · obtain ⟨x, hx, rfl⟩ := List.mem_map.mp hp
    exact numT_free (hb x hx) (by omega)
theorem due_read {u : Str} (h2 : due2 u = false) (h3 : due3 u = false) : readB u = true ∧ shOf u = (dueH u).map fun xs => xs.map some := by
  have g := due_good h2 h3
  have er := due_rows h2
  have nn := dueH_nn u
  have row : ∀ i, i < (dueH u).length → (rowsOf u).getD i default = rowT (i : Int) ((dueH u).getD i default) := fun i hi => by
    rw [er]
    simp [List.getD_eq_getElem?_getD, hi]
  have wr : ∀ i, i < (dueH u).length → wordsOf ((rowsOf u).getD i default) = (numT (i : Int) ++ (":" : Str)) :: ((dueH u).getD i default).map numT := fun i hi => by
    rw [row i hi]
    exact rowT_split (by omega) (nn _ (getD_memA hi))
  have es : shOf u = (dueH u).map fun xs => xs.map some := by
    rw [← map_getD (fun xs : List Int => xs.map some) (dueH u)]
    unfold shOf
    rw [er, List.map_map]
    refine List.map_congr_left fun i hi => ?_
    have hi : i < (dueH u).length := List.mem_range.mp hi
    show (restOf (rowT (i : Int) ((dueH u).getD i default))).map numOf = _
    rw [restOf_eq, rowT_split (by omega) (nn _ (getD_memA hi)), List.drop_one, List.tail_cons, List.map_map]
    refine List.map_congr_left fun x hx => ?_
    exact numOf_back (by have := g.bd _ (getD_memA hi) x hx; omega)
  refine ⟨?_, es⟩
  unfold readB
  rw [es, dOs, show areShares (dLL (dueH u)) ((rowsOf u).length : Int) 40 = true from g.areShares]
  have h8 : ¬ (8 : Int) < (rowsOf u).length := by
    unfold due2 at h2
    simp only [Bool.or_eq_false_iff, decide_eq_false_iff_not] at h2
    rw [← dueH_len]; exact h2.1
  rw [decide_eq_false h8]
  simp only [Bool.not_false, Bool.and_true]
  rw [List.all_eq_true]
  intro i hi
  unfold headOk
  rw [wr i (by rw [dueH_len]; exact List.mem_range.mp hi)]
  exact decide_eq_true rfl
/-- .. and the other way -/
theorem read_due {u : Str} (h : readB u = true) : dueO u = some (dueH u) ∧ shOf u = (dueH u).map fun xs => xs.map some := by
  unfold readB at h
  simp only [Bool.and_eq_true, Bool.not_eq_true', decide_eq_false_iff_not] at h
  obtain ⟨h1, h2, h3⟩ := h
  obtain ⟨_, _, q3, q4⟩ := areShares_d h3
  have some_of : ∀ r ∈ rowsOf u, ∀ w ∈ restOf r, ∃ n, numOf w = some n ∧ 0 ≤ n ∧ n < 40 := fun r hr w hw => by
    have m := (q3 (dl dO ((restOf r).map numOf)) (by rw [dsOf_dLL]; exact List.mem_map.mpr ⟨_, List.mem_map.mpr ⟨r, hr, rfl⟩, rfl⟩)).1
    have := areThings_mem m (dO (numOf w)) (by rw [dsOf_dLL]; exact List.mem_map.mpr ⟨_, List.mem_map.mpr ⟨w, hw, rfl⟩, rfl⟩)
    cases e : numOf w with
    | none => rw [e] at this; cases this
    | some n =>
      rw [e] at this
      have : isAmong (.int n) 0 (40 - 1) = true := this
      rw [isAmong_int] at this
      simp at this
      exact ⟨n, rfl, by omega, by omega⟩
  have io : ∀ r ∈ rowsOf u, ∀ w ∈ restOf r, numOf w = some (intOf w) ∧ w = numT (intOf w) ∧ 0 ≤ intOf w ∧ intOf w < 40 ∧ wBad w = false := fun r hr w hw => by
    obtain ⟨n, e, b1, b2⟩ := some_of r hr w hw
    obtain ⟨e1, e2, _, _, e3, e4, e5⟩ := numOf_some e
    subst e1
    exact ⟨e, e2, b1, b2, wBad_iff.mpr ⟨e4, e5, e3⟩⟩
  have es : shOf u = (dueH u).map fun xs => xs.map some := by
    unfold shOf dueH
    rw [List.map_map]
    refine List.map_congr_left fun r hr => ?_
    show (restOf r).map numOf = ((restOf r).map intOf).map some
    rw [List.map_map]
    exact List.map_congr_left fun w hw => (io r hr w hw).1
  rw [es, dOs] at h3
  obtain ⟨_, _, g3, g4⟩ := areShares_d h3
  rw [told_dLL] at g4
  have dw : dueW u = true := by
    unfold dueW
    rw [List.all_eq_true]
    intro r hr
    rw [List.all_eq_true]
    intro w hw
    rw [(io r hr w hw).2.2.2.2]
    rfl
  have rw_ : ∀ i, i < (rowsOf u).length → rowT (i : Int) ((dueH u).getD i default) = (rowsOf u).getD i default := fun i hi => by
    have hm := getD_memA hi
    have e1 : (dueH u).getD i default = (restOf ((rowsOf u).getD i default)).map intOf := by
      unfold dueH
      simp [List.getD_eq_getElem?_getD, hi]
    have hd : pyAt (wordsOf ((rowsOf u).getD i default)) 0 = numT (i : Int) ++ (":" : Str) := of_decide_eq_true (List.all_eq_true.mp h1 i (List.mem_range.mpr hi))
    have e2 : ((restOf ((rowsOf u).getD i default)).map intOf).map numT = restOf ((rowsOf u).getD i default) := by
      rw [List.map_map]
      refine (List.map_congr_left fun w hw => ?_).trans (List.map_id _)
      exact (io _ hm w hw).2.1.symm
    rw [rowT_words, e1, e2, ← hd, ← words_split]
    exact sep_sp.back _
  have et : lText (dueH u) = u := by
    unfold lText
    rw [dueH_len]
    have : ((List.range (rowsOf u).length).map fun (h : Nat) => rowT (h : Int) ((dueH u).getD h default)) = rowsOf u := by
      refine List.ext_getElem (by simp) fun i h1 h2' => ?_
      rw [List.getElem_map, List.getElem_range, rw_ i h2']
      simp [List.getD_eq_getElem?_getD, h2']
    rw [this]
    exact sep_nl.back u
  have d2 : due2 u = false := by
    unfold due2
    rw [dueH_len, decide_eq_false h2, et, (ddup_len _).mpr g4]
    simp
  have d3 : due3 u = false := by
    unfold due3
    rw [Bool.or_eq_false_iff, Bool.not_eq_false', decide_eq_true_eq, decide_eq_false_iff_not, List.filter_eq_nil_iff]
    refine ⟨fun r hr => ?_, ?_⟩
    · have := (g3 (dL r) (by rw [dsOf_dLL]; exact List.mem_map.mpr ⟨r, hr, rfl⟩)).2
      rw [nums_dL] at this
      simpa using this
    · have hm : maxI ((dueH u).flatten ++ [0]) ∈ (dueH u).flatten ++ [0] := maxI_mem (by simp)
      rcases List.mem_append.mp hm with z | z
      · obtain ⟨r, hr, hx⟩ := List.mem_flatten.mp z
        obtain ⟨y, hy, rfl⟩ := List.mem_map.mp hr
        obtain ⟨w, hw, e⟩ := List.mem_map.mp hx
        have := io y hy w hw
        omega
      · have := List.mem_singleton.mp z
        omega
  refine ⟨?_, es⟩
  unfold dueO
  rw [dw, d2, d3]
  rfl
theorem due_some {u : Str} {s : List (List Int)} (h : dueO u = some s) : s = dueH u ∧ readB u = true ∧ shOf u = (dueH u).map (fun xs => xs.map some) ∧ GoodS (dueH u) (rowsOf u).length 40 ∧ (rowsOf u).length ≤ 8 := by
  unfold dueO at h
  split at h
  · split at h
    · cases h
    · split at h
      · cases h
      · rename_i d1 d2 d3
        have d2 : due2 u = false := by simpa using d2
        have d3 : due3 u = false := by simpa using d3
        have r := due_read d2 d3
        refine ⟨(Option.some.inj h).symm, r.1, r.2, due_good d2 d3, ?_⟩
        have := r.1
        unfold readB at this
        simp only [Bool.and_eq_true, Bool.not_eq_true', decide_eq_false_iff_not] at this
        omega
  · cases h
theorem due_none {u : Str} (h : dueO u = none) : readB u = false := by
  cases q : readB u with
  | false => rfl
  | true => rw [(read_due q).1] at h; cases h
end Th

set_option Elab.async false
set_option linter.all false
set_option maxRecDepth 100000
set_option maxHeartbeats 2000000
/-! for v in n: a statement that looks at v; v.append(e) -/
namespace DL
open PySem L2
theorem SlR.swap {K : Fg} {I G H : Hp} : ∀ {σ σ2 : L2.St} {ρ : List Sl} {A : List Addr}, SlR K I G H σ ρ A → σ2.length = σ.length → (∀ q : Nat, ρ[q]? ≠ some Sl.un → σ2[q]? = σ[q]?) → SlR K I G H σ2 ρ A
  | [], [], _, _, .nil, _, _ => .nil
  | o :: σ, o2 :: σ2, _, _, .cons (s := s) (ρ := ρ) h r, hl, hq => by
    have r' := SlR.swap (σ2 := σ2) r (by simpa using hl) fun q hne => by
      have := hq (q + 1) (by simpa using hne)
      simpa using this
    refine .cons ?_ r'
    by_cases e : s = .un
    · subst e
      cases h
      exact .un
    · have := hq 0 (by simpa using e)
      have e2 : o2 = o := by simpa using this
      rw [e2]
      exact h
def exV (o : Option V) : Sl := match o with | some v => .v v | none => .un
theorem SlR.exact {K : Fg} {I G H : Hp} : ∀ σ : L2.St, SlR K I G H σ (σ.map exV) []
  | [] => .nil
  | none :: σ => .cons (A := []) (B := []) .un (SlR.exact σ)
  | some v :: σ => .cons (A := []) (B := []) .v (SlR.exact σ)
section
variable {X : Cx} {Γ : Gm} {ρ : List Sl} {e : Expr} {pos p p' apos cpos : Pos} {E : En} {rest : List Stmt} {n : Str} {i : Nat} {α : Type} {f : α → D} {g : α → OT}
theorem de_roV {d : D} {w : V} (i : Nat) {n : Str} (h : ρ[i]? = some (.v w)) (r : Rep Γ.H w d) (hN : X.N[i]? = some n := by rfl) (hv : Vis X.env.scope n := by first | exact Or.inl rfl | exact Or.inr (Or.inl rfl) | exact Or.inr (Or.inr rfl)) (hd : (n == ("__debug__" : Str)) = false := by decide) (hcd : (n == ("__classdict__" : Str)) = false := by decide) : DE X Γ ρ (.Name n pos) .r d :=
  tX_imp (dv_var i h hN hv hd hcd) fun _ _ _ _ _ v _ _ _ (q : v = w) => by
    show Rep Γ.H v d
    rw [q]
    exact r
/-- a loop that says what it leaves, as one statement -/
theorem s1_for1 {m : Nat} {it : Nat → Sl} {tge : Expr} {body : List Stmt} (xo : XO X) (hp : PassesOwn (model X.prog X.w) X.A X.env X.xe) (j : Nat) (hi : DI X Γ ρ (.Name n p) tge m it) (u : Nat → List Sl → List Sl) (w0 : Wk ρ (u 0 ρ))
    (hs : ∀ i, i < m → SS X Γ ((u i ρ).set j (it i)) body { E with nx := fun ρ2 => Wk ρ2 (u (i + 1) ρ), ct := fun ρ2 => Wk ρ2 (u (i + 1) ρ), bk := fun _ => False })
    (hj : X.N[j]? = some n := by rfl) (hx : Loc X.env.scope n := by first | exact .inl rfl | exact .inr rfl) (hf : X.fn n = true ∨ X.env.scope.names.lookup n = some .local := by first | exact .inl rfl | exact .inr rfl)
    (hs2 : ∀ x, foldedSetIterable tge X.env x = pure x := by intro _; rfl) : S1 X Γ ρ (.For (.Name n p) tge body [] pos) { E with nx := fun ρ2 => Wk ρ2 (u m ρ) } := by
  have hbody : PSs X body (fun D σ H => ∃ i, i < m ∧ tS Γ ((u i ρ).set j (it i)) { E with nx := fun ρ2 => Wk ρ2 (u (i + 1) ρ), ct := fun ρ2 => Wk ρ2 (u (i + 1) ρ), bk := fun _ => False } D σ H) :=
    ⟨fun pins s σ H D I ⟨i, h1, q⟩ => (hs i h1).run pins s σ H D I q⟩
  refine (ps_for hp xo.calm hi (pg_name xo.nd hj hx hf) hbody hs2).weak fun D σ H ⟨G, S, k⟩ => ⟨G, S, fun J G1 H1 s1 e1 W => ?_⟩
  refine ⟨fun i μ σ H => μ = m - i ∧ i ≤ m ∧ ∃ G, Sr Γ G H σ (u i ρ) ∧ Ex G1 G, ⟨m, rfl, Nat.zero_le _, G1, (S.more s1 e1).wk w0, Ex.refl _⟩, ?_⟩
  rintro i μ σ' H' ⟨rfl, him, G', S', eg⟩
  by_cases hlt : i < m
  · refine .inr ⟨W.go i G' H' eg S'.sub S'.step.h hlt, fun σ2 H2 => ∃ G2, Sr Γ G2 H2 σ2 (u (i + 1) ρ) ∧ Ex G1 G2, fun σ2 H2 ⟨G2, S2, e2⟩ => ⟨m - (i + 1), by omega, rfl, hlt, G2, S2, e2⟩, fun x H'' hy => ?_⟩
    obtain ⟨G3, s3, e3, sl⟩ := W.yld i G' H' x H'' eg S'.sub S'.step.h hlt hy
    refine ⟨i, hlt, G3, (S'.more s3 e3).store (Step.refl _ _) (S'.more s3 e3).sub sl List.nodup_nil (fun _ z => by cases z), ⟨fun ρ2 σ2 G2 H2 h S2 x => ⟨G2, S2.wk h, (eg.trans s3.g).trans x⟩, fun _ _ _ _ h _ _ => h.elim, fun ρ2 σ2 G2 H2 h S2 x => ⟨G2, S2.wk h, (eg.trans s3.g).trans x⟩, k.rt⟩⟩
  · have e : i = m := by omega
    subst e
    exact .inl ⟨W.stop i G' H' eg S'.sub S'.step.h (Nat.le_refl _), k.nx _ σ' G' H' (Wk.refl _) S' (s1.g.trans eg)⟩
theorem ss_forPre (i j j2 : Nat) {m : Str} {pn pv : Pos} {pre : Stmt} {xss : List (List α)} {x : α} (eR : ∀ r : List α, (tl g r).er = dl f r) (xo : XO X) (hpo : PassesOwn (model X.prog X.w) X.A X.env X.xe) (h : ρ[i]? = some (.ow (tl (tl g) xss))) (hij : i ≠ j) (hj : j < ρ.length) (hj2 : j2 ≠ i ∧ j2 ≠ j ∧ j2 < ρ.length) (he : ∀ ρ', DO X Γ ρ' e (g x)) (hl : ∀ r ∈ xss, r.length < 16000000)
    (hpre : ∀ r ∈ xss, ∀ (Γ' : Gm) (ρ' : List Sl) (w : V), Γ'.K = Γ.K → ρ'.length = ρ.length → ρ'[j]? = some (.v w) → Rep Γ'.H w (dl f r) → S1 X Γ' ρ' pre { nx := fun ρ2 => Wk ρ2 (ρ'.set j2 .un), rt := fun _ => False })
    (hr : SS X Γ (((ρ.set j .un).set j2 .un).set i (.ow (tl (tl g) (xss.map (· ++ [x]))))) rest E)
    (hN : X.N[j]? = some n := by rfl) (hM : X.N[i]? = some m := by rfl) (hv : Vis X.env.scope n := by first | exact Or.inl rfl | exact Or.inr (Or.inl rfl) | exact Or.inr (Or.inr rfl)) (hd : (n == ("__debug__" : Str)) = false := by decide) (hcd : (n == ("__classdict__" : Str)) = false := by decide)
    (hv2 : Vis X.env.scope m := by first | exact Or.inl rfl | exact Or.inr (Or.inl rfl) | exact Or.inr (Or.inr rfl)) (hd2 : (m == ("__debug__" : Str)) = false := by decide) (hcd2 : (m == ("__classdict__" : Str)) = false := by decide)
    (hx : Loc X.env.scope n := by first | exact .inl rfl | exact .inr rfl) (hf : X.fn n = true ∨ X.env.scope.names.lookup n = some .local := by first | exact .inl rfl | exact .inr rfl)
    (hs2 : ∀ x, foldedSetIterable (.Name m pn) X.env x = pure x := by intro _; rfl)
    (hbase : attributeBase (.Name n p) "append" X.env (eval (.Name n p) X.env) = eval (.Name n p) X.env := by rfl)
    (hfew : ((backTo cpos (starEach [e] X.env)).all (fun x => !x.1) && (backToKw cpos (keywordEach [] X.env)).all (fun x => x.1.isSome) && decide (([e] : List Expr).length + ([] : List Keyword).length + (if ([] : List Keyword).isEmpty then 0 else 1) < 30)) = true := by rfl)
    (hline : (apos.endLine == cpos.line) = true := by rfl) (hs : starEach [e] X.env = (false, eval e X.env) :: starEach [] X.env := by rfl) (hplain : (backTo cpos (starEach [] X.env)).any (·.1) = false := by rfl)
    (hsw : swapsWith (.Call (.Attribute (.Name n p) "append" apos) [e] [] cpos) none pos.line X.env = pure false := by rfl) :
    SS X Γ ρ (.For (.Name n pv) (.Name m pn) [pre, .Expr (.Call (.Attribute (.Name n p) "append" apos) [e] [] cpos) pos] [] p' :: rest) E := by
  let up : Nat → List (List α) := fun k => (xss.take k).map (· ++ [x]) ++ xss.drop k
  let R : Nat → List Sl := fun k => ((ρ.set j .un).set j2 .un).set i (.ow (tl (tl g) (up k)))
  have upl : ∀ k, (up k).length = xss.length := fun k => by simp [up]; omega
  have hil : i < ρ.length := by
    obtain ⟨q, _⟩ := List.getElem?_eq_some_iff.mp h
    exact q
  have Rl : ∀ k, (R k).length = ρ.length := fun k => by simp [R]
  have ri : ∀ k, (R k)[i]? = some (.ow (tl (tl g) (up k))) := fun k => by simp [R, hil]
  have rj2 : ∀ k, (R k)[j2]? = some .un := fun k => by
    simp only [R]
    rw [List.getElem?_set_ne (Ne.symm hj2.1), List.getElem?_set_self (by simpa using hj2.2.2)]
  have upk : ∀ k (hk : k < xss.length), (up k).getD k [] = xss[k] := fun k hk => by
    simp [up, List.getD_eq_getElem?_getD, List.getElem?_append, Nat.min_eq_left (Nat.le_of_lt hk), hk]
  have ups : ∀ k (hk : k < xss.length), (up k).set k (xss[k] ++ [x]) = up (k + 1) := fun k hk => by
    have hlen : ((xss.take k).map (· ++ [x])).length = k := by simp; omega
    simp only [up]
    rw [List.set_append_right _ _ (by omega), hlen, Nat.sub_self, List.drop_eq_getElem_cons hk, List.set_cons_zero, List.take_add_one, List.getElem?_eq_getElem hk, List.map_append, List.append_assoc]
    rfl
  have hbody : PSs X [pre, .Expr (.Call (.Attribute (.Name n p) "append" apos) [e] [] cpos) pos] (fun D σ H => ∃ k, k < xss.length ∧ ∃ G, Sr Γ G H σ (R k) ∧ Al H σ j i [k] ∧ ∀ σ2 G2 H2, σ2[i]? = σ[i]? → Sr Γ G2 H2 σ2 (R (k + 1)) → Ex G G2 → D.nx σ2 H2) := by
    refine ⟨fun pins s σ H D I ⟨k, hk, G, S, al, ok⟩ => ?_⟩
    have hku : k < (up k).length := by rw [upl]; exact hk
    have Pk := ps_appA (X := X) (Γ := Γ) (ρ := R k) (p := p) (apos := apos) (cpos := cpos) (pos := pos) (n := n) (j := j) (he (R k)) (ri k) (at_one hku) (by rw [List.length_map, upk k hk]; exact Nat.lt_of_lt_of_le (hl _ (List.getElem_mem hk)) (by decide)) hN hv hd hcd hbase hfew hline hs hplain hsw
    have e1 : (R k).set i (.ow (OT.put [k] (tl (tl g) (up k)) (.cell (((up k).getD k []).map g ++ [g x])))) = R (k + 1) := by
      have e2 : ((up k).getD k []).map g ++ [g x] = ((up k).getD k [] ++ [x]).map g := by rw [List.map_append]; rfl
      rw [e2, put_one hku, upk k hk, ups k hk]
      simp [R]
    rw [e1] at Pk
    obtain ⟨v0, w, h0, hw0, hpv⟩ := al
    obtain ⟨A, SA⟩ := S.ad
    -- what the alias is
    have rw_ : Rep H w (dl f xss[k]) := by
      obtain ⟨a, rfl⟩ := S.ref (ri k) (at_one hku) h0 hpv
      obtain ⟨vs1, B1, q1, _, _, q4, _⟩ := SA.mut (ri k) (at_one hku) h0 hpv
      rw [upk k hk] at q4
      have := Rep.lst q1 (q4.reps S.sub)
      have e3 : PyData.list (OT.ers (xss[k].map g)) = dl f xss[k] := by
        have := eR xss[k]
        unfold tl OT.er at this
        exact this
      rw [e3] at this
      exact this
    have hσl : σ.length = ρ.length := by rw [S.len, Rl]
    have hjx : (σ.map exV)[j]? = some (.v w) := by rw [List.getElem?_map, hw0]; rfl
    have P1 := hpre xss[k] (List.getElem_mem hk) ⟨Γ.K, G, H⟩ (σ.map exV) w rfl (by rw [List.length_map, hσl]) hjx rw_
    have S' : Sr ⟨Γ.K, G, H⟩ G H σ (σ.map exV) := ⟨Step.refl _ _, S.sub, [], SlR.exact σ, List.nodup_nil, fun _ z => by cases z⟩
    have P1' : PS X pre (fun D' σ' H' => ∃ G0, Sr ⟨Γ.K, G, H⟩ G0 H' σ' (σ.map exV) ∧ ∀ ρ2 σ2 G2 H2, Wk ρ2 ((σ.map exV).set j2 .un) → Sr ⟨Γ.K, G, H⟩ G2 H2 σ2 ρ2 → Ex G0 G2 → D'.nx σ2 H2) :=
      P1.weak fun D' σ' H' ⟨G0, S0, q⟩ => ⟨G0, S0, ⟨fun ρ2 σ2 G2 H2 hw S2 ex => q ρ2 σ2 G2 H2 hw S2 ex, fun _ _ _ _ z => z.elim, fun _ _ _ _ z => z.elim, fun _ _ _ _ _ z => z.elim⟩⟩
    refine (pss_cons P1' (pss_cons Pk (pss_nil (X := X)))).run pins s σ H D I ⟨G, S', fun ρ2 σ2 G2 H2 hw S2 ex => ?_⟩
    have S3 := S2.wk hw
    have same : ∀ q : Nat, (R k)[q]? ≠ some Sl.un → σ2[q]? = σ[q]? := fun q hq => by
      by_cases hql : q < σ.length
      · have hq2 : q ≠ j2 := fun z => hq (by rw [z]; exact rj2 k)
        obtain ⟨o, ho⟩ : ∃ o, σ[q]? = some o := ⟨σ[q], by simp [hql]⟩
        cases o with
        | none =>
          have hql2 : q < (R k).length := by rw [Rl]; omega
          obtain ⟨sl, hsl⟩ := SA.sl.nth hql2
          obtain ⟨o', B', h1', h2', _⟩ := SA.sl.get hsl
          rw [ho] at h1'
          cases h1'
          cases h2'
          exact absurd hsl hq
        | some v =>
          have e4 : ((σ.map exV).set j2 .un)[q]? = some (.v v) := by rw [List.getElem?_set_ne (Ne.symm hq2), List.getElem?_map, ho]; rfl
          obtain ⟨o', B', h1', h2'⟩ := S3.slot e4
          cases h2'
          rw [h1', ho]
      · have l2 : σ2.length = σ.length := by rw [S3.len]; simp
        rw [List.getElem?_eq_none (by omega), List.getElem?_eq_none (by omega)]
    have l2 : σ2.length = σ.length := by rw [S3.len]; simp
    have st : Step G H G2 H2 := S3.step
    have S4 : Sr Γ G2 H2 σ2 (R k) := ⟨S.step.trans st, S3.sub, A, (SA.sl.more st).swap l2 same, SA.nd, SA.fr⟩
    have hi2 : σ2[i]? = σ[i]? := same i (by rw [ri]; intro z; cases z)
    refine ⟨G2, S4, ⟨v0, w, by rw [hi2]; exact h0, ?_, hpv.mono st.h⟩, fun G3 H3 S5 e5 => ok σ2 G3 H3 hi2 S5 (st.g.trans e5)⟩
    have e4 : ((σ.map exV).set j2 .un)[j]? = some (.v w) := by rw [List.getElem?_set_ne hj2.2.1]; exact hjx
    obtain ⟨o', B', h1', h2'⟩ := S3.slot e4
    cases h2'
    exact h1'
  refine ss_cons (M := fun ρ' => ρ' = R xss.length) ((ps_for hpo xo.calm (pi_list (pe_var hM hv2 hd2 hcd2)) (pg_name xo.nd hN hx hf) hbody hs2).weak fun D σ H ⟨G, S, k⟩ => ?_) fun ρ' e => by
    have e3 : up xss.length = xss.map (· ++ [x]) := by simp only [up, List.take_length, List.drop_length, List.append_nil]
    rw [e]
    simp only [R]
    rw [e3]
    exact hr
  obtain ⟨ob, B, h1, h2⟩ := S.slot h
  cases h2 with
  | @ow v0 _ _ q =>
    obtain ⟨a, rfl⟩ : ∃ a, v0 = .ref a := by
      unfold tl at q
      cases q with
      | cell hg hh r => exact ⟨_, rfl⟩
    have look : ∀ {k : Nat} {G' H' : Hp} {σ' : L2.St}, Sr Γ G' H' σ' (R k) → σ'[i]? = some (some (.ref a)) → ∃ vs, H' a = some (.lst vs) ∧ vs.length = xss.length := fun {k G' H' σ'} S' hσ => by
      obtain ⟨ob', B', h1', h2'⟩ := S'.slot (ri k)
      rw [hσ] at h1'
      cases h1'
      cases h2' with
      | ow q' =>
        unfold tl at q'
        cases q' with
        | cell hg hh r =>
          have := r.len
          rw [List.length_map, upl] at this
          exact ⟨_, hh, this⟩
    have wset : ∀ (ρ : List Sl) (j : Nat), Wk ρ (ρ.set j .un) := fun ρ => by
      induction ρ with
      | nil => intro j; exact .nil
      | cons s ρ ih =>
        intro j
        cases j with
        | zero => exact .un (Wk.refl _)
        | succ j => exact .same (ih j)
    have S0 : Sr Γ G H σ (R 0) := by
      have e0 : R 0 = (ρ.set j .un).set j2 .un := by
        have eu : up 0 = xss := by simp [up]
        simp only [R]
        rw [eu]
        refine List.ext_getElem? fun q => ?_
        by_cases hq : i = q
        · subst hq
          rw [List.getElem?_set_self (by simpa using hil), List.getElem?_set_ne hj2.1, List.getElem?_set_ne (Ne.symm hij), h]
        · rw [List.getElem?_set_ne hq]
      rw [e0]
      exact (S.wk (wset ρ j)).wk (wset _ j2)
    obtain ⟨vs0, hv0, ln0⟩ := look S0 h1
    refine ⟨_, h1, a, rfl, ⟨vs0, SqL.of hv0⟩, fun k μ σ H => μ = xss.length - k ∧ k ≤ xss.length ∧ σ[i]? = some (some (.ref a)) ∧ ∃ G1, Sr Γ G1 H σ (R k) ∧ Ex G G1, ⟨_, rfl, Nat.zero_le _, h1, G, S0, Ex.refl _⟩, ?_⟩
    rintro k' μ σ' H' ⟨rfl, him, hσ, G', S', eg⟩
    obtain ⟨vs, hvs, ln⟩ := look S' hσ
    by_cases hlt : k' < xss.length
    · refine .inr ⟨⟨vs, vs[k'], SqL.of hvs, List.getElem?_eq_getElem (by omega)⟩, fun σ2 H2 => σ2[i]? = some (some (.ref a)) ∧ ∃ G2, Sr Γ G2 H2 σ2 (R (k' + 1)) ∧ Ex G G2, fun σ2 H2 ⟨h3, G2, S2, e2⟩ => ⟨xss.length - (k' + 1), by omega, rfl, hlt, h3, G2, S2, e2⟩, fun x' H'' hy => ?_⟩
      obtain ⟨rfl, hx'⟩ := hy
      have hx2 := hx' vs (SqL.of hvs)
      have hji : j ≠ i := fun z => hij z.symm
      have eR : (R k').set j .un = R k' := by
        simp only [R]
        rw [List.set_comm _ _ hij, List.set_comm _ _ hj2.2.1, List.set_set]
      have S3 : Sr Γ G' H'' (σ'.set j (some x')) (R k') := eR ▸ S'.store (s := .un) (Step.refl _ _) S'.sub .un List.nodup_nil fun _ z => by cases z
      have hσ2 : (σ'.set j (some x'))[i]? = some (some (.ref a)) := by rw [List.getElem?_set_ne hji]; exact hσ
      refine ⟨k', hlt, G', S3, ⟨.ref a, x', hσ2, ?_, ⟨a, vs, x', rfl, hvs, hx2, rfl⟩⟩, fun σ2 G2 H2 hi2 S2 e2 => ⟨hi2.trans hσ2, G2, S2, eg.trans e2⟩⟩
      have hjl : j < σ'.length := by
        obtain ⟨A, r, _⟩ := S'.sl
        have := r.len
        rw [this]
        simpa [R] using hj
      rw [List.getElem?_set_self hjl]
    · have e : k' = xss.length := by omega
      subst e
      exact .inl ⟨⟨vs, SqL.of hvs, by omega⟩, k.nx _ _ _ _ rfl S' eg⟩
end
end DL
namespace DL
open PySem L2
theorem wk_setU : ∀ (ρ : List Sl) (j : Nat), Wk ρ (ρ.set j .un)
  | [], _ => .nil
  | _ :: ρ, 0 => .un (Wk.refl _)
  | _ :: ρ, j + 1 => .same (wk_setU ρ j)
theorem set_at {ρ ρ' : List Sl} {j : Nat} {s : Sl} (h : ρ'.length = ρ.length) (hj : j < ρ.length) : (ρ'.set j s)[j]? = some s := List.getElem?_set_self (by omega)
theorem inR_len {u : Str} {k : Nat} {i : Int} (h : u.length = k) (hi : 0 ≤ i ∧ i < k) : inR u.length i := by
  rw [h]
  exact ⟨by omega, hi.2⟩
section
variable {X : Cx} {Γ : Gm} {ρ : List Sl} {pos : Pos}
theorem de_dct : DE X Γ ρ (.Dict [] [] pos) .z (.dict []) :=
  pe_dnewK.weak fun σ H Q ⟨G, S, k⟩ => fun q hq => frzNew (P := fun _ G2 _ v => Rep G2 v (.dict [])) S.sub hq (Step.refl _ _) (fun v G2 H2 s e h => k v G2 H2 s e h) (.dct upd_same)
end
end DL
namespace DL
open PySem L2
/-- None or a list of lists of ints -/
def dOLL : Option (List (List Int)) → D
  | none => .none
  | some l => dLL l
def tOLL : Option (List (List Int)) → OT
  | none => .fz .none
  | some l => tLL l
instance : Er tOLL dOLL := ⟨fun x => by
  cases x with
  | none => unfold tOLL OT.er; rfl
  | some l => exact Er.er (g := tLL) (f := dLL) l⟩
end DL
namespace DL
open PySem L2
section
variable {X : Cx} {Γ : Gm} {ρ : List Sl} {a b : Expr} {pos : Pos} {κ κ' : Kd} {xs ys : List Str}
theorem lay_strs {xs : List Str} (h : ∀ x ∈ xs, PyData.strOk x = true) : PyData.canLay0 (dl PyData.str xs) = true := by
  unfold dl
  simp only [PyData.canLay0]
  induction xs with
  | nil => simp [PyData.canLayAll0]
  | cons x xs ih => simp [PyData.canLayAll0, PyData.canLay0, h x (by simp), ih fun y hy => h y (by simp [hy])]
theorem dep_strs (xs : List Str) : (dl PyData.str xs).depth ≤ 1 := by
  have := depAll (f := PyData.str) (n := 0) (fun x => by simp [PyData.depth]) xs
  unfold dl
  simp only [PyData.depth]
  omega
theorem eqv_strs (xs ys : List Str) : PyData.eqv (dl PyData.str xs) (dl PyData.str ys) = true ↔ xs = ys := by
  unfold dl
  simp only [PyData.eqv]
  exact eqvAll_iff (fun x y => by simp [PyData.eqv]) xs ys
theorem shp_strs {xs : List Str} (h : ∀ x ∈ xs, PyData.strOk x = true) : SeqAt.shaped (dl PyData.str xs) = true := by
  have := dep_strs xs
  simp only [SeqAt.shaped, lay_strs h, Bool.true_and, decide_eq_true_eq]
  omega
theorem dt_neL (hu : X.A.units + 64 < cLine) (ha : DE X Γ ρ a κ (dl PyData.str xs)) (hb : DE X Γ ρ b κ' (dl PyData.str ys)) (hx : ∀ x ∈ xs, PyData.strOk x = true) (hy : ∀ x ∈ ys, PyData.strOk x = true) : DT X Γ ρ (.Compare a [.NotEq] [b] pos) (!decide (xs = ys)) :=
  binT_weak (pt_cmpR (op_neD hu) ha hb (nomark _)) fun σ G H G1 H1 G2 H2 v u Q S s1 e1 p1 s2 e2 p2 k => by
    have q1 := Rep.mono s2.h (pK_c S s1 e1 p1)
    have q2 := pK_c (S.more s1 e1) s2 e2 p2
    refine ⟨_, _, rep_dp q1 (lay_strs hx), rep_dp q2 (lay_strs hy), shp_strs hx, shp_strs hy, k _ G2 H2 (Step.refl _ _) e2 ?_⟩
    congr 2
    rw [Bool.eq_iff_iff]
    simp [eqv_strs]
end
end DL

set_option Elab.async false
set_option linter.all false
set_option maxRecDepth 100000
/-! k14: the law's texts, and their sizes -/
namespace Th
open PySem L2 DL
def wt (xs : List Str) : Nat := (xs.map (·.length)).sum + xs.length
theorem wt_app (xs ys : List Str) : wt (xs ++ ys) = wt xs + wt ys := by
  unfold wt
  rw [List.map_append, List.sum_append, List.length_append]
  omega
theorem wt_take (xs : List Str) (n : Nat) : wt (xs.take n) ≤ wt xs := by
  conv => rhs; rw [← List.take_append_drop n xs]
  rw [wt_app]
  omega
theorem wt_drop (xs : List Str) (n : Nat) : wt (xs.drop n) ≤ wt xs := by
  conv => rhs; rw [← List.take_append_drop n xs]
  rw [wt_app]
  omega
theorem wt_sl (xs : List Str) (lo hi : Option Int) : wt (pySl xs lo hi) ≤ wt xs := Nat.le_trans (wt_take _ _) (wt_drop _ _)
theorem wt_one {xs : List Str} {i : Int} (h : inR xs.length i) : wt [pyAt xs i] ≤ wt xs := by
  have := sum_mem (pyAt_mem h)
  have : 0 < xs.length := by unfold inR at h; omega
  unfold wt
  simp
  omega
theorem wt_split {y : Str} {c : Nat} (S : Sep y c) (u : Str) : wt (Txt.split u y) = u.length + 1 := (S.sum u).symm
theorem join_wt {y : Str} {c : Nat} (S : Sep y c) (ps : List Str) : (Txt.join y ps).length ≤ wt ps := by
  by_cases h : ps = []
  · subst h
    have := join_len y []
    simpa [wt] using this
  · have := S.sumJ h
    unfold wt
    omega
theorem join_side {y : Str} {c : Nat} (S : Sep y c) {ps : List Str} {k : Nat} (h : wt ps ≤ k) (hk : k ≤ 8000000) : (ps.map (·.length)).sum + ps.length * y.length ≤ 16777216 := by
  have e : y.length = 1 := by rw [TL.len_tl, S.e]; rfl
  unfold wt at h
  rw [e]
  omega
theorem len_wt {ps : List Str} : ps.length ≤ wt ps := by unfold wt; omega
/-- the law's signs -/
def kSome : Str := ⟨((List.range 5).map (· + 32) ++ (List.range 89).map (· + 38) ++ [9]).toArray⟩
def kSign (n : Int) : Str := if 0 < n % 4 then sgAt "0123456789: \n0 7" (n / 4 % 16) else sgAt kSome (n / 4 % 95)
theorem sgAt_len (u : Str) (i : Int) : (sgAt u i).length = 1 := rfl
theorem kSign_len (n : Int) : (kSign n).length = 1 := by unfold kSign; split <;> rfl
def kAt (u : Str) (n : Int) : Int := n / 9 % ((u.length : Int) + 1)
abbrev kR5 (u : Str) : List Str := Txt.split u "\n"
def kO (u : Str) (n : Int) : Int := n / 9 % ((kR5 u).length : Int)
def kW (u : Str) (n : Int) : Int := n / 9 % ((Txt.split u " ").length : Int)
def kR6 (u : Str) (n : Int) : List Str := if n % 9 = 6 then (pySl (kR5 u) none (some (kO u n)) ++ [pyAt (kR5 u) (kO u n)]) ++ pySl (kR5 u) (some (kO u n)) none else kR5 u
def kR7 (u : Str) (n : Int) : List Str := if n % 9 = 7 then pySl (kR6 u n) none (some (kO u n)) ++ pySl (kR6 u n) (some (kO u n + 1)) none else kR6 u n
def kR8 (u : Str) (n : Int) : List Str := if n % 9 = 8 then ([pyAt (kR7 u n) (kO u n)] ++ pySl (kR7 u n) none (some (kO u n))) ++ pySl (kR7 u n) (some (kO u n + 1)) none else kR7 u n
def kChanged (u : Str) (n : Int) : Str :=
  if n % 9 < 2 then (cutS u none (some (kAt u n)) ++ kSign (n / 700)) ++ cutS u (some (kAt u n)) none
  else if n % 9 < 4 then cutS u none (some (kAt u n)) ++ cutS u (some (kAt u n + 1)) none
  else if n % 9 = 4 then (cutS u none (some (kAt u n)) ++ kSign (n / 700)) ++ cutS u (some (kAt u n + 1)) none
  else if n % 9 = 5 then Txt.join " " ((pySl (Txt.split u " ") none (some (kW u n)) ++ pySl (Txt.split u " ") (some (kW u n + 1)) none) ++ [pyAt (Txt.split u " ") (kW u n)])
  else Txt.join "\n" (kR8 u n)
theorem kO_in (u : Str) (n : Int) : inR (kR5 u).length (kO u n) := by
  have := sep_nl.pos u
  have : 0 < (kR5 u).length := this
  have h1 := Int.emod_nonneg (n / 9) (show ((kR5 u).length : Int) ≠ 0 by omega)
  have h2 := Int.emod_lt_of_pos (n / 9) (show 0 < ((kR5 u).length : Int) by omega)
  unfold kO
  exact ⟨by omega, h2⟩
theorem kW_in (u : Str) (n : Int) : inR (Txt.split u " ").length (kW u n) := by
  have := sep_sp.pos u
  have h1 := Int.emod_nonneg (n / 9) (show ((Txt.split u " ").length : Int) ≠ 0 by omega)
  have h2 := Int.emod_lt_of_pos (n / 9) (show 0 < ((Txt.split u " ").length : Int) by omega)
  unfold kW
  exact ⟨by omega, h2⟩
theorem kR7_8 {u : Str} {n : Int} (h : n % 9 = 8) : kR7 u n = kR5 u := by unfold kR7 kR6; rw [if_neg (by omega), if_neg (by omega)]
theorem kR6_7 {u : Str} {n : Int} (h : n % 9 = 7) : kR6 u n = kR5 u := by unfold kR6; rw [if_neg (by omega)]
theorem wt5 (u : Str) : wt (kR5 u) = u.length + 1 := wt_split sep_nl u
theorem wt6 (u : Str) (n : Int) : wt (kR6 u n) ≤ 3 * (u.length + 1) := by
  have := wt5 u
  unfold kR6
  split
  · have := wt_sl (kR5 u) none (some (kO u n))
    have := wt_sl (kR5 u) (some (kO u n)) none
    have := wt_one (kO_in u n)
    rw [wt_app, wt_app]
    omega
  · omega
theorem wt7 (u : Str) (n : Int) : wt (kR7 u n) ≤ 3 * (u.length + 1) := by
  have := wt5 u
  have := wt6 u n
  unfold kR7
  split
  · rename_i h
    have := wt_sl (kR6 u n) none (some (kO u n))
    have := wt_sl (kR6 u n) (some (kO u n + 1)) none
    have e : wt (kR6 u n) = u.length + 1 := by rw [kR6_7 h, wt5]
    rw [wt_app]
    omega
  · omega
theorem wt8 (u : Str) (n : Int) : wt (kR8 u n) ≤ 3 * (u.length + 1) := by
  have := wt5 u
  have := wt7 u n
  unfold kR8
  split
  · rename_i h
    have := wt_sl (kR7 u n) none (some (kO u n))
    have := wt_sl (kR7 u n) (some (kO u n + 1)) none
    have e : wt (kR7 u n) = u.length + 1 := by rw [kR7_8 h, wt5]
    have := wt_one (xs := kR7 u n) (i := kO u n) (by rw [kR7_8 h]; exact kO_in u n)
    rw [wt_app, wt_app]
    omega
  · omega
theorem wtW (u : Str) (n : Int) : wt ((pySl (Txt.split u " ") none (some (kW u n)) ++ pySl (Txt.split u " ") (some (kW u n + 1)) none) ++ [pyAt (Txt.split u " ") (kW u n)]) ≤ 3 * (u.length + 1) := by
  have := wt_split sep_sp u
  have := wt_sl (Txt.split u " ") none (some (kW u n))
  have := wt_sl (Txt.split u " ") (some (kW u n + 1)) none
  have := wt_one (kW_in u n)
  rw [wt_app, wt_app]
  omega
theorem cut_len (u : Str) (a b : Option Int) : (cutS u a b).length ≤ u.length := cutS_length u a b
theorem kChanged_len (u : Str) (n : Int) : (kChanged u n).length ≤ 3 * (u.length + 1) := by
  unfold kChanged
  have c1 := cut_len u none (some (kAt u n))
  have c2 := cut_len u (some (kAt u n)) none
  have c3 := cut_len u (some (kAt u n + 1)) none
  have k := kSign_len (n / 700)
  split
  · rw [str_len, str_len]; omega
  split
  · rw [str_len]; omega
  split
  · rw [str_len, str_len]; omega
  split
  · exact Nat.le_trans (join_wt sep_sp _) (wtW u n)
  · exact Nat.le_trans (join_wt sep_nl _) (wt8 u n)
def pN9 (ns : List Int) : Nat := (1 + lAt ns 0 % 9).toNat
theorem pN9_bd (ns : List Int) : 1 ≤ pN9 ns ∧ pN9 ns ≤ 9 := by unfold pN9; omega
theorem pN9_eq (ns : List Int) : V.int (1 + lAt ns 0 % 9) = V.int (pN9 ns) := congrArg V.int (by unfold pN9; omega)
def pTo9 (ns : List Int) (t : Nat) : Int := lMixed (lAt ns (2 + (t : Int) % 20)) t / 5 % ((pN9 ns : Int) + lAt ns 1 % 40)
theorem pTo9_nn (ns : List Int) (t : Nat) : 0 ≤ pTo9 ns t := Int.emod_nonneg _ (by have := pN9_bd ns; omega)
def kParts (ns : List Int) : List (List Int) := gSh (pTo9 ns) (pN9 ns) 40
theorem kParts_good (ns : List Int) : GoodS (kParts ns) (pN9 ns) 40 := gSh_good _ _ _
def kOdds : List Str :=
  "" ::
  "0:\n" ::
  "\n0:" ::
  "0: 07" ::
  "00:" ::
  "0: 40" ::
  "0: -0" ::
  "0:  1" ::
  "0: 1 " ::
  "0:1" ::
  "0: 1 0" ::
  "0: 1 1" :: []
def kN (ns : List Int) : Int := lMixed (lAt ns 22) 1
def kIt (ns : List Int) : Nat → Str
  | 0 => lText (kParts ns)
  | k + 1 => kChanged (kIt ns k) (lMixed (lAt ns (23 + (k : Int))) k / 2)
def kDrawn (ns : List Int) : Str := if kN ns % 8 = 1 then pyAt kOdds (kN ns / 8 % 12) else kIt ns (kN ns / 8 % 3).toNat
theorem sum_le' {α : Type} {xs : List α} {g h : α → Nat} (q : ∀ x ∈ xs, g x ≤ h x) : (xs.map g).sum ≤ (xs.map h).sum := by
  induction xs with
  | nil => simp
  | cons a as ih =>
    have := q a (by simp)
    have := ih fun x hx => q x (by simp [hx])
    simp only [List.map_cons, List.sum_cons]
    omega
theorem rowT_len2 {h : Int} {sh : List Int} (hh : 0 ≤ h ∧ h < 100) (hb : ∀ x ∈ sh, 0 ≤ x ∧ x < 100) : (rowT h sh).length ≤ 3 + 3 * sh.length := by
  have j := join_wt sep_sp (rowW h sh)
  have e2 : (":" : Str).length = 1 := by decide
  have : wt (rowW h sh) ≤ 4 + 3 * sh.length := by
    unfold rowW
    rw [wt_app]
    have a : wt [numT h ++ (":" : Str)] ≤ 4 := by
      have := numT_le hh
      unfold wt
      simp only [List.map_cons, List.map_nil, List.sum_cons, List.sum_nil, List.length_cons, List.length_nil, str_len, e2]
      omega
    have b : wt (sh.map fun x => numT x) ≤ 3 * sh.length := by
      have := sum_le (xs := sh.map fun x => numT x) (g := fun w => w.length) (b := 2) fun w hw => by
        obtain ⟨x, hx, rfl⟩ := List.mem_map.mp hw
        exact numT_le (hb x hx)
      unfold wt
      rw [List.length_map] at this ⊢
      omega
    omega
  have hne : rowW h sh ≠ [] := by unfold rowW; simp
  have := sep_sp.sumJ hne
  unfold wt at *
  unfold rowT
  omega
theorem sum_flat (xss : List (List Int)) : (xss.map (·.length)).sum = xss.flatten.length := by rw [List.length_flatten]
theorem lText_len {s : List (List Int)} {n : Nat} (hs : GoodS s n 40) (h9 : n ≤ 9) : (lText s).length ≤ 200 := by
  have j := join_wt sep_nl ((List.range s.length).map fun (h : Nat) => rowT (h : Int) (s.getD h default))
  have hn := hs.n
  have f := hs.fl
  have e : (List.range s.length).map (fun i => (s.getD i default).length) = s.map (·.length) := map_getD (fun r : List Int => r.length) s
  have q : (((List.range s.length).map fun (h : Nat) => rowT (h : Int) (s.getD h default)).map (·.length)).sum ≤ 3 * s.length + 3 * s.flatten.length := by
    rw [List.map_map]
    have a := sum_le' (xs := List.range s.length) (g := (fun w : Str => w.length) ∘ fun (h : Nat) => rowT (h : Int) (s.getD h default)) (h := fun i => 3 + 3 * (s.getD i default).length) fun i hi => by
      have hi := List.mem_range.mp hi
      exact rowT_len2 ⟨by omega, by omega⟩ fun x hx => by have := hs.bd _ (getD_memA hi) x hx; omega
    have b : ((List.range s.length).map fun i => 3 + 3 * (s.getD i default).length).sum = 3 * s.length + 3 * s.flatten.length := by
      rw [← sum_flat, ← e]
      generalize hl : List.range s.length = l
      have : l.length = s.length := by rw [← hl, List.length_range]
      rw [← this]
      clear hl this
      induction l with
      | nil => simp
      | cons a as ih =>
        simp only [List.map_cons, List.sum_cons, List.length_cons]
        omega
    omega
  have : wt ((List.range s.length).map fun (h : Nat) => rowT (h : Int) (s.getD h default)) ≤ 4 * s.length + 3 * s.flatten.length := by
    unfold wt
    rw [List.length_map, List.length_range]
    omega
  unfold lText
  omega
theorem kIt_len (ns : List Int) : (kIt ns 0).length ≤ 200 ∧ (kIt ns 1).length ≤ 603 ∧ (kIt ns 2).length ≤ 1812 := by
  have h0 : (kIt ns 0).length ≤ 200 := lText_len (kParts_good ns) (pN9_bd ns).2
  have h1 := kChanged_len (kIt ns 0) (lMixed (lAt ns (23 + ((0 : Nat) : Int))) (0 : Nat) / 2)
  have h2 := kChanged_len (kIt ns 1) (lMixed (lAt ns (23 + ((1 : Nat) : Int))) (1 : Nat) / 2)
  have e1 : kIt ns 1 = kChanged (kIt ns 0) (lMixed (lAt ns (23 + ((0 : Nat) : Int))) (0 : Nat) / 2) := rfl
  have e2 : kIt ns 2 = kChanged (kIt ns 1) (lMixed (lAt ns (23 + ((1 : Nat) : Int))) (1 : Nat) / 2) := rfl
  rw [e1, e2]
  rw [e1] at h2 ⊢
  omega
theorem kIt_sz (ns : List Int) {k : Nat} (h : k ≤ 2) : (kIt ns k).length ≤ 1812 := by
  have := kIt_len ns
  have : k = 0 ∨ k = 1 ∨ k = 2 := by omega
  rcases this with e | e | e <;> rw [e] <;> omega
theorem kOdds_len : ∀ x ∈ kOdds, x.length ≤ 1812 := by decide +kernel
theorem kDrawn_len (ns : List Int) : (kDrawn ns).length ≤ 1812 := by
  unfold kDrawn
  split
  · exact kOdds_len _ (pyAt_mem (by have : kOdds.length = 12 := rfl; rw [this]; exact ⟨by omega, by omega⟩))
  · exact kIt_sz ns (by omega)
def kOdd7 (c : Int) : D := ([.none, .int 5, .list [], dl .str ["0:"], .bool true, .dict [], .tuple [.str "0:"]] : List D).getD (c % 7).toNat .none
theorem kOdd7_bad (c : Int) : isStr (kOdd7 c) = false := by
  have : c % 7 = 0 ∨ c % 7 = 1 ∨ c % 7 = 2 ∨ c % 7 = 3 ∨ c % 7 = 4 ∨ c % 7 = 5 ∨ c % 7 = 6 := by omega
  unfold kOdd7
  rcases this with e | e | e | e | e | e | e <;> rw [e] <;> rfl
/-- sizes of a text's rows and words -/
theorem rows_len (u : Str) : (rowsOf u).length ≤ u.length + 1 := sep_nl.parts_len u
theorem row_len {u r : Str} (h : r ∈ rowsOf u) : r.length ≤ u.length := sep_nl.part_len h
theorem rest_len (r : Str) : (restOf r).length ≤ r.length + 1 := Nat.le_trans (sl_len _ _ _) (sep_sp.parts_len r)
theorem rest_mem {r w : Str} (h : w ∈ restOf r) : w ∈ wordsOf r := List.mem_of_mem_drop (List.mem_of_mem_take h)
theorem word_len {u r w : Str} (h : r ∈ rowsOf u) (hw : w ∈ restOf r) : w.length ≤ u.length := Nat.le_trans (sep_sp.part_len (rest_mem hw)) (row_len h)
theorem log9 {i : Int} (h : 0 ≤ i ∧ i < 1000000000) : i.natAbs.log2 < 1920 := by
  by_cases z : i.natAbs = 0
  · rw [z]; decide
  · exact (Nat.log2_lt z).mpr (Nat.lt_of_lt_of_le (show i.natAbs < 1000000000 by omega) (by decide +kernel))
theorem numT_le9 {i : Int} (h : 0 ≤ i ∧ i < 1000000000) : (numT i).length ≤ 9 := by
  obtain ⟨k, rfl⟩ : ∃ j : Nat, i = j := ⟨i.toNat, by omega⟩
  rw [TL.len_tl, tl_numT]
  exact TL.numL_len (by decide) (Nat.lt_of_lt_of_le (show k < 1000000000 by omega) (by decide))
theorem cat9 {h : Int} (hh : 0 ≤ h ∧ h < 1000000000) : (numT h).length + (":" : Str).length ≤ sizeLine := by
  have e1 : (":" : Str).length = 1 := by decide
  have := numT_le9 hh
  rw [e1]
  exact Nat.le_trans (show _ ≤ 1000 by omega) (by decide)
theorem lwRow_len9 {h : Int} {sh : List Int} (hh : 0 ≤ h ∧ h < 1000000000) (hb : ∀ x ∈ sh, 0 ≤ x ∧ x < 100) : ∀ k, k ≤ sh.length → (lwRow h sh k).length ≤ 10 + 3 * k
  | 0, _ => by
    have e1 : (":" : Str).length = 1 := by decide
    have := numT_le9 hh
    show (numT h ++ (":" : Str)).length ≤ _
    rw [str_len, e1]
    omega
  | k + 1, hk => by
    have ih := lwRow_len9 hh hb k (by omega)
    have e1 : (" " : Str).length = 1 := by decide
    have := numT_le (hb _ (getD_memA (xs := sh) (i := k) (by omega)))
    rw [lwRow_succ (by omega), str_len, str_len, e1]
    omega
theorem lw9_cat1 {h : Int} {sh : List Int} (hh : 0 ≤ h ∧ h < 1000000000) (hb : ∀ x ∈ sh, 0 ≤ x ∧ x < 100) {k : Nat} (hk : k < sh.length) (hl : sh.length ≤ 2000) : (lwRow h sh k).length + (" " : Str).length ≤ sizeLine := by
  have := lwRow_len9 hh hb k (by omega)
  have e1 : (" " : Str).length = 1 := by decide
  rw [e1]
  exact Nat.le_trans (show _ ≤ 10000 by omega) (by decide)
theorem lw9_cat2 {h : Int} {sh : List Int} (hh : 0 ≤ h ∧ h < 1000000000) (hb : ∀ x ∈ sh, 0 ≤ x ∧ x < 100) {k : Nat} (hk : k < sh.length) (hl : sh.length ≤ 2000) : (lwRow h sh k ++ (" " : Str)).length + (numT (sh.getD k default)).length ≤ sizeLine := by
  have := lwRow_len9 hh hb k (by omega)
  have e1 : (" " : Str).length = 1 := by decide
  have := numT_le (hb _ (getD_memA (xs := sh) (i := k) hk))
  rw [str_len, e1]
  exact Nat.le_trans (show _ ≤ 10000 by omega) (by decide)
theorem shown9_sz {s : List (List Int)} (hb : ∀ r ∈ s, ∀ x ∈ r, 0 ≤ x ∧ x < 100) (hl : s.length ≤ 2000) (hl2 : ∀ r ∈ s, r.length ≤ 2000) : (((List.range s.length).map fun (i : Nat) => rowT (i : Int) (s.getD i default)).map (·.length)).sum + ((List.range s.length).map fun (i : Nat) => rowT (i : Int) (s.getD i default)).length * ("\n" : Str).length ≤ 16777216 := by
  have e1 : ("\n" : Str).length = 1 := by decide
  have l : ((List.range s.length).map fun (i : Nat) => rowT (i : Int) (s.getD i default)).length = s.length := by simp
  have := sum_le (xs := (List.range s.length).map fun (i : Nat) => rowT (i : Int) (s.getD i default)) (g := fun w => w.length) (b := 6010) fun w hw => by
    obtain ⟨i, hi, rfl⟩ := List.mem_map.mp hw
    have hi := List.mem_range.mp hi
    have hr := getD_memA hi
    have e : rowT (i : Int) (s.getD i default) = lwRow (i : Int) (s.getD i default) (s.getD i default).length := (lwRow_all _ _).symm
    have := lwRow_len9 (h := (i : Int)) (sh := s.getD i default) ⟨by omega, by omega⟩ (hb _ hr) _ (Nat.le_refl _)
    have := hl2 _ hr
    rw [e]
    omega
  rw [l] at this
  rw [l, e1]
  have : s.length * 6010 ≤ 2000 * 6010 := Nat.mul_le_mul_right _ hl
  omega
end Th

set_option Elab.async false
set_option linter.all false
set_option maxRecDepth 100000
/-! k14: what the walks ask -/
namespace Th
open PySem L2 DL
theorem all_stepN {l : List Nat} {i : Nat} (hi : i < l.length) (hI : ∀ c ∈ l.take i, figB c = true) (h : figB (l.getD i default) = true) : ∀ c ∈ l.take (i + 1), figB c = true := fun c hc => by
  have e : l.getD i default = l[i] := by simp [List.getD_eq_getElem?_getD, hi]
  rw [List.take_add_one, List.getElem?_eq_getElem hi, List.mem_append] at hc
  rcases hc with z | z
  · exact hI c z
  · rw [← e] at z
    have : c = l.getD i default := by simpa using z
    rw [this]; exact h
theorem num_fig {w : Str} (hI : ∀ c ∈ (TL.tl w).take (TL.tl w).length, figB c = true) : figs w = true := by
  rw [List.take_length] at hI
  exact List.all_eq_true.mpr hI
theorem num_nofig {w : Str} {i : Nat} (hi : i < (TL.tl w).length) (h : figB ((TL.tl w).getD i default) = false) : figs w = false := by
  unfold figs
  rw [List.all_eq_false]
  exact ⟨_, getD_memA hi, by rw [h]; exact Bool.false_ne_true⟩
theorem num_int {w : Str} (hI : ∀ c ∈ (TL.tl w).take (TL.tl w).length, figB c = true) (h : (!(decide ((1 : Int) ≤ (w.length : Int)) && decide ((w.length : Int) ≤ 2)) || (decide ((w.length : Int) = 2) && decide (sgAt w 0 = "0"))) = false) : intText? w = some (intOf w) := by
  rw [Bool.or_eq_false_iff, Bool.not_eq_false', Bool.and_eq_true, decide_eq_true_eq, decide_eq_true_eq] at h
  exact int_read (num_fig hI) (by omega) (by omega)
theorem num_len {w : Str} (h : (!(decide ((1 : Int) ≤ (w.length : Int)) && decide ((w.length : Int) ≤ 2)) || (decide ((w.length : Int) = 2) && decide (sgAt w 0 = "0"))) = false) : w.length ≤ 2 := by
  rw [Bool.or_eq_false_iff, Bool.not_eq_false', Bool.and_eq_true, decide_eq_true_eq, decide_eq_true_eq] at h
  omega
theorem headOk_t {u : Str} {i : Nat} {k : Int} (hk : k = (i : Int)) (h : (!decide (pyAt (wordsOf ((rowsOf u).getD i default)) 0 = numT k ++ (":" : Str))) = false) : headOk u i = true := by
  subst hk
  unfold headOk
  simpa only [Bool.not_eq_false'] using h
theorem headOk_f {u : Str} {i : Nat} {k : Int} (hk : k = (i : Int)) (h : (!decide (pyAt (wordsOf ((rowsOf u).getD i default)) 0 = numT k ++ (":" : Str))) = true) : headOk u i = false := by
  subst hk
  unfold headOk
  simpa only [Bool.not_eq_true'] using h
theorem read_nohead {u : Str} {i : Nat} (hi : i < (rowsOf u).length) (h : headOk u i = false) : ¬ readB u = true := fun q => by
  unfold readB at q
  rw [Bool.and_eq_true] at q
  have := List.all_eq_true.mp q.1 i (List.mem_range.mpr hi)
  rw [h] at this
  cases this
theorem read_noend {u : Str} (hb : readB u = true) (h : (decide ((8 : Int) < ((rowsOf u).length : Int)) || !areShares (dl (dl dO) (shOf u)) ((rowsOf u).length : Int) 40) = true) : False := by
  unfold readB at hb
  rw [Bool.and_eq_true, Bool.and_eq_true] at hb
  rw [hb.2.2] at h
  have := hb.2.1
  rw [Bool.not_eq_true'] at this
  rw [this] at h
  cases h
theorem read_end {u : Str} (hI : ∀ k, k < (rowsOf u).length → headOk u k = true) (h : (decide ((8 : Int) < ((rowsOf u).length : Int)) || !areShares (dl (dl dO) (shOf u)) ((rowsOf u).length : Int) 40) = false) : readB u = true := by
  rw [Bool.or_eq_false_iff] at h
  unfold readB
  rw [h.1, (by simpa using h.2 : areShares (dl (dl dO) (shOf u)) ((rowsOf u).length : Int) 40 = true), List.all_eq_true.mpr fun i hi => hI i (List.mem_range.mp hi)]
  rfl
theorem read_val {u : Str} (hb : readB u = true) : tLL (dueH u) = tl (tl (tF dO)) (shOf u) := by
  rw [(read_due hb).2]
  unfold tl
  rw [List.map_map]
  refine congrArg OT.cell (List.map_congr_left fun xs _ => ?_)
  show OT.cell (xs.map tI) = OT.cell ((xs.map some).map (tF dO))
  rw [List.map_map]
  rfl
theorem rest_len' (r : Str) : (restOf r).length ≤ r.length := by
  have := sep_sp.parts_len r
  have : (wordsOf r).length ≤ r.length + 1 := this
  rw [restOf_eq, List.length_drop]
  omega
theorem shOf_z {u : Str} (hz : u.length ≤ 1900) : ∀ x ∈ dsOf (dl (dl dO) (shOf u)), (dsOf x).length ≤ 4000 := fun x hx => by
  rw [dsOf_dLL] at hx
  obtain ⟨xs, h1, rfl⟩ := List.mem_map.mp hx
  obtain ⟨r, h2, rfl⟩ := List.mem_map.mp h1
  rw [dsOf_dLL, List.length_map, List.length_map]
  have := rest_len' r
  have := row_len h2
  omega
theorem rest_sum (u : Str) : ((rowsOf u).map fun r => (restOf r).length).sum ≤ u.length := by
  have a := sum_le' (xs := rowsOf u) (g := fun r => (restOf r).length) (h := fun r => r.length) fun r _ => rest_len' r
  have b := sep_nl.sum u
  have c := sep_nl.pos u
  have e : ((rowsOf u).map fun r => r.length).sum = ((Txt.split u "\n").map (·.length)).sum := rfl
  omega
theorem shOf_t {u : Str} (hz : u.length ≤ 1900) : (told (dl (dl dO) (shOf u))).length ≤ 4000 := by
  unfold told
  rw [dsOf_dLL, List.map_map, List.length_flatten, List.map_map]
  have : ((shOf u).map (List.length ∘ (nums ∘ dl dO))).sum = ((rowsOf u).map fun r => (restOf r).length).sum := by
    unfold shOf
    rw [List.map_map]
    congr 1
    refine List.map_congr_left fun r _ => ?_
    show (nums (dl dO ((restOf r).map numOf))).length = _
    unfold nums
    rw [List.length_map, dsOf_dLL, List.length_map, List.length_map]
  rw [this]
  have := rest_sum u
  omega
theorem dueH_fl {u : Str} (hz : u.length ≤ 1900) : (dueH u).flatten.length ≤ 4000 := by
  rw [List.length_flatten]
  have : ((dueH u).map List.length).sum = ((rowsOf u).map fun r => (restOf r).length).sum := by
    unfold dueH
    rw [List.map_map]
    congr 1
    refine List.map_congr_left fun r _ => ?_
    show ((restOf r).map intOf).length = _
    rw [List.length_map]
  rw [this]
  have := rest_sum u
  omega
theorem dueT_fl {u : Str} (hz : u.length ≤ 1900) (i : Nat) (hi : i < (rowsOf u).length) : (((rowsOf u).take i).map fun r => (restOf r).map intOf).flatten.length + (restOf ((rowsOf u).getD i default)).length ≤ 16000000 := by
  have h := dueH_fl hz
  have e : dueH u = ((rowsOf u).take (i + 1)).map (fun r => (restOf r).map intOf) ++ ((rowsOf u).drop (i + 1)).map (fun r => (restOf r).map intOf) := by
    unfold dueH
    rw [← List.map_append, List.take_append_drop]
  rw [e, List.flatten_append, List.length_append, take_succ_map (fun r => (restOf r).map intOf) (rowsOf u) hi, List.flatten_append, List.length_append] at h
  simp only [List.flatten_cons, List.flatten_nil, List.append_nil, List.length_map] at h
  omega
theorem all_stepR {u : Str} {i : Nat} (hi : i < (rowsOf u).length) (hI : ∀ r ∈ (rowsOf u).take i, ((restOf r).all fun w => !wBad w) = true) (hJ : ∀ w ∈ (restOf ((rowsOf u).getD i default)).take (restOf ((rowsOf u).getD i default)).length, wBad w = false) : ∀ r ∈ (rowsOf u).take (i + 1), ((restOf r).all fun w => !wBad w) = true := fun r hr => by
  have e : (rowsOf u).getD i default = (rowsOf u)[i] := by simp [List.getD_eq_getElem?_getD, hi]
  rw [List.take_add_one, List.getElem?_eq_getElem hi, List.mem_append] at hr
  rcases hr with z | z
  · exact hI r z
  · rw [← e] at z
    have : r = (rowsOf u).getD i default := by simpa using z
    rw [this, List.all_eq_true]
    intro w hw
    rw [List.take_length] at hJ
    rw [hJ w hw]
    rfl
theorem wBad_h3 {w : Str} (h : (decide (w = "") || (decide ((2 : Int) < (w.length : Int)) || !decide (((TL.tl w).filter fun c => !decide (c ∈ TL.tl "0123456789")).map sg = []))) = false) : wBad w = false := h
theorem due_int {w : Str} (h : wBad w = false) : intText? w = some (intOf w) := by
  have := wBad_iff.mp h
  exact int_read this.2.2 this.1 (by omega)
theorem all_stepW {ws : List Str} {j : Nat} (hj : j < ws.length) (hJ : ∀ w ∈ ws.take j, wBad w = false) (h : wBad (ws.getD j default) = false) : ∀ w ∈ ws.take (j + 1), wBad w = false := fun w hw => by
  have e : ws.getD j default = ws[j] := by simp [List.getD_eq_getElem?_getD, hj]
  rw [List.take_add_one, List.getElem?_eq_getElem hj, List.mem_append] at hw
  rcases hw with z | z
  · exact hJ w z
  · rw [← e] at z
    have : w = ws.getD j default := by simpa using z
    rw [this]; exact h
theorem dueW_of {u : Str} (hI : ∀ r ∈ (rowsOf u).take (rowsOf u).length, ((restOf r).all fun w => !wBad w) = true) : dueW u = true := by
  rw [List.take_length] at hI
  unfold dueW
  rw [List.all_eq_true]
  exact hI
theorem dueH_b {u : Str} (hI : ∀ r ∈ (rowsOf u).take (rowsOf u).length, ((restOf r).all fun w => !wBad w) = true) : ∀ r ∈ dueH u, ∀ x ∈ r, 0 ≤ x ∧ x < 100 := fun r hr x hx => by
  rw [List.take_length] at hI
  obtain ⟨y, hy, rfl⟩ := List.mem_map.mp hr
  obtain ⟨w, hw, rfl⟩ := List.mem_map.mp hx
  have h := List.all_eq_true.mp (hI y hy) w hw
  have h := wBad_iff.mp (show wBad w = false by simpa using h)
  refine ⟨by unfold intOf; omega, ?_⟩
  have dg := figs_all.mp h.2.2
  have lt : (TL.tl w).length = w.length := (TL.len_tl w).symm
  unfold intOf
  rcases two_list (l := TL.tl w) (by omega) (by omega) with ⟨a, e⟩ | ⟨a, b, e⟩
  · rw [e] at dg ⊢
    have := dg a (by simp)
    have v : NumText.digitsVal [a] = a - 48 := by simp [NumText.digitsVal]
    omega
  · rw [e] at dg ⊢
    have h1 := dg a (by simp)
    have h2 := dg b (by simp)
    have v : NumText.digitsVal [a, b] = (a - 48) * 10 + (b - 48) := by simp [NumText.digitsVal]
    omega
theorem dueH_rl {u : Str} (hz : u.length ≤ 1900) : ∀ r ∈ dueH u, r.length ≤ 2000 := fun r hr => by
  obtain ⟨y, hy, rfl⟩ := List.mem_map.mp hr
  rw [List.length_map]
  have := rest_len' y
  have := row_len hy
  omega
theorem due_no1 {u : Str} {i j : Nat} (hi : i < (rowsOf u).length) (hj : j < (restOf ((rowsOf u).getD i default)).length) (h : wBad ((restOf ((rowsOf u).getD i default)).getD j default) = true) : dueO u = none := by
  unfold dueO
  rw [if_neg]
  intro q
  unfold dueW at q
  have := List.all_eq_true.mp (List.all_eq_true.mp q _ (getD_memA hi)) _ (getD_memA hj)
  rw [h] at this
  cases this
theorem due_no2 {u : Str} (hI : ∀ r ∈ (rowsOf u).take (rowsOf u).length, ((restOf r).all fun w => !wBad w) = true) (h : due2 u = true) : dueO u = none := by
  unfold dueO
  rw [if_pos (dueW_of hI), if_pos h]
theorem due_no3 {u : Str} (hI : ∀ r ∈ (rowsOf u).take (rowsOf u).length, ((restOf r).all fun w => !wBad w) = true) (h : due2 u = false) (h3 : due3 u = true) : dueO u = none := by
  unfold dueO
  rw [if_pos (dueW_of hI), if_neg (by rw [h]; exact Bool.false_ne_true), if_pos h3]
theorem due_yes {u : Str} (hI : ∀ r ∈ (rowsOf u).take (rowsOf u).length, ((restOf r).all fun w => !wBad w) = true) (h : due2 u = false) (h3 : due3 u = false) : dueO u = some (dueH u) := by
  unfold dueO
  rw [if_pos (dueW_of hI), if_neg (by rw [h]; exact Bool.false_ne_true), if_neg (by rw [h3]; exact Bool.false_ne_true)]
theorem isN_W {u : Str} (h : isN (dOLL (dueO u)) = true) : dueO u = none := by
  cases e : dueO u with
  | none => rfl
  | some s => rw [e] at h; cases h
theorem isN_Wf {u : Str} (h : isN (dOLL (dueO u)) = false) : dueO u = some (dueH u) ∧ readB u = true := by
  cases e : dueO u with
  | none => rw [e] at h; cases h
  | some s => have := due_some e; exact ⟨by rw [this.1], this.2.1⟩
theorem due_short {u : Str} (h : readB u = true) : ∀ r ∈ dueH u, r.length < 16000000 := fun r hr => by
  have := due_some (read_due h).1
  have := this.2.2.2.1.row hr
  omega
theorem wk_set5 (ρ : List Sl) (j : Nat) (s : Sl) : Wk (ρ.set j s) (ρ.set j .un) := by
  have := wk_setU (ρ.set j s) j
  rwa [List.set_set] at this
end Th

set_option Elab.async false
set_option linter.all false
set_option maxRecDepth 100000
/-! k14: plain signs alone -/
namespace Th
open PySem L2 DL
def asc (u : Str) : Prop := ∀ c ∈ TL.tl u, c < 1114112
theorem asc_app {u w : Str} (h : asc u) (k : asc w) : asc (u ++ w) := fun c hc => by
  rw [TL.tl_append, List.mem_append] at hc
  exact hc.elim (h c) (k c)
theorem asc_cut {u : Str} (h : asc u) (a b : Option Int) : asc (cutS u a b) := fun c hc => h c (by
  have hc : c ∈ (((u.cps.toList.drop (HT.sIx u.length 0 a)).take (HT.sIx u.length u.length b - HT.sIx u.length 0 a)).toArray).toList := hc
  rw [List.toList_toArray] at hc
  exact List.mem_of_mem_drop (List.mem_of_mem_take hc))
theorem joinL_of {c x : Nat} : ∀ {ps : List (List Nat)} {p : List Nat}, p ∈ ps → x ∈ p → x ∈ TL.joinL [c] ps
  | [q], p, h, hx => by rw [List.mem_singleton.mp h] at hx; exact hx
  | q :: r :: s, p, h, hx => by
    show x ∈ q ++ ([c] ++ TL.joinL [c] (r :: s))
    rw [List.mem_append, List.mem_append]
    rcases List.mem_cons.mp h with e | h
    · rw [e] at hx; exact .inl hx
    · exact .inr (.inr (joinL_of h hx))
theorem Sep.asc_split {y : Str} {c : Nat} (S : Sep y c) {u : Str} (h : asc u) : ∀ p ∈ Txt.split u y, asc p := fun p hp x hx => h x (by
  have e := S.back u
  rw [← e, TL.join_eq, TL.tl_join, S.e]
  exact joinL_of (List.mem_map.mpr ⟨p, hp, rfl⟩) hx)
theorem Sep.asc_join {y : Str} {c : Nat} (S : Sep y c) (hc : c < 1114112) {ps : List Str} (h : ∀ p ∈ ps, asc p) : asc (Txt.join y ps) := fun x hx => by
  rw [TL.join_eq, TL.tl_join, S.e] at hx
  rcases joinL_mem hx with z | ⟨p, hp, z⟩
  · omega
  · obtain ⟨w, hw, rfl⟩ := List.mem_map.mp hp
    exact h w hw x z
theorem asc_sg {u : Str} {i : Int} (h : inR u.length i) (k : asc u) : asc (sgAt u i) := fun c hc => by
  have : c = pyAt (TL.tl u) i := by
    have : c ∈ ([pyAt u.cps.toList i] : List Nat) := hc
    simpa using this
  rw [this]
  exact k _ (pyAt_mem (by rw [← TL.len_tl]; exact h))
theorem asc_sign (n : Int) : asc (kSign n) := by
  unfold kSign
  split
  · exact asc_sg (inR_len (k := 16) (by decide +kernel) ⟨by omega, by omega⟩) (by unfold asc; decide +kernel)
  · exact asc_sg (inR_len (k := 95) (by decide +kernel) ⟨by omega, by omega⟩) (by unfold asc; decide +kernel)
theorem asc_num {n : Int} (h : 0 ≤ n) : asc (numT n) := fun c hc => by
  by_cases q : c < 48 ∨ 57 < c
  · exact absurd hc (numT_free h q)
  · omega
theorem asc_lit {u : Str} (h : (TL.tl u).all (fun c => decide (c < 1114112)) = true) : asc u := fun c hc => of_decide_eq_true (List.all_eq_true.mp h c hc)
theorem asc_rowT {h : Int} {sh : List Int} (hh : 0 ≤ h) (hb : ∀ x ∈ sh, 0 ≤ x) : asc (rowT h sh) := by
  rw [rowT_words]
  refine sep_sp.asc_join (by decide) fun p hp => ?_
  rcases List.mem_cons.mp hp with e | hp
  · rw [e]; exact asc_app (asc_num hh) (asc_lit (by decide))
  · obtain ⟨x, hx, rfl⟩ := List.mem_map.mp hp
    exact asc_num (hb x hx)
theorem asc_lText {s : List (List Int)} (hb : ∀ r ∈ s, ∀ x ∈ r, 0 ≤ x) : asc (lText s) := by
  unfold lText
  refine sep_nl.asc_join (by decide) fun p hp => ?_
  obtain ⟨i, hi, rfl⟩ := List.mem_map.mp hp
  exact asc_rowT (by omega) (hb _ (getD_memA (List.mem_range.mp hi)))
theorem sl_mem {α : Type} {xs : List α} {lo hi : Option Int} {x : α} (h : x ∈ pySl xs lo hi) : x ∈ xs := List.mem_of_mem_drop (List.mem_of_mem_take h)
theorem asc_R5 {u : Str} (h : asc u) : ∀ p ∈ kR5 u, asc p := sep_nl.asc_split h
theorem asc_R6 {u : Str} (h : asc u) (n : Int) : ∀ p ∈ kR6 u n, asc p := fun p hp => by
  unfold kR6 at hp
  split at hp
  · simp only [List.mem_append, List.mem_singleton] at hp
    rcases hp with (z | z) | z
    · exact asc_R5 h p (sl_mem z)
    · rw [z]; exact asc_R5 h _ (pyAt_mem (kO_in u n))
    · exact asc_R5 h p (sl_mem z)
  · exact asc_R5 h p hp
theorem asc_R7 {u : Str} (h : asc u) (n : Int) : ∀ p ∈ kR7 u n, asc p := fun p hp => by
  unfold kR7 at hp
  split at hp
  · simp only [List.mem_append] at hp
    rcases hp with z | z
    · exact asc_R6 h n p (sl_mem z)
    · exact asc_R6 h n p (sl_mem z)
  · exact asc_R6 h n p hp
theorem asc_R8 {u : Str} (h : asc u) (n : Int) : ∀ p ∈ kR8 u n, asc p := fun p hp => by
  unfold kR8 at hp
  split at hp
  · rename_i q
    simp only [List.mem_append, List.mem_singleton] at hp
    rcases hp with (z | z) | z
    · rw [z]; exact asc_R7 h n _ (pyAt_mem (by rw [kR7_8 q]; exact kO_in u n))
    · exact asc_R7 h n p (sl_mem z)
    · exact asc_R7 h n p (sl_mem z)
  · exact asc_R7 h n p hp
theorem asc_changed {u : Str} (h : asc u) (n : Int) : asc (kChanged u n) := by
  unfold kChanged
  split
  · exact asc_app (asc_app (asc_cut h _ _) (asc_sign _)) (asc_cut h _ _)
  split
  · exact asc_app (asc_cut h _ _) (asc_cut h _ _)
  split
  · exact asc_app (asc_app (asc_cut h _ _) (asc_sign _)) (asc_cut h _ _)
  split
  · refine sep_sp.asc_join (by decide) fun p hp => ?_
    simp only [List.mem_append, List.mem_singleton] at hp
    rcases hp with (z | z) | z
    · exact sep_sp.asc_split h p (sl_mem z)
    · exact sep_sp.asc_split h p (sl_mem z)
    · rw [z]; exact sep_sp.asc_split h _ (pyAt_mem (kW_in u n))
  · exact sep_nl.asc_join (by decide) (asc_R8 h n)
theorem asc_kIt (ns : List Int) : ∀ k, asc (kIt ns k)
  | 0 => asc_lText fun r hr x hx => by have := (kParts_good ns).bd r hr x hx; omega
  | k + 1 => asc_changed (asc_kIt ns k) _
theorem asc_odds : ∀ x ∈ kOdds, (TL.tl x).all (fun c => decide (c < 1114112)) = true := by decide +kernel
theorem asc_drawn (ns : List Int) : asc (kDrawn ns) := by
  unfold kDrawn
  split
  · exact asc_lit (asc_odds _ (pyAt_mem (by have : kOdds.length = 12 := rfl; rw [this]; exact ⟨by omega, by omega⟩)))
  · exact asc_kIt ns _
theorem asc_strs {u w : Str} {r : Str} (h : asc u) (hr : r ∈ rowsOf u) (hw : w ∈ restOf r) (f : Nat → Bool) : ∀ x ∈ ((TL.tl w).filter f).map sg, PyData.strOk x = true := fun x hx => by
  obtain ⟨c, hc, rfl⟩ := List.mem_map.mp hx
  have := sep_sp.asc_split (sep_nl.asc_split h r hr) w (rest_mem hw) c (List.mem_filter.mp hc).1
  show (#[c] : Array Nat).all (· < 0x110000) = true
  simp
  omega
end Th

set_option Elab.async false
set_option linter.all false
set_option maxRecDepth 100000
set_option maxHeartbeats 2000000
namespace Th
open PySem L2 DL
def top (i : Nat) : Stmt := PySem.Challenge.pw_thingdeal_k14_read.main.body.getD i (.Pass ⟨0, 0, 0, 0⟩)
abbrev s_is_among : Stmt := top 13
abbrev s_are_things : Stmt := top 14
abbrev s_are_shares : Stmt := top 15
abbrev s_number_of : Stmt := top 18
abbrev s_read : Stmt := top 19
abbrev s__law_at : Stmt := top 21
abbrev s__law_mixed : Stmt := top 22
abbrev s__law_parts : Stmt := top 23
abbrev s__law_text : Stmt := top 24
abbrev s__law_sign : Stmt := top 25
abbrev s__law_changed : Stmt := top 26
abbrev s__law_drawn : Stmt := top 27
abbrev s__law_due : Stmt := top 28
abbrev s__law_refused : Stmt := top 29
abbrev s_law : Stmt := top 30
structure Bt (mg : Str → Option Value) : Prop where
  ValueError : mg "ValueError" = none
  all : mg "all" = none
  bool : mg "bool" = none
  int : mg "int" = none
  isinstance : mg "isinstance" = none
  len : mg "len" = none
  list : mg "list" = none
  max : mg "max" = none
  range : mg "range" = none
  set : mg "set" = none
  sorted : mg "sorted" = none
  str : mg "str" = none
structure Tx (K : Fg) (mg : Str → Option Value) where
  a_is_among : Addr
  fd_is_among : FuncData
  F_is_among : Fun K "is_among" "is_among" s_is_among a_is_among fd_is_among
  g_is_among : mg "is_among" = some (.ref a_is_among)
  b_is_among : Binds K fd_is_among ["thing", "least", "most"] []
  a_are_things : Addr
  fd_are_things : FuncData
  F_are_things : Fun K "are_things" "are_things" s_are_things a_are_things fd_are_things
  g_are_things : mg "are_things" = some (.ref a_are_things)
  b_are_things : Binds K fd_are_things ["thing", "many"] []
  a_are_shares : Addr
  fd_are_shares : FuncData
  F_are_shares : Fun K "are_shares" "are_shares" s_are_shares a_are_shares fd_are_shares
  g_are_shares : mg "are_shares" = some (.ref a_are_shares)
  b_are_shares : Binds K fd_are_shares ["thing", "heirs", "things"] []
  a_number_of : Addr
  fd_number_of : FuncData
  F_number_of : Fun K "number_of" "number_of" s_number_of a_number_of fd_number_of
  g_number_of : mg "number_of" = some (.ref a_number_of)
  b_number_of : Binds K fd_number_of ["word"] []
  a_read : Addr
  fd_read : FuncData
  F_read : Fun K "read" "read" s_read a_read fd_read
  g_read : mg "read" = some (.ref a_read)
  b_read : Binds K fd_read ["text"] []
  a__law_at : Addr
  fd__law_at : FuncData
  F__law_at : Fun K "_law_at" "_law_at" s__law_at a__law_at fd__law_at
  g__law_at : mg "_law_at" = some (.ref a__law_at)
  b__law_at : Binds K fd__law_at ["_law_script", "_law_k"] []
  a__law_mixed : Addr
  fd__law_mixed : FuncData
  F__law_mixed : Fun K "_law_mixed" "_law_mixed" s__law_mixed a__law_mixed fd__law_mixed
  g__law_mixed : mg "_law_mixed" = some (.ref a__law_mixed)
  b__law_mixed : Binds K fd__law_mixed ["_law_cell", "_law_k"] []
  a__law_parts : Addr
  fd__law_parts : FuncData
  F__law_parts : Fun K "_law_parts" "_law_parts" s__law_parts a__law_parts fd__law_parts
  g__law_parts : mg "_law_parts" = some (.ref a__law_parts)
  b__law_parts : Binds K fd__law_parts ["_law_script"] []
  a__law_text : Addr
  fd__law_text : FuncData
  F__law_text : Fun K "_law_text" "_law_text" s__law_text a__law_text fd__law_text
  g__law_text : mg "_law_text" = some (.ref a__law_text)
  b__law_text : Binds K fd__law_text ["_law_held"] []
  a__law_sign : Addr
  fd__law_sign : FuncData
  F__law_sign : Fun K "_law_sign" "_law_sign" s__law_sign a__law_sign fd__law_sign
  g__law_sign : mg "_law_sign" = some (.ref a__law_sign)
  b__law_sign : Binds K fd__law_sign ["_law_number"] []
  a__law_changed : Addr
  fd__law_changed : FuncData
  F__law_changed : Fun K "_law_changed" "_law_changed" s__law_changed a__law_changed fd__law_changed
  g__law_changed : mg "_law_changed" = some (.ref a__law_changed)
  b__law_changed : Binds K fd__law_changed ["_law_text_here", "_law_number"] []
  a__law_drawn : Addr
  fd__law_drawn : FuncData
  F__law_drawn : Fun K "_law_drawn" "_law_drawn" s__law_drawn a__law_drawn fd__law_drawn
  g__law_drawn : mg "_law_drawn" = some (.ref a__law_drawn)
  b__law_drawn : Binds K fd__law_drawn ["_law_script"] []
  a__law_due : Addr
  fd__law_due : FuncData
  F__law_due : Fun K "_law_due" "_law_due" s__law_due a__law_due fd__law_due
  g__law_due : mg "_law_due" = some (.ref a__law_due)
  b__law_due : Binds K fd__law_due ["_law_text_here"] []
  a__law_refused : Addr
  fd__law_refused : FuncData
  F__law_refused : Fun K "_law_refused" "_law_refused" s__law_refused a__law_refused fd__law_refused
  g__law_refused : mg "_law_refused" = some (.ref a__law_refused)
  b__law_refused : Binds K fd__law_refused ["_law_text_here"] []
  a_law : Addr
  fd_law : FuncData
  F_law : Fun K "law" "law" s_law a_law fd_law
  g_law : mg "law" = some (.ref a_law)
  b_law : Binds K fd_law ["_law_script"] []
  k_MOST_HEIRS : Tok
  g_MOST_HEIRS : mg "MOST_HEIRS" = some (.int 8 k_MOST_HEIRS)
  k_MOST_THINGS : Tok
  g_MOST_THINGS : mg "MOST_THINGS" = some (.int 40 k_MOST_THINGS)
  k_FIGURES : Tok
  g_FIGURES : mg "FIGURES" = some (.str "0123456789" k_FIGURES)
  c_BadNote : Addr
  g_BadNote : mg "BadNote" = some (.ref c_BadNote)
  x_BadNote : PySem.W.excIn K c_BadNote [.type "ValueError", .type "Exception", .type "BaseException", .type "object"] "ValueError.__new__" = true
  k_BadNote : PySem.W.keepIn K (.ref c_BadNote) = true
  b_BadNote : PySem.W.subIn K (.ref c_BadNote) (.type "BaseException") = some true
  t_BadNote : PySem.W.typeIn K (.ref c_BadNote) = some (.type "type")
  c_DealError : Addr
  g_DealError : mg "DealError" = some (.ref c_DealError)
  c_BadHeir : Addr
  g_BadHeir : mg "BadHeir" = some (.ref c_BadHeir)
  c_BadOrder : Addr
  g_BadOrder : mg "BadOrder" = some (.ref c_BadOrder)
  c_BadRing : Addr
  g_BadRing : mg "BadRing" = some (.ref c_BadRing)
  c_BadShares : Addr
  g_BadShares : mg "BadShares" = some (.ref c_BadShares)
  c_BadTable : Addr
  g_BadTable : mg "BadTable" = some (.ref c_BadTable)
  c_BadThing : Addr
  g_BadThing : mg "BadThing" = some (.ref c_BadThing)
  c_Full : Addr
  g_Full : mg "Full" = some (.ref c_Full)
  e_BadNote : ExcC K c_BadNote
  m_BadNote : PySem.W.exmOne K (.ref c_BadNote) (.ref c_DealError) = some true
  v_BadNote : PySem.W.kitOne K (.ref c_BadNote) (.type "ValueError") = some true
  i_BadNote_BadHeir : PySem.W.kitOne K (.ref c_BadNote) (.ref c_BadHeir) = some false
  i_BadNote_BadNote : PySem.W.kitOne K (.ref c_BadNote) (.ref c_BadNote) = some true
  i_BadNote_BadOrder : PySem.W.kitOne K (.ref c_BadNote) (.ref c_BadOrder) = some false
  i_BadNote_BadRing : PySem.W.kitOne K (.ref c_BadNote) (.ref c_BadRing) = some false
  i_BadNote_BadShares : PySem.W.kitOne K (.ref c_BadNote) (.ref c_BadShares) = some false
  i_BadNote_BadTable : PySem.W.kitOne K (.ref c_BadNote) (.ref c_BadTable) = some false
  i_BadNote_BadThing : PySem.W.kitOne K (.ref c_BadNote) (.ref c_BadThing) = some false
  i_BadNote_Full : PySem.W.kitOne K (.ref c_BadNote) (.ref c_Full) = some false
  bt : Bt mg
theorem raise_BadNote {P : Program} {w : World} {K : Fg} {mg : Str → Option Value} {base : Heap} (T : Tx K mg) {N : List Str} {qual : Str} {sc : Scope} {f : Addr} {cd : Value} {A : Around} {outer : List Env} {s : Shared} {H : Hp} {E : XK} {Γ : Gm} {ρ : List Sl} {rs : List Stmt} {En : En} {pm : Str} {j : Nat} {p1 p2 p3 p4 : Pos}
    (hx : RX (cxOf (L2.CX P w) P w K mg base N qual sc f cd A outer s H E) Γ T.c_BadNote) (hg : Gl (cxOf (L2.CX P w) P w K mg base N qual sc f cd A outer s H E) "BadNote" := by rfl) : SS (cxOf (L2.CX P w) P w K mg base N qual sc f cd A outer s H E) Γ ρ (.Raise (some (.Call (.Name "BadNote" p1) [.Constant (.str pm) j p2] [] p3)) none p4 :: rs) En :=
  ss_raise rfl hx (pmk_own PySem.F.excBase_ValueError T.x_BadNote T.g_BadNote T.k_BadNote (raises_own T.b_BadNote T.t_BadNote) hg) fun σ H Q q => q

theorem sc_is_among : FnScope ["thing", "least", "most"] ["thing", "least", "most"] (defScope s_is_among) := ⟨rfl, rfl, rfl, by decide +kernel, rfl, by decide +kernel, by decide +kernel⟩
theorem ok_is_among {P : Program} {w : World} {K : Fg} {mg : Str → Option Value} {base : Heap} (T : Tx K mg) (d : D) (lo hi : Int) :
    FnOk P w K mg base (L2.CX P w) 1 T.a_is_among T.fd_is_among ["thing", "least", "most"] (sp1 K [.ro d, .v (.int lo), .v (.int hi)] (.ret (.fz (.bool (isAmong d lo hi))))) := by
  refine ok_def (m := 0) T.F_is_among sc_is_among rfl rfl fun cdv A outer s G H E hr xo hp hx => ?_
  exact ss_retV (dv_and (dv_isi (de_ro 0 rfl) (kit_int d) T.bt.int PyProof.Rows.boot_int T.bt.isinstance) fun h1 => dv_and (dv_not (dv_isi (de_ro 0 rfl) (kit_bool d) T.bt.bool PyProof.Rows.boot_bool T.bt.isinstance)) fun h2 => dv_one
    (dv_leLe (dv_var 1 rfl) ((de_ro 0 rfl).val (dV_iOf h1 (by simpa using h2))) (dv_var 2 rfl))) rfl


theorem sc_are_things : FnScope ["thing", "many", "one"] ["thing", "many"] (defScope s_are_things) := ⟨rfl, rfl, rfl, by decide +kernel, rfl, by decide +kernel, by decide +kernel⟩
theorem ok_are_things {P : Program} {w : World} {K : Fg} {mg : Str → Option Value} {base : Heap} (T : Tx K mg) (d : D) (many : Int) (hz : (dsOf d).length ≤ 4000) :
    FnOk P w K mg base (L2.CX P w) 2 T.a_are_things T.fd_are_things ["thing", "many"] (sp1 K [.ro d, .v (.int many)] (.ret (.fz (.bool (areThings d many))))) := by
  refine ok_def (m := 1) T.F_are_things sc_are_things rfl rfl fun cdv A outer s G H E hr xo hp hx => ?_
  refine ss_ifL (DW.pt (dw_or (dt_not (dt_val (dv_isi (de_ro 0 rfl) (kit_list d) T.bt.list PyProof.Rows.boot_list T.bt.isinstance))) fun h1 => dw_or1 (dt_not (dt_val
    (dv_all xo (DO.dat (do_lcM0 xo [("one", 2)] (g := tF PyData.bool) (ic_c (f := fun x => x) (fun a => .ro a) (DE.eq (de_ro 0 rfl) (d_dl (by simpa using h1))) (fun _ => .ro)) (blkOk_by (N := ["thing", "many", "one"]) (sc := defScope s_are_things) (by decide +kernel)) (fun _ _ _ _ _ => pg_name (i := 2) sc_are_things.nd rfl (Or.inl rfl)) (fun a _ => tgw_name _ 2 _) (by simp)
      (fun Γ' hK a ha s' H' C' cl' fp' xo => DV.oB (DO.vB (do_call (ok_is_among T _ _ _) (hr.mono (by decide)) T.g_is_among T.F_is_among.kp T.b_is_among hK (da_ro (de_ro 2 rfl) (da_v dv_int (da_v (dv_sub (dv_var 1 rfl) dv_int) da_nil)))))) (Nat.le_trans hz (by decide)))) T.bt.all))))) (fun h => ?_) (fun h => ?_)
  · exact ss_retV dv_bl (by unfold areThings; rw [if_pos h]; rfl)
  · have h' := h
    simp only [Bool.or_eq_false_iff, Bool.not_eq_false'] at h
    have hi := d_nums h.1 h.2
    have hl : (nums d).length ≤ 4000 := by unfold nums; rw [List.length_map]; exact hz
    exact ss_retV (dv_eq (dv_lenSet xo (DE.eq (de_ro 0 rfl) hi) hl T.bt.len T.bt.set) (dv_len (f := dI) (DE.eq (de_ro 0 rfl) hi) T.bt.len)) (by unfold areThings; rw [h']; rfl)


theorem sc_are_shares : FnScope ["thing", "heirs", "things", "told", "share"] ["thing", "heirs", "things"] (defScope s_are_shares) := ⟨rfl, rfl, rfl, by decide +kernel, rfl, by decide +kernel, by decide +kernel⟩
theorem ok_are_shares {P : Program} {w : World} {K : Fg} {mg : Str → Option Value} {base : Heap} (T : Tx K mg) (d : D) (heirs things : Int) (hz : (dsOf d).length ≤ 4000) (hz2 : ∀ x ∈ dsOf d, (dsOf x).length ≤ 4000) (hz3 : (told d).length ≤ 4000) :
    FnOk P w K mg base (L2.CX P w) 3 T.a_are_shares T.fd_are_shares ["thing", "heirs", "things"] (sp1 K [.ro d, .v (.int heirs), .v (.int things)] (.ret (.fz (.bool (areShares d heirs things))))) := by
  refine ok_def (m := 2) T.F_are_shares sc_are_shares rfl rfl fun cdv A outer s G H E hr xo hp hx => ?_
  refine ss_ifL (DW.pt (dw_or (dt_not (dt_val (dv_isi (de_ro 0 rfl) (kit_list d) T.bt.list PyProof.Rows.boot_list T.bt.isinstance))) fun h1 => dw_or1 ((dt_ne (dv_lenD (DE.eq (de_ro 0 rfl) (d_dsOf (by simpa using h1))) T.bt.len) (dv_var 1 rfl))))) (fun h => ?_) (fun h => ?_)
  · exact ss_retV dv_bl (by unfold areShares; rw [if_pos h]; rfl)
  have h' := h
  simp only [Bool.or_eq_false_iff, Bool.not_eq_false'] at h
  obtain ⟨h1, _⟩ := h
  refine ss_ifL (dt_not (dt_val (dv_all xo (DO.dat (do_lcM0 xo [("share", 4)] (g := tF PyData.bool) (ic_c (f := fun x => x) (fun a => .ro a) (DE.eq (de_ro 0 rfl) (d_dl h1)) (fun _ => .ro)) (blkOk_by (N := ["thing", "heirs", "things", "told", "share"]) (sc := defScope s_are_shares) (by decide +kernel)) (fun _ _ _ _ _ => pg_name (i := 4) sc_are_shares.nd rfl (Or.inl rfl)) (fun a _ => tgw_name _ 4 _) (by simp)
      (fun Γ' hK a ha s' H' C' cl' fp' xo => DV.oB (dv_and (DO.vB (do_call (ok_are_things T _ _ (hz2 a ha)) (hr.mono (by decide)) T.g_are_things T.F_are_things.kp T.b_are_things hK (da_ro (de_ro 4 rfl) (da_v (dv_var 2 rfl) da_nil)))) fun q => dv_one
        (dv_eqD (f := dL) xo.hu64 (DE.eq (de_ro 4 rfl) (areThings_d q).2.1) (DO.dat (do_sorted (DE.eq (de_ro 4 rfl) (areThings_d q).2.1) T.bt.sorted))))) (Nat.le_trans hz (by decide)))) T.bt.all))) (fun h => ?_) (fun h => ?_)
  · exact ss_retV dv_bl (by unfold areShares; rw [h', if_pos h]; rfl)
  have h'' := h
  simp only [Bool.not_eq_false'] at h
  have hs : ∀ i, i < (dsOf d).length → (dsOf d).getD i default = dL (nums ((dsOf d).getD i default)) := fun i hi => by
    have hm : (dsOf d).getD i default ∈ dsOf d := by simp [List.getD_eq_getElem?_getD, hi]
    have := List.all_eq_true.mp h _ (List.mem_map.mpr ⟨_, hm, rfl⟩)
    simp only [id, Bool.and_eq_true] at this
    exact (areThings_d this.1).2.1
  refine ss_o 3 xo.nd (do_nil tI) ?_
  refine ss_for1 xo hp 4 (di_r (f := fun x => x) (DE.eq (de_ro 0 rfl) (d_dl h1))) (fun i ρ => (ρ.set 3 (.ow (tl tI (((dsOf d).take i).map nums).flatten))).set 4 .un) (fun i => True) (.same (.same (.same (Wk.eq (by simp) (.un .nil))))) trivial (fun i hi _ => ?_) (fun _ => ?_)
  · have hle : (((dsOf d).take i).map nums).flatten.length + (nums ((dsOf d).getD i default)).length ≤ 4000 := by
      have e : ((dsOf d).take (i + 1)).map nums = ((dsOf d).take i).map nums ++ [nums ((dsOf d).getD i default)] := take_succ_map nums (dsOf d) hi
      have : (((dsOf d).take (i + 1)).map nums).flatten.length ≤ (told d).length := by
        unfold told
        have := List.take_append_drop (i + 1) (dsOf d)
        calc _ ≤ (((dsOf d).take (i + 1)).map nums).flatten.length + (((dsOf d).drop (i + 1)).map nums).flatten.length := Nat.le_add_right _ _
          _ = _ := by rw [← List.length_append, ← List.flatten_append, ← List.map_append, this]
      rw [e] at this
      simp only [List.flatten_append, List.length_append, List.flatten_cons, List.flatten_nil, List.append_nil] at this
      omega
    refine ss_o 3 xo.nd (do_catI (de_owT (g := tl tI) 3 rfl) (DE.eq (de_ro 4 rfl) (hs i hi)) (by omega)) ?_
    exact ss_nil ⟨.same (.same (.same (Wk.eq (by rw [take_succ_map nums (dsOf d) hi]; simp) (.un .nil)))), trivial⟩
  · refine ss_wk (ρ' := [.ro d, .v (.int heirs), .v (.int things), .ow (tl tI (told d)), .un]) (.same (.same (.same (Wk.eq (by rw [List.take_length]; rfl) (.un .nil))))) ?_
    exact ss_retV (dv_eq (dv_lenSet xo (de_owT (g := tl tI) 3 rfl) hz3 T.bt.len T.bt.set) (dv_len (f := dI) (de_owT (g := tl tI) 3 rfl) T.bt.len)) (by unfold areShares; rw [h', h'']; rfl)

theorem sc_number_of : FnScope ["word", "sign"] ["word"] (defScope s_number_of) := ⟨rfl, rfl, rfl, by decide +kernel, rfl, by decide +kernel, by decide +kernel⟩
theorem ok_number_of {P : Program} {w : World} {K : Fg} {mg : Str → Option Value} {base : Heap} (T : Tx K mg) (wd : Str) (hz : wd.length ≤ 2000) :
    FnOk P w K mg base (L2.CX P w) 1 T.a_number_of T.fd_number_of ["word"] (sp1 K [.v (.str wd)] (.ret (.fz (dO (numOf wd))))) := by
  have tl9 := TL.len_tl wd
  refine ok_def (m := 1) T.F_number_of sc_number_of rfl rfl fun cdv0 A0 out0 s0 G0 H0 E0 hr xo hp hx => ?_
  refine ss_ifL (DW.pt (dw_or (dt_not (dt_leLe dv_int (dv_lenT (dv_var 0 rfl) (by /-number_of.1-/ exact Nat.le_trans (show _ ≤ 100000 by omega) (by decide)) T.bt.len) dv_int)) (fun h1 => (dw_or1 (DW.pt (dw_and (dt_eq (dv_lenT (dv_var 0 rfl) (by /-number_of.2-/ exact Nat.le_trans (show _ ≤ 100000 by omega) (by decide)) T.bt.len) dv_int) (fun h2 => (dw_and1 (dt_eqStr (dv_ixT (dv_var 0 rfl) dv_int (by /-number_of.3-/ have := of_decide_eq_true h2; exact ⟨by omega, by omega⟩) (by /-number_of.4-/ exact Nat.le_trans (show _ ≤ 100000 by omega) (by decide))) dv_str))))))))) (fun h3 => ?_) (fun h3 => ?_)
  ·
    exact ss_retV dv_non (by unfold numOf; rw [h3]; rfl)
  show SS _ _ [_, _] _ _
  refine ss_for1 xo hp 1 (di_str (dv_var 0 rfl)) (fun i ρ => (ρ).set 1 .un) (fun i => ∀ c ∈ (TL.tl wd).take i, figB c = true) (.same (.un (.nil))) (by simp) (fun i hi hI => ?_) (fun hI => ?_)
  ·
    show SS _ _ [_, _] _ _
    refine ss_ifL (dt_notInT (dv_var 1 rfl) (dv_glob rfl T.g_FIGURES ⟨_, rfl⟩)) (fun h4 => ?_) (fun h4 => ?_)
    ·
      exact ss_retV dv_non (by unfold numOf; rw [num_nofig hi (by simpa [figB] using h4)]; simp; rfl)
    show SS _ _ [_, _] _ _
    exact ss_nil ⟨.same (.un (.nil)), by exact all_stepN hi hI (by simpa [figB] using h4)⟩
  show SS _ _ [_, _] _ _
  exact ss_retV (dv_intT (dv_var 0 rfl) (by /-number_of.5-/ exact num_int hI h3) (by /-number_of.6-/ have := num_len h3; omega) T.bt.int) (by unfold numOf; rw [h3, num_fig hI]; rfl)

theorem sc_read : FnScope ["text", "shares", "row", "words", "word"] ["text"] (defScope s_read) := ⟨rfl, rfl, rfl, by decide +kernel, rfl, by decide +kernel, by decide +kernel⟩
theorem ok_read {P : Program} {w : World} {K : Fg} {mg : Str → Option Value} {base : Heap} (T : Tx K mg) (u : Str) (hz : u.length ≤ 1900) :
    FnOk P w K mg base (L2.CX P w) 4 T.a_read T.fd_read ["text"] (sp1 K [.v (.str u)] (if readB u = true then .ret (tLL (dueH u)) else .exc T.c_BadNote)) := by
  have rl9 := rows_len u; have sl9 : (shOf u).length = (rowsOf u).length := by simp [shOf]
  refine ok_def (m := 4) T.F_read sc_read rfl rfl fun cdv0 A0 out0 s0 G0 H0 E0 hr xo hp hx => ?_
  refine ss_ifL (dt_not (dt_val (dv_isi (DV.dat (dv_var 0 rfl)) (kit_str _) T.bt.str PyProof.Rows.boot_str T.bt.isinstance))) (fun h1 => by simp [isStr, vD] at h1) (fun h1 => ?_)
  show SS _ _ [_, _, _, _, _] _ _
  refine ss_o 1 xo.nd (do_nil (tl (tF dO))) ?_
  show SS _ _ [_, _, _, _, _] _ _
  refine ss_for1 xo hp 2 (di_zS (DO.dat (do_split (dv_var 0 rfl) dv_str (by decide) (by /-read.1-/ first | (exact Nat.le_trans (show _ ≤ 100000 by omega) (by decide)) | exact Nat.le_trans (Nat.add_le_add_right rz9 2) (Nat.le_trans (show _ ≤ 100000 by omega) (by decide)))))) (fun i ρ => (((ρ).set 1 (.ow ((tl (tl (tF dO))) (((rowsOf u).take i).map fun r => (restOf r).map numOf)))).set 2 .un).set 3 .un) (fun i => ∀ k, k < i → headOk u k = true) (.same (Wk.eq (by rfl) (.un (.un (.same (.nil)))))) (by intro k hk; omega) (fun i hi hI => ?_) (fun hI => ?_)
  ·
    show SS _ _ [_, _, _, _, _] _ _
    have hi9 : i < (rowsOf u).length := hi
    have hm9 := getD_memA hi9
    have rz9 := row_len hm9
    have wl9 : (((rowsOf u).take i).map fun r => (restOf r).map numOf).length = i := by rw [List.length_map, List.length_take]; omega
    refine ss_z 3 xo.nd (DO.dat (do_split (dv_var 2 rfl) dv_str (by decide) (by /-read.2-/ first | (exact Nat.le_trans (show _ ≤ 100000 by omega) (by decide)) | exact Nat.le_trans (Nat.add_le_add_right rz9 2) (Nat.le_trans (show _ ≤ 100000 by omega) (by decide))))) ?_
    show SS _ _ [_, _, _, _, _] _ _
    refine ss_ifL (dt_neStr (dv_ixL (de_sh 3 rfl) dv_int (by /-read.3-/ have := sep_sp.pos ((rowsOf u).getD i default); exact ⟨by omega, by show _ < _; exact Int.ofNat_lt.mpr this⟩)) (dv_cat (dv_str1 (dv_len (f := (dl dO)) (de_owT (g := (tl (tl (tF dO)))) 1 rfl) T.bt.len) (by /-read.4-/ rw [wl9]; exact log9 ⟨by omega, by omega⟩) T.bt.str) dv_str (by /-read.5-/ rw [wl9]; exact cat9 ⟨by omega, by omega⟩))) (fun h2 => ?_) (fun h2 => ?_)
    ·
      exact raise_BadNote T (hx _ (by rw [if_neg (read_nohead hi (headOk_f (by rw [wl9]) h2))]))
    show SS _ _ [_, _, _, _, _] _ _
    refine ss_app0 (g := (tl (tF dO))) 1 (dpl_var 1 rfl) (do_lcM0 xo [("word", 4)] (g := (tF dO))  (ic_z (f := PyData.str) (fun a => .v (.str a)) (DO.dat (do_sl (f := PyData.str) (de_sh 3 rfl) (ox_some dv_int) ox_none)) (fun _ => .v rfl)) (blkOk_by (N := ["text", "shares", "row", "words", "word"]) (sc := defScope s_read) (by decide +kernel)) (fun _ _ _ _ _ => pg_name (i := 4) sc_read.nd rfl (Or.inl rfl)) (fun a _ => tgw_name _ 4 _) (by simp) (fun Γ' hK a ha s' H' C' cl' fp' xo => (DE.oF (f := dO) (DO.fzv (do_call (ok_number_of T _ (by /-read.6-/ have := word_len hm9 ha; omega)) (hr.mono (by decide)) T.g_number_of T.F_number_of.kp T.b_number_of (by exact hK) (da_v (dv_var 4 rfl) da_nil))))) (by /-read.7-/ have : (restOf ((rowsOf u).getD i default)).length ≤ _ := rest_len _; exact Nat.le_trans this (by omega))) rfl (by /-read.8-/ rw [wl9]; omega) ?_
    show SS _ _ [_, _, _, _, _] _ _
    exact ss_nil ⟨.same (Wk.eq (by rw [take_succ_map (fun r => (restOf r).map numOf) (rowsOf u) hi]) (.un (.un (.same (.nil))))), by exact fun k hk => (Nat.lt_succ_iff_lt_or_eq.mp hk).elim (hI k) (fun e => e ▸ headOk_t (by rw [wl9]) h2)⟩
  show SS _ _ [_, _, _, _, _] _ _
  refine ss_re (fun ρ => (ρ).set 1 (.ow ((tl (tl (tF dO))) (shOf u)))) (.same (Wk.eq (by rw [show (Txt.split u "\n").length = (rowsOf u).length from rfl, List.take_length]; rfl) (.same (.same (.same (.nil)))))) ?_
  show SS _ _ [_, _, _, _, _] _ _
  refine ss_ifL (DW.pt (dw_or (dt_gt (dv_len (f := (dl dO)) (de_owT (g := (tl (tl (tF dO)))) 1 rfl) T.bt.len) (dv_glob rfl T.g_MOST_HEIRS ⟨_, rfl⟩)) (fun h3 => (dw_or1 (dt_not (dt_val (DO.vB (do_call (ok_are_shares T _ _ _ (by /-read.9-/ rw [dsOf_dLL, List.length_map, sl9]; omega) (by /-read.10-/ exact shOf_z hz) (by /-read.11-/ exact shOf_t hz)) (hr.mono (by decide)) T.g_are_shares T.F_are_shares.kp T.b_are_shares (by exact rfl) (da_ro (de_owT (g := (tl (tl (tF dO)))) 1 rfl) (da_v (dv_len (f := (dl dO)) (de_owT (g := (tl (tl (tF dO)))) 1 rfl) T.bt.len) (da_v (dv_glob rfl T.g_MOST_THINGS ⟨_, rfl⟩) da_nil))))))))))) (fun h4 => ?_) (fun h4 => ?_)
  ·
    exact raise_BadNote T (hx _ (by rw [if_neg (fun hb => read_noend hb (by rw [sl9] at h4; exact h4))]))
  show SS _ _ [_, _, _, _, _] _ _
  exact ss_retOw 1 rfl (by rw [if_pos (read_end hI (by rw [sl9] at h4; exact h4))]; exact congrArg Oc.ret (read_val (read_end hI (by rw [sl9] at h4; exact h4))))

theorem ok_read_y {P : Program} {w : World} {K : Fg} {mg : Str → Option Value} {base : Heap} (T : Tx K mg) (u : Str) (hz : u.length ≤ 1900) (hb : readB u = true) :
    FnOk P w K mg base (L2.CX P w) 4 T.a_read T.fd_read ["text"] (sp1 K [.v (.str u)] (.ret (tLL (dueH u)))) := by
  have := ok_read (P := P) (w := w) (base := base) T u hz
  rwa [if_pos hb] at this
theorem ok_read_n {P : Program} {w : World} {K : Fg} {mg : Str → Option Value} {base : Heap} (T : Tx K mg) (u : Str) (hz : u.length ≤ 1900) (hb : readB u = false) :
    FnOk P w K mg base (L2.CX P w) 4 T.a_read T.fd_read ["text"] (sp1 K [.v (.str u)] (.exc T.c_BadNote)) := by
  have := ok_read (P := P) (w := w) (base := base) T u hz
  rwa [if_neg (by rw [hb]; exact Bool.false_ne_true)] at this
theorem ok_read_d {P : Program} {w : World} {K : Fg} {mg : Str → Option Value} {base : Heap} (T : Tx K mg) (d : D) (hd : isStr d = false) :
    FnOk P w K mg base (L2.CX P w) 4 T.a_read T.fd_read ["text"] (sp1 K [.ro d] (.exc T.c_BadNote)) := by
  refine ok_def (m := 4) T.F_read sc_read rfl rfl fun cdv0 A0 out0 s0 G0 H0 E0 hr xo hp hx => ?_
  refine ss_ifL (dt_not (dt_val (dv_isi (de_ro 0 rfl) (kit_str _) T.bt.str PyProof.Rows.boot_str T.bt.isinstance))) (fun h => ?_) (fun h => ?_)
  · exact raise_BadNote T (hx _ rfl)
  · rw [hd] at h; cases h

end Th

set_option Elab.async false
set_option linter.all false
set_option maxRecDepth 100000
set_option maxHeartbeats 2000000
namespace Th
open PySem L2 DL
theorem sc__law_at : FnScope ["_law_script", "_law_k"] ["_law_script", "_law_k"] (defScope s__law_at) := ⟨rfl, rfl, rfl, by decide +kernel, rfl, by decide +kernel, by decide +kernel⟩
theorem ok__law_at {P : Program} {w : World} {K : Fg} {mg : Str → Option Value} {base : Heap} (T : Tx K mg) (ns : List Int) (k : Int) (hk : 0 ≤ k) :
    FnOk P w K mg base (L2.CX P w) 1 T.a__law_at T.fd__law_at ["_law_script", "_law_k"] (sp1 K [.sc ns, .v (.int k)] (.ret (.fz (.int (lAt ns k))))) := by
  refine ok_def (m := 0) T.F__law_at sc__law_at rfl rfl fun cdv0 A0 out0 s0 G0 H0 E0 hr xo hp hx => ?_
  refine ss_ifL (dt_lt (dv_var 1 rfl) (dv_lenS rfl (ds_var 0 rfl) T.bt.len)) (fun h1 => ?_) (fun h1 => ?_)
  ·
    exact ss_retV (dv_ixS rfl (ds_var 0 rfl) (dv_var 1 rfl) (by /-_law_at.1-/ exact ⟨by omega, of_decide_eq_true h1⟩)) (by unfold lAt; rw [if_pos (of_decide_eq_true h1)]; rfl)
  show SS _ _ [_, _] _ _
  exact ss_retV dv_int (by unfold lAt; rw [if_neg (of_decide_eq_false h1)]; rfl)

theorem sc__law_mixed : FnScope ["_law_cell", "_law_k"] ["_law_cell", "_law_k"] (defScope s__law_mixed) := ⟨rfl, rfl, rfl, by decide +kernel, rfl, by decide +kernel, by decide +kernel⟩
theorem ok__law_mixed {P : Program} {w : World} {K : Fg} {mg : Str → Option Value} {base : Heap} (T : Tx K mg) (c k : Int)  :
    FnOk P w K mg base (L2.CX P w) 1 T.a__law_mixed T.fd__law_mixed ["_law_cell", "_law_k"] (sp1 K [.v (.int c), .v (.int k)] (.ret (.fz (.int (lMixed c k))))) := by
  refine ok_def (m := 0) T.F__law_mixed sc__law_mixed rfl rfl fun cdv0 A0 out0 s0 G0 H0 E0 hr xo hp hx => ?_
  exact ss_retV (dv_mod (dv_mul (dv_add (dv_add (dv_var 0 rfl) (dv_mul dv_int (dv_var 1 rfl) (.inl ⟨by decide, by decide⟩))) dv_int) dv_int (.inr ⟨by decide, by decide⟩)) dv_int (by decide)) (rfl)

theorem sc__law_parts : FnScope ["_law_script", "_law_heirs", "_law_found", "_law_thing", "_law_to", "_law_heir"] ["_law_script"] (defScope s__law_parts) := ⟨rfl, rfl, rfl, by decide +kernel, rfl, by decide +kernel, by decide +kernel⟩
theorem ok__law_parts {P : Program} {w : World} {K : Fg} {mg : Str → Option Value} {base : Heap} (T : Tx K mg) (ns : List Int)  :
    FnOk P w K mg base (L2.CX P w) 2 T.a__law_parts T.fd__law_parts ["_law_script"] (sp1 K [.sc ns] (.ret ((tl (tl tI)) (kParts ns)))) := by
  have pb := pN9_bd ns
  refine ok_def (m := 5) T.F__law_parts sc__law_parts rfl rfl fun cdv0 A0 out0 s0 G0 H0 E0 hr xo hp hx => ?_
  refine ss_v 1 xo.nd (DV.eq (y := .int ((pN9 ns : Nat) : Int)) (dv_add dv_int (dv_mod (DO.vI (do_call (ok__law_at T _ _ (by /-_law_parts.1-/ first | assumption | omega | decide | (exact ⟨by omega, by omega⟩))) (hr.mono (by decide)) T.g__law_at T.F__law_at.kp T.b__law_at (by exact rfl) (da_sc (ds_var 0 rfl) (da_v dv_int da_nil)))) dv_int (by decide))) (by /-_law_parts.2-/ exact pN9_eq ns)) ?_
  show SS _ _ [_, _, _, _, _, _] _ _
  refine ss_lcM0 2 xo [("_law_heir", 5)] (g := (tl tI))  (ic_rangeN (dv_var 1 rfl) (by /-_law_parts.3-/ omega) T.bt.range) (blkOk_by (N := ["_law_script", "_law_heirs", "_law_found", "_law_thing", "_law_to", "_law_heir"]) (sc := defScope s__law_parts) (by decide +kernel)) (fun _ _ _ _ _ => pg_name (i := 5) sc__law_parts.nd rfl (Or.inl rfl)) (fun a _ => tgw_name _ 5 _) (by simp) (fun Γ' hK a ha s' H' C' cl' fp' xo => (do_nil tI)) (by /-_law_parts.4-/ simp; omega) ?_
  show SS _ _ [_, _, _, _, _, _] _ _
  refine ss_for1 xo hp 3 (di_rangeN (DV.eq (y := .int ((40 : Nat) : Int)) dv_int rfl) (by decide) T.bt.range) (fun i ρ => (((ρ).set 2 (.ow ((tl (tl tI)) (gSh (pTo9 ns) (pN9 ns) i)))).set 3 .un).set 4 .un) (fun i => True) (.same (.same (Wk.eq (by simp [gSh]) (.un (.un (.same (.nil))))))) (by first | trivial | simp) (fun i hi hI1 => ?_) (fun hI1 => ?_)
  ·
    show SS _ _ [_, _, _, _, _, _] _ _
    refine ss_v 4 xo.nd (DV.eq (y := .int (pTo9 ns i)) (dv_mod (dv_fdiv (DO.vI (do_call (ok__law_mixed T _ _ ) (hr.mono (by decide)) T.g__law_mixed T.F__law_mixed.kp T.b__law_mixed (by exact rfl) (da_v (DO.vI (do_call (ok__law_at T _ _ (by /-_law_parts.5-/ first | assumption | omega | decide | (exact ⟨by omega, by omega⟩))) (hr.mono (by decide)) T.g__law_at T.F__law_at.kp T.b__law_at (by exact rfl) (da_sc (ds_var 0 rfl) (da_v (dv_add dv_int (dv_mod (dv_var 3 rfl) dv_int (by decide))) da_nil)))) (da_v (dv_var 3 rfl) da_nil)))) dv_int ⟨by decide, by decide⟩) (dv_add (dv_var 1 rfl) (dv_mod (DO.vI (do_call (ok__law_at T _ _ (by /-_law_parts.6-/ first | assumption | omega | decide | (exact ⟨by omega, by omega⟩))) (hr.mono (by decide)) T.g__law_at T.F__law_at.kp T.b__law_at (by exact rfl) (da_sc (ds_var 0 rfl) (da_v dv_int da_nil)))) dv_int (by decide))) (by /-_law_parts.7-/ omega)) (by /-_law_parts.8-/ rfl)) ?_
    show SS _ _ [_, _, _, _, _, _] _ _
    refine ss_if2 (dt_lt (dv_var 4 rfl) (dv_var 1 rfl)) (fun h1 => ?_) (fun h1 => ?_)
    ·
      refine ss_app1 (g := tI) 2 (dpl_ix1 2 (dpl_var 2 rfl) (dv_var 4 rfl) rfl (by /-_law_parts.9-/ exact gSh_in (pTo9_nn ns i) (of_decide_eq_true h1))) (DV.oI (dv_var 3 rfl)) rfl (ixN_pyIx (by /-_law_parts.10-/ exact gSh_in (pTo9_nn ns i) (of_decide_eq_true h1))).2 (by /-_law_parts.11-/ exact szG (gSh_good _ _ _) (by omega) _) ?_
      show SS _ _ [_, _, _, _, _, _] _ _
      refine ss_nil ?_
      show SS _ _ [_, _, _, _, _, _] _ _
      exact ss_nil ⟨.same (.same (Wk.eq (by first | exact congrArg Sl.ow (congrArg (tl (tl tI)) (gSh_yes (pTo9_nn ns i) (of_decide_eq_true h1))) | exact congrArg Sl.ow (congrArg (tl (tl tI)) (gSh_no (of_decide_eq_false h1)))) (.un (.un (.same (.nil)))))), by first | trivial | simp⟩
    ·
      refine ss_nil ?_
      show SS _ _ [_, _, _, _, _, _] _ _
      exact ss_nil ⟨.same (.same (Wk.eq (by first | exact congrArg Sl.ow (congrArg (tl (tl tI)) (gSh_yes (pTo9_nn ns i) (of_decide_eq_true h1))) | exact congrArg Sl.ow (congrArg (tl (tl tI)) (gSh_no (of_decide_eq_false h1)))) (.un (.un (.same (.nil)))))), by first | trivial | simp⟩
  show SS _ _ [_, _, _, _, _, _] _ _
  exact ss_retOw 2 rfl (rfl)

theorem sc__law_text : FnScope ["_law_held", "_law_rows", "_law_heir", "_law_row", "_law_thing"] ["_law_held"] (defScope s__law_text) := ⟨rfl, rfl, rfl, by decide +kernel, rfl, by decide +kernel, by decide +kernel⟩
theorem ok__law_text {P : Program} {w : World} {K : Fg} {mg : Str → Option Value} {base : Heap} (T : Tx K mg) (s : List (List Int)) (hb8 : ∀ r ∈ s, ∀ x ∈ r, 0 ≤ x ∧ x < 100) (hl8 : s.length ≤ 2000) (hl7 : ∀ r ∈ s, r.length ≤ 2000) :
    FnOk P w K mg base (L2.CX P w) 1 T.a__law_text T.fd__law_text ["_law_held"] (sp1 K [.ro ((dl (dl dI)) s)] (.ret (.fz (.str (lText s))))) := by
  refine ok_def (m := 4) T.F__law_text sc__law_text rfl rfl fun cdv0 A0 out0 s0 G0 H0 E0 hr xo hp hx => ?_
  refine ss_o 1 xo.nd (do_nil (tF PyData.str)) ?_
  show SS _ _ [_, _, _, _, _] _ _
  refine ss_for1 xo hp 2 (di_rangeN (dv_len (f := (dl dI)) (de_ro 0 rfl) T.bt.len) (by /-_law_text.1-/ omega) T.bt.range) (fun i ρ => ((((ρ).set 1 (.ow ((tl (tF PyData.str)) ((List.range i).map fun (h : Nat) => rowT (h : Int) (s.getD h default))))).set 2 .un).set 3 .un).set 4 .un) (fun i => True) (.same (Wk.eq (by rfl) (.un (.un (.un (.nil)))))) (by first | trivial | simp) (fun i hi hI1 => ?_) (fun hI1 => ?_)
  ·
    show SS _ _ [_, _, _, _, _] _ _
    have hm9 := getD_memA hi
    have hb9 : ∀ x ∈ pyAt s (i : Int), 0 ≤ x ∧ x < 100 := fun x hx => by rw [pyAt_nat] at hx; exact hb8 _ hm9 x hx
    have hl9 : (pyAt s (i : Int)).length ≤ 2000 := by rw [pyAt_nat]; exact hl7 _ hm9
    have hh9 : 0 ≤ (i : Int) ∧ (i : Int) < 1000000000 := ⟨by omega, by omega⟩
    refine ss_v 3 xo.nd (dv_cat (dv_str1 (dv_var 2 rfl) (by /-_law_text.2-/ first | exact log9 hh9 | exact num_log (hb9 _ (getD_memA hj))) T.bt.str) dv_str (by /-_law_text.3-/ first | exact cat9 hh9 | exact lw9_cat1 hh9 hb9 hj hl9 | exact lw9_cat2 hh9 hb9 hj hl9)) ?_
    show SS _ _ [_, _, _, _, _] _ _
    refine ss_for1 xo hp 4 (di_rI (de_ix (f := (dl dI)) (de_ro 0 rfl) (dv_var 2 rfl) (by /-_law_text.4-/ exact ⟨by omega, by omega⟩))) (fun j ρ => ((ρ).set 3 (.v (.str (lwRow (i : Int) (pyAt s (i : Int)) j)))).set 4 .un) (fun j => True) (.same (.same (.same (Wk.eq (by rfl) (.un (.nil)))))) (by first | trivial | simp) (fun j hj hI2 => ?_) (fun hI2 => ?_)
    ·
      show SS _ _ [_, _, _, _, _] _ _
      refine ss_v 3 xo.nd (dv_cat (dv_cat (dv_var 3 rfl) dv_str (by /-_law_text.5-/ first | exact cat9 hh9 | exact lw9_cat1 hh9 hb9 hj hl9 | exact lw9_cat2 hh9 hb9 hj hl9)) (dv_str1 (dv_var 4 rfl) (by /-_law_text.6-/ first | exact log9 hh9 | exact num_log (hb9 _ (getD_memA hj))) T.bt.str) (by /-_law_text.7-/ first | exact cat9 hh9 | exact lw9_cat1 hh9 hb9 hj hl9 | exact lw9_cat2 hh9 hb9 hj hl9)) ?_
      show SS _ _ [_, _, _, _, _] _ _
      exact ss_nil ⟨.same (.same (.same (Wk.eq (by rw [lwRow_succ hj]; rfl) (.un (.nil))))), by first | trivial | simp⟩
    show SS _ _ [_, _, _, _, _] _ _
    refine ss_app0 (g := (tF PyData.str)) 1 (dpl_var 1 rfl) (DV.oS (dv_var 3 rfl)) rfl (by /-_law_text.8-/ simp; omega) ?_
    show SS _ _ [_, _, _, _, _] _ _
    exact ss_nil ⟨.same (Wk.eq (by rw [lwRow_all, pyAt_nat, List.range_succ, List.map_append]; rfl) (.un (.un (.un (.nil))))), by first | trivial | simp⟩
  show SS _ _ [_, _, _, _, _] _ _
  exact ss_retV (dv_join dv_str (de_owT (g := (tl (tF PyData.str))) 1 rfl) (by /-_law_text.9-/ exact shown9_sz hb8 hl8 hl7)) (rfl)

theorem sc__law_sign : FnScope ["_law_number", "_law_some"] ["_law_number"] (defScope s__law_sign) := ⟨rfl, rfl, rfl, by decide +kernel, rfl, by decide +kernel, by decide +kernel⟩
theorem ok__law_sign {P : Program} {w : World} {K : Fg} {mg : Str → Option Value} {base : Heap} (T : Tx K mg) (n : Int)  :
    FnOk P w K mg base (L2.CX P w) 1 T.a__law_sign T.fd__law_sign ["_law_number"] (sp1 K [.v (.int n)] (.ret (.fz (.str (kSign n))))) := by
  refine ok_def (m := 1) T.F__law_sign sc__law_sign rfl rfl fun cdv0 A0 out0 s0 G0 H0 E0 hr xo hp hx => ?_
  refine ss_ifL (dt_gt (dv_mod (dv_var 0 rfl) dv_int (by decide)) dv_int) (fun h1 => ?_) (fun h1 => ?_)
  ·
    exact ss_retV (dv_ixT dv_str (dv_mod (dv_fdiv (dv_var 0 rfl) dv_int ⟨by decide, by decide⟩) dv_int (by decide)) (by /-_law_sign.1-/ first | exact inR_len (k := 16) (by decide +kernel) ⟨by omega, by omega⟩ | exact inR_len (k := 95) (by decide +kernel) ⟨by omega, by omega⟩) (by /-_law_sign.2-/ decide +kernel)) (by unfold kSign; rw [if_pos (of_decide_eq_true h1)]; rfl)
  show SS _ _ [_, _] _ _
  refine ss_v 1 xo.nd dv_str ?_
  show SS _ _ [_, _] _ _
  exact ss_retV (dv_ixT (dv_var 1 rfl) (dv_mod (dv_fdiv (dv_var 0 rfl) dv_int ⟨by decide, by decide⟩) dv_int (by decide)) (by /-_law_sign.3-/ first | exact inR_len (k := 16) (by decide +kernel) ⟨by omega, by omega⟩ | exact inR_len (k := 95) (by decide +kernel) ⟨by omega, by omega⟩) (by /-_law_sign.4-/ decide +kernel)) (by unfold kSign; rw [if_neg (of_decide_eq_false h1)]; exact congrArg (fun z => Oc.ret (OT.fz (PyData.str (sgAt z _)))) (by decide +kernel))

theorem sc__law_changed : FnScope ["_law_text_here", "_law_number", "_law_way", "_law_at_here", "_law_sign_here", "_law_words", "_law_one", "_law_rows"] ["_law_text_here", "_law_number"] (defScope s__law_changed) := ⟨rfl, rfl, rfl, by decide +kernel, rfl, by decide +kernel, by decide +kernel⟩
theorem ok__law_changed {P : Program} {w : World} {K : Fg} {mg : Str → Option Value} {base : Heap} (T : Tx K mg) (u : Str) (n : Int) (hz : u.length ≤ 1900) :
    FnOk P w K mg base (L2.CX P w) 2 T.a__law_changed T.fd__law_changed ["_law_text_here", "_law_number"] (sp1 K [.v (.str u), .v (.int n)] (.ret (.fz (.str (kChanged u n))))) := by
  have c1 := cut_len u none (some (kAt u n)); have c2 := cut_len u (some (kAt u n)) none; have c3 := cut_len u (some (kAt u n + 1)) none; have ks := kSign_len (n / 700); have q5 : (kR5 u).length ≤ 2000 := Nat.le_trans (sep_nl.parts_len u) (by omega); have q6 : (kR6 u n).length ≤ 6000 := Nat.le_trans len_wt (Nat.le_trans (wt6 u n) (by omega)); have q7 : (kR7 u n).length ≤ 6000 := Nat.le_trans len_wt (Nat.le_trans (wt7 u n) (by omega)); have qw : (Txt.split u " ").length ≤ 2000 := Nat.le_trans (sep_sp.parts_len u) (by omega); have p5 := sep_nl.pos u; have pw := sep_sp.pos u
  have s5 := fun lo hi => Nat.le_trans (sl_len (Txt.split u "
") lo hi) q5; have s6 := fun lo hi => Nat.le_trans (sl_len (kR6 u n) lo hi) q6; have s7 := fun lo hi => Nat.le_trans (sl_len (kR7 u n) lo hi) q7; have sw := fun lo hi => Nat.le_trans (sl_len (Txt.split u " ") lo hi) qw
  refine ok_def (m := 6) T.F__law_changed sc__law_changed rfl rfl fun cdv0 A0 out0 s0 G0 H0 E0 hr xo hp hx => ?_
  refine ss_v 2 xo.nd (dv_mod (dv_var 1 rfl) dv_int (by decide)) ?_
  show SS _ _ [_, _, _, _, _, _, _, _] _ _
  refine ss_v 3 xo.nd (DV.eq (y := .int (kAt u n)) (dv_mod (dv_fdiv (dv_var 1 rfl) dv_int ⟨by decide, by decide⟩) (dv_add (dv_lenT (dv_var 0 rfl) (by /-_law_changed.1-/ first | (exact Nat.le_trans (show _ ≤ 100000 by omega) (by decide)) | (have := s5 none (some (kO u n)); have := s5 (some (kO u n)) none; have := s6 none (some (kO u n)); have := s6 (some (kO u n + 1)) none; have := s7 none (some (kO u n)); have := s7 (some (kO u n + 1)) none; have := sw none (some (kW u n)); have := sw (some (kW u n + 1)) none; (try simp only [List.length_append, List.length_singleton, List.length_cons, List.length_nil]); omega)) T.bt.len) dv_int) (by /-_law_changed.2-/ omega)) (by /-_law_changed.3-/ rfl)) ?_
  show SS _ _ [_, _, _, _, _, _, _, _] _ _
  refine ss_v 4 xo.nd (DO.vS (do_call (ok__law_sign T _ ) (hr.mono (by decide)) T.g__law_sign T.F__law_sign.kp T.b__law_sign (by exact rfl) (da_v (dv_fdiv (dv_var 1 rfl) dv_int ⟨by decide, by decide⟩) da_nil))) ?_
  show SS _ _ [_, _, _, _, _, _, _, _] _ _
  refine ss_ifL (dt_lt (dv_var 2 rfl) dv_int) (fun h1 => ?_) (fun h1 => ?_)
  ·
    exact ss_retV (dv_cat (dv_cat (dv_slT (dv_var 0 rfl) ox_none (ox_some (dv_var 3 rfl)) (by /-_law_changed.4-/ exact Nat.le_trans (show _ ≤ 100000 by omega) (by decide))) (dv_var 4 rfl) (by /-_law_changed.5-/ first | exact Nat.le_trans (show _ ≤ 100000 by omega) (by decide) | (rw [str_len]; exact Nat.le_trans (show _ ≤ 100000 by omega) (by decide)))) (dv_slT (dv_var 0 rfl) (ox_some (dv_var 3 rfl)) ox_none (by /-_law_changed.6-/ exact Nat.le_trans (show _ ≤ 100000 by omega) (by decide))) (by /-_law_changed.7-/ first | exact Nat.le_trans (show _ ≤ 100000 by omega) (by decide) | (rw [str_len]; exact Nat.le_trans (show _ ≤ 100000 by omega) (by decide)))) (by unfold kChanged; rw [if_pos (of_decide_eq_true h1)]; rfl)
  show SS _ _ [_, _, _, _, _, _, _, _] _ _
  refine ss_ifL (dt_lt (dv_var 2 rfl) dv_int) (fun h2 => ?_) (fun h2 => ?_)
  ·
    exact ss_retV (dv_cat (dv_slT (dv_var 0 rfl) ox_none (ox_some (dv_var 3 rfl)) (by /-_law_changed.8-/ exact Nat.le_trans (show _ ≤ 100000 by omega) (by decide))) (dv_slT (dv_var 0 rfl) (ox_some (dv_add (dv_var 3 rfl) dv_int)) ox_none (by /-_law_changed.9-/ exact Nat.le_trans (show _ ≤ 100000 by omega) (by decide))) (by /-_law_changed.10-/ first | exact Nat.le_trans (show _ ≤ 100000 by omega) (by decide) | (rw [str_len]; exact Nat.le_trans (show _ ≤ 100000 by omega) (by decide)))) (by unfold kChanged; rw [if_neg (of_decide_eq_false h1), if_pos (of_decide_eq_true h2)]; rfl)
  show SS _ _ [_, _, _, _, _, _, _, _] _ _
  refine ss_ifL (dt_eq (dv_var 2 rfl) dv_int) (fun h3 => ?_) (fun h3 => ?_)
  ·
    exact ss_retV (dv_cat (dv_cat (dv_slT (dv_var 0 rfl) ox_none (ox_some (dv_var 3 rfl)) (by /-_law_changed.11-/ exact Nat.le_trans (show _ ≤ 100000 by omega) (by decide))) (dv_var 4 rfl) (by /-_law_changed.12-/ first | exact Nat.le_trans (show _ ≤ 100000 by omega) (by decide) | (rw [str_len]; exact Nat.le_trans (show _ ≤ 100000 by omega) (by decide)))) (dv_slT (dv_var 0 rfl) (ox_some (dv_add (dv_var 3 rfl) dv_int)) ox_none (by /-_law_changed.13-/ exact Nat.le_trans (show _ ≤ 100000 by omega) (by decide))) (by /-_law_changed.14-/ first | exact Nat.le_trans (show _ ≤ 100000 by omega) (by decide) | (rw [str_len]; exact Nat.le_trans (show _ ≤ 100000 by omega) (by decide)))) (by unfold kChanged; rw [if_neg (of_decide_eq_false h1), if_neg (of_decide_eq_false h2), if_pos (of_decide_eq_true h3)]; rfl)
  show SS _ _ [_, _, _, _, _, _, _, _] _ _
  refine ss_ifL (dt_eq (dv_var 2 rfl) dv_int) (fun h4 => ?_) (fun h4 => ?_)
  ·
    refine ss_z 5 xo.nd (DO.dat (do_split (dv_var 0 rfl) dv_str (by decide) (by /-_law_changed.15-/ exact Nat.le_trans (show _ ≤ 100000 by omega) (by decide)))) ?_
    show SS _ _ [_, _, _, _, _, _, _, _] _ _
    refine ss_v 6 xo.nd (DV.eq (y := .int (kW u n)) (dv_mod (dv_fdiv (dv_var 1 rfl) dv_int ⟨by decide, by decide⟩) (dv_len (f := PyData.str) (de_sh 5 rfl) T.bt.len) (by /-_law_changed.16-/ omega)) (by /-_law_changed.17-/ rfl)) ?_
    show SS _ _ [_, _, _, _, _, _, _, _] _ _
    exact ss_retV (dv_join dv_str (DO.dat (do_cat (f := PyData.str) (DO.dat (do_cat (f := PyData.str) (DO.dat (do_sl (f := PyData.str) (de_sh 5 rfl) ox_none (ox_some (dv_var 6 rfl)))) (DO.dat (do_sl (f := PyData.str) (de_sh 5 rfl) (ox_some (dv_add (dv_var 6 rfl) dv_int)) ox_none)) (by /-_law_changed.18-/ first | (exact Nat.le_trans (show _ ≤ 100000 by omega) (by decide)) | (have := s5 none (some (kO u n)); have := s5 (some (kO u n)) none; have := s6 none (some (kO u n)); have := s6 (some (kO u n + 1)) none; have := s7 none (some (kO u n)); have := s7 (some (kO u n + 1)) none; have := sw none (some (kW u n)); have := sw (some (kW u n + 1)) none; (try simp only [List.length_append, List.length_singleton, List.length_cons, List.length_nil]); omega)))) (DO.dat (DO.eq (t' := tl (tF PyData.str) [_]) (do_lst (da_v (dv_ixL (de_sh 5 rfl) (dv_var 6 rfl) (by /-_law_changed.19-/ first | exact kW_in u n | exact kO_in u n | (rw [kR7_8 (of_decide_eq_true h7)]; exact kO_in u n))) da_nil)) rfl)) (by /-_law_changed.20-/ first | (exact Nat.le_trans (show _ ≤ 100000 by omega) (by decide)) | (have := s5 none (some (kO u n)); have := s5 (some (kO u n)) none; have := s6 none (some (kO u n)); have := s6 (some (kO u n + 1)) none; have := s7 none (some (kO u n)); have := s7 (some (kO u n + 1)) none; have := sw none (some (kW u n)); have := sw (some (kW u n + 1)) none; (try simp only [List.length_append, List.length_singleton, List.length_cons, List.length_nil]); omega)))) (by /-_law_changed.21-/ first | exact join_side sep_sp (wtW u n) (by omega) | exact join_side sep_nl (wt8 u n) (by omega))) (by unfold kChanged; rw [if_neg (of_decide_eq_false h1), if_neg (of_decide_eq_false h2), if_neg (of_decide_eq_false h3), if_pos (of_decide_eq_true h4)]; rfl)
  show SS _ _ [_, _, _, _, _, _, _, _] _ _
  refine ss_z 7 xo.nd (DO.dat (do_split (dv_var 0 rfl) dv_str (by decide) (by /-_law_changed.22-/ exact Nat.le_trans (show _ ≤ 100000 by omega) (by decide)))) ?_
  show SS _ _ [_, _, _, _, _, _, _, _] _ _
  refine ss_v 6 xo.nd (DV.eq (y := .int (kO u n)) (dv_mod (dv_fdiv (dv_var 1 rfl) dv_int ⟨by decide, by decide⟩) (dv_len (f := PyData.str) (de_sh 7 rfl) T.bt.len) (by /-_law_changed.23-/ omega)) (by /-_law_changed.24-/ rfl)) ?_
  show SS _ _ [_, _, _, _, _, _, _, _] _ _
  refine ss_ifJ (fun ρ => (ρ).set 7 (.sh ((dl PyData.str) (kR6 u n)))) (dt_eq (dv_var 2 rfl) dv_int) (fun h5 => ?_) (fun h5 => ?_) ?_
  ·
    refine ss_z 7 xo.nd (DO.dat (do_cat (f := PyData.str) (DO.dat (do_cat (f := PyData.str) (DO.dat (do_sl (f := PyData.str) (de_sh 7 rfl) ox_none (ox_some (dv_var 6 rfl)))) (DO.dat (DO.eq (t' := tl (tF PyData.str) [_]) (do_lst (da_v (dv_ixL (de_sh 7 rfl) (dv_var 6 rfl) (by /-_law_changed.25-/ first | exact kW_in u n | exact kO_in u n | (rw [kR7_8 (of_decide_eq_true h7)]; exact kO_in u n))) da_nil)) rfl)) (by /-_law_changed.26-/ first | (exact Nat.le_trans (show _ ≤ 100000 by omega) (by decide)) | (have := s5 none (some (kO u n)); have := s5 (some (kO u n)) none; have := s6 none (some (kO u n)); have := s6 (some (kO u n + 1)) none; have := s7 none (some (kO u n)); have := s7 (some (kO u n + 1)) none; have := sw none (some (kW u n)); have := sw (some (kW u n + 1)) none; (try simp only [List.length_append, List.length_singleton, List.length_cons, List.length_nil]); omega)))) (DO.dat (do_sl (f := PyData.str) (de_sh 7 rfl) (ox_some (dv_var 6 rfl)) ox_none)) (by /-_law_changed.27-/ first | (exact Nat.le_trans (show _ ≤ 100000 by omega) (by decide)) | (have := s5 none (some (kO u n)); have := s5 (some (kO u n)) none; have := s6 none (some (kO u n)); have := s6 (some (kO u n + 1)) none; have := s7 none (some (kO u n)); have := s7 (some (kO u n + 1)) none; have := sw none (some (kW u n)); have := sw (some (kW u n + 1)) none; (try simp only [List.length_append, List.length_singleton, List.length_cons, List.length_nil]); omega)))) ?_
    show SS _ _ [_, _, _, _, _, _, _, _] _ _
    exact ss_nil (.same (.same (.same (.same (.same (.same (.same (Wk.eq (by unfold kR6; rw [if_pos (of_decide_eq_true h5)]; try rfl) (.nil)))))))))
  ·
    exact ss_nil (.same (.same (.same (.same (.same (.same (.same (Wk.eq (by unfold kR6; rw [if_neg (of_decide_eq_false h5)]; try rfl) (.nil)))))))))
  show SS _ _ [_, _, _, _, _, _, _, _] _ _
  refine ss_ifJ (fun ρ => (ρ).set 7 (.sh ((dl PyData.str) (kR7 u n)))) (dt_eq (dv_var 2 rfl) dv_int) (fun h6 => ?_) (fun h6 => ?_) ?_
  ·
    refine ss_z 7 xo.nd (DO.dat (do_cat (f := PyData.str) (DO.dat (do_sl (f := PyData.str) (de_sh 7 rfl) ox_none (ox_some (dv_var 6 rfl)))) (DO.dat (do_sl (f := PyData.str) (de_sh 7 rfl) (ox_some (dv_add (dv_var 6 rfl) dv_int)) ox_none)) (by /-_law_changed.28-/ first | (exact Nat.le_trans (show _ ≤ 100000 by omega) (by decide)) | (have := s5 none (some (kO u n)); have := s5 (some (kO u n)) none; have := s6 none (some (kO u n)); have := s6 (some (kO u n + 1)) none; have := s7 none (some (kO u n)); have := s7 (some (kO u n + 1)) none; have := sw none (some (kW u n)); have := sw (some (kW u n + 1)) none; (try simp only [List.length_append, List.length_singleton, List.length_cons, List.length_nil]); omega)))) ?_
    show SS _ _ [_, _, _, _, _, _, _, _] _ _
    exact ss_nil (.same (.same (.same (.same (.same (.same (.same (Wk.eq (by unfold kR7; rw [if_pos (of_decide_eq_true h6)]; try rfl) (.nil)))))))))
  ·
    exact ss_nil (.same (.same (.same (.same (.same (.same (.same (Wk.eq (by unfold kR7; rw [if_neg (of_decide_eq_false h6)]; try rfl) (.nil)))))))))
  show SS _ _ [_, _, _, _, _, _, _, _] _ _
  refine ss_ifJ (fun ρ => (ρ).set 7 (.sh ((dl PyData.str) (kR8 u n)))) (dt_eq (dv_var 2 rfl) dv_int) (fun h7 => ?_) (fun h7 => ?_) ?_
  ·
    refine ss_z 7 xo.nd (DO.dat (do_cat (f := PyData.str) (DO.dat (do_cat (f := PyData.str) (DO.dat (DO.eq (t' := tl (tF PyData.str) [_]) (do_lst (da_v (dv_ixL (de_sh 7 rfl) (dv_var 6 rfl) (by /-_law_changed.29-/ first | exact kW_in u n | exact kO_in u n | (rw [kR7_8 (of_decide_eq_true h7)]; exact kO_in u n))) da_nil)) rfl)) (DO.dat (do_sl (f := PyData.str) (de_sh 7 rfl) ox_none (ox_some (dv_var 6 rfl)))) (by /-_law_changed.30-/ first | (exact Nat.le_trans (show _ ≤ 100000 by omega) (by decide)) | (have := s5 none (some (kO u n)); have := s5 (some (kO u n)) none; have := s6 none (some (kO u n)); have := s6 (some (kO u n + 1)) none; have := s7 none (some (kO u n)); have := s7 (some (kO u n + 1)) none; have := sw none (some (kW u n)); have := sw (some (kW u n + 1)) none; (try simp only [List.length_append, List.length_singleton, List.length_cons, List.length_nil]); omega)))) (DO.dat (do_sl (f := PyData.str) (de_sh 7 rfl) (ox_some (dv_add (dv_var 6 rfl) dv_int)) ox_none)) (by /-_law_changed.31-/ first | (exact Nat.le_trans (show _ ≤ 100000 by omega) (by decide)) | (have := s5 none (some (kO u n)); have := s5 (some (kO u n)) none; have := s6 none (some (kO u n)); have := s6 (some (kO u n + 1)) none; have := s7 none (some (kO u n)); have := s7 (some (kO u n + 1)) none; have := sw none (some (kW u n)); have := sw (some (kW u n + 1)) none; (try simp only [List.length_append, List.length_singleton, List.length_cons, List.length_nil]); omega)))) ?_
    show SS _ _ [_, _, _, _, _, _, _, _] _ _
    exact ss_nil (.same (.same (.same (.same (.same (.same (.same (Wk.eq (by unfold kR8; rw [if_pos (of_decide_eq_true h7)]; try rfl) (.nil)))))))))
  ·
    exact ss_nil (.same (.same (.same (.same (.same (.same (.same (Wk.eq (by unfold kR8; rw [if_neg (of_decide_eq_false h7)]; try rfl) (.nil)))))))))
  show SS _ _ [_, _, _, _, _, _, _, _] _ _
  exact ss_retV (dv_join dv_str (de_sh 7 rfl) (by /-_law_changed.32-/ first | exact join_side sep_sp (wtW u n) (by omega) | exact join_side sep_nl (wt8 u n) (by omega))) (by unfold kChanged; rw [if_neg (of_decide_eq_false h1), if_neg (of_decide_eq_false h2), if_neg (of_decide_eq_false h3), if_neg (of_decide_eq_false h4)]; rfl)

theorem sc__law_drawn : FnScope ["_law_script", "_law_number", "_law_odd", "_law_text_here", "_law_k"] ["_law_script"] (defScope s__law_drawn) := ⟨rfl, rfl, rfl, by decide +kernel, rfl, by decide +kernel, by decide +kernel⟩
theorem ok__law_drawn {P : Program} {w : World} {K : Fg} {mg : Str → Option Value} {base : Heap} (T : Tx K mg) (ns : List Int)  :
    FnOk P w K mg base (L2.CX P w) 3 T.a__law_drawn T.fd__law_drawn ["_law_script"] (sp1 K [.sc ns] (.ret (.fz (.str (kDrawn ns))))) := by
  have g9 := kParts_good ns; have n9 := pN9_bd ns
  refine ok_def (m := 4) T.F__law_drawn sc__law_drawn rfl rfl fun cdv0 A0 out0 s0 G0 H0 E0 hr xo hp hx => ?_
  refine ss_v 1 xo.nd (DV.eq (y := .int (kN ns)) (DO.vI (do_call (ok__law_mixed T _ _ ) (hr.mono (by decide)) T.g__law_mixed T.F__law_mixed.kp T.b__law_mixed (by exact rfl) (da_v (DO.vI (do_call (ok__law_at T _ _ (by /-_law_drawn.1-/ first | assumption | omega | decide | (exact ⟨by omega, by omega⟩))) (hr.mono (by decide)) T.g__law_at T.F__law_at.kp T.b__law_at (by exact rfl) (da_sc (ds_var 0 rfl) (da_v dv_int da_nil)))) (da_v dv_int da_nil)))) (by /-_law_drawn.2-/ rfl)) ?_
  show SS _ _ [_, _, _, _, _] _ _
  refine ss_ifL (dt_eq (dv_mod (dv_var 1 rfl) dv_int (by decide)) dv_int) (fun h1 => ?_) (fun h1 => ?_)
  ·
    refine ss_o 2 xo.nd (DO.eq (t' := tl (tF PyData.str) [_, _, _, _, _, _, _, _, _, _, _, _]) (do_lst (da_v dv_str (da_v dv_str (da_v dv_str (da_v dv_str (da_v dv_str (da_v dv_str (da_v dv_str (da_v dv_str (da_v dv_str (da_v dv_str (da_v dv_str (da_v dv_str da_nil))))))))))))) rfl) ?_
    show SS _ _ [_, _, _, _, _] _ _
    exact ss_retV (dv_ixL (de_owT (g := (tl (tF PyData.str))) 2 rfl) (dv_mod (dv_fdiv (dv_var 1 rfl) dv_int ⟨by decide, by decide⟩) dv_int (by decide)) (by /-_law_drawn.3-/ exact ⟨by omega, by show _ < ((12 : Nat) : Int); omega⟩)) (by unfold kDrawn; rw [if_pos (of_decide_eq_true h1)]; rfl)
  show SS _ _ [_, _, _, _, _] _ _
  refine ss_v 3 xo.nd (DO.vS (do_call (ok__law_text T _ (by /-_law_drawn.4-/ exact fun r hr x hx => by have := g9.bd r hr x hx; omega) (by /-_law_drawn.5-/ have := g9.n; omega) (by /-_law_drawn.6-/ exact fun r hr => by have := g9.row hr; omega)) (hr.mono (by decide)) T.g__law_text T.F__law_text.kp T.b__law_text (by exact rfl) (da_ro (DO.dat (do_call (ok__law_parts T _ ) (hr.mono (by decide)) T.g__law_parts T.F__law_parts.kp T.b__law_parts (by exact rfl) (da_sc (ds_var 0 rfl) da_nil))) da_nil))) ?_
  show SS _ _ [_, _, _, _, _] _ _
  refine ss_for1 xo hp 4 (di_rangeN (DV.eq (y := .int (((kN ns / 8 % 3).toNat : Nat) : Int)) (dv_mod (dv_fdiv (dv_var 1 rfl) dv_int ⟨by decide, by decide⟩) dv_int (by decide)) (by /-_law_drawn.7-/ exact congrArg V.int (Int.toNat_of_nonneg (Int.emod_nonneg _ (by omega))).symm)) (by /-_law_drawn.8-/ omega) T.bt.range) (fun i ρ => ((ρ).set 3 (.v (.str (kIt ns i)))).set 4 .un) (fun i => True) (.same (.same (.same (Wk.eq (by rfl) (.un (.nil)))))) (by first | trivial | simp) (fun i hi hI1 => ?_) (fun hI1 => ?_)
  ·
    show SS _ _ [_, _, _, _, _] _ _
    refine ss_v 3 xo.nd (DO.vS (do_call (ok__law_changed T _ _ (by /-_law_drawn.10-/ have := kIt_sz ns (k := i) (by omega); omega)) (hr.mono (by decide)) T.g__law_changed T.F__law_changed.kp T.b__law_changed (by exact rfl) (da_v (dv_var 3 rfl) (da_v (dv_fdiv (DO.vI (do_call (ok__law_mixed T _ _ ) (hr.mono (by decide)) T.g__law_mixed T.F__law_mixed.kp T.b__law_mixed (by exact rfl) (da_v (DO.vI (do_call (ok__law_at T _ _ (by /-_law_drawn.9-/ first | assumption | omega | decide | (exact ⟨by omega, by omega⟩))) (hr.mono (by decide)) T.g__law_at T.F__law_at.kp T.b__law_at (by exact rfl) (da_sc (ds_var 0 rfl) (da_v (dv_add dv_int (dv_var 4 rfl)) da_nil)))) (da_v (dv_var 4 rfl) da_nil)))) dv_int ⟨by decide, by decide⟩) da_nil)))) ?_
    show SS _ _ [_, _, _, _, _] _ _
    exact ss_nil ⟨.same (.same (.same (Wk.eq (by rfl) (.un (.nil))))), by first | trivial | simp⟩
  show SS _ _ [_, _, _, _, _] _ _
  exact ss_retV (dv_var 3 rfl) (by unfold kDrawn; rw [if_neg (of_decide_eq_false h1)]; rfl)

theorem sc__law_due : FnScope ["_law_text_here", "_law_held", "_law_seen", "_law_row", "_law_things", "_law_word", "_law_sign_here", "_law_share"] ["_law_text_here"] (defScope s__law_due) := ⟨rfl, rfl, rfl, by decide +kernel, rfl, by decide +kernel, by decide +kernel⟩
theorem ok__law_due {P : Program} {w : World} {K : Fg} {mg : Str → Option Value} {base : Heap} (T : Tx K mg) (u : Str) (hz : u.length ≤ 1900) (ha9 : asc u) :
    FnOk P w K mg base (L2.CX P w) 2 T.a__law_due T.fd__law_due ["_law_text_here"] (sp1 K [.v (.str u)] (.ret (.fz (dOLL (dueO u))))) := by
  have rl9 := rows_len u; have dl9 := dueH_len u; have fl9 := dueH_fl hz
  refine ok_def (m := 7) T.F__law_due sc__law_due rfl rfl fun cdv0 A0 out0 s0 G0 H0 E0 hr xo hp hx => ?_
  refine ss_o 1 xo.nd (do_nil (tl tI)) ?_
  show SS _ _ [_, _, _, _, _, _, _, _] _ _
  refine ss_o 2 xo.nd (do_nil tI) ?_
  show SS _ _ [_, _, _, _, _, _, _, _] _ _
  refine ss_for1 xo hp 3 (di_zS (DO.dat (do_split (dv_var 0 rfl) dv_str (by decide) (by /-_law_due.1-/ first | (exact Nat.le_trans (show _ ≤ 100000 by omega) (by decide)) | exact Nat.le_trans (Nat.add_le_add_right rz9 2) (Nat.le_trans (show _ ≤ 100000 by omega) (by decide)))))) (fun i ρ => (((((ρ).set 1 (.ow ((tl (tl tI)) (((rowsOf u).take i).map fun r => (restOf r).map intOf)))).set 2 (.ow ((tl tI) ((((rowsOf u).take i).map fun r => (restOf r).map intOf).flatten)))).set 3 .un).set 4 .un).set 5 .un) (fun i => ∀ r ∈ (rowsOf u).take i, ((restOf r).all fun w => !wBad w) = true) (.same (Wk.eq (by rfl) (Wk.eq (by rfl) (.un (.un (.un (.same (.same (.nil))))))))) (by simp) (fun i hi hI => ?_) (fun hI => ?_)
  ·
    show SS _ _ [_, _, _, _, _, _, _, _] _ _
    have hi9 : i < (rowsOf u).length := hi
    have hm9 := getD_memA hi9
    have rz9 := row_len hm9
    have sl9 := rest_len ((rowsOf u).getD i default)
    have fi9 := dueT_fl (u := u) hz i hi9
    have rz8 : ((Txt.split u "\n").getD i default).length ≤ u.length := rz9
    refine ss_o 4 xo.nd (do_nil tI) ?_
    show SS _ _ [_, _, _, _, _, _, _, _] _ _
    refine ss_for1 xo hp 5 (di_zS (DO.dat (do_sl (f := PyData.str) (DO.dat (do_split (dv_var 3 rfl) dv_str (by decide) (by /-_law_due.2-/ first | (exact Nat.le_trans (show _ ≤ 100000 by omega) (by decide)) | exact Nat.le_trans (Nat.add_le_add_right rz9 2) (Nat.le_trans (show _ ≤ 100000 by omega) (by decide))))) (ox_some dv_int) ox_none))) (fun j ρ => ((ρ).set 4 (.ow ((tl tI) (((restOf ((rowsOf u).getD i default)).take j).map intOf)))).set 5 .un) (fun j => ∀ w ∈ (restOf ((rowsOf u).getD i default)).take j, wBad w = false) (.same (.same (.same (.same (Wk.eq (by rfl) (.un (.same (.same (.nil))))))))) (by simp) (fun j hj hJ => ?_) (fun hJ => ?_)
    ·
      show SS _ _ [_, _, _, _, _, _, _, _] _ _
      have hw9 : _ ∈ restOf ((rowsOf u).getD i default) := getD_memA (xs := restOf ((rowsOf u).getD i default)) hj
      have wz9 := word_len hm9 hw9
      have wz8 : ((pySl (Txt.split ((Txt.split u "\n").getD i default) " ") (some 1) none).getD j default).length ≤ u.length := wz9
      have wz7 : ((pySl (Txt.split ((Txt.split u "\n").getD i default) " ") (some 1) none).getD j default).cps.toList.length ≤ u.length := by rw [← TL.len_tl]; exact wz9
      have hj9 : j < (restOf ((rowsOf u).getD i default)).length := hj
      refine ss_ifL (DW.pt (dw_or (dt_eqStr (dv_var 5 rfl) dv_str) (fun h1 => (dw_or (dt_gt (dv_lenT (dv_var 5 rfl) (by /-_law_due.3-/ first | (exact Nat.le_trans (show _ ≤ 100000 by omega) (by decide)) | (simp; omega) | (rw [List.take_length]; simp only [List.length_map]; exact fi9) | (simp only [List.length_map, List.length_take]; omega) | (simp only [List.length_cons, List.length_nil]; omega) | exact fl9) T.bt.len) dv_int) (fun h2 => (dw_or1 (dt_neL xo.hu64 (DO.dat (do_lcM xo [("_law_sign_here", 6)] (g := (tF PyData.str))  (ic_str (dv_var 5 rfl)) (blkOk_by (N := ["_law_text_here", "_law_held", "_law_seen", "_law_row", "_law_things", "_law_word", "_law_sign_here", "_law_share"]) (sc := defScope s__law_due) (by decide +kernel)) (fun _ _ _ _ _ => pg_name (i := 6) sc__law_due.nd rfl (Or.inl rfl)) (fun a _ => tgw_name _ 6 _) (by simp) (fun Γ' hK a ha s' H' C' cl' fp' xo => dts_one (dt_notInT (dv_var 6 rfl) dv_str)) (fun Γ' hK a ha hf s' H' C' cl' fp' xo => (DV.oS (dv_var 6 rfl))) (by /-_law_due.4-/ omega))) (DO.dat (do_nil (tF PyData.str))) (by /-_law_due.5-/ exact asc_strs ha9 hm9 hw9 _) (by simp)))))))) (fun h3 => ?_) (fun h3 => ?_)
      ·
        exact ss_retV dv_non (by rw [due_no1 hi hj h3]; rfl)
      show SS _ _ [_, _, _, _, _, _, _, _] _ _
      refine ss_app0 (g := tI) 4 (dpl_var 4 rfl) (DV.oI (dv_intT (dv_var 5 rfl) (by /-_law_due.6-/ exact due_int (wBad_h3 h3)) (by /-_law_due.7-/ exact Nat.le_trans (wBad_iff.mp (wBad_h3 h3)).2.1 (by decide)) T.bt.int)) rfl (by /-_law_due.8-/ first | (exact Nat.le_trans (show _ ≤ 100000 by omega) (by decide)) | (simp; omega) | (rw [List.take_length]; simp only [List.length_map]; exact fi9) | (simp only [List.length_map, List.length_take]; omega) | (simp only [List.length_cons, List.length_nil]; omega) | exact fl9) ?_
      show SS _ _ [_, _, _, _, _, _, _, _] _ _
      exact ss_nil ⟨.same (.same (.same (.same (Wk.eq (by rw [take_succ_map intOf (restOf ((rowsOf u).getD i default)) hj]; try rfl) (.un (.same (.same (.nil)))))))), by exact all_stepW hj hJ h3⟩
    show SS _ _ [_, _, _, _, _, _, _, _] _ _
    refine ss_o 2 xo.nd (do_catI (de_owT (g := (tl tI)) 2 rfl) (de_owT (g := (tl tI)) 4 rfl) (by /-_law_due.9-/ first | (exact Nat.le_trans (show _ ≤ 100000 by omega) (by decide)) | (simp; omega) | (rw [List.take_length]; simp only [List.length_map]; exact fi9) | (simp only [List.length_map, List.length_take]; omega) | (simp only [List.length_cons, List.length_nil]; omega) | exact fl9)) ?_
    show SS _ _ [_, _, _, _, _, _, _, _] _ _
    refine ss_app0V (g := (tl tI)) 1 4 (dpl_var 1 rfl) rfl rfl (by decide) (by /-_law_due.10-/ first | (exact Nat.le_trans (show _ ≤ 100000 by omega) (by decide)) | (simp; omega) | (rw [List.take_length]; simp only [List.length_map]; exact fi9) | (simp only [List.length_map, List.length_take]; omega) | (simp only [List.length_cons, List.length_nil]; omega) | exact fl9) ?_
    show SS _ _ [_, _, _, _, _, _, _, _] _ _
    exact ss_nil ⟨.same (Wk.eq (by rw [take_succ_map (fun r => (restOf r).map intOf) (rowsOf u) hi, List.take_length]; try rfl) (Wk.eq (by rw [take_succ_map (fun r => (restOf r).map intOf) (rowsOf u) hi, List.take_length]; simp [restOf, wordsOf, rowsOf]) (.un (.un (.un (.same (.same (.nil)))))))), by exact all_stepR hi hI hJ⟩
  show SS _ _ [_, _, _, _, _, _, _, _] _ _
  refine ss_re (fun ρ => ((ρ).set 1 (.ow ((tl (tl tI)) (dueH u)))).set 2 (.ow ((tl tI) ((dueH u).flatten)))) (.same (Wk.eq (by rw [show (Txt.split u "\n").length = (rowsOf u).length from rfl, List.take_length]; rfl) (Wk.eq (by rw [show (Txt.split u "\n").length = (rowsOf u).length from rfl, List.take_length]; rfl) (.same (.same (.same (.same (.same (.nil))))))))) ?_
  show SS _ _ [_, _, _, _, _, _, _, _] _ _
  refine ss_frzT 1 (g := (tl (tl tI))) rfl ?_
  show SS _ _ [_, _, _, _, _, _, _, _] _ _
  refine ss_ifL (DW.pt (dw_or (dt_gt (dv_len (f := (dl dI)) (de_sh 1 rfl) T.bt.len) dv_int) (fun h4 => (dw_or (dt_neStr (DO.vS (do_call (ok__law_text T _ (by /-_law_due.11-/ exact dueH_b hI) (by /-_law_due.12-/ omega) (by /-_law_due.13-/ exact dueH_rl hz)) (hr.mono (by decide)) T.g__law_text T.F__law_text.kp T.b__law_text (by exact rfl) (da_ro (de_sh 1 rfl) da_nil))) (dv_var 0 rfl)) (fun h5 => (dw_or1 (dt_lt (dv_lenSet xo (de_owT (g := (tl tI)) 2 rfl) (by /-_law_due.14-/ first | (exact Nat.le_trans (show _ ≤ 100000 by omega) (by decide)) | (simp; omega) | (rw [List.take_length]; simp only [List.length_map]; exact fi9) | (simp only [List.length_map, List.length_take]; omega) | (simp only [List.length_cons, List.length_nil]; omega) | exact fl9) T.bt.len T.bt.set) (dv_len (f := dI) (de_owT (g := (tl tI)) 2 rfl) T.bt.len)))))))) (fun h6 => ?_) (fun h6 => ?_)
  ·
    exact ss_retV dv_non (by rw [due_no2 hI h6]; rfl)
  show SS _ _ [_, _, _, _, _, _, _, _] _ _
  refine ss_ifL (DW.pt (dw_or (dt_neD (f := (dl (dl dI))) xo.hu64 (DO.dat (do_lcM xo [("_law_share", 7)] (g := (tF (dl dI)))  (ic_z (f := (dl dI)) (fun a => .sh ((dl dI) a)) (de_sh 1 rfl) (fun _ => .sh)) (blkOk_by (N := ["_law_text_here", "_law_held", "_law_seen", "_law_row", "_law_things", "_law_word", "_law_sign_here", "_law_share"]) (sc := defScope s__law_due) (by decide +kernel)) (fun _ _ _ _ _ => pg_name (i := 7) sc__law_due.nd rfl (Or.inl rfl)) (fun a _ => tgw_name _ 7 _) (by simp) (fun Γ' hK a ha s' H' C' cl' fp' xo => dts_one (dt_neD (f := (dl dI)) xo.hu64 (de_sh 7 rfl) (DO.dat (do_sorted (de_sh 7 rfl) T.bt.sorted)))) (fun Γ' hK a ha hf s' H' C' cl' fp' xo => (DE.oF (f := (dl dI)) (de_sh 7 rfl))) (by /-_law_due.15-/ omega))) (DO.dat (do_nil (tl tI)))) (fun h7 => (dw_or1 (dt_gt (dv_max xo (DO.dat (do_catI (de_owT (g := (tl tI)) 2 rfl) (DO.dat (DO.eq (t' := tl tI [_]) (do_lst (da_v dv_int da_nil)) rfl)) (by /-_law_due.16-/ first | (exact Nat.le_trans (show _ ≤ 100000 by omega) (by decide)) | (simp; omega) | (rw [List.take_length]; simp only [List.length_map]; exact fi9) | (simp only [List.length_map, List.length_take]; omega) | (simp only [List.length_cons, List.length_nil]; omega) | exact fl9))) (by /-_law_due.17-/ simp) T.bt.max) dv_int))))) (fun h8 => ?_) (fun h8 => ?_)
  ·
    exact ss_retV dv_non (by rw [List.map_id'] at h8; rw [due_no3 hI h6 h8]; rfl)
  show SS _ _ [_, _, _, _, _, _, _, _] _ _
  exact ss_retZ (de_sh 1 rfl) (by rw [List.map_id'] at h8; rw [due_yes hI h6 h8]; rfl)


theorem sc__law_refused : FnScope ["_law_text_here", "error"] ["_law_text_here"] (defScope s__law_refused) := ⟨rfl, rfl, rfl, by decide +kernel, rfl, by decide +kernel, by decide +kernel⟩
theorem ok__law_refused {P : Program} {w : World} {K : Fg} {mg : Str → Option Value} {base : Heap} (T : Tx K mg) (d : D) (hd : isStr d = false) :
    FnOk P w K mg base (L2.CX P w) 6 T.a__law_refused T.fd__law_refused ["_law_text_here"] (sp1 K [.ro d] (.ret (.fz (.bool true)))) := by
  refine ok_defZ (m := 1) rfl T.F__law_refused sc__law_refused rfl rfl rfl fun cdv A outer s H E hr xo hp => ?_
  show SS _ _ [_, _] _ _
  refine ss_tryE (C := T.c_BadNote) 1 (Ex.refl _) xo.nd ⟨rfl, by decide, .inl T.g_DealError⟩ T.m_BadNote (fun pn xe rx => dn_call rx (ok_read_d T d hd) (hr.mono (by decide)) T.g_read T.F_read.kp T.b_read (by exact rfl) (da_ro (de_sh 0 rfl) da_nil)) (fun a oe pn z1 z2 => ?_)
  show SS _ _ [_, _] _ _
  refine ss_ifL (DW.pt (dw_or (dt_val (dv_isET T.e_BadNote z1 z2 (dv_var 1 rfl) (da_v (dv_glob rfl T.g_BadHeir rfl) (da_v (dv_glob rfl T.g_BadOrder rfl) (da_v (dv_glob rfl T.g_BadRing rfl) (da_v (dv_glob rfl T.g_BadShares rfl) da_nil)))) (cs := [.ref T.c_BadHeir, .ref T.c_BadOrder, .ref T.c_BadRing, .ref T.c_BadShares]) (.cons (.own _) (.cons (.own _) (.cons (.own _) (.cons (.own _) .nil)))) (by simp) (b := false) (kitAny_cons T.i_BadNote_BadHeir (fun _ => (kitAny_cons T.i_BadNote_BadOrder (fun _ => (kitAny_cons T.i_BadNote_BadRing (fun _ => (kitAny_cons T.i_BadNote_BadShares (fun _ => kitAny_nil) (fun z => by cases z))) (fun z => by cases z))) (fun z => by cases z))) (fun z => by cases z)) T.bt.isinstance)) fun h1 => dw_or1 (dt_val (dv_isET T.e_BadNote z1 z2 (dv_var 1 rfl) (da_v (dv_glob rfl T.g_BadTable rfl) (da_v (dv_glob rfl T.g_BadThing rfl) (da_v (dv_glob rfl T.g_Full rfl) da_nil))) (cs := [.ref T.c_BadTable, .ref T.c_BadThing, .ref T.c_Full]) (.cons (.own _) (.cons (.own _) (.cons (.own _) .nil))) (by simp) (b := false) (kitAny_cons T.i_BadNote_BadTable (fun _ => (kitAny_cons T.i_BadNote_BadThing (fun _ => (kitAny_cons T.i_BadNote_Full (fun _ => kitAny_nil) (fun z => by cases z))) (fun z => by cases z))) (fun z => by cases z)) T.bt.isinstance)))) (fun h => by simp at h) (fun h => ?_)
  exact ss_retV (dv_and (dv_isE T.e_BadNote z1 z2 (dv_var 1 rfl) (dv_glob (x := .ref T.c_BadNote) rfl T.g_BadNote rfl) (fun u r => r) T.i_BadNote_BadNote T.bt.isinstance) fun _ => dv_one (dv_isE T.e_BadNote z1 z2 (dv_var 1 rfl) (dv_bltn (x := .ty "ValueError") rfl T.bt.ValueError (by decide +kernel) rfl) (fun u r => r) T.v_BadNote T.bt.isinstance)) rfl
theorem ok__law_refused_t {P : Program} {w : World} {K : Fg} {mg : Str → Option Value} {base : Heap} (T : Tx K mg) (u : Str) (hz : u.length ≤ 1900) (hb : readB u = false) :
    FnOk P w K mg base (L2.CX P w) 6 T.a__law_refused T.fd__law_refused ["_law_text_here"] (sp1 K [.v (.str u)] (.ret (.fz (.bool true)))) := by
  refine ok_defZ (m := 1) rfl T.F__law_refused sc__law_refused rfl rfl rfl fun cdv A outer s H E hr xo hp => ?_
  show SS _ _ [_, _] _ _
  refine ss_tryE (C := T.c_BadNote) 1 (Ex.refl _) xo.nd ⟨rfl, by decide, .inl T.g_DealError⟩ T.m_BadNote (fun pn xe rx => dn_call rx (ok_read_n T u hz hb) (hr.mono (by decide)) T.g_read T.F_read.kp T.b_read (by exact rfl) (da_v (dv_var 0 rfl) da_nil)) (fun a oe pn z1 z2 => ?_)
  show SS _ _ [_, _] _ _
  refine ss_ifL (DW.pt (dw_or (dt_val (dv_isET T.e_BadNote z1 z2 (dv_var 1 rfl) (da_v (dv_glob rfl T.g_BadHeir rfl) (da_v (dv_glob rfl T.g_BadOrder rfl) (da_v (dv_glob rfl T.g_BadRing rfl) (da_v (dv_glob rfl T.g_BadShares rfl) da_nil)))) (cs := [.ref T.c_BadHeir, .ref T.c_BadOrder, .ref T.c_BadRing, .ref T.c_BadShares]) (.cons (.own _) (.cons (.own _) (.cons (.own _) (.cons (.own _) .nil)))) (by simp) (b := false) (kitAny_cons T.i_BadNote_BadHeir (fun _ => (kitAny_cons T.i_BadNote_BadOrder (fun _ => (kitAny_cons T.i_BadNote_BadRing (fun _ => (kitAny_cons T.i_BadNote_BadShares (fun _ => kitAny_nil) (fun z => by cases z))) (fun z => by cases z))) (fun z => by cases z))) (fun z => by cases z)) T.bt.isinstance)) fun h1 => dw_or1 (dt_val (dv_isET T.e_BadNote z1 z2 (dv_var 1 rfl) (da_v (dv_glob rfl T.g_BadTable rfl) (da_v (dv_glob rfl T.g_BadThing rfl) (da_v (dv_glob rfl T.g_Full rfl) da_nil))) (cs := [.ref T.c_BadTable, .ref T.c_BadThing, .ref T.c_Full]) (.cons (.own _) (.cons (.own _) (.cons (.own _) .nil))) (by simp) (b := false) (kitAny_cons T.i_BadNote_BadTable (fun _ => (kitAny_cons T.i_BadNote_BadThing (fun _ => (kitAny_cons T.i_BadNote_Full (fun _ => kitAny_nil) (fun z => by cases z))) (fun z => by cases z))) (fun z => by cases z)) T.bt.isinstance)))) (fun h => by simp at h) (fun h => ?_)
  exact ss_retV (dv_and (dv_isE T.e_BadNote z1 z2 (dv_var 1 rfl) (dv_glob (x := .ref T.c_BadNote) rfl T.g_BadNote rfl) (fun u r => r) T.i_BadNote_BadNote T.bt.isinstance) fun _ => dv_one (dv_isE T.e_BadNote z1 z2 (dv_var 1 rfl) (dv_bltn (x := .ty "ValueError") rfl T.bt.ValueError (by decide +kernel) rfl) (fun u r => r) T.v_BadNote T.bt.isinstance)) rfl

end Th

set_option Elab.async false
set_option linter.all false
set_option maxRecDepth 100000
set_option maxHeartbeats 2000000
namespace Th
open PySem L2 DL
theorem sc_law : FnScope ["_law_script", "_law_text_here", "_law_due_here", "_law_found", "_law_share", "_law_thing"] ["_law_script"] (defScope s_law) := ⟨rfl, rfl, rfl, by decide +kernel, rfl, by decide +kernel, by decide +kernel⟩
theorem ok_law {P : Program} {w : World} {K : Fg} {mg : Str → Option Value} {base : Heap} (T : Tx K mg) (ns : List Int) (hns : ns.length ≤ 63) :
    FnOk P w K mg base (L2.CX P w) 7 T.a_law T.fd_law ["_law_script"] (sp1 K [.sc ns] (.ret (.fz (.bool (true))))) := by
  have kd := kDrawn_len ns
  refine ok_def (m := 5) T.F_law sc_law rfl rfl fun cdv0 A0 out0 s0 G0 H0 E0 hr xo hp hx => ?_
  refine ss_ifL (dt_not (dt_val (DO.vB (do_call (ok__law_refused T _ (by /-law.3-/ exact kOdd7_bad _)) (hr.mono (by decide)) T.g__law_refused T.F__law_refused.kp T.b__law_refused (by exact rfl) (da_ro (de_at (de_lstZ (da_v dv_non (da_v dv_int (da_sh (de_lstZ da_nil) (da_sh (DO.dat (f := (dl PyData.str)) (DO.eq (t' := tl (tF PyData.str) [_]) (do_lst (da_v dv_str da_nil)) rfl)) (da_v dv_bl (da_sh de_dct (da_sh (de_tup (da_v dv_str da_nil)) da_nil)))))))) (dv_mod (DO.vI (do_call (ok__law_at T _ _ (by /-law.1-/ first | assumption | omega | decide | (exact ⟨by omega, by omega⟩))) (hr.mono (by decide)) T.g__law_at T.F__law_at.kp T.b__law_at (by exact rfl) (da_sc (ds_var 0 rfl) (da_v dv_int da_nil)))) dv_int (by decide)) (atI_gD (by /-law.2-/ exact ⟨by omega, by simp; omega⟩))) da_nil))))) (fun h1 => by simp at h1) (fun h1 => ?_)
  show SS _ _ [_, _, _, _, _, _] _ _
  refine ss_v 1 xo.nd (DO.vS (do_call (ok__law_drawn T _ ) (hr.mono (by decide)) T.g__law_drawn T.F__law_drawn.kp T.b__law_drawn (by exact rfl) (da_sc (ds_var 0 rfl) da_nil))) ?_
  show SS _ _ [_, _, _, _, _, _] _ _
  refine ss_z 2 xo.nd (DO.fzv (do_call (ok__law_due T _ (by /-law.4-/ omega) (by /-law.5-/ exact asc_drawn ns)) (hr.mono (by decide)) T.g__law_due T.F__law_due.kp T.b__law_due (by exact rfl) (da_v (dv_var 1 rfl) da_nil))) ?_
  show SS _ _ [_, _, _, _, _, _] _ _
  refine ss_ifL (dt_isN (de_sh 2 rfl)) (fun h2 => ?_) (fun h2 => ?_)
  ·
    have hn9 := isN_W h2
    exact ss_retV (DO.vB (do_call (ok__law_refused_t T _ (by /-law.6-/ omega) (by /-law.7-/ exact due_none hn9)) (hr.mono (by decide)) T.g__law_refused T.F__law_refused.kp T.b__law_refused (by exact rfl) (da_v (dv_var 1 rfl) da_nil))) (by simp; try rfl)
  obtain ⟨ds9, hb9⟩ := isN_Wf h2
  refine ss_re (fun ρ => (ρ).set 2 (.sh ((dl (dl dI)) (dueH (kDrawn ns))))) (.same (.same (Wk.eq (by rw [ds9]; rfl) (.same (.same (.same (.nil))))))) ?_
  show SS _ _ [_, _, _, _, _, _] _ _
  show SS _ _ [_, _, _, _, _, _] _ _
  refine ss_o 3 xo.nd (do_call (ok_read_y T _ (by /-law.8-/ omega) (by /-law.9-/ exact hb9)) (hr.mono (by decide)) T.g_read T.F_read.kp T.b_read (by exact rfl) (da_v (dv_var 1 rfl) da_nil)) ?_
  show SS _ _ [_, _, _, _, _, _] _ _
  refine ss_ifL (DW.pt (dw_or (dt_not (dt_val (dv_isi (de_owT (g := (tl (tl tI))) 3 rfl) (kit_list _) T.bt.list PyProof.Rows.boot_list T.bt.isinstance))) (fun h3 => (dw_or1 (dt_neD (f := (dl (dl dI))) xo.hu64 (de_owT (g := (tl (tl tI))) 3 rfl) (de_sh 2 rfl)))))) (fun h4 => by simp [isList, dl] at h4) (fun h4 => ?_)
  show SS _ _ [_, _, _, _, _, _] _ _
  refine ss_forPre (g := tI) (f := dI) (x := -1) 3 4 5 (fun r => Er.er (g := tl tI) (f := dl dI) r) xo hp rfl (by decide) (by simp) (by refine ⟨by decide, by decide, by simp⟩) (fun _ => DV.oI (dv_neg dv_int)) (due_short hb9) (fun r hr' Γ' ρ' w hK' hl' hw hrep => ?_) ?_
  · refine s1_for1 (E := { nx := fun _ => False, rt := fun _ => False }) xo hp 5 (di_rI (de_roV 4 hw hrep)) (fun i ρ => ρ.set 5 .un) (wk_setU _ _) (fun i hi => ?_)
    refine ss_ifL (DW.pt (dw_or (dt_val (dv_isi (DV.dat (dv_var 5 (by rw [List.set_set]; exact set_at hl' (by simp)))) (kit_bool _) T.bt.bool PyProof.Rows.boot_bool T.bt.isinstance)) fun g1 => dw_or1 (dt_not (dt_val (dv_isi (DV.dat (dv_var 5 (by rw [List.set_set]; exact set_at hl' (by simp)))) (kit_int _) T.bt.int PyProof.Rows.boot_int T.bt.isinstance))))) (fun h => by simp [isBool, isInt, vD] at h) (fun h => ?_)
    exact ss_nil (by rw [List.set_set]; exact wk_set5 _ _ _)
  show SS _ _ [_, _, _, _, _, _] _ _
  show SS _ _ [_, _, _, _, _, _] _ _
  exact ss_retV (dv_eqD (f := (dl (dl dI))) xo.hu64 (DO.dat (do_call (ok_read_y T _ (by /-law.10-/ omega) (by /-law.11-/ exact hb9)) (hr.mono (by decide)) T.g_read T.F_read.kp T.b_read (by exact rfl) (da_v (dv_var 1 rfl) da_nil))) (de_sh 2 rfl)) (by simp; try rfl)

theorem all_mk {l : PySem.W.OpenLaw} {w : World} {K : Fg} {h : Heap} {mg : Str → Option Value} {fa : Addr} (X : K.In h) (G : h.Ns mainGlobals mg) (hfa : mg "law" = some (.ref fa))
    {f0 : Addr} {od0 an0 : Option Addr} {sl0 : Array (Option Value)} {oc0 kV0 dc0 pm0 cd0 ct0 : Value}
    (a0 : PySem.W.nsIn K mainGlobals "is_among" = some (some (.ref f0))) (l0 : K.lookup f0 = some ⟨oc0, od0, .func (PySem.W.fnOf "is_among" "is_among" (defArgs s_is_among) (defBody s_is_among) (defScope s_is_among) .none kV0 dc0 pm0 an0 cd0 ct0), sl0⟩) (c0 : PySem.W.codeIn K cd0 "is_among" = true) (k0 : PySem.W.keepIn K (.ref f0) = true)
    {f1 : Addr} {od1 an1 : Option Addr} {sl1 : Array (Option Value)} {oc1 kV1 dc1 pm1 cd1 ct1 : Value}
    (a1 : PySem.W.nsIn K mainGlobals "are_things" = some (some (.ref f1))) (l1 : K.lookup f1 = some ⟨oc1, od1, .func (PySem.W.fnOf "are_things" "are_things" (defArgs s_are_things) (defBody s_are_things) (defScope s_are_things) .none kV1 dc1 pm1 an1 cd1 ct1), sl1⟩) (c1 : PySem.W.codeIn K cd1 "are_things" = true) (k1 : PySem.W.keepIn K (.ref f1) = true)
    {f2 : Addr} {od2 an2 : Option Addr} {sl2 : Array (Option Value)} {oc2 kV2 dc2 pm2 cd2 ct2 : Value}
    (a2 : PySem.W.nsIn K mainGlobals "are_shares" = some (some (.ref f2))) (l2 : K.lookup f2 = some ⟨oc2, od2, .func (PySem.W.fnOf "are_shares" "are_shares" (defArgs s_are_shares) (defBody s_are_shares) (defScope s_are_shares) .none kV2 dc2 pm2 an2 cd2 ct2), sl2⟩) (c2 : PySem.W.codeIn K cd2 "are_shares" = true) (k2 : PySem.W.keepIn K (.ref f2) = true)
    {f3 : Addr} {od3 an3 : Option Addr} {sl3 : Array (Option Value)} {oc3 kV3 dc3 pm3 cd3 ct3 : Value}
    (a3 : PySem.W.nsIn K mainGlobals "number_of" = some (some (.ref f3))) (l3 : K.lookup f3 = some ⟨oc3, od3, .func (PySem.W.fnOf "number_of" "number_of" (defArgs s_number_of) (defBody s_number_of) (defScope s_number_of) .none kV3 dc3 pm3 an3 cd3 ct3), sl3⟩) (c3 : PySem.W.codeIn K cd3 "number_of" = true) (k3 : PySem.W.keepIn K (.ref f3) = true)
    {f4 : Addr} {od4 an4 : Option Addr} {sl4 : Array (Option Value)} {oc4 kV4 dc4 pm4 cd4 ct4 : Value}
    (a4 : PySem.W.nsIn K mainGlobals "read" = some (some (.ref f4))) (l4 : K.lookup f4 = some ⟨oc4, od4, .func (PySem.W.fnOf "read" "read" (defArgs s_read) (defBody s_read) (defScope s_read) .none kV4 dc4 pm4 an4 cd4 ct4), sl4⟩) (c4 : PySem.W.codeIn K cd4 "read" = true) (k4 : PySem.W.keepIn K (.ref f4) = true)
    {f5 : Addr} {od5 an5 : Option Addr} {sl5 : Array (Option Value)} {oc5 kV5 dc5 pm5 cd5 ct5 : Value}
    (a5 : PySem.W.nsIn K mainGlobals "_law_at" = some (some (.ref f5))) (l5 : K.lookup f5 = some ⟨oc5, od5, .func (PySem.W.fnOf "_law_at" "_law_at" (defArgs s__law_at) (defBody s__law_at) (defScope s__law_at) .none kV5 dc5 pm5 an5 cd5 ct5), sl5⟩) (c5 : PySem.W.codeIn K cd5 "_law_at" = true) (k5 : PySem.W.keepIn K (.ref f5) = true)
    {f6 : Addr} {od6 an6 : Option Addr} {sl6 : Array (Option Value)} {oc6 kV6 dc6 pm6 cd6 ct6 : Value}
    (a6 : PySem.W.nsIn K mainGlobals "_law_mixed" = some (some (.ref f6))) (l6 : K.lookup f6 = some ⟨oc6, od6, .func (PySem.W.fnOf "_law_mixed" "_law_mixed" (defArgs s__law_mixed) (defBody s__law_mixed) (defScope s__law_mixed) .none kV6 dc6 pm6 an6 cd6 ct6), sl6⟩) (c6 : PySem.W.codeIn K cd6 "_law_mixed" = true) (k6 : PySem.W.keepIn K (.ref f6) = true)
    {f7 : Addr} {od7 an7 : Option Addr} {sl7 : Array (Option Value)} {oc7 kV7 dc7 pm7 cd7 ct7 : Value}
    (a7 : PySem.W.nsIn K mainGlobals "_law_parts" = some (some (.ref f7))) (l7 : K.lookup f7 = some ⟨oc7, od7, .func (PySem.W.fnOf "_law_parts" "_law_parts" (defArgs s__law_parts) (defBody s__law_parts) (defScope s__law_parts) .none kV7 dc7 pm7 an7 cd7 ct7), sl7⟩) (c7 : PySem.W.codeIn K cd7 "_law_parts" = true) (k7 : PySem.W.keepIn K (.ref f7) = true)
    {f8 : Addr} {od8 an8 : Option Addr} {sl8 : Array (Option Value)} {oc8 kV8 dc8 pm8 cd8 ct8 : Value}
    (a8 : PySem.W.nsIn K mainGlobals "_law_text" = some (some (.ref f8))) (l8 : K.lookup f8 = some ⟨oc8, od8, .func (PySem.W.fnOf "_law_text" "_law_text" (defArgs s__law_text) (defBody s__law_text) (defScope s__law_text) .none kV8 dc8 pm8 an8 cd8 ct8), sl8⟩) (c8 : PySem.W.codeIn K cd8 "_law_text" = true) (k8 : PySem.W.keepIn K (.ref f8) = true)
    {f9 : Addr} {od9 an9 : Option Addr} {sl9 : Array (Option Value)} {oc9 kV9 dc9 pm9 cd9 ct9 : Value}
    (a9 : PySem.W.nsIn K mainGlobals "_law_sign" = some (some (.ref f9))) (l9 : K.lookup f9 = some ⟨oc9, od9, .func (PySem.W.fnOf "_law_sign" "_law_sign" (defArgs s__law_sign) (defBody s__law_sign) (defScope s__law_sign) .none kV9 dc9 pm9 an9 cd9 ct9), sl9⟩) (c9 : PySem.W.codeIn K cd9 "_law_sign" = true) (k9 : PySem.W.keepIn K (.ref f9) = true)
    {f10 : Addr} {od10 an10 : Option Addr} {sl10 : Array (Option Value)} {oc10 kV10 dc10 pm10 cd10 ct10 : Value}
    (a10 : PySem.W.nsIn K mainGlobals "_law_changed" = some (some (.ref f10))) (l10 : K.lookup f10 = some ⟨oc10, od10, .func (PySem.W.fnOf "_law_changed" "_law_changed" (defArgs s__law_changed) (defBody s__law_changed) (defScope s__law_changed) .none kV10 dc10 pm10 an10 cd10 ct10), sl10⟩) (c10 : PySem.W.codeIn K cd10 "_law_changed" = true) (k10 : PySem.W.keepIn K (.ref f10) = true)
    {f11 : Addr} {od11 an11 : Option Addr} {sl11 : Array (Option Value)} {oc11 kV11 dc11 pm11 cd11 ct11 : Value}
    (a11 : PySem.W.nsIn K mainGlobals "_law_drawn" = some (some (.ref f11))) (l11 : K.lookup f11 = some ⟨oc11, od11, .func (PySem.W.fnOf "_law_drawn" "_law_drawn" (defArgs s__law_drawn) (defBody s__law_drawn) (defScope s__law_drawn) .none kV11 dc11 pm11 an11 cd11 ct11), sl11⟩) (c11 : PySem.W.codeIn K cd11 "_law_drawn" = true) (k11 : PySem.W.keepIn K (.ref f11) = true)
    {f12 : Addr} {od12 an12 : Option Addr} {sl12 : Array (Option Value)} {oc12 kV12 dc12 pm12 cd12 ct12 : Value}
    (a12 : PySem.W.nsIn K mainGlobals "_law_due" = some (some (.ref f12))) (l12 : K.lookup f12 = some ⟨oc12, od12, .func (PySem.W.fnOf "_law_due" "_law_due" (defArgs s__law_due) (defBody s__law_due) (defScope s__law_due) .none kV12 dc12 pm12 an12 cd12 ct12), sl12⟩) (c12 : PySem.W.codeIn K cd12 "_law_due" = true) (k12 : PySem.W.keepIn K (.ref f12) = true)
    {f13 : Addr} {od13 an13 : Option Addr} {sl13 : Array (Option Value)} {oc13 kV13 dc13 pm13 cd13 ct13 : Value}
    (a13 : PySem.W.nsIn K mainGlobals "_law_refused" = some (some (.ref f13))) (l13 : K.lookup f13 = some ⟨oc13, od13, .func (PySem.W.fnOf "_law_refused" "_law_refused" (defArgs s__law_refused) (defBody s__law_refused) (defScope s__law_refused) .none kV13 dc13 pm13 an13 cd13 ct13), sl13⟩) (c13 : PySem.W.codeIn K cd13 "_law_refused" = true) (k13 : PySem.W.keepIn K (.ref f13) = true)
    {f14 : Addr} {od14 an14 : Option Addr} {sl14 : Array (Option Value)} {oc14 kV14 dc14 pm14 cd14 ct14 : Value}
    (a14 : PySem.W.nsIn K mainGlobals "law" = some (some (.ref f14))) (l14 : K.lookup f14 = some ⟨oc14, od14, .func (PySem.W.fnOf "law" "law" (defArgs s_law) (defBody s_law) (defScope s_law) .none kV14 dc14 pm14 an14 cd14 ct14), sl14⟩) (c14 : PySem.W.codeIn K cd14 "law" = true) (k14 : PySem.W.keepIn K (.ref f14) = true)
    {t_MOST_HEIRS : Tok} (q_MOST_HEIRS : PySem.W.nsIn K mainGlobals "MOST_HEIRS" = some (some (.int 8 t_MOST_HEIRS)))
    {t_MOST_THINGS : Tok} (q_MOST_THINGS : PySem.W.nsIn K mainGlobals "MOST_THINGS" = some (some (.int 40 t_MOST_THINGS)))
    {t_FIGURES : Tok} (q_FIGURES : PySem.W.nsIn K mainGlobals "FIGURES" = some (some (.str "0123456789" t_FIGURES)))
    {C_BadNote : Addr} (aC_BadNote : PySem.W.nsIn K mainGlobals "BadNote" = some (some (.ref C_BadNote))) (xC_BadNote : PySem.W.excIn K C_BadNote [.type "ValueError", .type "Exception", .type "BaseException", .type "object"] "ValueError.__new__" = true) (kC_BadNote : PySem.W.keepIn K (.ref C_BadNote) = true) (bC_BadNote : PySem.W.subIn K (.ref C_BadNote) (.type "BaseException") = some true) (tC_BadNote : PySem.W.typeIn K (.ref C_BadNote) = some (.type "type"))
    {C_DealError : Addr} (aC_DealError : PySem.W.nsIn K mainGlobals "DealError" = some (some (.ref C_DealError)))
    (tC_DealError : PySem.W.typeIn K (.ref C_DealError) = some (.type "type"))
    (uC_DealError : PySem.W.isClsIn K C_DealError = true)
    {C_BadHeir : Addr} (aC_BadHeir : PySem.W.nsIn K mainGlobals "BadHeir" = some (some (.ref C_BadHeir)))
    (tC_BadHeir : PySem.W.typeIn K (.ref C_BadHeir) = some (.type "type"))
    (uC_BadHeir : PySem.W.isClsIn K C_BadHeir = true)
    (uC_BadNote : PySem.W.isClsIn K C_BadNote = true)
    {C_BadOrder : Addr} (aC_BadOrder : PySem.W.nsIn K mainGlobals "BadOrder" = some (some (.ref C_BadOrder)))
    (tC_BadOrder : PySem.W.typeIn K (.ref C_BadOrder) = some (.type "type"))
    (uC_BadOrder : PySem.W.isClsIn K C_BadOrder = true)
    {C_BadRing : Addr} (aC_BadRing : PySem.W.nsIn K mainGlobals "BadRing" = some (some (.ref C_BadRing)))
    (tC_BadRing : PySem.W.typeIn K (.ref C_BadRing) = some (.type "type"))
    (uC_BadRing : PySem.W.isClsIn K C_BadRing = true)
    {C_BadShares : Addr} (aC_BadShares : PySem.W.nsIn K mainGlobals "BadShares" = some (some (.ref C_BadShares)))
    (tC_BadShares : PySem.W.typeIn K (.ref C_BadShares) = some (.type "type"))
    (uC_BadShares : PySem.W.isClsIn K C_BadShares = true)
    {C_BadTable : Addr} (aC_BadTable : PySem.W.nsIn K mainGlobals "BadTable" = some (some (.ref C_BadTable)))
    (tC_BadTable : PySem.W.typeIn K (.ref C_BadTable) = some (.type "type"))
    (uC_BadTable : PySem.W.isClsIn K C_BadTable = true)
    {C_BadThing : Addr} (aC_BadThing : PySem.W.nsIn K mainGlobals "BadThing" = some (some (.ref C_BadThing)))
    (tC_BadThing : PySem.W.typeIn K (.ref C_BadThing) = some (.type "type"))
    (uC_BadThing : PySem.W.isClsIn K C_BadThing = true)
    {C_Full : Addr} (aC_Full : PySem.W.nsIn K mainGlobals "Full" = some (some (.ref C_Full)))
    (tC_Full : PySem.W.typeIn K (.ref C_Full) = some (.type "type"))
    (uC_Full : PySem.W.isClsIn K C_Full = true)
    (BD_ : PySem.W.subIn K (.ref C_DealError) (.type "BaseException") = some true)
    (Ehg_BadNote : PySem.W.findIn K (.ref C_BadNote) "__getattribute__" = some (some (.builtin "BaseException.__getattribute__")))
    (Ehk_BadNote : PySem.W.findIn K (.ref C_BadNote) "__getattr__" = some none)
    (Ehd_BadNote : PySem.W.hasDictIn K C_BadNote = true)
    (Eha_BadNote : PySem.W.findIn K (.ref C_BadNote) "__class__" = some (some (.builtin "object.__class__")))
    (Ehn_BadNote : PySem.W.specialIn K (.builtin "object.__class__") "__get__" = some (some (.builtin "getset_descriptor.__get__")))
    (Eht_BadNote : PySem.W.takesIn K (.builtin "object.__class__") = some true)
    (Ehm_BadNote : PySem.W.mroIn K C_BadNote (.type "object") = some true)
    (SM_BadNote : PySem.W.subIn K (.ref C_BadNote) (.ref C_DealError) = some true) (SV_BadNote : PySem.W.subIn K (.ref C_BadNote) (.type "ValueError") = some true) (SS_BadNote : PySem.W.subIn K (.ref C_BadNote) (.ref C_BadNote) = some true)
    (I_BadNote_BadHeir : PySem.W.subIn K (.ref C_BadNote) (.ref C_BadHeir) = some false)
    (I_BadNote_BadOrder : PySem.W.subIn K (.ref C_BadNote) (.ref C_BadOrder) = some false)
    (I_BadNote_BadRing : PySem.W.subIn K (.ref C_BadNote) (.ref C_BadRing) = some false)
    (I_BadNote_BadShares : PySem.W.subIn K (.ref C_BadNote) (.ref C_BadShares) = some false)
    (I_BadNote_BadTable : PySem.W.subIn K (.ref C_BadNote) (.ref C_BadTable) = some false)
    (I_BadNote_BadThing : PySem.W.subIn K (.ref C_BadNote) (.ref C_BadThing) = some false)
    (I_BadNote_Full : PySem.W.subIn K (.ref C_BadNote) (.ref C_Full) = some false)
    (z_ValueError : PySem.W.nsIn K mainGlobals "ValueError" = some none)
    (z_all : PySem.W.nsIn K mainGlobals "all" = some none)
    (z_bool : PySem.W.nsIn K mainGlobals "bool" = some none)
    (z_int : PySem.W.nsIn K mainGlobals "int" = some none)
    (z_isinstance : PySem.W.nsIn K mainGlobals "isinstance" = some none)
    (z_len : PySem.W.nsIn K mainGlobals "len" = some none)
    (z_list : PySem.W.nsIn K mainGlobals "list" = some none)
    (z_max : PySem.W.nsIn K mainGlobals "max" = some none)
    (z_range : PySem.W.nsIn K mainGlobals "range" = some none)
    (z_set : PySem.W.nsIn K mainGlobals "set" = some none)
    (z_sorted : PySem.W.nsIn K mainGlobals "sorted" = some none)
    (z_str : PySem.W.nsIn K mainGlobals "str" = some none) :
    ∃ fd : FuncData, (∀ (s : Shared) (v : Value), BindsTo s fd ⟨[v], []⟩ [("_law_script", v)]) ∧ ∀ base : Heap, K.In base → base.Ns mainGlobals mg → FnOk l.prog w K mg base (L2.CX l.prog w) 7 fa fd ["_law_script"] (spLaw K) := by
  have e := hfa.symm.trans (PySem.W.mg_of X G a14)
  cases e
  let T : Tx K mg := { a_is_among := f0, fd_is_among := _, F_is_among := fun_mk (st := s_is_among) l0 c0 k0, g_is_among := PySem.W.mg_of X G a0, b_is_among := (fun_mk (st := s_is_among) l0 c0 k0).binds (ps := ["thing", "least", "most"]) (fun _ _ _ _ _ _ us hl => match us, hl with | [_, _, _], _ => rfl), a_are_things := f1, fd_are_things := _, F_are_things := fun_mk (st := s_are_things) l1 c1 k1, g_are_things := PySem.W.mg_of X G a1, b_are_things := (fun_mk (st := s_are_things) l1 c1 k1).binds (ps := ["thing", "many"]) (fun _ _ _ _ _ _ us hl => match us, hl with | [_, _], _ => rfl), a_are_shares := f2, fd_are_shares := _, F_are_shares := fun_mk (st := s_are_shares) l2 c2 k2, g_are_shares := PySem.W.mg_of X G a2, b_are_shares := (fun_mk (st := s_are_shares) l2 c2 k2).binds (ps := ["thing", "heirs", "things"]) (fun _ _ _ _ _ _ us hl => match us, hl with | [_, _, _], _ => rfl), a_number_of := f3, fd_number_of := _, F_number_of := fun_mk (st := s_number_of) l3 c3 k3, g_number_of := PySem.W.mg_of X G a3, b_number_of := (fun_mk (st := s_number_of) l3 c3 k3).binds (ps := ["word"]) (fun _ _ _ _ _ _ us hl => match us, hl with | [_], _ => rfl), a_read := f4, fd_read := _, F_read := fun_mk (st := s_read) l4 c4 k4, g_read := PySem.W.mg_of X G a4, b_read := (fun_mk (st := s_read) l4 c4 k4).binds (ps := ["text"]) (fun _ _ _ _ _ _ us hl => match us, hl with | [_], _ => rfl), a__law_at := f5, fd__law_at := _, F__law_at := fun_mk (st := s__law_at) l5 c5 k5, g__law_at := PySem.W.mg_of X G a5, b__law_at := (fun_mk (st := s__law_at) l5 c5 k5).binds (ps := ["_law_script", "_law_k"]) (fun _ _ _ _ _ _ us hl => match us, hl with | [_, _], _ => rfl), a__law_mixed := f6, fd__law_mixed := _, F__law_mixed := fun_mk (st := s__law_mixed) l6 c6 k6, g__law_mixed := PySem.W.mg_of X G a6, b__law_mixed := (fun_mk (st := s__law_mixed) l6 c6 k6).binds (ps := ["_law_cell", "_law_k"]) (fun _ _ _ _ _ _ us hl => match us, hl with | [_, _], _ => rfl), a__law_parts := f7, fd__law_parts := _, F__law_parts := fun_mk (st := s__law_parts) l7 c7 k7, g__law_parts := PySem.W.mg_of X G a7, b__law_parts := (fun_mk (st := s__law_parts) l7 c7 k7).binds (ps := ["_law_script"]) (fun _ _ _ _ _ _ us hl => match us, hl with | [_], _ => rfl), a__law_text := f8, fd__law_text := _, F__law_text := fun_mk (st := s__law_text) l8 c8 k8, g__law_text := PySem.W.mg_of X G a8, b__law_text := (fun_mk (st := s__law_text) l8 c8 k8).binds (ps := ["_law_held"]) (fun _ _ _ _ _ _ us hl => match us, hl with | [_], _ => rfl), a__law_sign := f9, fd__law_sign := _, F__law_sign := fun_mk (st := s__law_sign) l9 c9 k9, g__law_sign := PySem.W.mg_of X G a9, b__law_sign := (fun_mk (st := s__law_sign) l9 c9 k9).binds (ps := ["_law_number"]) (fun _ _ _ _ _ _ us hl => match us, hl with | [_], _ => rfl), a__law_changed := f10, fd__law_changed := _, F__law_changed := fun_mk (st := s__law_changed) l10 c10 k10, g__law_changed := PySem.W.mg_of X G a10, b__law_changed := (fun_mk (st := s__law_changed) l10 c10 k10).binds (ps := ["_law_text_here", "_law_number"]) (fun _ _ _ _ _ _ us hl => match us, hl with | [_, _], _ => rfl), a__law_drawn := f11, fd__law_drawn := _, F__law_drawn := fun_mk (st := s__law_drawn) l11 c11 k11, g__law_drawn := PySem.W.mg_of X G a11, b__law_drawn := (fun_mk (st := s__law_drawn) l11 c11 k11).binds (ps := ["_law_script"]) (fun _ _ _ _ _ _ us hl => match us, hl with | [_], _ => rfl), a__law_due := f12, fd__law_due := _, F__law_due := fun_mk (st := s__law_due) l12 c12 k12, g__law_due := PySem.W.mg_of X G a12, b__law_due := (fun_mk (st := s__law_due) l12 c12 k12).binds (ps := ["_law_text_here"]) (fun _ _ _ _ _ _ us hl => match us, hl with | [_], _ => rfl), a__law_refused := f13, fd__law_refused := _, F__law_refused := fun_mk (st := s__law_refused) l13 c13 k13, g__law_refused := PySem.W.mg_of X G a13, b__law_refused := (fun_mk (st := s__law_refused) l13 c13 k13).binds (ps := ["_law_text_here"]) (fun _ _ _ _ _ _ us hl => match us, hl with | [_], _ => rfl), a_law := fa, fd_law := _, F_law := fun_mk (st := s_law) l14 c14 k14, g_law := PySem.W.mg_of X G a14, b_law := (fun_mk (st := s_law) l14 c14 k14).binds (ps := ["_law_script"]) (fun _ _ _ _ _ _ us hl => match us, hl with | [_], _ => rfl), k_MOST_HEIRS := t_MOST_HEIRS, g_MOST_HEIRS := PySem.W.mg_of X G q_MOST_HEIRS, k_MOST_THINGS := t_MOST_THINGS, g_MOST_THINGS := PySem.W.mg_of X G q_MOST_THINGS, k_FIGURES := t_FIGURES, g_FIGURES := PySem.W.mg_of X G q_FIGURES, c_BadNote := C_BadNote, g_BadNote := PySem.W.mg_of X G aC_BadNote, x_BadNote := xC_BadNote, k_BadNote := kC_BadNote, b_BadNote := bC_BadNote, t_BadNote := tC_BadNote, c_DealError := C_DealError, g_DealError := PySem.W.mg_of X G aC_DealError, c_BadHeir := C_BadHeir, g_BadHeir := PySem.W.mg_of X G aC_BadHeir, c_BadOrder := C_BadOrder, g_BadOrder := PySem.W.mg_of X G aC_BadOrder, c_BadRing := C_BadRing, g_BadRing := PySem.W.mg_of X G aC_BadRing, c_BadShares := C_BadShares, g_BadShares := PySem.W.mg_of X G aC_BadShares, c_BadTable := C_BadTable, g_BadTable := PySem.W.mg_of X G aC_BadTable, c_BadThing := C_BadThing, g_BadThing := PySem.W.mg_of X G aC_BadThing, c_Full := C_Full, g_Full := PySem.W.mg_of X G aC_Full, e_BadNote := ⟨Ehg_BadNote, Ehk_BadNote, bC_BadNote, Ehd_BadNote, Eha_BadNote, Ehn_BadNote, Eht_BadNote, Ehm_BadNote⟩, m_BadNote := exm_of BD_ uC_DealError tC_DealError SM_BadNote, v_BadNote := kit_tyOf (by decide +kernel) SV_BadNote, i_BadNote_BadHeir := kit_not SS_BadNote uC_BadHeir tC_BadHeir I_BadNote_BadHeir, i_BadNote_BadNote := kit_self, i_BadNote_BadOrder := kit_not SS_BadNote uC_BadOrder tC_BadOrder I_BadNote_BadOrder, i_BadNote_BadRing := kit_not SS_BadNote uC_BadRing tC_BadRing I_BadNote_BadRing, i_BadNote_BadShares := kit_not SS_BadNote uC_BadShares tC_BadShares I_BadNote_BadShares, i_BadNote_BadTable := kit_not SS_BadNote uC_BadTable tC_BadTable I_BadNote_BadTable, i_BadNote_BadThing := kit_not SS_BadNote uC_BadThing tC_BadThing I_BadNote_BadThing, i_BadNote_Full := kit_not SS_BadNote uC_Full tC_Full I_BadNote_Full, bt := ⟨PySem.W.mg_none_of X G z_ValueError, PySem.W.mg_none_of X G z_all, PySem.W.mg_none_of X G z_bool, PySem.W.mg_none_of X G z_int, PySem.W.mg_none_of X G z_isinstance, PySem.W.mg_none_of X G z_len, PySem.W.mg_none_of X G z_list, PySem.W.mg_none_of X G z_max, PySem.W.mg_none_of X G z_range, PySem.W.mg_none_of X G z_set, PySem.W.mg_none_of X G z_sorted, PySem.W.mg_none_of X G z_str⟩ }
  exact ⟨PySem.W.fnOf "law" "law" (defArgs s_law) (defBody s_law) (defScope s_law) .none kV14 dc14 pm14 an14 cd14 ct14, fun s v => .of_eq rfl, fun base _ _ => law_ok fun ns hns => ok_law T ns hns⟩
end Th

set_option Elab.async false
set_option linter.all false
set_option maxRecDepth 100000

open PySem PySem.W PyProof.Rows
set_option maxRecDepth 100000 in
set_option maxHeartbeats 0 in
theorem PySem.Challenge.cw_thingdeal_k14_read_holds : PySem.Challenge.rw_thingdeal_k14_read.Holds := by
  w_on; o_law; k_head; (case hw => w_witness2)
  k_fill
  refine DL.law_walk (l := PySem.Challenge.rw_thingdeal_k14_read) (k := 7) (x := "_law_script") rfl rfl ⟨rfl, by decide, by decide⟩ (fun w h Y => PySem.W.kIn_of Y) ?F
  case F =>
    intro w mg fa h KX G hmg
    refine' Th.all_mk KX G hmg ?a0 ?l0 ?c0 ?k0 ?a1 ?l1 ?c1 ?k1 ?a2 ?l2 ?c2 ?k2 ?a3 ?l3 ?c3 ?k3 ?a4 ?l4 ?c4 ?k4 ?a5 ?l5 ?c5 ?k5 ?a6 ?l6 ?c6 ?k6 ?a7 ?l7 ?c7 ?k7 ?a8 ?l8 ?c8 ?k8 ?a9 ?l9 ?c9 ?k9 ?a10 ?l10 ?c10 ?k10 ?a11 ?l11 ?c11 ?k11 ?a12 ?l12 ?c12 ?k12 ?a13 ?l13 ?c13 ?k13 ?a14 ?l14 ?c14 ?k14 ?q_MOST_HEIRS ?q_MOST_THINGS ?q_FIGURES ?aC_BadNote ?xC_BadNote ?kC_BadNote ?bC_BadNote ?tC_BadNote ?aC_DealError ?tC_DealError ?uC_DealError ?aC_BadHeir ?tC_BadHeir ?uC_BadHeir ?uC_BadNote ?aC_BadOrder ?tC_BadOrder ?uC_BadOrder ?aC_BadRing ?tC_BadRing ?uC_BadRing ?aC_BadShares ?tC_BadShares ?uC_BadShares ?aC_BadTable ?tC_BadTable ?uC_BadTable ?aC_BadThing ?tC_BadThing ?uC_BadThing ?aC_Full ?tC_Full ?uC_Full ?BD_ ?Ehg_BadNote ?Ehk_BadNote ?Ehd_BadNote ?Eha_BadNote ?Ehn_BadNote ?Eht_BadNote ?Ehm_BadNote ?SM_BadNote ?SV_BadNote ?SS_BadNote ?I_BadNote_BadHeir ?I_BadNote_BadOrder ?I_BadNote_BadRing ?I_BadNote_BadShares ?I_BadNote_BadTable ?I_BadNote_BadThing ?I_BadNote_Full ?z_ValueError ?z_all ?z_bool ?z_int ?z_isinstance ?z_len ?z_list ?z_max ?z_range ?z_set ?z_sorted ?z_str
    (case a0 => k_is)
    (case l0 => k_is)
    (case c0 => k_is)
    (case k0 => k_is)
    (case a1 => k_is)
    (case l1 => k_is)
    (case c1 => k_is)
    (case k1 => k_is)
    (case a2 => k_is)
    (case l2 => k_is)
    (case c2 => k_is)
    (case k2 => k_is)
    (case a3 => k_is)
    (case l3 => k_is)
    (case c3 => k_is)
    (case k3 => k_is)
    (case a4 => k_is)
    (case l4 => k_is)
    (case c4 => k_is)
    (case k4 => k_is)
    (case a5 => k_is)
    (case l5 => k_is)
    (case c5 => k_is)
    (case k5 => k_is)
    (case a6 => k_is)
    (case l6 => k_is)
    (case c6 => k_is)
    (case k6 => k_is)
    (case a7 => k_is)
    (case l7 => k_is)
    (case c7 => k_is)
    (case k7 => k_is)
    (case a8 => k_is)
    (case l8 => k_is)
    (case c8 => k_is)
    (case k8 => k_is)
    (case a9 => k_is)
    (case l9 => k_is)
    (case c9 => k_is)
    (case k9 => k_is)
    (case a10 => k_is)
    (case l10 => k_is)
    (case c10 => k_is)
    (case k10 => k_is)
    (case a11 => k_is)
    (case l11 => k_is)
    (case c11 => k_is)
    (case k11 => k_is)
    (case a12 => k_is)
    (case l12 => k_is)
    (case c12 => k_is)
    (case k12 => k_is)
    (case a13 => k_is)
    (case l13 => k_is)
    (case c13 => k_is)
    (case k13 => k_is)
    (case a14 => k_is)
    (case l14 => k_is)
    (case c14 => k_is)
    (case k14 => k_is)
    (case q_MOST_HEIRS => k_is)
    (case q_MOST_THINGS => k_is)
    (case q_FIGURES => k_is)
    (case aC_BadNote => k_is)
    (case xC_BadNote => k_exc)
    (case kC_BadNote => k_is)
    (case bC_BadNote => k_is)
    (case tC_BadNote => k_is)
    (case aC_DealError => k_is)
    (case tC_DealError => k_is)
    (case uC_DealError => k_is)
    (case aC_BadHeir => k_is)
    (case tC_BadHeir => k_is)
    (case uC_BadHeir => k_is)
    (case uC_BadNote => k_is)
    (case aC_BadOrder => k_is)
    (case tC_BadOrder => k_is)
    (case uC_BadOrder => k_is)
    (case aC_BadRing => k_is)
    (case tC_BadRing => k_is)
    (case uC_BadRing => k_is)
    (case aC_BadShares => k_is)
    (case tC_BadShares => k_is)
    (case uC_BadShares => k_is)
    (case aC_BadTable => k_is)
    (case tC_BadTable => k_is)
    (case uC_BadTable => k_is)
    (case aC_BadThing => k_is)
    (case tC_BadThing => k_is)
    (case uC_BadThing => k_is)
    (case aC_Full => k_is)
    (case tC_Full => k_is)
    (case uC_Full => k_is)
    (case BD_ => k_is)
    (case Ehg_BadNote => k_is)
    (case Ehk_BadNote => k_is)
    (case Ehd_BadNote => k_is)
    (case Eha_BadNote => k_is)
    (case Ehn_BadNote => k_is)
    (case Eht_BadNote => k_is)
    (case Ehm_BadNote => k_is)
    (case SM_BadNote => k_is)
    (case SV_BadNote => k_is)
    (case SS_BadNote => k_is)
    (case I_BadNote_BadHeir => k_is)
    (case I_BadNote_BadOrder => k_is)
    (case I_BadNote_BadRing => k_is)
    (case I_BadNote_BadShares => k_is)
    (case I_BadNote_BadTable => k_is)
    (case I_BadNote_BadThing => k_is)
    (case I_BadNote_Full => k_is)
    (case z_ValueError => k_is)
    (case z_all => k_is)
    (case z_bool => k_is)
    (case z_int => k_is)
    (case z_isinstance => k_is)
    (case z_len => k_is)
    (case z_list => k_is)
    (case z_max => k_is)
    (case z_range => k_is)
    (case z_set => k_is)
    (case z_sorted => k_is)
    (case z_str => k_is)
