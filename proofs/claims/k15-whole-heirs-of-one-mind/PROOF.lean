import PyProof.Rows.All
import Wide.All
import OpenK.AllK
import Wide.FinOn
import HandS.ForMost
import HandS.ForExc
import HandS.Conv
import HandS.Deep
import HandS.SortInts
import HandS.SetFor
import HandS.IsInst
import HandS.Rev
import HandS.Zip
import HandS.ExcIs
import HandS.TryOnly
import HandS.HotCalls
import HandS.Style
import KE.SortData
import PySem.Challenge.RW_thingdeal_k15_whole_heirs_of_one_mind
set_option Elab.async false
set_option linter.all false
set_option maxRecDepth 100000
set_option maxHeartbeats 2000000
/-! DL: a data layer over the hand layer: values as data, slots by what they hold, owned lists by trees. -/
namespace DL
open PySem L2
abbrev D := PySem.PyData
abbrev Fg := PySem.W.Frag
def Ex (H H' : Hp) : Prop := ∀ a o, H a = some o → H' a = some o
theorem Ex.refl (H : Hp) : Ex H H := fun _ _ h => h
theorem Ex.trans {H H1 H2 : Hp} (a : Ex H H1) (b : Ex H1 H2) : Ex H H2 := fun x o h => b x o (a x o h)
theorem Ex.new {H : Hp} {p : Addr} {o : HO} (h : H p = none) : Ex H (upd H p o) := fun a u e => by
  rw [upd_ne (ne_of_none e h)]
  exact e
theorem Ex.mut {H H' : Hp} {p : Addr} {o : HO} (e : Ex H H') (h : H p = none) : Ex H (upd H' p o) := fun a u ha => by
  rw [upd_ne (ne_of_none ha h)]
  exact e a u ha
theorem Ex.none {H H' : Hp} (e : Ex H H') {a : Addr} (h : H' a = none) : H a = none := by
  cases q : H a with
  | none => rfl
  | some o => rw [e a o q] at h; cases h
theorem ex_l {K : Fg} {H H' : Hp} {a : Addr} {xs : List V} (e : Ex H H') (h : SqL K H a xs) : SqL K H' a xs := by
  rcases h with (h | ⟨o, h⟩) | h
  · exact .inl (.inl (e _ _ h))
  · exact .inl (.inr ⟨o, e _ _ h⟩)
  · exact .inr h
theorem ex_t {K : Fg} {H H' : Hp} {a : Addr} {xs : List V} (e : Ex H H') (h : SqT K H a xs) : SqT K H' a xs := by
  rcases h with (h | ⟨o, h⟩) | h
  · exact .inl (.inl (e _ _ h))
  · exact .inl (.inr ⟨o, e _ _ h⟩)
  · exact .inr h

/-! ### data at a value -/
mutual
inductive Rep (H : Hp) : V → D → Prop
  | non : Rep H .non .none
  | bl (b : Bool) : Rep H (.bl b) (.bool b)
  | int (i : Int) : Rep H (.int i) (.int i)
  | str (x : Str) : Rep H (.str x) (.str x)
  | lst {a : Addr} {xs : List V} {ds : List D} : H a = some (.lst xs) → Reps H xs ds → Rep H (.ref a) (.list ds)
  | tup {a : Addr} {xs : List V} {ds : List D} : H a = some (.tup xs) → Reps H xs ds → Rep H (.ref a) (.tuple ds)
  | dct {a : Addr} : H a = some (.dK []) → Rep H (.ref a) (.dict [])
inductive Reps (H : Hp) : List V → List D → Prop
  | nil : Reps H [] []
  | cons {v : V} {vs : List V} {d : D} {ds : List D} : Rep H v d → Reps H vs ds → Reps H (v :: vs) (d :: ds)
end
section
variable {H H' : Hp}
mutual
theorem Rep.mono (e : Ex H H') : ∀ {v : V} {d : D}, Rep H v d → Rep H' v d
  | _, _, .non => .non
  | _, _, .bl b => .bl b
  | _, _, .int i => .int i
  | _, _, .str x => .str x
  | _, _, .lst h r => .lst (e _ _ h) (Reps.mono e r)
  | _, _, .tup h r => .tup (e _ _ h) (Reps.mono e r)
  | _, _, .dct h => .dct (e _ _ h)
theorem Reps.mono (e : Ex H H') : ∀ {vs : List V} {ds : List D}, Reps H vs ds → Reps H' vs ds
  | _, _, .nil => .nil
  | _, _, .cons h r => .cons (Rep.mono e h) (Reps.mono e r)
end
theorem Reps.len : ∀ {vs : List V} {ds : List D}, Reps H vs ds → vs.length = ds.length
  | _, _, .nil => rfl
  | _, _, .cons _ r => by simp [Reps.len r]
theorem Reps.get : ∀ {vs : List V} {ds : List D} {i : Nat} {d : D}, Reps H vs ds → ds[i]? = some d → ∃ v, vs[i]? = some v ∧ Rep H v d
  | _, _, 0, d, .cons h r, e => by
    obtain rfl := Option.some.inj e
    exact ⟨_, rfl, h⟩
  | _, _, i + 1, d, .cons h r, e => by
    obtain ⟨v, h1, h2⟩ := Reps.get (i := i) (d := d) r (by simpa using e)
    exact ⟨v, by simpa using h1, h2⟩
  | _, _, 0, d, .nil, e => by cases e
  | _, _, _ + 1, d, .nil, e => by cases e
theorem Reps.getV : ∀ {vs : List V} {ds : List D} {i : Nat} {v : V}, Reps H vs ds → vs[i]? = some v → ∃ d, ds[i]? = some d ∧ Rep H v d
  | _, _, 0, d, .cons h r, e => by
    obtain rfl := Option.some.inj e
    exact ⟨_, rfl, h⟩
  | _, _, i + 1, d, .cons h r, e => by
    obtain ⟨v, h1, h2⟩ := Reps.getV (i := i) (v := d) r (by simpa using e)
    exact ⟨v, by simpa using h1, h2⟩
  | _, _, 0, d, .nil, e => by cases e
  | _, _, _ + 1, d, .nil, e => by cases e
theorem Reps.app : ∀ {vs ws : List V} {ds es : List D}, Reps H vs ds → Reps H ws es → Reps H (vs ++ ws) (ds ++ es)
  | _, _, _, _, .nil, s => s
  | _, _, _, _, .cons h r, s => .cons h (Reps.app r s)
theorem Reps.take : ∀ {vs : List V} {ds : List D} (n : Nat), Reps H vs ds → Reps H (vs.take n) (ds.take n)
  | _, _, 0, _ => by simpa using Reps.nil
  | _, _, n + 1, .nil => by simpa using Reps.nil
  | _, _, n + 1, .cons h r => .cons h (Reps.take n r)
theorem Reps.drop : ∀ {vs : List V} {ds : List D} (n : Nat), Reps H vs ds → Reps H (vs.drop n) (ds.drop n)
  | _, _, 0, r => by simpa using r
  | _, _, n + 1, .nil => by simpa using Reps.nil
  | _, _, n + 1, .cons h r => by simpa using Reps.drop n r
theorem Reps.ints : ∀ {vs : List V} {ns : List Int}, Reps H vs (ns.map .int) → vs = ns.map V.int
  | [], [], .nil => rfl
  | _ :: _, n :: ns, .cons (.int _) r => by rw [Reps.ints r]; rfl
theorem Reps.bools : ∀ {vs : List V} {ns : List Bool}, Reps H vs (ns.map .bool) → vs = ns.map V.bl
  | [], [], .nil => rfl
  | _ :: _, n :: ns, .cons (.bl _) r => by rw [Reps.bools r]; rfl
theorem Reps.strs : ∀ {vs : List V} {ns : List Str}, Reps H vs (ns.map .str) → vs = ns.map V.str
  | [], [], .nil => rfl
  | _ :: _, n :: ns, .cons (.str _) r => by rw [Reps.strs r]; rfl
theorem reps_ints : ∀ (ns : List Int), Reps H (ns.map V.int) (ns.map .int)
  | [] => .nil
  | n :: ns => .cons (.int n) (reps_ints ns)
theorem reps_bools : ∀ (ns : List Bool), Reps H (ns.map V.bl) (ns.map .bool)
  | [] => .nil
  | n :: ns => .cons (.bl n) (reps_bools ns)
theorem reps_strs : ∀ (ns : List Str), Reps H (ns.map V.str) (ns.map .str)
  | [] => .nil
  | n :: ns => .cons (.str n) (reps_strs ns)
end

/-! ### a step: what is frozen grows by new things, the heap keeps all -/
structure Step (G H G2 H2 : Hp) : Prop where
  g : Ex G G2
  h : Ex H H2
  f : ∀ b o, G b = none → H b = some o → G2 b = none
theorem Step.refl (G H : Hp) : Step G H G H := ⟨Ex.refl _, Ex.refl _, fun _ _ e _ => e⟩
theorem Step.trans {G H G1 H1 G2 H2 : Hp} (a : Step G H G1 H1) (b : Step G1 H1 G2 H2) : Step G H G2 H2 :=
  ⟨a.g.trans b.g, a.h.trans b.h, fun x o e e2 => b.f x o (a.f x o e e2) (a.h x o e2)⟩

/-! ### owned trees -/
inductive OT where
  | fz (d : D)
  | cell (ts : List OT)
mutual
def OT.er : OT → D
  | .fz d => d
  | .cell ts => .list (OT.ers ts)
def OT.ers : List OT → List D
  | [] => []
  | t :: ts => t.er :: OT.ers ts
end
theorem ers_map : ∀ ts : List OT, OT.ers ts = ts.map OT.er
  | [] => by unfold OT.ers; rfl
  | t :: ts => by unfold OT.ers; rw [ers_map ts]; rfl
mutual
inductive OwnT (G H : Hp) : OT → V → List Addr → Prop
  | fz {d : D} {v : V} : Rep G v d → OwnT G H (.fz d) v []
  | cell {ts : List OT} {a : Addr} {vs : List V} {A : List Addr} : G a = none → H a = some (.lst vs) → OwnTs G H ts vs A → OwnT G H (.cell ts) (.ref a) (a :: A)
inductive OwnTs (G H : Hp) : List OT → List V → List Addr → Prop
  | nil : OwnTs G H [] [] []
  | cons {t : OT} {ts : List OT} {v : V} {vs : List V} {A B : List Addr} : OwnT G H t v A → OwnTs G H ts vs B → OwnTs G H (t :: ts) (v :: vs) (A ++ B)
end
section
variable {G H G2 H2 : Hp}
mutual
theorem OwnT.more (s : Step G H G2 H2) : ∀ {t : OT} {v : V} {A : List Addr}, OwnT G H t v A → OwnT G2 H2 t v A
  | _, _, _, .fz h => .fz (h.mono s.g)
  | _, _, _, .cell hg hh r => .cell (s.f _ _ hg hh) (s.h _ _ hh) (OwnTs.more s r)
theorem OwnTs.more (s : Step G H G2 H2) : ∀ {t : List OT} {v : List V} {A : List Addr}, OwnTs G H t v A → OwnTs G2 H2 t v A
  | _, _, _, .nil => .nil
  | _, _, _, .cons h r => .cons (OwnT.more s h) (OwnTs.more s r)
end
mutual
theorem OwnT.frame (e : Ex G G2) : ∀ {t : OT} {v : V} {A : List Addr}, (∀ b ∈ A, G b = none → G2 b = none) → (∀ b ∈ A, H2 b = H b) → OwnT G H t v A → OwnT G2 H2 t v A
  | _, _, _, _, _, .fz h => .fz (h.mono e)
  | _, _, _, q, k, .cell hg hh r => .cell (q _ List.mem_cons_self hg) ((k _ List.mem_cons_self).trans hh) (OwnTs.frame e (fun b hb => q b (List.mem_cons_of_mem _ hb)) (fun b hb => k b (List.mem_cons_of_mem _ hb)) r)
theorem OwnTs.frame (e : Ex G G2) : ∀ {t : List OT} {v : List V} {A : List Addr}, (∀ b ∈ A, G b = none → G2 b = none) → (∀ b ∈ A, H2 b = H b) → OwnTs G H t v A → OwnTs G2 H2 t v A
  | _, _, _, _, _, .nil => .nil
  | _, _, _, q, k, .cons h r => .cons (OwnT.frame e (fun b hb => q b (List.mem_append_left _ hb)) (fun b hb => k b (List.mem_append_left _ hb)) h) (OwnTs.frame e (fun b hb => q b (List.mem_append_right _ hb)) (fun b hb => k b (List.mem_append_right _ hb)) r)
end
mutual
theorem OwnT.rep (e : Ex G H) : ∀ {t : OT} {v : V} {A : List Addr}, OwnT G H t v A → Rep H v t.er
  | _, _, _, .fz h => by unfold OT.er; exact h.mono e
  | _, _, _, .cell hg hh r => by unfold OT.er; exact .lst hh (OwnTs.reps e r)
theorem OwnTs.reps (e : Ex G H) : ∀ {t : List OT} {v : List V} {A : List Addr}, OwnTs G H t v A → Reps H v (OT.ers t)
  | _, _, _, .nil => by unfold OT.ers; exact .nil
  | _, _, _, .cons h r => by unfold OT.ers; exact .cons (OwnT.rep e h) (OwnTs.reps e r)
end
mutual
theorem OwnT.mem : ∀ {t : OT} {v : V} {A : List Addr}, OwnT G H t v A → ∀ b ∈ A, G b = none ∧ ∃ o, H b = some o
  | _, _, _, .fz h, b, hb => by cases hb
  | _, _, _, .cell hg hh r, b, hb => by
    rcases List.mem_cons.mp hb with e | hb
    · subst e; exact ⟨hg, _, hh⟩
    · exact OwnTs.mem r b hb
theorem OwnTs.mem : ∀ {t : List OT} {v : List V} {A : List Addr}, OwnTs G H t v A → ∀ b ∈ A, G b = none ∧ ∃ o, H b = some o
  | _, _, _, .nil, b, hb => by cases hb
  | _, _, _, .cons h r, b, hb => by
    rcases List.mem_append.mp hb with hb | hb
    · exact OwnT.mem h b hb
    · exact OwnTs.mem r b hb
end
theorem OwnTs.len : ∀ {ts : List OT} {vs : List V} {A : List Addr}, OwnTs G H ts vs A → vs.length = ts.length
  | _, _, _, .nil => rfl
  | _, _, _, .cons _ r => by simp [OwnTs.len r]
theorem OwnTs.app : ∀ {ts us : List OT} {vs ws : List V} {A B : List Addr}, OwnTs G H ts vs A → OwnTs G H us ws B → OwnTs G H (ts ++ us) (vs ++ ws) (A ++ B)
  | _, _, _, _, _, _, .nil, s => s
  | _, _, _, _, _, _, .cons h r, s => by
    rw [List.append_assoc]
    exact .cons h (OwnTs.app r s)
theorem OwnTs.one {t : OT} {v : V} {A : List Addr} (h : OwnT G H t v A) : OwnTs G H [t] [v] A := by
  have := OwnTs.cons h OwnTs.nil
  rwa [List.append_nil] at this
/-- an owned tree as frozen data: its cells join what is frozen -/
def frz (G H : Hp) (A : List Addr) : Hp := fun b => if b ∈ A then H b else G b
theorem frz_in {A : List Addr} {b : Addr} (h : b ∈ A) : frz G H A b = H b := by unfold frz; rw [if_pos h]
theorem frz_out {A : List Addr} {b : Addr} (h : b ∉ A) : frz G H A b = G b := by unfold frz; rw [if_neg h]
theorem frz_ex {A : List Addr} (h : ∀ b ∈ A, G b = none) : Ex G (frz G H A) := fun a o e => by
  by_cases q : a ∈ A
  · rw [h a q] at e; cases e
  · rw [frz_out q]; exact e
theorem frz_sub {A : List Addr} (h : Ex G H) : Ex (frz G H A) H := fun a o e => by
  by_cases q : a ∈ A
  · rw [frz_in q] at e; exact e
  · rw [frz_out q] at e; exact h a o e
mutual
theorem OwnT.frz {B : List Addr} (e : Ex G (DL.frz G H B)) : ∀ {t : OT} {v : V} {A : List Addr}, (∀ b ∈ A, b ∈ B) → OwnT G H t v A → Rep (DL.frz G H B) v t.er
  | _, _, _, _, .fz h => by unfold OT.er; exact h.mono e
  | _, _, _, q, .cell hg hh r => by
    unfold OT.er
    exact .lst ((frz_in (q _ List.mem_cons_self)).trans hh) (OwnTs.frzs e (fun b hb => q b (List.mem_cons_of_mem _ hb)) r)
theorem OwnTs.frzs {B : List Addr} (e : Ex G (DL.frz G H B)) : ∀ {t : List OT} {v : List V} {A : List Addr}, (∀ b ∈ A, b ∈ B) → OwnTs G H t v A → Reps (DL.frz G H B) v (OT.ers t)
  | _, _, _, _, .nil => by unfold OT.ers; exact .nil
  | _, _, _, q, .cons h r => by unfold OT.ers; exact .cons (OwnT.frz e (fun b hb => q b (List.mem_append_left _ hb)) h) (OwnTs.frzs e (fun b hb => q b (List.mem_append_right _ hb)) r)
end
end

/-! ### the fields of an object, all frozen -/
inductive FRep (G : Hp) : List (Str × V) → List (Str × D) → Prop
  | nil : FRep G [] []
  | cons {f : Str} {v : V} {d : D} {fv : List (Str × V)} {fs : List (Str × D)} : Rep G v d → FRep G fv fs → FRep G ((f, v) :: fv) ((f, d) :: fs)
theorem FRep.mono {G G2 : Hp} (e : Ex G G2) : ∀ {fv : List (Str × V)} {fs : List (Str × D)}, FRep G fv fs → FRep G2 fv fs
  | _, _, .nil => .nil
  | _, _, .cons h r => .cons (Rep.mono e h) (FRep.mono e r)
/-! ### slots -/
inductive Sl where
  | un
  | v (x : V)
  | sh (d : D)
  | ro (d : D)
  | ow (t : OT)
  | sc (ns : List Int)
  | ob (a C : Addr) (fs : List (Str × D))
  | oa (a : Addr) (t : OT)
  | rb (C : Addr) (fs : List (Str × D))
/-- one slot: I the entry's heap, G what is frozen, H the heap -/
inductive SlS (K : Fg) (I G H : Hp) : Option V → Sl → List Addr → Prop
  | un {o} : SlS K I G H o .un []
  | v {x} : SlS K I G H (some x) (.v x) []
  | sh {x d} : Rep G x d → SlS K I G H (some x) (.sh d) []
  | ro {x d} : Rep I x d → SlS K I G H (some x) (.ro d) []
  | ow {x t A} : OwnT G H t x A → SlS K I G H (some x) (.ow t) A
  | sc {a ns} : SqL K I a (ns.map V.int) → SlS K I G H (some (.ref a)) (.sc ns) []
  | ob {a dx C fv fs} : G a = none → H a = some (.ins C dx fv) → FRep G fv fs → SlS K I G H (some (.ref a)) (.ob a C fs) [a]
  | oa {a t A} : OwnT G H t (.ref a) A → SlS K I G H (some (.ref a)) (.oa a t) A
  | rb {a dx C fv fs} : I a = some (.ins C dx fv) → FRep I fv fs → SlS K I G H (some (.ref a)) (.rb C fs) []
inductive SlR (K : Fg) (I G H : Hp) : List (Option V) → List Sl → List Addr → Prop
  | nil : SlR K I G H [] [] []
  | cons {o s A σ ρ B} : SlS K I G H o s A → SlR K I G H σ ρ B → SlR K I G H (o :: σ) (s :: ρ) (A ++ B)
section
variable {K : Fg} {I G H G2 H2 : Hp}
theorem SlS.more (s : Step G H G2 H2) {o x A} : SlS K I G H o x A → SlS K I G2 H2 o x A
  | .un => .un
  | .v => .v
  | .sh h => .sh (h.mono s.g)
  | .ro h => .ro h
  | .ow h => .ow (h.more s)
  | .sc h => .sc h
  | .ob hg hh fr => .ob (s.f _ _ hg hh) (s.h _ _ hh) (fr.mono s.g)
  | .oa h => .oa (h.more s)
  | .rb h fr => .rb h fr
theorem SlR.more (s : Step G H G2 H2) : ∀ {σ ρ A}, SlR K I G H σ ρ A → SlR K I G2 H2 σ ρ A
  | _, _, _, .nil => .nil
  | _, _, _, .cons h r => .cons (h.more s) (SlR.more s r)
theorem SlS.frame (e : Ex G G2) {o x A} (q : ∀ b ∈ A, G b = none → G2 b = none) (k : ∀ b ∈ A, H2 b = H b) : SlS K I G H o x A → SlS K I G2 H2 o x A
  | .un => .un
  | .v => .v
  | .sh h => .sh (h.mono e)
  | .ro h => .ro h
  | .ow h => .ow (h.frame e q k)
  | .sc h => .sc h
  | .ob hg hh fr => .ob (q _ (List.mem_singleton.mpr rfl) hg) ((k _ (List.mem_singleton.mpr rfl)).trans hh) (fr.mono e)
  | .oa h => .oa (h.frame e q k)
  | .rb h fr => .rb h fr
theorem SlR.frame (e : Ex G G2) : ∀ {σ ρ A}, (∀ b ∈ A, G b = none → G2 b = none) → (∀ b ∈ A, H2 b = H b) → SlR K I G H σ ρ A → SlR K I G2 H2 σ ρ A
  | _, _, _, _, _, .nil => .nil
  | _, _, _, q, k, .cons h r => .cons (h.frame e (fun b hb => q b (List.mem_append_left _ hb)) (fun b hb => k b (List.mem_append_left _ hb))) (SlR.frame e (fun b hb => q b (List.mem_append_right _ hb)) (fun b hb => k b (List.mem_append_right _ hb)) r)
theorem SlS.mem {o x A} : SlS K I G H o x A → ∀ b ∈ A, G b = none ∧ ∃ u, H b = some u
  | .un, b, hb => by cases hb
  | .v, b, hb => by cases hb
  | .sh _, b, hb => by cases hb
  | .ro _, b, hb => by cases hb
  | .ow h, b, hb => h.mem b hb
  | .sc _, b, hb => by cases hb
  | .ob hg hh _, b, hb => by
    rw [List.mem_singleton.mp hb]
    exact ⟨hg, _, hh⟩
  | .oa h, b, hb => h.mem b hb
  | .rb _ _, b, hb => by cases hb
theorem SlR.mem : ∀ {σ ρ A}, SlR K I G H σ ρ A → ∀ b ∈ A, G b = none ∧ ∃ u, H b = some u
  | _, _, _, .nil, b, hb => by cases hb
  | _, _, _, .cons h r, b, hb => by
    rcases List.mem_append.mp hb with hb | hb
    · exact h.mem b hb
    · exact SlR.mem r b hb
theorem SlR.len : ∀ {σ ρ A}, SlR K I G H σ ρ A → σ.length = ρ.length
  | _, _, _, .nil => rfl
  | _, _, _, .cons _ r => by simp [SlR.len r]
theorem SlR.app : ∀ {σ ρ A τ π B}, SlR K I G H σ ρ A → SlR K I G H τ π B → SlR K I G H (σ ++ τ) (ρ ++ π) (A ++ B)
  | _, _, _, _, _, _, .nil, s => s
  | _, _, _, _, _, _, .cons h r, s => by
    rw [List.append_assoc]
    exact .cons h (SlR.app r s)
theorem SlR.uns : ∀ (n : Nat) (σ : List (Option V)), σ.length = n → SlR K I G H σ (List.replicate n .un) []
  | 0, [], _ => .nil
  | n + 1, o :: σ, h => .cons (A := []) (B := []) .un (SlR.uns n σ (by simpa using h))
theorem SlR.get : ∀ {i : Nat} {σ ρ A} {s : Sl}, SlR K I G H σ ρ A → ρ[i]? = some s → ∃ o B, σ[i]? = some o ∧ SlS K I G H o s B ∧ (∀ b ∈ B, b ∈ A)
  | 0, _, _, _, s, .cons h r, e => by
    obtain rfl := Option.some.inj e
    exact ⟨_, _, rfl, h, fun b hb => List.mem_append_left _ hb⟩
  | i + 1, _, _, _, s, .cons h r, e => by
    obtain ⟨o, B, h1, h2, h3⟩ := SlR.get (i := i) (s := s) r (by simpa using e)
    exact ⟨o, B, by simpa using h1, h2, fun b hb => List.mem_append_right _ (h3 b hb)⟩
  | 0, _, _, _, s, .nil, e => by cases e
  | _ + 1, _, _, _, s, .nil, e => by cases e
/-- a slot stands apart: it may be filled otherwise, in another heap that keeps the others -/
theorem SlR.focus : ∀ {i : Nat} {σ ρ A} {s : Sl}, SlR K I G H σ ρ A → ρ[i]? = some s → ∃ o A1 B A2, σ[i]? = some o ∧ SlS K I G H o s B ∧ A = A1 ++ (B ++ A2) ∧
    ∀ (G2 H2 : Hp) (o' : Option V) (s' : Sl) (B' : List Addr), Ex G G2 → (∀ b ∈ A1 ++ A2, G b = none → G2 b = none) → (∀ b ∈ A1 ++ A2, H2 b = H b) → SlS K I G2 H2 o' s' B' → SlR K I G2 H2 (σ.set i o') (ρ.set i s') (A1 ++ (B' ++ A2))
  | 0, _, _, _, s, .cons (A := A0) (B := B0) h r, e => by
    obtain rfl := Option.some.inj e
    refine ⟨_, [], A0, B0, rfl, h, by simp, fun G2 H2 o' s' B' eg q k h' => ?_⟩
    simp only [List.nil_append]
    exact .cons h' (r.frame eg (fun b hb => q b (by simpa using hb)) (fun b hb => k b (by simpa using hb)))
  | i + 1, _, _, _, s, .cons (A := A0) (B := B0) h r, e => by
    obtain ⟨o, A1, B, A2, h1, h2, h3, h4⟩ := SlR.focus (i := i) (s := s) r (by simpa using e)
    refine ⟨o, A0 ++ A1, B, A2, by simpa using h1, h2, by rw [h3]; simp, fun G2 H2 o' s' B' eg q k h' => ?_⟩
    have := SlR.cons (h.frame eg (fun b hb => q b (by simp [hb])) (fun b hb => k b (by simp [hb]))) (h4 G2 H2 o' s' B' eg (fun b hb => q b (by
      rcases List.mem_append.mp hb with z | z
      · simp [z]
      · simp [z])) (fun b hb => k b (by
      rcases List.mem_append.mp hb with z | z
      · simp [z]
      · simp [z])) h')
    simpa using this
  | 0, _, _, _, s, .nil, e => by cases e
  | _ + 1, _, _, _, s, .nil, e => by cases e
theorem SlR.nth {i : Nat} {σ ρ A} (r : SlR K I G H σ ρ A) (h : i < ρ.length) : ∃ s, ρ[i]? = some s := ⟨ρ[i], by simp [h]⟩
end

/-- the entry of a def: K, what was frozen, the heap -/
structure Gm where
  K : Fg
  G : Hp
  H : Hp
structure Sr (Γ : Gm) (G H : Hp) (σ : L2.St) (ρ : List Sl) : Prop where
  step : Step Γ.G Γ.H G H
  sub : Ex G H
  sl : ∃ A, SlR Γ.K Γ.H G H σ ρ A ∧ A.Nodup ∧ ∀ a ∈ A, Γ.H a = none
section
variable {Γ : Gm} {G H G2 H2 : Hp} {σ : L2.St} {ρ : List Sl}
theorem Sr.more (S : Sr Γ G H σ ρ) (s : Step G H G2 H2) (e : Ex G2 H2) : Sr Γ G2 H2 σ ρ := by
  obtain ⟨A, r, n, f⟩ := S.sl
  exact ⟨S.step.trans s, e, A, r.more s, n, f⟩
theorem nd_swap {A1 B A2 B' : List Addr} (h : (A1 ++ (B ++ A2)).Nodup) (h' : B'.Nodup) (d : ∀ b ∈ B', b ∉ A1 ++ A2) : (A1 ++ (B' ++ A2)).Nodup := by
  simp only [List.nodup_append, List.mem_append] at *
  obtain ⟨h1, ⟨h2, h3, h4⟩, h5⟩ := h
  refine ⟨h1, ⟨h', h3, ?_⟩, ?_⟩
  · intro a ha b hb e
    subst e
    exact d a ha (.inr hb)
  · intro a ha b hb e
    subst e
    rcases hb with hb | hb
    · exact d a hb (.inl ha)
    · exact h5 a ha a (.inr hb) rfl
theorem Sr.len (S : Sr Γ G H σ ρ) : σ.length = ρ.length := let ⟨_, r, _⟩ := S.sl; r.len
/-- a slot stored, with what an expression has made -/
theorem Sr.store {i : Nat} {x : V} {s : Sl} {B : List Addr} (S : Sr Γ G H σ ρ) (st : Step G H G2 H2) (e : Ex G2 H2) (h : SlS Γ.K Γ.H G2 H2 (some x) s B) (hn : B.Nodup) (hf : ∀ b ∈ B, H b = none) :
    Sr Γ G2 H2 (σ.set i (some x)) (ρ.set i s) := by
  by_cases hi : i < ρ.length
  case neg =>
    have e1 : σ.set i (some x) = σ := List.set_eq_of_length_le (by rw [S.len]; omega)
    have e2 : ρ.set i s = ρ := List.set_eq_of_length_le (by omega)
    rw [e1, e2]
    exact S.more st e
  obtain ⟨A, r, n, f⟩ := S.sl
  have fr : ∀ b ∈ B, b ∉ A := fun b hb z => by
    obtain ⟨_, o, q⟩ := r.mem b z
    rw [hf b hb] at q; cases q
  obtain ⟨s0, e0⟩ := r.nth hi
  obtain ⟨o, A1, B0, A2, h1, h2, rfl, h4⟩ := (r.more st).focus e0
  refine ⟨S.step.trans st, e, _, h4 G2 H2 _ _ _ (Ex.refl _) (fun _ _ e => e) (fun _ _ => rfl) h, nd_swap n hn fun b hb z => fr b hb ?_, fun a ha => ?_⟩
  · simp only [List.mem_append] at z ⊢
    rcases z with z | z
    · exact .inl z
    · exact .inr (.inr z)
  · simp only [List.mem_append] at ha
    rcases ha with z | z | z
    · exact f a (by simp [z])
    · exact S.step.h.none (hf a z)
    · exact f a (by simp [z])
end
end DL

set_option Elab.async false
set_option linter.all false
set_option maxRecDepth 100000
set_option maxHeartbeats 2000000
namespace L2
open PySem
theorem PE.weak {X : Cx} {e : Expr} {t t' : TE} (h : PE X e t) (w : ∀ σ H Q, t' σ H Q → t σ H Q) : PE X e t' := ⟨fun pins s σ H Q I q => h.run pins s σ H Q I (w _ _ _ q)⟩
theorem PT.weak {X : Cx} {e : Expr} {t t' : TT} (h : PT X e t) (w : ∀ σ H Q, t' σ H Q → t σ H Q) : PT X e t' := ⟨fun pins s σ H Q I q => h.run pins s σ H Q I (w _ _ _ q)⟩
theorem PW.weak {X : Cx} {e : Expr} {t t' : TT} (h : PW X e t) (w : ∀ σ H Q, t' σ H Q → t σ H Q) : PW X e t' := ⟨fun wh pins s σ H Q I q => h.run wh pins s σ H Q I (w _ _ _ q)⟩
theorem PA.weak {X : Cx} {e : List Expr} {t t' : TA} (h : PA X e t) (w : ∀ σ H Q, t' σ H Q → t σ H Q) : PA X e t' := ⟨fun pos pins s σ H Q I q => h.run pos pins s σ H Q I (w _ _ _ q)⟩
theorem PS.weak {X : Cx} {e : Stmt} {t t' : TS} (h : PS X e t) (w : ∀ D σ H, t' D σ H → t D σ H) : PS X e t' := ⟨fun pins s σ H D I q => h.run pins s σ H D I (w _ _ _ q)⟩
theorem PSs.weak {X : Cx} {e : List Stmt} {t t' : TS} (h : PSs X e t) (w : ∀ D σ H, t' D σ H → t D σ H) : PSs X e t' := ⟨fun pins s σ H D I q => h.run pins s σ H D I (w _ _ _ q)⟩
theorem PI.weak {X : Cx} {tg it : Expr} {t t' : TI} (h : PI X tg it t) (w : ∀ σ H R, t' σ H R → t σ H R) : PI X tg it t' := ⟨fun pins s σ H R I q => h.run pins s σ H R I (w _ _ _ q)⟩
end L2
namespace DL
open PySem L2

theorem pe_absurd {X : Cx} {e : Expr} : PE X e (fun _ _ _ => False) := ⟨fun _ _ _ _ _ _ h => h.elim⟩
theorem pt_absurd {X : Cx} {e : Expr} : PT X e (fun _ _ _ => False) := ⟨fun _ _ _ _ _ _ h => h.elim⟩
theorem pw_absurd {X : Cx} {e : Expr} : PW X e (fun _ _ _ => False) := ⟨fun _ _ _ _ _ _ _ h => h.elim⟩

inductive Kd | z | r | c
def tX (Γ : Gm) (ρ : List Sl) (P : Hp → Hp → Hp → V → Prop) : TE := fun σ H Q => ∃ G, Sr Γ G H σ ρ ∧ ∀ v G2 H2, Step G H G2 H2 → Ex G2 H2 → P H G2 H2 v → Q v H2
def pK (Γ : Gm) : Kd → D → Hp → Hp → Hp → V → Prop
  | .z, d => fun _ G2 _ v => Rep G2 v d
  | .r, d => fun _ _ _ v => Rep Γ.H v d
  | .c, d => fun _ _ H2 v => Rep H2 v d
def pO (t : OT) : Hp → Hp → Hp → V → Prop := fun H G2 H2 v => ∃ A, OwnT G2 H2 t v A ∧ A.Nodup ∧ ∀ a ∈ A, H a = none
def DV (X : Cx) (Γ : Gm) (ρ : List Sl) (e : Expr) (x : V) : Prop := PE X e (tX Γ ρ fun _ _ _ v => v = x)
def DE (X : Cx) (Γ : Gm) (ρ : List Sl) (e : Expr) (κ : Kd) (d : D) : Prop := PE X e (tX Γ ρ (pK Γ κ d))
def DO (X : Cx) (Γ : Gm) (ρ : List Sl) (e : Expr) (t : OT) : Prop := PE X e (tX Γ ρ (pO t))
/-- an expression that doesn't come back -/
def DN (X : Cx) (Γ : Gm) (ρ : List Sl) (e : Expr) : Prop := PE X e (tX Γ ρ fun _ _ _ _ => False)
def tT (Γ : Gm) (ρ : List Sl) (b : Bool) : TT := fun σ H Q => ∃ G, Sr Γ G H σ ρ ∧ ∀ G2 H2, Step G H G2 H2 → Ex G2 H2 → Q b H2
def DT (X : Cx) (Γ : Gm) (ρ : List Sl) (e : Expr) (b : Bool) : Prop := PT X e (tT Γ ρ b)
def DW (X : Cx) (Γ : Gm) (ρ : List Sl) (e : Expr) (b : Bool) : Prop := PW X e (tT Γ ρ b)

/-- a plain value as data -/
def vD : V → D
  | .bl b => .bool b
  | .int i => .int i
  | .str x => .str x
  | _ => .none
def vOk : V → Bool
  | .non => true
  | .bl _ => true
  | .int _ => true
  | .str _ => true
  | _ => false
theorem vD_rep {H : Hp} : ∀ {x : V}, vOk x = true → Rep H x (vD x)
  | .non, _ => .non
  | .bl b, _ => .bl b
  | .int i, _ => .int i
  | .str x, _ => .str x
  | .byt _, h => by cases h
  | .flt _, h => by cases h
  | .ref _, h => by cases h
  | .ty _, h => by cases h
/-- data that is a plain value -/
def dV : D → Option V
  | .none => some .non
  | .bool b => some (.bl b)
  | .int i => some (.int i)
  | .str x => some (.str x)
  | _ => none
theorem rep_dV {H : Hp} {v x : V} {d : D} (h : Rep H v d) (e : dV d = some x) : v = x := by
  cases h <;> first | exact Option.some.inj e | cases e

section
variable {X : Cx} {Γ : Gm} {ρ : List Sl} {e a b c : Expr} {es : List Expr} {pos p : Pos} {κ κ' : Kd} {d d' : D} {x y z : V} {t : OT} {σ : L2.St} {G H G1 H1 G2 H2 : Hp}
theorem pK_c {v : V} (S : Sr Γ G H σ ρ) (s : Step G H G2 H2) (ex : Ex G2 H2) (h : pK Γ κ d H G2 H2 v) : Rep H2 v d := by
  cases κ with
  | z => exact Rep.mono ex h
  | r => exact Rep.mono (S.step.h.trans s.h) h
  | c => exact h
theorem pK_more {v : V} {H0 : Hp} (s : Step G1 H1 G2 H2) (h : pK Γ κ d H0 G1 H1 v) {H0' : Hp} : pK Γ κ d H0' G2 H2 v := by
  cases κ with
  | z => exact Rep.mono s.g h
  | r => exact h
  | c => exact Rep.mono s.h h
theorem pO_more {v : V} (s0 : Step G H G1 H1) (s : Step G1 H1 G2 H2) (h : pO t H G1 H1 v) : pO t H G2 H2 v := by
  obtain ⟨A, o, n, f⟩ := h
  exact ⟨A, o.more s, n, f⟩
theorem tX_imp {P P' : Hp → Hp → Hp → V → Prop} (h : PE X e (tX Γ ρ P)) (w : ∀ (σ : L2.St) (G H G2 H2 : Hp) (v : V), Sr Γ G H σ ρ → Step G H G2 H2 → Ex G2 H2 → P H G2 H2 v → P' H G2 H2 v) : PE X e (tX Γ ρ P') :=
  h.weak fun σ H Q ⟨G, S, k⟩ => ⟨G, S, fun v G2 H2 s ex q => k v G2 H2 s ex (w σ G H G2 H2 v S s ex q)⟩

/-! ### from one kind to another -/
theorem DE.cur (h : DE X Γ ρ e κ d) : DE X Γ ρ e .c d := tX_imp h fun _ _ _ _ _ _ S s ex q => pK_c S s ex q
theorem DE.val (h : DE X Γ ρ e κ d) (hx : dV d = some x) : DV X Γ ρ e x := tX_imp h fun _ _ _ _ _ _ S s ex q => rep_dV (pK_c S s ex q) hx
theorem DV.dat (h : DV X Γ ρ e x) (hx : vOk x = true := by rfl) : DE X Γ ρ e .z (vD x) := tX_imp h fun _ _ _ _ _ v S s ex (q : v = x) => by
  rw [q]
  exact vD_rep hx
theorem DE.own (h : DE X Γ ρ e .z d) : DO X Γ ρ e (.fz d) := tX_imp h fun _ _ _ _ _ _ S s ex q => ⟨[], .fz q, List.nodup_nil, fun _ z => by cases z⟩
theorem DO.cur (h : DO X Γ ρ e t) : DE X Γ ρ e .c t.er := tX_imp h fun _ _ _ _ _ _ S s ex ⟨_, o, _⟩ => o.rep ex
/-- what is owned is frozen -/
theorem freeze {A : List Addr} {v : V} (s : Step G H G2 H2) (ex : Ex G2 H2) (o : OwnT G2 H2 t v A) (f : ∀ a ∈ A, H a = none) : Step G H (DL.frz G2 H2 A) H2 ∧ Ex (DL.frz G2 H2 A) H2 ∧ Rep (DL.frz G2 H2 A) v t.er := by
  have e1 : Ex G2 (DL.frz G2 H2 A) := frz_ex fun b hb => (o.mem b hb).1
  refine ⟨⟨s.g.trans e1, s.h, fun b u e1 e2 => ?_⟩, frz_sub ex, o.frz e1 fun b hb => hb⟩
  have nA : b ∉ A := fun z => by rw [f b z] at e2; cases e2
  rw [frz_out nA]
  exact s.f b u e1 e2
theorem DO.frz (h : DO X Γ ρ e t) : DE X Γ ρ e .z t.er := h.weak fun σ H Q ⟨G, S, k⟩ => ⟨G, S, fun v G2 H2 s ex ⟨A, o, n, f⟩ => by
  obtain ⟨s', ex', r⟩ := freeze s ex o f
  exact k v _ H2 s' ex' r⟩
theorem DE.eq (h : DE X Γ ρ e κ d) (q : d = d') : DE X Γ ρ e κ d' := q ▸ h
theorem DO.eq {t' : OT} (h : DO X Γ ρ e t) (q : t = t') : DO X Γ ρ e t' := q ▸ h
theorem DV.eq (h : DV X Γ ρ e x) (q : x = y) : DV X Γ ρ e y := q ▸ h
theorem DT.eq {b b' : Bool} (h : DT X Γ ρ e b) (q : b = b') : DT X Γ ρ e b' := q ▸ h

/-! ### constants and names -/
theorem tX_val (h : PE X e (tC x)) : DV X Γ ρ e x := h.weak fun σ H Q ⟨G, S, k⟩ => k x G H (Step.refl _ _) S.sub rfl
theorem dv_int {i : Int} {j} : DV X Γ ρ (.Constant (.int i) j pos) (.int i) := tX_val pe_int
theorem dv_str {i : Str} {j} : DV X Γ ρ (.Constant (.str i) j pos) (.str i) := tX_val pe_str
theorem dv_bl {i : Bool} {j} : DV X Γ ρ (.Constant (.bool i) j pos) (.bl i) := tX_val pe_bl
theorem dv_non {j} : DV X Γ ρ (.Constant .none j pos) .non := tX_val pe_non
theorem dv_neg {i : Int} (h : DV X Γ ρ e (.int i)) : DV X Γ ρ (.UnaryOp .USub e pos) (.int (-i)) := (pe_un un_neg h).weak fun σ H Q ⟨G, S, k⟩ => ⟨G, S, fun v G2 H2 s ex q => ⟨i, q, k _ G2 H2 s ex rfl⟩⟩
theorem dv_glob {n : Str} {u : Value} (hg : Gl X n) (hm : X.mg n = some u) (r : RelV x u) (hd : (n == ("__debug__" : Str)) = false := by decide) : DV X Γ ρ (.Name n pos) x := tX_val (pe_glob hg hm r hd)
theorem dv_bltn {n : Str} {u : Value} (hg : Gl X n) (hm : X.mg n = none) (hv : bootBuiltins n = some u) (r : RelV x u) (hn : n ≠ "__name__" := by decide) (hd : (n == ("__debug__" : Str)) = false := by decide) : DV X Γ ρ (.Name n pos) x := tX_val (pe_bltn hg hm hv r hn hd)
theorem var_weak {i : Nat} {P : Hp → Hp → Hp → V → Prop} (h : PE X e (tVar i)) (hs : ∀ (σ : L2.St) (G H : Hp), Sr Γ G H σ ρ → ∃ v, σ[i]? = some (some v) ∧ P H G H v) : PE X e (tX Γ ρ P) :=
  h.weak fun σ H Q ⟨G, S, k⟩ => let ⟨v, e, q⟩ := hs σ G H S; ⟨v, e, k v G H (Step.refl _ _) S.sub q⟩
theorem Sr.slot {i : Nat} {s : Sl} (S : Sr Γ G H σ ρ) (h : ρ[i]? = some s) : ∃ o B, σ[i]? = some o ∧ SlS Γ.K Γ.H G H o s B := by
  obtain ⟨A, r, _⟩ := S.sl
  obtain ⟨o, B, h1, h2, _⟩ := r.get h
  exact ⟨o, B, h1, h2⟩
theorem dv_var (i : Nat) {n : Str} (h : ρ[i]? = some (.v x)) (hN : X.N[i]? = some n := by rfl) (hv : Vis X.env.scope n := by first | exact Or.inl rfl | exact Or.inr (Or.inl rfl) | exact Or.inr (Or.inr rfl)) (hd : (n == ("__debug__" : Str)) = false := by decide) (hcd : (n == ("__classdict__" : Str)) = false := by decide) :
    DV X Γ ρ (.Name n pos) x := var_weak (pe_var hN hv hd hcd) fun σ G H S => by
  obtain ⟨o, B, h1, h2⟩ := S.slot h
  cases h2
  exact ⟨_, h1, rfl⟩
theorem de_sh (i : Nat) {n : Str} (h : ρ[i]? = some (.sh d)) (hN : X.N[i]? = some n := by rfl) (hv : Vis X.env.scope n := by first | exact Or.inl rfl | exact Or.inr (Or.inl rfl) | exact Or.inr (Or.inr rfl)) (hd : (n == ("__debug__" : Str)) = false := by decide) (hcd : (n == ("__classdict__" : Str)) = false := by decide) :
    DE X Γ ρ (.Name n pos) .z d := var_weak (pe_var hN hv hd hcd) fun σ G H S => by
  obtain ⟨o, B, h1, h2⟩ := S.slot h
  cases h2 with
  | sh r => exact ⟨_, h1, r⟩
theorem de_ro (i : Nat) {n : Str} (h : ρ[i]? = some (.ro d)) (hN : X.N[i]? = some n := by rfl) (hv : Vis X.env.scope n := by first | exact Or.inl rfl | exact Or.inr (Or.inl rfl) | exact Or.inr (Or.inr rfl)) (hd : (n == ("__debug__" : Str)) = false := by decide) (hcd : (n == ("__classdict__" : Str)) = false := by decide) :
    DE X Γ ρ (.Name n pos) .r d := var_weak (pe_var hN hv hd hcd) fun σ G H S => by
  obtain ⟨o, B, h1, h2⟩ := S.slot h
  cases h2 with
  | ro r => exact ⟨_, h1, r⟩
theorem de_ow (i : Nat) {n : Str} (h : ρ[i]? = some (.ow t)) (hN : X.N[i]? = some n := by rfl) (hv : Vis X.env.scope n := by first | exact Or.inl rfl | exact Or.inr (Or.inl rfl) | exact Or.inr (Or.inr rfl)) (hd : (n == ("__debug__" : Str)) = false := by decide) (hcd : (n == ("__classdict__" : Str)) = false := by decide) :
    DE X Γ ρ (.Name n pos) .c t.er := var_weak (pe_var hN hv hd hcd) fun σ G H S => by
  obtain ⟨o, B, h1, h2⟩ := S.slot h
  cases h2 with
  | ow r => exact ⟨_, h1, r.rep S.sub⟩

/-! ### operators on plain values -/
theorem bin_weak {r : R2} {ta tb : TE} {PA PB P : Hp → Hp → Hp → V → Prop} (h : PE X e (tOp r (tX Γ ρ PA) (tX Γ ρ PB)))
    (w : ∀ (σ : L2.St) (G H G1 H1 G2 H2 : Hp) (v u : V) (Q : VK), Sr Γ G H σ ρ → Step G H G1 H1 → Ex G1 H1 → PA H G1 H1 v → Step G1 H1 G2 H2 → Ex G2 H2 → PB H1 G2 H2 u →
      (∀ w G3 H3, Step G2 H2 G3 H3 → Ex G3 H3 → P H G3 H3 w → Q w H3) → r v u H2 Q) : PE X e (tX Γ ρ P) :=
  h.weak fun σ H Q ⟨G, S, k⟩ => ⟨G, S, fun v G1 H1 s1 e1 p1 => ⟨G1, S.more s1 e1, fun u G2 H2 s2 e2 p2 => w σ G H G1 H1 G2 H2 v u Q S s1 e1 p1 s2 e2 p2 fun x G3 H3 s3 e3 p3 => k x G3 H3 ((s1.trans s2).trans s3) e3 p3⟩⟩
theorem dv_op {op : Operator} {r : R2} (ho : OpR X (binaryOp op) r) (ha : DV X Γ ρ a x) (hb : DV X Γ ρ b y) (hr : ∀ (H : Hp) (Q : VK), Q z H → r x y H Q) : DV X Γ ρ (.BinOp a op b pos) z :=
  bin_weak (ta := tC x) (tb := tC x) (pe_op ho ha hb) fun σ G H G1 H1 G2 H2 v u Q S s1 e1 p1 s2 e2 p2 k => by
    have p1' : v = x := p1
    have p2' : u = y := p2
    rw [p1', p2']
    exact hr _ _ (k _ G2 H2 (Step.refl _ _) e2 rfl)
theorem dv_cmpR {op : CmpOp} {r : R2} (ho : OpR X (compareOp op) r) (ha : DV X Γ ρ a x) (hb : DV X Γ ρ b y) (hm : behindInMarks op b = false) (hr : ∀ (H : Hp) (Q : VK), Q z H → r x y H Q) : DV X Γ ρ (.Compare a [op] [b] pos) z :=
  bin_weak (ta := tC x) (tb := tC x) (pe_cmpR ho ha hb hm) fun σ G H G1 H1 G2 H2 v u Q S s1 e1 p1 s2 e2 p2 k => by
    have p1' : v = x := p1
    have p2' : u = y := p2
    rw [p1', p2']
    exact hr _ _ (k _ G2 H2 (Step.refl _ _) e2 rfl)
variable {i j k : Int}
theorem dv_add (ha : DV X Γ ρ a (.int i)) (hb : DV X Γ ρ b (.int j)) : DV X Γ ρ (.BinOp a .Add b pos) (.int (i + j)) := dv_op op_add ha hb fun _ _ q => ⟨_, _, rfl, rfl, q⟩
theorem dv_sub (ha : DV X Γ ρ a (.int i)) (hb : DV X Γ ρ b (.int j)) : DV X Γ ρ (.BinOp a .Sub b pos) (.int (i - j)) := dv_op op_sub ha hb fun _ _ q => ⟨_, _, rfl, rfl, q⟩
theorem dv_mul (ha : DV X Γ ρ a (.int i)) (hb : DV X Γ ρ b (.int j)) (hc : CMul i j) : DV X Γ ρ (.BinOp a .Mult b pos) (.int (i * j)) := dv_op op_mul ha hb fun _ _ q => ⟨_, _, rfl, rfl, hc, q⟩
theorem dv_fdiv (ha : DV X Γ ρ a (.int i)) (hb : DV X Γ ρ b (.int j)) (hc : 0 < j ∧ j < 1073741824) : DV X Γ ρ (.BinOp a .FloorDiv b pos) (.int (i / j)) := dv_op op_fdiv ha hb fun _ _ q => ⟨_, _, rfl, rfl, hc, q⟩
theorem dv_mod (ha : DV X Γ ρ a (.int i)) (hb : DV X Γ ρ b (.int j)) (hc : 0 < j) : DV X Γ ρ (.BinOp a .Mod b pos) (.int (i % j)) := dv_op op_mod ha hb fun _ _ q => ⟨_, _, rfl, rfl, hc, q⟩
theorem dv_cat {u w : Str} (ha : DV X Γ ρ a (.str u)) (hb : DV X Γ ρ b (.str w)) (hc : u.length + w.length ≤ sizeLine) : DV X Γ ρ (.BinOp a .Add b pos) (.str (u ++ w)) := dv_op op_add_str ha hb fun _ _ q => ⟨_, _, rfl, rfl, hc, q⟩
theorem dv_lt (ha : DV X Γ ρ a (.int i)) (hb : DV X Γ ρ b (.int j)) : DV X Γ ρ (.Compare a [.Lt] [b] pos) (.bl (decide (i < j))) := dv_cmpR op_lt ha hb (nomark _) fun _ _ q => ⟨_, _, rfl, rfl, q⟩
theorem dv_le (ha : DV X Γ ρ a (.int i)) (hb : DV X Γ ρ b (.int j)) : DV X Γ ρ (.Compare a [.LtE] [b] pos) (.bl (decide (i ≤ j))) := dv_cmpR op_le ha hb (nomark _) fun _ _ q => ⟨_, _, rfl, rfl, q⟩
theorem dv_gt (ha : DV X Γ ρ a (.int i)) (hb : DV X Γ ρ b (.int j)) : DV X Γ ρ (.Compare a [.Gt] [b] pos) (.bl (decide (j < i))) := dv_cmpR op_gt ha hb (nomark _) fun _ _ q => ⟨_, _, rfl, rfl, q⟩
theorem dv_ge (ha : DV X Γ ρ a (.int i)) (hb : DV X Γ ρ b (.int j)) : DV X Γ ρ (.Compare a [.GtE] [b] pos) (.bl (decide (j ≤ i))) := dv_cmpR op_ge ha hb (nomark _) fun _ _ q => ⟨_, _, rfl, rfl, q⟩
theorem dv_eqS (ha : DV X Γ ρ a x) (hb : DV X Γ ρ b y) (hs : scal x y = true := by rfl) : DV X Γ ρ (.Compare a [.Eq] [b] pos) (.bl (decide (x = y))) := dv_cmpR op_eq ha hb (nomark _) fun _ _ q => ⟨hs, q⟩
theorem dv_neS (ha : DV X Γ ρ a x) (hb : DV X Γ ρ b y) (hs : scal x y = true := by rfl) : DV X Γ ρ (.Compare a [.NotEq] [b] pos) (.bl (!decide (x = y))) := dv_cmpR op_ne ha hb (nomark _) fun _ _ q => ⟨hs, q⟩
theorem dec_i {i j : Int} : decide (V.int i = V.int j) = decide (i = j) := by simp
theorem dec_b {i j : Bool} : decide (V.bl i = V.bl j) = decide (i = j) := by simp
theorem dec_s {i j : Str} : decide (V.str i = V.str j) = decide (i = j) := by simp
theorem dv_eq (ha : DV X Γ ρ a (.int i)) (hb : DV X Γ ρ b (.int j)) : DV X Γ ρ (.Compare a [.Eq] [b] pos) (.bl (decide (i = j))) := dec_i ▸ dv_eqS ha hb
theorem dv_ne (ha : DV X Γ ρ a (.int i)) (hb : DV X Γ ρ b (.int j)) : DV X Γ ρ (.Compare a [.NotEq] [b] pos) (.bl (!decide (i = j))) := dec_i ▸ dv_neS ha hb
theorem dv_eqStr {i j : Str} (ha : DV X Γ ρ a (.str i)) (hb : DV X Γ ρ b (.str j)) : DV X Γ ρ (.Compare a [.Eq] [b] pos) (.bl (decide (i = j))) := dec_s ▸ dv_eqS ha hb
theorem dv_neStr {i j : Str} (ha : DV X Γ ρ a (.str i)) (hb : DV X Γ ρ b (.str j)) : DV X Γ ρ (.Compare a [.NotEq] [b] pos) (.bl (!decide (i = j))) := dec_s ▸ dv_neS ha hb
theorem dv_eqBl {i j : Bool} (ha : DV X Γ ρ a (.bl i)) (hb : DV X Γ ρ b (.bl j)) : DV X Γ ρ (.Compare a [.Eq] [b] pos) (.bl (decide (i = j))) := dec_b ▸ dv_eqS ha hb
theorem dv_neBl {i j : Bool} (ha : DV X Γ ρ a (.bl i)) (hb : DV X Γ ρ b (.bl j)) : DV X Γ ρ (.Compare a [.NotEq] [b] pos) (.bl (!decide (i = j))) := dec_b ▸ dv_neS ha hb
/-- x is None, of data -/
def isN : D → Bool
  | .none => true
  | _ => false
theorem rep_isN {H : Hp} {v : V} {d : D} (h : Rep H v d) : decide (v = .non) = isN d := by cases h <;> rfl
theorem de_isN (ha : DE X Γ ρ a κ d) {j q} : DV X Γ ρ (.Compare a [.Is] [.Constant .none j q] pos) (.bl (isN d)) :=
  bin_weak (ta := tC .non) (tb := tC .non) (pe_cmpR op_isN ha (dv_non (Γ := Γ) (ρ := ρ)) (nomark _)) fun σ G H G1 H1 G2 H2 v u Q S s1 e1 p1 s2 e2 p2 k => by
    have p2' : u = .non := p2
    refine ⟨p2', ?_⟩
    rw [rep_isN (pK_c S s1 e1 p1)]
    exact k _ G2 H2 (Step.refl _ _) e2 rfl
theorem de_notN (ha : DE X Γ ρ a κ d) {j q} : DV X Γ ρ (.Compare a [.IsNot] [.Constant .none j q] pos) (.bl (!isN d)) :=
  bin_weak (ta := tC .non) (tb := tC .non) (pe_cmpR op_notN ha (dv_non (Γ := Γ) (ρ := ρ)) (nomark _)) fun σ G H G1 H1 G2 H2 v u Q S s1 e1 p1 s2 e2 p2 k => by
    have p2' : u = .non := p2
    refine ⟨p2', ?_⟩
    rw [rep_isN (pK_c S s1 e1 p1)]
    exact k _ G2 H2 (Step.refl _ _) e2 rfl
theorem dv_isN (ha : DV X Γ ρ a x) {j q} : DV X Γ ρ (.Compare a [.Is] [.Constant .none j q] pos) (.bl (decide (x = .non))) := dv_cmpR op_isN ha dv_non (nomark _) fun _ _ q => ⟨rfl, q⟩
theorem dv_notN (ha : DV X Γ ρ a x) {j q} : DV X Γ ρ (.Compare a [.IsNot] [.Constant .none j q] pos) (.bl (!decide (x = .non))) := dv_cmpR op_notN ha dv_non (nomark _) fun _ _ q => ⟨rfl, q⟩
/-- i <= j <= k -/
theorem dv_chain {op op' : CmpOp} {f g : Int → Int → Bool} (ho : OpR X (compareOp op) (rI0 fun i j => .bl (f i j))) (ho' : OpR X (compareOp op') (rI0 fun i j => .bl (g i j))) (ha : DV X Γ ρ a (.int i)) (hb : DV X Γ ρ b (.int j)) (hc : DV X Γ ρ c (.int k))
    (hm : lastMarks [op, op'] [b, c] = false := by with_unfolding_all rfl) : DV X Γ ρ (.Compare a [op, op'] [b, c] pos) (.bl (f i j && g j k)) :=
  (pe_chain ho ho' ha hb hc hm).weak fun σ H Q ⟨G, S, kk⟩ => ⟨G, S, fun v G1 H1 s1 e1 p1 => ⟨G1, S.more s1 e1, fun u G2 H2 s2 e2 p2 => ⟨i, j, p1, p2, f i j, rfl, by
    cases hf : f i j with
    | true =>
      rw [if_pos rfl]
      exact ⟨G2, (S.more s1 e1).more s2 e2, fun w G3 H3 s3 e3 p3 => ⟨j, k, p2, p3, kk _ G3 H3 ((s1.trans s2).trans s3) e3 (by rw [hf]; rfl)⟩⟩
    | false =>
      rw [if_neg Bool.false_ne_true]
      exact kk _ G2 H2 (s1.trans s2) e2 (by rw [hf]; rfl)⟩⟩⟩
theorem dv_leLe (ha : DV X Γ ρ a (.int i)) (hb : DV X Γ ρ b (.int j)) (hc : DV X Γ ρ c (.int k)) (hm : lastMarks [.LtE, .LtE] [b, c] = false := by with_unfolding_all rfl) : DV X Γ ρ (.Compare a [.LtE, .LtE] [b, c] pos) (.bl (decide (i ≤ j) && decide (j ≤ k))) := dv_chain op_le op_le ha hb hc hm
theorem dv_leLt (ha : DV X Γ ρ a (.int i)) (hb : DV X Γ ρ b (.int j)) (hc : DV X Γ ρ c (.int k)) (hm : lastMarks [.LtE, .Lt] [b, c] = false := by with_unfolding_all rfl) : DV X Γ ρ (.Compare a [.LtE, .Lt] [b, c] pos) (.bl (decide (i ≤ j) && decide (j < k))) := dv_chain op_le op_lt ha hb hc hm

/-! ### and, or, not -/
theorem dv_not {q : Bool} (h : DV X Γ ρ a (.bl q)) : DV X Γ ρ (.UnaryOp .Not a pos) (.bl (!q)) := (pe_not h).weak fun σ H Q ⟨G, S, k⟩ => ⟨G, S, fun v G2 H2 s ex p => ⟨q, p, k _ G2 H2 s ex rfl⟩⟩
variable {q r : Bool} {rest : List Expr}
theorem dv_one {op} (h : DV X Γ ρ a x) : DV X Γ ρ (.BoolOp op [a] pos) x := pe_one h
theorem dv_and (ha : DV X Γ ρ a (.bl q)) (hb : q = true → DV X Γ ρ (.BoolOp .And (b :: rest) pos) (.bl r)) : DV X Γ ρ (.BoolOp .And (a :: b :: rest) pos) (.bl (q && r)) := by
  cases q with
  | true => exact (pe_and ha (hb rfl)).weak fun σ H Q ⟨G, S, k⟩ => ⟨G, S, fun v G1 H1 s1 e1 p1 => ⟨true, p1, by rw [if_pos rfl]; exact ⟨G1, S.more s1 e1, fun u G2 H2 s2 e2 p2 => k u G2 H2 (s1.trans s2) e2 p2⟩⟩⟩
  | false => exact (pe_and ha pe_absurd).weak fun σ H Q ⟨G, S, k⟩ => ⟨G, S, fun v G1 H1 s1 e1 p1 => ⟨false, p1, by rw [if_neg Bool.false_ne_true]; exact k _ G1 H1 s1 e1 rfl⟩⟩
theorem dv_or (ha : DV X Γ ρ a (.bl q)) (hb : q = false → DV X Γ ρ (.BoolOp .Or (b :: rest) pos) (.bl r)) : DV X Γ ρ (.BoolOp .Or (a :: b :: rest) pos) (.bl (q || r)) := by
  cases q with
  | false => exact (pe_or ha (hb rfl)).weak fun σ H Q ⟨G, S, k⟩ => ⟨G, S, fun v G1 H1 s1 e1 p1 => ⟨false, p1, by rw [if_neg Bool.false_ne_true]; exact ⟨G1, S.more s1 e1, fun u G2 H2 s2 e2 p2 => k u G2 H2 (s1.trans s2) e2 p2⟩⟩⟩
  | true => exact (pe_or ha pe_absurd).weak fun σ H Q ⟨G, S, k⟩ => ⟨G, S, fun v G1 H1 s1 e1 p1 => ⟨true, p1, by rw [if_pos rfl]; exact k _ G1 H1 s1 e1 rfl⟩⟩
theorem dt_val (h : DV X Γ ρ e (.bl q)) (he : ∀ whole, isTrue e X.env whole = (do let v ← whole; standAt e.pos; holding [v] (truthy v)) := by intro _; rfl) : DT X Γ ρ e q :=
  (pt_val h he).weak fun σ H Q ⟨G, S, k⟩ => ⟨G, S, fun v G2 H2 s ex p => ⟨q, p, k G2 H2 s ex⟩⟩
theorem dt_not (h : DT X Γ ρ a q) : DT X Γ ρ (.UnaryOp .Not a pos) (!q) := (pt_not h).weak fun σ H Q ⟨G, S, k⟩ => ⟨G, S, fun G2 H2 s ex => k G2 H2 s ex⟩
theorem DW.pt (h : DW X Γ ρ e q) : DT X Γ ρ e q := PW.pt h
theorem dw_and1 (h : DT X Γ ρ a q) : DW X Γ ρ (.BoolOp .And [a] pos) q := pw_and1 h
theorem dw_or1 (h : DT X Γ ρ a q) : DW X Γ ρ (.BoolOp .Or [a] pos) q := pw_or1 h
theorem dw_and (ha : DT X Γ ρ a q) (hb : q = true → DW X Γ ρ (.BoolOp .And (b :: rest) pos) r) : DW X Γ ρ (.BoolOp .And (a :: b :: rest) pos) (q && r) := by
  cases q with
  | true => exact (pw_and ha (hb rfl)).weak fun σ H Q ⟨G, S, k⟩ => ⟨G, S, fun G1 H1 s1 e1 => iteT ⟨G1, S.more s1 e1, fun G2 H2 s2 e2 => k G2 H2 (s1.trans s2) e2⟩⟩
  | false => exact (pw_and ha pw_absurd).weak fun σ H Q ⟨G, S, k⟩ => ⟨G, S, fun G1 H1 s1 e1 => iteF (k G1 H1 s1 e1)⟩
theorem dw_or (ha : DT X Γ ρ a q) (hb : q = false → DW X Γ ρ (.BoolOp .Or (b :: rest) pos) r) : DW X Γ ρ (.BoolOp .Or (a :: b :: rest) pos) (q || r) := by
  cases q with
  | false => exact (pw_or ha (hb rfl)).weak fun σ H Q ⟨G, S, k⟩ => ⟨G, S, fun G1 H1 s1 e1 => iteF ⟨G1, S.more s1 e1, fun G2 H2 s2 e2 => k G2 H2 (s1.trans s2) e2⟩⟩
  | true => exact (pw_or ha pw_absurd).weak fun σ H Q ⟨G, S, k⟩ => ⟨G, S, fun G1 H1 s1 e1 => iteT (k G1 H1 s1 e1)⟩
end
end DL

set_option Elab.async false
set_option linter.all false
set_option maxRecDepth 100000
set_option maxHeartbeats 2000000
namespace DL
open PySem L2

/-! ### typed data -/
def dl {α : Type} (f : α → D) (xs : List α) : D := .list (xs.map f)
def d2 {α β : Type} (f : α → D) (g : β → D) (p : α × β) : D := .tuple [f p.1, g p.2]
def tl {α : Type} (g : α → OT) (xs : List α) : OT := .cell (xs.map g)
def tI (i : Int) : OT := .fz (.int i)
def tF {α : Type} (f : α → D) (x : α) : OT := .fz (f x)
abbrev dI : Int → D := PyData.int
abbrev dL : List Int → D := dl dI
abbrev dLL : List (List Int) → D := dl dL
abbrev dP : Int × Int → D := d2 dI dI
abbrev dPs : List (Int × Int) → D := dl dP
abbrev tL : List Int → OT := tl tI
abbrev tLL : List (List Int) → OT := tl tL
abbrev tPs : List (Int × Int) → OT := tl (tF dP)
/-- the data of an owned thing -/
class Er {α : Type} (g : α → OT) (f : outParam (α → D)) : Prop where
  er : ∀ x, (g x).er = f x
instance : Er tI dI := ⟨fun x => by unfold tI OT.er; rfl⟩
instance {α : Type} (f : α → D) : Er (tF f) f := ⟨fun x => by unfold tF OT.er; rfl⟩
instance {α : Type} (g : α → OT) (f : α → D) [h : Er g f] : Er (tl g) (dl f) := ⟨fun x => by
  unfold tl OT.er dl
  rw [ers_map, List.map_map]
  congr 1
  exact List.map_congr_left fun a _ => h.er a⟩
/-- == of such data is equality -/
class EqD {α : Type} (f : α → D) : Prop where
  eqv : ∀ x y, PyData.eqv (f x) (f y) = true ↔ x = y
  lay : ∀ x, PyData.canLay0 (f x) = true
  dep : ∃ n, n ≤ 32 ∧ ∀ x, (f x).depth ≤ n

theorem eqvAll_iff {α : Type} {f : α → D} (h : ∀ x y, PyData.eqv (f x) (f y) = true ↔ x = y) : ∀ xs ys : List α, PyData.eqvAll (xs.map f) (ys.map f) = true ↔ xs = ys
  | [], [] => by simp [PyData.eqvAll]
  | [], _ :: _ => by simp [PyData.eqvAll]
  | _ :: _, [] => by simp [PyData.eqvAll]
  | x :: xs, y :: ys => by
    have ih := eqvAll_iff h xs ys
    simp only [List.map_cons, PyData.eqvAll, Bool.and_eq_true, h, ih, List.cons.injEq]
theorem layAll {α : Type} {f : α → D} (h : ∀ x, PyData.canLay0 (f x) = true) : ∀ xs : List α, PyData.canLayAll0 (xs.map f) = true
  | [] => by simp [PyData.canLayAll0]
  | x :: xs => by simp [PyData.canLayAll0, h x, layAll h xs]
theorem depAll {α : Type} {f : α → D} {n : Nat} (h : ∀ x, (f x).depth ≤ n) : ∀ xs : List α, PyData.depthAll (xs.map f) ≤ n
  | [] => by simp [PyData.depthAll]
  | x :: xs => by
    have := h x
    have := depAll h xs
    simp only [List.map_cons, PyData.depthAll]
    omega
class EqN {α : Type} (f : α → D) (n : outParam Nat) : Prop where
  eqv : ∀ x y, PyData.eqv (f x) (f y) = true ↔ x = y
  lay : ∀ x, PyData.canLay0 (f x) = true
  dep : ∀ x, (f x).depth ≤ n
instance : EqN dI 0 := ⟨fun x y => by simp [PyData.eqv], fun x => by simp [PyData.canLay0], fun x => by simp [PyData.depth]⟩
instance : EqN PyData.bool 0 := ⟨fun x y => by simp [PyData.eqv], fun x => by simp [PyData.canLay0], fun x => by simp [PyData.depth]⟩
instance {α : Type} (f : α → D) (n : Nat) [h : EqN f n] : EqN (dl f) (n + 1) := ⟨fun x y => by unfold dl; simp only [PyData.eqv]; exact eqvAll_iff h.eqv x y, fun x => by unfold dl; simp only [PyData.canLay0]; exact layAll h.lay x, fun x => by
  have := depAll h.dep x
  unfold dl
  simp only [PyData.depth]
  omega⟩
instance {α β : Type} (f : α → D) (g : β → D) (n m : Nat) [h : EqN f n] [k : EqN g m] : EqN (d2 f g) (n + m + 1) := ⟨fun x y => by
    unfold d2
    simp only [PyData.eqv, PyData.eqvAll, Bool.and_eq_true, h.eqv, k.eqv, Prod.ext_iff, and_true], fun x => by simp [d2, PyData.canLay0, PyData.canLayAll0, h.lay, k.lay], fun x => by
    have := h.dep x.1
    have := k.dep x.2
    simp only [d2, PyData.depth, PyData.depthAll]
    omega⟩
mutual
theorem rep_dp {K : Fg} {H : Hp} : ∀ {v : V} {d : D}, Rep H v d → d.canLay0 = true → Dp K H v d
  | _, _, .non, _ => .non
  | _, _, .bl b, _ => .bl b
  | _, _, .int b, _ => .int b
  | _, _, .str b, _ => .str b
  | _, _, .lst h r, q => .lst (SqL.of h) (reps_dp r (by simpa only [PyData.canLay0] using q))
  | _, _, .tup h r, q => .tup (SqT.of h) (reps_dp r (by simpa only [PyData.canLay0] using q))
  | _, _, .dct h, q => by simp [PyData.canLay0] at q
theorem reps_dp {K : Fg} {H : Hp} : ∀ {v : List V} {d : List D}, Reps H v d → PyData.canLayAll0 d = true → DpAll K H v d
  | _, _, .nil, _ => .nil
  | _, _, .cons h r, q => by
    simp only [PyData.canLayAll0, Bool.and_eq_true] at q
    exact .cons (rep_dp h q.1) (reps_dp r q.2)
end

/-! ### places in a list -/
def pyAt {α : Type} [Inhabited α] (xs : List α) (i : Int) : α := if 0 ≤ i then xs.getD i.toNat default else xs.getD (i + xs.length).toNat default
def inR (n : Nat) (i : Int) : Prop := -(n : Int) ≤ i ∧ i < n
theorem atI_pyAt {α β : Type} [Inhabited α] {f : α → β} {xs : List α} {i : Int} (h : inR xs.length i) : atI (xs.map f) i = some (f (pyAt xs i)) := by
  obtain ⟨h1, h2⟩ := h
  unfold atI ixN pyAt
  rw [List.length_map]
  by_cases h0 : 0 ≤ i
  · rw [if_pos h0, if_pos h0, if_pos h2]
    have : i.toNat < xs.length := by omega
    simp [List.getD_eq_getElem?_getD, this]
  · rw [if_neg h0, if_neg h0, if_pos h1]
    have : (i + xs.length).toNat < xs.length := by omega
    simp [List.getD_eq_getElem?_getD, this]
theorem Reps.atI {H : Hp} {vs : List V} {ds : List D} {i : Int} {d : D} (r : Reps H vs ds) (h : atI ds i = some d) : ∃ v, L2.atI vs i = some v ∧ Rep H v d := by
  unfold L2.atI at h ⊢
  rw [← r.len] at h
  cases e : ixN vs.length i with
  | none => rw [e] at h; cases h
  | some j =>
    rw [e] at h
    exact r.get h
def pySl {α : Type} (xs : List α) (lo hi : Option Int) : List α := (xs.drop (HT.sIx xs.length 0 lo)).take (HT.sIx xs.length xs.length hi - HT.sIx xs.length 0 lo)
theorem pySl_map {α β : Type} (f : α → β) (xs : List α) (lo hi : Option Int) : pySl (xs.map f) lo hi = (pySl xs lo hi).map f := by
  unfold pySl
  rw [List.length_map, List.map_take, List.map_drop]

section
variable {X : Cx} {Γ : Gm} {ρ : List Sl} {e a b c : Expr} {es : List Expr} {pos p : Pos} {κ κ' : Kd} {d d' : D} {x y z : V} {t : OT} {σ : L2.St} {G H G1 H1 G2 H2 : Hp}
variable {α β : Type} {f : α → D} {g : α → OT} {i j : Int}
theorem DO.dat [E : Er g f] {xs : α} (h : DO X Γ ρ e (g xs)) : DE X Γ ρ e .z (f xs) := E.er xs ▸ h.frz
theorem de_owT (i : Nat) [E : Er g f] {xs : α} {n : Str} (h : ρ[i]? = some (.ow (g xs))) (hN : X.N[i]? = some n := by rfl) (hv : Vis X.env.scope n := by first | exact Or.inl rfl | exact Or.inr (Or.inl rfl) | exact Or.inr (Or.inr rfl)) (hd : (n == ("__debug__" : Str)) = false := by decide) (hcd : (n == ("__classdict__" : Str)) = false := by decide) :
    DE X Γ ρ (.Name n pos) .c (f xs) := E.er xs ▸ de_ow i h hN hv hd hcd
theorem DE.int (h : DE X Γ ρ e κ (.int i)) : DV X Γ ρ e (.int i) := h.val rfl
theorem DE.bool {q : Bool} (h : DE X Γ ρ e κ (.bool q)) : DV X Γ ρ e (.bl q) := h.val rfl
theorem DE.str {q : Str} (h : DE X Γ ρ e κ (.str q)) : DV X Γ ρ e (.str q) := h.val rfl
theorem DO.fint (h : DO X Γ ρ e (tI i)) : DV X Γ ρ e (.int i) := h.dat.int
theorem DO.fzv (h : DO X Γ ρ e (.fz d)) : DE X Γ ρ e .z d := tX_imp h fun _ _ _ _ _ _ _ _ _ ⟨A, o, _⟩ => by cases o with | fz r => exact r

/-! ### == of data -/
theorem dv_eqD {κ' : Kd} {xs ys : α} {n : Nat} [DecidableEq α] [E : EqN f n] (hu : X.A.units + 64 < cLine) (ha : DE X Γ ρ a κ (f xs)) (hb : DE X Γ ρ b κ' (f ys)) (hn : n ≤ 64 := by decide) : DV X Γ ρ (.Compare a [.Eq] [b] pos) (.bl (decide (xs = ys))) :=
  bin_weak (ta := tC .non) (tb := tC .non) (pe_cmpR (op_eqD hu) ha hb (nomark _)) fun σ G H G1 H1 G2 H2 v u Q S s1 e1 p1 s2 e2 p2 k => by
    have q1 := Rep.mono s2.h (pK_c S s1 e1 p1)
    have q2 := pK_c (S.more s1 e1) s2 e2 p2
    have sh : ∀ z, SeqAt.shaped (f z) = true := fun z => by
      have := E.dep z
      simp only [SeqAt.shaped, E.lay, Bool.true_and, decide_eq_true_eq]
      omega
    refine ⟨_, _, rep_dp q1 (E.lay _), rep_dp q2 (E.lay _), sh _, sh _, k _ G2 H2 (Step.refl _ _) e2 ?_⟩
    congr 1
    rw [Bool.eq_iff_iff]
    simp [E.eqv]
theorem dv_neD {κ' : Kd} {xs ys : α} {n : Nat} [DecidableEq α] [E : EqN f n] (hu : X.A.units + 64 < cLine) (ha : DE X Γ ρ a κ (f xs)) (hb : DE X Γ ρ b κ' (f ys)) (hn : n ≤ 64 := by decide) : DV X Γ ρ (.Compare a [.NotEq] [b] pos) (.bl (!decide (xs = ys))) :=
  bin_weak (ta := tC .non) (tb := tC .non) (pe_cmpR (op_neD hu) ha hb (nomark _)) fun σ G H G1 H1 G2 H2 v u Q S s1 e1 p1 s2 e2 p2 k => by
    have q1 := Rep.mono s2.h (pK_c S s1 e1 p1)
    have q2 := pK_c (S.more s1 e1) s2 e2 p2
    have sh : ∀ z, SeqAt.shaped (f z) = true := fun z => by
      have := E.dep z
      simp only [SeqAt.shaped, E.lay, Bool.true_and, decide_eq_true_eq]
      omega
    refine ⟨_, _, rep_dp q1 (E.lay _), rep_dp q2 (E.lay _), sh _, sh _, k _ G2 H2 (Step.refl _ _) e2 ?_⟩
    congr 2
    rw [Bool.eq_iff_iff]
    simp [E.eqv]
theorem eqvAny {α : Type} [DecidableEq α] {f : α → D} {n : Nat} [E : EqN f n] (x : α) (ys : List α) : ((ys.map f).any fun z => PyData.eqv z (f x)) = decide (x ∈ ys) := by
  rw [Bool.eq_iff_iff, List.any_eq_true]
  simp only [List.mem_map, decide_eq_true_eq]
  constructor
  · rintro ⟨_, ⟨y, hy, rfl⟩, q⟩
    rw [← (E.eqv _ _).mp q]
    exact hy
  · intro h
    exact ⟨_, ⟨x, h, rfl⟩, (E.eqv _ _).mpr rfl⟩
theorem dv_inD {κ' : Kd} {xs : α} {ys : List α} {n : Nat} [DecidableEq α] [E : EqN f n] (hu : X.A.units + 65 < cLine) (ha : DE X Γ ρ a κ (f xs)) (hb : DE X Γ ρ b κ' (dl f ys)) (hm : behindInMarks .In b = false := by rfl) (hn : n + 1 ≤ 64 := by decide) : DV X Γ ρ (.Compare a [.In] [b] pos) (.bl (decide (xs ∈ ys))) :=
  bin_weak (ta := tC .non) (tb := tC .non) (pe_cmpR (op_inD hu) ha hb hm) fun σ G H G1 H1 G2 H2 v u Q S s1 e1 p1 s2 e2 p2 k => by
    have q1 := Rep.mono s2.h (pK_c S s1 e1 p1)
    have q2 := pK_c (S.more s1 e1) s2 e2 p2
    have E2 : EqN (dl f) (n + 1) := inferInstance
    have sh : ∀ z, SeqAt.shaped (f z) = true := fun z => by
      have := E.dep z
      simp only [SeqAt.shaped, E.lay, Bool.true_and, decide_eq_true_eq]
      omega
    have sh2 : ∀ z, SeqAt.shaped (dl f z) = true := fun z => by
      have := E2.dep z
      simp only [SeqAt.shaped, E2.lay, Bool.true_and, decide_eq_true_eq]
      omega
    refine ⟨_, _, rep_dp q1 (E.lay _), rep_dp q2 (E2.lay _), sh _, sh2 _, k _ G2 H2 (Step.refl _ _) e2 ?_⟩
    rw [eqvAny]
theorem dv_notInD {κ' : Kd} {xs : α} {ys : List α} {n : Nat} [DecidableEq α] [E : EqN f n] (hu : X.A.units + 65 < cLine) (ha : DE X Γ ρ a κ (f xs)) (hb : DE X Γ ρ b κ' (dl f ys)) (hm : behindInMarks .NotIn b = false := by rfl) (hn : n + 1 ≤ 64 := by decide) : DV X Γ ρ (.Compare a [.NotIn] [b] pos) (.bl (!decide (xs ∈ ys))) :=
  bin_weak (ta := tC .non) (tb := tC .non) (pe_cmpR (op_notInD hu) ha hb hm) fun σ G H G1 H1 G2 H2 v u Q S s1 e1 p1 s2 e2 p2 k => by
    have q1 := Rep.mono s2.h (pK_c S s1 e1 p1)
    have q2 := pK_c (S.more s1 e1) s2 e2 p2
    have E2 : EqN (dl f) (n + 1) := inferInstance
    have sh : ∀ z, SeqAt.shaped (f z) = true := fun z => by
      have := E.dep z
      simp only [SeqAt.shaped, E.lay, Bool.true_and, decide_eq_true_eq]
      omega
    have sh2 : ∀ z, SeqAt.shaped (dl f z) = true := fun z => by
      have := E2.dep z
      simp only [SeqAt.shaped, E2.lay, Bool.true_and, decide_eq_true_eq]
      omega
    refine ⟨_, _, rep_dp q1 (E.lay _), rep_dp q2 (E2.lay _), sh _, sh2 _, k _ G2 H2 (Step.refl _ _) e2 ?_⟩
    rw [eqvAny]
theorem dv_in {ys : List Int} (hu : X.A.units + 65 < cLine) (ha : DV X Γ ρ a (.int i)) (hb : DE X Γ ρ b κ (dl dI ys)) (hm : behindInMarks .In b = false := by rfl) : DV X Γ ρ (.Compare a [.In] [b] pos) (.bl (decide (i ∈ ys))) := dv_inD (f := dI) hu (DV.dat ha) hb hm
theorem dv_notIn {ys : List Int} (hu : X.A.units + 65 < cLine) (ha : DV X Γ ρ a (.int i)) (hb : DE X Γ ρ b κ (dl dI ys)) (hm : behindInMarks .NotIn b = false := by rfl) : DV X Γ ρ (.Compare a [.NotIn] [b] pos) (.bl (!decide (i ∈ ys))) := dv_notInD (f := dI) hu (DV.dat ha) hb hm

/-! ### items -/
theorem de_at {ds : List D} (ha : DE X Γ ρ a κ (.list ds)) (hb : DV X Γ ρ b (.int i)) (h : atI ds i = some d) (hs : PlainIx b := by intro _ _; rfl) : DE X Γ ρ (.Subscript a b pos) κ d :=
  bin_weak (ta := tC .non) (tb := tC .non) (pe_ix ix_list ha hb hs) fun σ G H G1 H1 G2 H2 v u Q S s1 e1 p1 s2 e2 p2 k => by
    have p2' : u = .int i := p2
    have main : ∀ (HH : Hp), Rep HH v (.list ds) → Ex HH H2 → ∃ w, Rep HH w d ∧ ∃ p xs, v = .ref p ∧ H2 p = some (.lst xs) ∧ atI xs i = some w := fun HH r ex => by
      cases r with
      | lst hl rs =>
        obtain ⟨w, h1, h2⟩ := rs.atI h
        exact ⟨w, h2, _, _, rfl, ex _ _ hl, h1⟩
    cases κ with
    | z =>
      obtain ⟨w, r, p, xs, ev, hp, hw⟩ := main G2 (Rep.mono s2.g p1) e2
      exact ⟨p, xs, i, w, ev, p2', SqL.of hp, hw, k _ G2 H2 (Step.refl _ _) e2 r⟩
    | r =>
      obtain ⟨w, r, p, xs, ev, hp, hw⟩ := main Γ.H p1 ((S.step.trans s1).trans s2).h
      exact ⟨p, xs, i, w, ev, p2', SqL.of hp, hw, k _ G2 H2 (Step.refl _ _) e2 r⟩
    | c =>
      obtain ⟨w, r, p, xs, ev, hp, hw⟩ := main H2 (Rep.mono s2.h p1) (Ex.refl _)
      exact ⟨p, xs, i, w, ev, p2', SqL.of hp, hw, k _ G2 H2 (Step.refl _ _) e2 r⟩
theorem de_atT {ds : List D} (ha : DE X Γ ρ a κ (.tuple ds)) (hb : DV X Γ ρ b (.int i)) (h : atI ds i = some d) (hs : PlainIx b := by intro _ _; rfl) : DE X Γ ρ (.Subscript a b pos) κ d :=
  bin_weak (ta := tC .non) (tb := tC .non) (pe_ix ix_tup ha hb hs) fun σ G H G1 H1 G2 H2 v u Q S s1 e1 p1 s2 e2 p2 k => by
    have p2' : u = .int i := p2
    have main : ∀ (HH : Hp), Rep HH v (.tuple ds) → Ex HH H2 → ∃ w, Rep HH w d ∧ ∃ p xs, v = .ref p ∧ H2 p = some (.tup xs) ∧ atI xs i = some w := fun HH r ex => by
      cases r with
      | tup hl rs =>
        obtain ⟨w, h1, h2⟩ := rs.atI h
        exact ⟨w, h2, _, _, rfl, ex _ _ hl, h1⟩
    cases κ with
    | z =>
      obtain ⟨w, r, p, xs, ev, hp, hw⟩ := main G2 (Rep.mono s2.g p1) e2
      exact ⟨p, xs, i, w, ev, p2', SqT.of hp, hw, k _ G2 H2 (Step.refl _ _) e2 r⟩
    | r =>
      obtain ⟨w, r, p, xs, ev, hp, hw⟩ := main Γ.H p1 ((S.step.trans s1).trans s2).h
      exact ⟨p, xs, i, w, ev, p2', SqT.of hp, hw, k _ G2 H2 (Step.refl _ _) e2 r⟩
    | c =>
      obtain ⟨w, r, p, xs, ev, hp, hw⟩ := main H2 (Rep.mono s2.h p1) (Ex.refl _)
      exact ⟨p, xs, i, w, ev, p2', SqT.of hp, hw, k _ G2 H2 (Step.refl _ _) e2 r⟩
theorem de_ix [Inhabited α] {xs : List α} (ha : DE X Γ ρ a κ (dl f xs)) (hb : DV X Γ ρ b (.int i)) (h : inR xs.length i) (hs : PlainIx b := by intro _ _; rfl) : DE X Γ ρ (.Subscript a b pos) κ (f (pyAt xs i)) := de_at ha hb (atI_pyAt h) hs
theorem dv_ix {xs : List Int} (ha : DE X Γ ρ a κ (dl dI xs)) (hb : DV X Γ ρ b (.int i)) (h : inR xs.length i) (hs : PlainIx b := by intro _ _; rfl) : DV X Γ ρ (.Subscript a b pos) (.int (pyAt xs i)) := (de_ix ha hb h hs).int
theorem de_ix0 {β : Type} {f' : β → D} {q : α × β} (ha : DE X Γ ρ a κ (d2 f f' q)) {j p'} : DE X Γ ρ (.Subscript a (.Constant (.int 0) j p') pos) κ (f q.1) := de_atT ha dv_int rfl
theorem de_ix1 {β : Type} {f' : β → D} {q : α × β} (ha : DE X Γ ρ a κ (d2 f f' q)) {j p'} : DE X Γ ρ (.Subscript a (.Constant (.int 1) j p') pos) κ (f' q.2) := de_atT ha dv_int rfl
/-- the script's -/
theorem sc_ref {ns : List Int} {k : Nat} (S : Sr Γ G H σ ρ) (h : ρ[k]? = some (.sc ns)) : ∃ a, σ[k]? = some (some (.ref a)) ∧ SqL Γ.K H a (ns.map V.int) := by
  obtain ⟨o, B, h1, h2⟩ := S.slot h
  cases h2 with
  | sc q => exact ⟨_, h1, ex_l S.step.h q⟩
/-- the script is there -/
def pS (K : Fg) (ns : List Int) : Hp → Hp → Hp → V → Prop := fun _ _ H2 v => ∃ a, v = .ref a ∧ SqL K H2 a (ns.map V.int)
def DS_ (X : Cx) (Γ : Gm) (ρ : List Sl) (e : Expr) (ns : List Int) : Prop := PE X e (tX Γ ρ (pS Γ.K ns))
theorem ds_var (i : Nat) {ns : List Int} {n : Str} (h : ρ[i]? = some (.sc ns)) (hN : X.N[i]? = some n := by rfl) (hv : Vis X.env.scope n := by first | exact Or.inl rfl | exact Or.inr (Or.inl rfl) | exact Or.inr (Or.inr rfl)) (hd : (n == ("__debug__" : Str)) = false := by decide) (hcd : (n == ("__classdict__" : Str)) = false := by decide) :
    DS_ X Γ ρ (.Name n pos) ns := var_weak (pe_var hN hv hd hcd) fun σ G H S => by
  obtain ⟨a, h1, h2⟩ := sc_ref S h
  exact ⟨_, h1, a, rfl, h2⟩
theorem dv_ixS {ns : List Int} (hK : Γ.K = X.K) (ha : DS_ X Γ ρ a ns) (hb : DV X Γ ρ b (.int i)) (h : inR ns.length i) (hs : PlainIx b := by intro _ _; rfl) : DV X Γ ρ (.Subscript a b pos) (.int (pyAt ns i)) :=
  bin_weak (ta := tC .non) (tb := tC .non) (pe_ix ix_list ha hb hs) fun σ G H G1 H1 G2 H2 v u Q S s1 e1 p1 s2 e2 p2 k => by
    have p2' : u = .int i := p2
    obtain ⟨p, ev, hp⟩ := p1
    rw [hK] at hp
    exact ⟨p, _, i, _, ev, p2', ex_l s2.h hp, atI_pyAt h, k _ G2 H2 (Step.refl _ _) e2 rfl⟩

/-! ### arguments -/
def tA (Γ : Gm) (ρ : List Sl) (ss : List Sl) : TA := fun σ H Q => ∃ G, Sr Γ G H σ ρ ∧ ∀ vs G2 H2 A, Step G H G2 H2 → Ex G2 H2 → SlR Γ.K H2 G2 H2 (vs.map some) ss A → A.Nodup → (∀ a ∈ A, H a = none) → Q vs H2
def DA (X : Cx) (Γ : Gm) (ρ : List Sl) (es : List Expr) (ss : List Sl) : Prop := PA X es (tA Γ ρ ss)
theorem SlS.step2 {K : Fg} {I : Hp} (s : Step G H G2 H2) {o x A} : SlS K H G H o x A → SlS K H2 G2 H2 o x A
  | .un => .un
  | .v => .v
  | .sh h => .sh (Rep.mono s.g h)
  | .ro h => .ro (Rep.mono s.h h)
  | .ow h => .ow (h.more s)
  | .sc h => .sc (ex_l s.h h)
  | .ob hg hh fr => .ob (s.f _ _ hg hh) (s.h _ _ hh) (fr.mono s.g)
  | .oa h => .oa (h.more s)
  | .rb h fr => .rb (s.h _ _ h) (fr.mono s.h)
theorem da_nil : DA X Γ ρ [] [] := pa_nil.weak fun σ H Q ⟨G, S, k⟩ => k [] G H [] (Step.refl _ _) S.sub .nil List.nodup_nil fun _ z => by cases z
theorem da_cons {ss : List Sl} {s : Sl} {P : Hp → Hp → Hp → V → Prop} (ha : PE X e (tX Γ ρ P)) (hp : ∀ (σ : L2.St) (G H G2 H2 : Hp) (v : V), Sr Γ G H σ ρ → Step G H G2 H2 → Ex G2 H2 → P H G2 H2 v → ∃ A, SlS Γ.K H2 G2 H2 (some v) s A ∧ A.Nodup ∧ ∀ a ∈ A, H a = none)
    (hr : DA X Γ ρ es ss) (hs : starEach (e :: es) X.env = (false, eval e X.env) :: starEach es X.env) : DA X Γ ρ (e :: es) (s :: ss) :=
  (pa_cons ha hr hs).weak fun σ H Q ⟨G, S, k⟩ => ⟨G, S, fun v G1 H1 s1 e1 p1 => ⟨G1, S.more s1 e1, fun vs G2 H2 A s2 e2 r n f => by
    obtain ⟨B, hb, nb, fb⟩ := hp σ G H G1 H1 v S s1 e1 p1
    refine k (v :: vs) G2 H2 (B ++ A) (s1.trans s2) e2 (.cons (hb.step2 (I := H) s2) r) ?_ ?_
    · refine List.nodup_append.mpr ⟨nb, n, fun x hx y hy q => ?_⟩
      subst q
      obtain ⟨_, o, ho⟩ := hb.mem x hx
      rw [f x hy] at ho; cases ho
    · intro x hx
      rcases List.mem_append.mp hx with z | z
      · exact fb x z
      · exact s1.h.none (f x z)⟩⟩
variable {ss : List Sl}
theorem da_v (ha : DV X Γ ρ e x) (hr : DA X Γ ρ es ss) (hs : starEach (e :: es) X.env = (false, eval e X.env) :: starEach es X.env := by rfl) : DA X Γ ρ (e :: es) (.v x :: ss) :=
  da_cons ha (fun σ G H G2 H2 v S s ex (q : v = x) => ⟨[], by rw [q]; exact .v, List.nodup_nil, fun _ z => by cases z⟩) hr hs
theorem da_sh (ha : DE X Γ ρ e .z d) (hr : DA X Γ ρ es ss) (hs : starEach (e :: es) X.env = (false, eval e X.env) :: starEach es X.env := by rfl) : DA X Γ ρ (e :: es) (.sh d :: ss) :=
  da_cons ha (fun σ G H G2 H2 v S s ex q => ⟨[], .sh q, List.nodup_nil, fun _ z => by cases z⟩) hr hs
theorem da_ro (ha : DE X Γ ρ e κ d) (hr : DA X Γ ρ es ss) (hs : starEach (e :: es) X.env = (false, eval e X.env) :: starEach es X.env := by rfl) : DA X Γ ρ (e :: es) (.ro d :: ss) :=
  da_cons ha (fun σ G H G2 H2 v S s ex q => ⟨[], .ro (pK_c S s ex q), List.nodup_nil, fun _ z => by cases z⟩) hr hs
theorem da_ow (ha : DO X Γ ρ e t) (hr : DA X Γ ρ es ss) (hs : starEach (e :: es) X.env = (false, eval e X.env) :: starEach es X.env := by rfl) : DA X Γ ρ (e :: es) (.ow t :: ss) :=
  da_cons ha (fun σ G H G2 H2 v S s ex ⟨A, o, n, f⟩ => ⟨A, .ow o, n, f⟩) hr hs
theorem da_sc {ns : List Int} (ha : DS_ X Γ ρ e ns) (hr : DA X Γ ρ es ss) (hs : starEach (e :: es) X.env = (false, eval e X.env) :: starEach es X.env := by rfl) : DA X Γ ρ (e :: es) (.sc ns :: ss) :=
  da_cons ha (fun σ G H G2 H2 v S s ex ⟨a, ev, q⟩ => ⟨[], by rw [ev]; exact .sc q, List.nodup_nil, fun _ z => by cases z⟩) hr hs

/-! ### calls of one's own defs -/
inductive Oc where
  | ret (t : OT)
  | exc (C : Addr)
def sp1 (K : Fg) (ss : List Sl) : Oc → Sp
  | .ret t => fun vs H Q E => ∃ G, Ex G H ∧ SlR K H G H (vs.map some) ss [] ∧ ∀ v G2 H2 A, Step G H G2 H2 → Ex G2 H2 → OwnT G2 H2 t v A → A.Nodup → (∀ x ∈ A, H x = none) → Q v H2
  | .exc C => fun vs H Q E => ∃ G, Ex G H ∧ SlR K H G H (vs.map some) ss [] ∧ ∀ H2, Ex H H2 → E (.ref C) none H2
/-- a slot that a def takes -/
def argOk : Sl → Bool
  | .ow _ => false
  | .ob _ _ _ => false
  | .oa _ _ => false
  | _ => true
theorem slR_arg {K : Fg} {I : Hp} : ∀ {σ : L2.St} {ss : List Sl} {A : List Addr}, SlR K I G H σ ss A → ss.all argOk = true → SlR K I G H σ ss []
  | _, _, _, .nil, _ => .nil
  | _, _, _, .cons (A := A) h r, q => by
    rw [List.all_cons, Bool.and_eq_true] at q
    have := slR_arg r q.2
    cases h with
    | ow _ => cases q.1
    | ob _ _ _ => cases q.1
    | oa _ => cases q.1
    | rb z fr => exact .cons (A := []) (B := []) (.rb z fr) this
    | un => exact .cons (A := []) (B := []) .un this
    | v => exact .cons (A := []) (B := []) .v this
    | sh z => exact .cons (A := []) (B := []) (.sh z) this
    | ro z => exact .cons (A := []) (B := []) (.ro z) this
    | sc z => exact .cons (A := []) (B := []) (.sc z) this
variable {k : Nat} {fa : Addr} {fd : FuncData} {ps : List Str} {n : Str}
theorem do_call (F : FnOk X.prog X.w X.K X.mg X.base (L2.CX X.prog X.w) k fa fd ps (sp1 X.K ss (.ret t))) (hr : Room k X.A) (hm : X.mg n = some (.ref fa)) (hk : PySem.W.keepIn X.K (.ref fa) = true) (hb : Binds X.K fd ps []) (hK : Γ.K = X.K) (ha : DA X Γ ρ (e :: es) ss) (hs : ss.all argOk = true := by rfl)
    (hg : Gl X n := by rfl) (hdb : (n == ("__debug__" : Str)) = false := by decide) (he : starEach (e :: es) X.env = (false, eval e X.env) :: starEach es X.env := by rfl) (hpl : (backTo pos (starEach es X.env)).any (·.1) = false := by rfl) :
    DO X Γ ρ (.Call (.Name n p) (e :: es) [] pos) t :=
  (pe_call F hr hg hm hk hb .nil (passL (X := X)) ha hdb he hpl).weak fun σ H Q ⟨G, S, kk⟩ => ⟨G, S, fun vs G2 H2 A s2 e2 r nd f => by
    show sp1 X.K ss (.ret t) (vs ++ []) H2 _ _
    rw [List.append_nil]
    refine ⟨G2, e2, ?_, fun v G3 H3 B s3 e3 o n3 f3 => kk v G3 H3 (s2.trans s3) e3 ⟨B, o, n3, fun x hx => s2.h.none (f3 x hx)⟩⟩
    rw [← hK]
    exact slR_arg r hs⟩
/-- raising C is let -/
def RX (X : Cx) (Γ : Gm) (C : Addr) : Prop := ∃ W : WX, Takes X W ∧ ∀ σ H2, Ex Γ.H H2 → W (.ref C) none σ H2
theorem dn_call {C : Addr} (hx : RX X Γ C) (F : FnOk X.prog X.w X.K X.mg X.base (L2.CX X.prog X.w) k fa fd ps (sp1 X.K ss (.exc C))) (hr : Room k X.A) (hm : X.mg n = some (.ref fa)) (hk : PySem.W.keepIn X.K (.ref fa) = true) (hb : Binds X.K fd ps []) (hK : Γ.K = X.K) (ha : DA X Γ ρ (e :: es) ss) (hs : ss.all argOk = true := by rfl)
    (hg : Gl X n := by rfl) (hdb : (n == ("__debug__" : Str)) = false := by decide) (he : starEach (e :: es) X.env = (false, eval e X.env) :: starEach es X.env := by rfl) (hpl : (backTo pos (starEach es X.env)).any (·.1) = false := by rfl) :
    DN X Γ ρ (.Call (.Name n p) (e :: es) [] pos) := by
  obtain ⟨W, tk, hw⟩ := hx
  have hp : Passes (L2.CX X.prog X.w) X (fun cls d H => cls = .ref C ∧ d = none ∧ Ex Γ.H H) := passes_call tk fun cls d σ H q => by
    obtain ⟨rfl, rfl, q⟩ := q
    exact hw σ H q
  exact (pe_call F hr hg hm hk hb .nil hp ha hdb he hpl).weak fun σ H Q ⟨G, S, kk⟩ => ⟨G, S, fun vs G2 H2 A s2 e2 r nd f => by
    show sp1 X.K ss (.exc C) (vs ++ []) H2 _ _
    rw [List.append_nil]
    refine ⟨G2, e2, ?_, fun H3 e3 => ⟨rfl, rfl, (S.step.h.trans s2.h).trans e3⟩⟩
    rw [← hK]
    exact slR_arg r hs⟩
end
end DL

set_option Elab.async false
set_option linter.all false
set_option maxRecDepth 100000
set_option maxHeartbeats 2000000
namespace DL
open PySem L2

structure En where
  nx : List Sl → Prop
  rt : OT → List Sl → Prop
  bk : List Sl → Prop := fun _ => False
  ct : List Sl → Prop := fun _ => False
/-- what names hold beside an answer -/
def RtS (Γ : Gm) (G H : Hp) (σ : L2.St) (ρ : List Sl) (A : List Addr) : Prop := ∃ B, SlR Γ.K Γ.H G H σ ρ B ∧ (B ++ A).Nodup ∧ ∀ a ∈ B, Γ.H a = none
structure Okk (Γ : Gm) (G0 : Hp) (E : En) (D : Ends) : Prop where
  nx : ∀ (ρ : List Sl) (σ : L2.St) (G H : Hp), E.nx ρ → Sr Γ G H σ ρ → Ex G0 G → D.nx σ H
  bk : ∀ (ρ : List Sl) (σ : L2.St) (G H : Hp), E.bk ρ → Sr Γ G H σ ρ → Ex G0 G → D.bk σ H
  ct : ∀ (ρ : List Sl) (σ : L2.St) (G H : Hp), E.ct ρ → Sr Γ G H σ ρ → Ex G0 G → D.ct σ H
  rt : ∀ (t : OT) (ρ : List Sl) (σ : L2.St) (v : V) (G H : Hp) (A : List Addr), E.rt t ρ → Step Γ.G Γ.H G H → Ex G H → OwnT G H t v A → A.Nodup → (∀ a ∈ A, Γ.H a = none) → RtS Γ G H σ ρ A → D.rt v H
theorem Okk.more {Γ : Gm} {G0 G1 : Hp} {E : En} {D : Ends} (k : Okk Γ G0 E D) (e : Ex G0 G1) : Okk Γ G1 E D :=
  ⟨fun ρ σ G H h S x => k.nx ρ σ G H h S (e.trans x), fun ρ σ G H h S x => k.bk ρ σ G H h S (e.trans x), fun ρ σ G H h S x => k.ct ρ σ G H h S (e.trans x), k.rt⟩
def tS (Γ : Gm) (ρ : List Sl) (E : En) : TS := fun D σ H => ∃ G, Sr Γ G H σ ρ ∧ Okk Γ G E D
def SS (X : Cx) (Γ : Gm) (ρ : List Sl) (sts : List Stmt) (E : En) : Prop := PSs X sts (tS Γ ρ E)
def S1 (X : Cx) (Γ : Gm) (ρ : List Sl) (st : Stmt) (E : En) : Prop := PS X st (tS Γ ρ E)

/-- knowing less -/
inductive Wk : List Sl → List Sl → Prop
  | nil : Wk [] []
  | same {s ρ ρ'} : Wk ρ ρ' → Wk (s :: ρ) (s :: ρ')
  | un {s ρ ρ'} : Wk ρ ρ' → Wk (s :: ρ) (.un :: ρ')
theorem Wk.refl : ∀ ρ, Wk ρ ρ
  | [] => .nil
  | _ :: ρ => .same (Wk.refl ρ)
theorem SlR.wk {K : Fg} {I G H : Hp} : ∀ {ρ ρ' : List Sl} {σ : L2.St} {A : List Addr}, Wk ρ ρ' → SlR K I G H σ ρ A → ∃ B, SlR K I G H σ ρ' B ∧ B.Sublist A
  | _, _, _, _, .nil, .nil => ⟨[], .nil, List.Sublist.refl _⟩
  | _, _, _, _, .same w, .cons (A := A0) h r => by
    obtain ⟨B, r', s⟩ := SlR.wk w r
    exact ⟨A0 ++ B, .cons h r', List.Sublist.append (List.Sublist.refl _) s⟩
  | _, _, _, _, .un w, .cons (A := A0) h r => by
    obtain ⟨B, r', s⟩ := SlR.wk w r
    exact ⟨[] ++ B, .cons .un r', List.Sublist.append (List.nil_sublist _) s⟩
section
variable {X : Cx} {Γ : Gm} {ρ ρ' : List Sl} {e a b c : Expr} {es : List Expr} {pos p p' : Pos} {κ κ' : Kd} {d d' : D} {x y z : V} {t : OT} {σ : L2.St} {G H G1 H1 G2 H2 : Hp} {E : En} {st : Stmt} {rest body : List Stmt} {n : Str} {i : Nat}
theorem Sr.wk (S : Sr Γ G H σ ρ) (w : Wk ρ ρ') : Sr Γ G H σ ρ' := by
  obtain ⟨A, r, nd, f⟩ := S.sl
  obtain ⟨B, r', s⟩ := r.wk w
  exact ⟨S.step, S.sub, B, r', nd.sublist s, fun a ha => f a (s.subset ha)⟩
theorem ss_wk (w : Wk ρ ρ') (h : SS X Γ ρ' rest E) : SS X Γ ρ rest E := h.weak fun D σ H ⟨G, S, k⟩ => ⟨G, S.wk w, k⟩
theorem ss_nil (h : E.nx ρ) : SS X Γ ρ [] E := pss_nil.weak fun D σ H ⟨G, S, k⟩ => k.nx ρ σ G H h S (Ex.refl _)
theorem ss_cons {M : List Sl → Prop} (h1 : S1 X Γ ρ st { E with nx := M }) (h2 : ∀ ρ', M ρ' → SS X Γ ρ' rest E) : SS X Γ ρ (st :: rest) E := by
  have h2' : PSs X rest (fun D σ H => ∃ ρ', M ρ' ∧ tS Γ ρ' E D σ H) := ⟨fun pins s σ H D I ⟨ρ', m, q⟩ => (h2 ρ' m).run pins s σ H D I q⟩
  exact (pss_cons h1 h2').weak fun D σ H ⟨G, S, k⟩ => ⟨G, S, ⟨fun ρ' σ' G' H' m S' eg => ⟨ρ', m, G', S', k.more eg⟩, k.bk, k.ct, k.rt⟩⟩
theorem s1_pass : S1 X Γ ρ (.Pass pos) { E with nx := fun ρ' => ρ' = ρ } := ps_pass.weak fun D σ H ⟨G, S, k⟩ => k.nx ρ σ G H rfl S (Ex.refl _)
theorem ss_doc {q : Str} {j} (h : SS X Γ ρ rest E) : SS X Γ ρ (.Expr (.Constant (.str q) j p) pos :: rest) E := ss_cons (M := fun ρ' => ρ' = ρ) (ps_doc.weak fun D σ H ⟨G, S, k⟩ => k.nx ρ σ G H rfl S (Ex.refl _)) fun ρ' e => e ▸ h
theorem ss_break (h : E.bk ρ) : SS X Γ ρ (.Break pos :: rest) E := ss_cons (M := fun _ => False) (ps_break.weak fun D σ H ⟨G, S, k⟩ => k.bk ρ σ G H h S (Ex.refl _)) fun _ e => e.elim
theorem ss_continue (h : E.ct ρ) : SS X Γ ρ (.Continue pos :: rest) E := ss_cons (M := fun _ => False) (ps_continue.weak fun D σ H ⟨G, S, k⟩ => k.ct ρ σ G H h S (Ex.refl _)) fun _ e => e.elim

/-! ### stores to names -/
theorem ss_set {P : Hp → Hp → Hp → V → Prop} {s : Sl} (i : Nat) (he : PE X e (tX Γ ρ P)) (hp : ∀ (σ : L2.St) (G H G2 H2 : Hp) (v : V), Sr Γ G H σ ρ → Step G H G2 H2 → Ex G2 H2 → P H G2 H2 v → ∃ A, SlS Γ.K Γ.H G2 H2 (some v) s A ∧ A.Nodup ∧ ∀ a ∈ A, H a = none)
    (hN : X.N.Nodup) (hi : X.N[i]? = some n) (hx : Loc X.env.scope n) (hs : swapsWith e (some (.Name n p')) pos.line X.env = pure false) (hf : X.fn n = true ∨ X.env.scope.names.lookup n = some .local) (hr : SS X Γ (ρ.set i s) rest E) :
    SS X Γ ρ (.Assign [.Name n p'] e pos :: rest) E := ss_cons (M := fun ρ' => ρ' = ρ.set i s) ((ps_set hN hi hx he hs hf).weak fun D σ H ⟨G, S, k⟩ => ⟨G, S, fun v G2 H2 st ex q => by
  obtain ⟨A, h1, h2, h3⟩ := hp σ G H G2 H2 v S st ex q
  exact k.nx _ _ G2 H2 rfl (S.store st ex h1 h2 h3) st.g⟩) fun ρ' e => e ▸ hr
theorem ss_v (i : Nat) (hN : X.N.Nodup) (he : DV X Γ ρ e x) (hr : SS X Γ (ρ.set i (.v x)) rest E) (hi : X.N[i]? = some n := by rfl) (hx : Loc X.env.scope n := by first | exact .inl rfl | exact .inr rfl) (hs : swapsWith e (some (.Name n p')) pos.line X.env = pure false := by rfl) (hf : X.fn n = true ∨ X.env.scope.names.lookup n = some .local := by first | exact .inl rfl | exact .inr rfl) :
    SS X Γ ρ (.Assign [.Name n p'] e pos :: rest) E := ss_set i he (fun _ _ _ _ _ v _ _ _ (q : v = x) => ⟨[], by rw [q]; exact .v, List.nodup_nil, fun _ z => by cases z⟩) hN hi hx hs hf hr
theorem ss_z (i : Nat) (hN : X.N.Nodup) (he : DE X Γ ρ e .z d) (hr : SS X Γ (ρ.set i (.sh d)) rest E) (hi : X.N[i]? = some n := by rfl) (hx : Loc X.env.scope n := by first | exact .inl rfl | exact .inr rfl) (hs : swapsWith e (some (.Name n p')) pos.line X.env = pure false := by rfl) (hf : X.fn n = true ∨ X.env.scope.names.lookup n = some .local := by first | exact .inl rfl | exact .inr rfl) :
    SS X Γ ρ (.Assign [.Name n p'] e pos :: rest) E := ss_set i he (fun _ _ _ _ _ v _ _ _ q => ⟨[], .sh q, List.nodup_nil, fun _ z => by cases z⟩) hN hi hx hs hf hr
theorem ss_r (i : Nat) (hN : X.N.Nodup) (he : DE X Γ ρ e .r d) (hr : SS X Γ (ρ.set i (.ro d)) rest E) (hi : X.N[i]? = some n := by rfl) (hx : Loc X.env.scope n := by first | exact .inl rfl | exact .inr rfl) (hs : swapsWith e (some (.Name n p')) pos.line X.env = pure false := by rfl) (hf : X.fn n = true ∨ X.env.scope.names.lookup n = some .local := by first | exact .inl rfl | exact .inr rfl) :
    SS X Γ ρ (.Assign [.Name n p'] e pos :: rest) E := ss_set i he (fun _ _ _ _ _ v _ _ _ q => ⟨[], .ro q, List.nodup_nil, fun _ z => by cases z⟩) hN hi hx hs hf hr
theorem ss_o (i : Nat) (hN : X.N.Nodup) (he : DO X Γ ρ e t) (hr : SS X Γ (ρ.set i (.ow t)) rest E) (hi : X.N[i]? = some n := by rfl) (hx : Loc X.env.scope n := by first | exact .inl rfl | exact .inr rfl) (hs : swapsWith e (some (.Name n p')) pos.line X.env = pure false := by rfl) (hf : X.fn n = true ∨ X.env.scope.names.lookup n = some .local := by first | exact .inl rfl | exact .inr rfl) :
    SS X Γ ρ (.Assign [.Name n p'] e pos :: rest) E := ss_set i he (fun _ _ _ _ _ v _ _ _ ⟨A, o, nd, f⟩ => ⟨A, .ow o, nd, f⟩) hN hi hx hs hf hr
/-- a name that holds an owned thing holds frozen data from here on -/
theorem Sr.frz {t : OT} (S : Sr Γ G H σ ρ) (h : ρ[i]? = some (.ow t)) : ∃ G2, Sr Γ G2 H σ (ρ.set i (.sh t.er)) ∧ Ex G G2 := by
  obtain ⟨A, r, nd, f⟩ := S.sl
  obtain ⟨o, A1, B, A2, h1, h2, rfl, h4⟩ := r.focus h
  cases h2 with
  | ow q =>
    rename_i v
    have gB : ∀ b ∈ B, G b = none := fun b hb => (q.mem b hb).1
    have e1 : Ex G (DL.frz G H B) := frz_ex gB
    have ndd := nd
    simp only [List.nodup_append, List.mem_append] at ndd
    have nB : ∀ b ∈ A1 ++ A2, b ∉ B := fun b hb hB => by
      rcases List.mem_append.mp hb with z | z
      · exact ndd.2.2 b z b (.inl hB) rfl
      · exact ndd.2.1.2.2 b hB b z rfl
    have st : Step Γ.G Γ.H (DL.frz G H B) H := ⟨S.step.g.trans e1, S.step.h, fun b u g1 g2 => by
      have nb : b ∉ B := fun z => by
        rw [f b (by simp [z])] at g2; cases g2
      rw [frz_out nb]
      exact S.step.f b u g1 g2⟩
    have e2 : σ.set i (some v) = σ := by
      obtain ⟨hi, e⟩ := List.getElem?_eq_some_iff.mp h1
      rw [← e]
      simp
    have := h4 (DL.frz G H B) H (some v) (.sh t.er) [] e1 (fun b hb g => by rw [frz_out (nB b hb)]; exact g) (fun _ _ => rfl) (.sh (q.frz e1 fun b hb => hb))
    rw [e2] at this
    refine ⟨DL.frz G H B, ⟨st, frz_sub S.sub, _, this, nd_swap nd List.nodup_nil (fun _ z => by cases z), fun x hx => f x ?_⟩, e1⟩
    simp only [List.nil_append, List.mem_append] at hx ⊢
    rcases hx with z | z
    · exact .inl z
    · exact .inr (.inr z)
/-- a name that holds an owned thing holds frozen data from here on -/
theorem ss_frz (i : Nat) {t : OT} (h : ρ[i]? = some (.ow t)) (hr : SS X Γ (ρ.set i (.sh t.er)) rest E) : SS X Γ ρ rest E := hr.weak fun D σ H ⟨G, S, k⟩ =>
  let ⟨G2, S2, e2⟩ := S.frz h
  ⟨G2, S2, k.more e2⟩
theorem ss_frzT (i : Nat) {α : Type} {g : α → OT} {f : α → D} [Er : Er g f] {xs : α} (h : ρ[i]? = some (.ow (g xs))) (hr : SS X Γ (ρ.set i (.sh (f xs))) rest E) : SS X Γ ρ rest E := ss_frz i h (by rw [Er.er]; exact hr)

/-! ### expressions alone, return, if -/
theorem ss_expr {P : Hp → Hp → Hp → V → Prop} (he : PE X e (tX Γ ρ P)) (hr : SS X Γ ρ rest E) (hs : swapsWith e none pos.line X.env = pure false := by rfl) : SS X Γ ρ (.Expr e pos :: rest) E :=
  ss_cons (M := fun ρ' => ρ' = ρ) ((ps_expr he hs).weak fun D σ H ⟨G, S, k⟩ => ⟨G, S, fun v G2 H2 st ex q => k.nx ρ σ G2 H2 rfl (S.more st ex) st.g⟩) fun ρ' e => e ▸ hr
theorem ss_exprN (he : DN X Γ ρ e) (hs : swapsWith e none pos.line X.env = pure false := by rfl) : SS X Γ ρ (.Expr e pos :: rest) E :=
  ss_cons (M := fun _ => False) ((ps_expr he hs).weak fun D σ H ⟨G, S, k⟩ => ⟨G, S, fun v G2 H2 st ex q => q.elim⟩) fun ρ' e => e.elim
theorem Sr.rts {A : List Addr} {G2 H2 : Hp} (S : Sr Γ G H σ ρ) (st : Step G H G2 H2) (nd : A.Nodup) (f : ∀ a ∈ A, H a = none) : RtS Γ G2 H2 σ ρ A := by
  obtain ⟨B, r, n, q⟩ := S.sl
  refine ⟨B, r.more st, List.nodup_append.mpr ⟨n, nd, fun a ha b hb e => ?_⟩, q⟩
  obtain ⟨_, o, ho⟩ := r.mem a ha
  rw [e, f b hb] at ho
  cases ho
theorem ss_ret (he : DO X Γ ρ e t) (h : E.rt t ρ) : SS X Γ ρ (.Return (some e) pos :: rest) E :=
  ss_cons (M := fun _ => False) ((ps_ret he).weak fun D σ H ⟨G, S, k⟩ => ⟨G, S, fun v G2 H2 st ex ⟨A, o, nd, f⟩ => k.rt t ρ σ v G2 H2 A h (S.step.trans st) ex o nd (fun a ha => S.step.h.none (f a ha)) (S.rts st nd f)⟩) fun ρ' e => e.elim
theorem ss_retZ (he : DE X Γ ρ e .z d) (h : E.rt (.fz d) ρ) : SS X Γ ρ (.Return (some e) pos :: rest) E := ss_ret he.own h
theorem ss_retV (he : DV X Γ ρ e x) (h : E.rt (.fz (vD x)) ρ) (hv : vOk x = true := by rfl) : SS X Γ ρ (.Return (some e) pos :: rest) E := ss_ret (he.dat hv).own h
theorem ss_retN (he : DN X Γ ρ e) : SS X Γ ρ (.Return (some e) pos :: rest) E :=
  ss_cons (M := fun _ => False) ((ps_ret he).weak fun D σ H ⟨G, S, k⟩ => ⟨G, S, fun v G2 H2 st ex q => q.elim⟩) fun ρ' e => e.elim
theorem ss_ret0 (h : E.rt (.fz .none) ρ) : SS X Γ ρ (.Return none pos :: rest) E :=
  ss_cons (M := fun _ => False) (ps_retN.weak fun D σ H ⟨G, S, k⟩ => k.rt (.fz .none) ρ σ .non G H [] h S.step S.sub (.fz .non) List.nodup_nil (fun _ z => by cases z) (S.rts (Step.refl _ _) List.nodup_nil fun _ z => by cases z)) fun ρ' e => e.elim
variable {q : Bool} {bd el : List Stmt}
theorem ss_if {M : List Sl → Prop} (hc : DT X Γ ρ c q) (h1 : q = true → SS X Γ ρ bd { E with nx := M }) (h2 : q = false → SS X Γ ρ el { E with nx := M }) (hr : ∀ ρ', M ρ' → SS X Γ ρ' rest E) : SS X Γ ρ (.If c bd el pos :: rest) E := by
  refine ss_cons (M := M) ?_ hr
  cases q with
  | true => exact (ps_if hc (h1 rfl) pss_never).weak fun D σ H ⟨G, S, k⟩ => ⟨G, S, fun G2 H2 st ex => iteT ⟨G2, S.more st ex, k.more st.g⟩⟩
  | false => exact (ps_if hc pss_never (h2 rfl)).weak fun D σ H ⟨G, S, k⟩ => ⟨G, S, fun G2 H2 st ex => iteF ⟨G2, S.more st ex, k.more st.g⟩⟩
/-- if c: (a body that leaves) -/
theorem ss_ifL (hc : DT X Γ ρ c q) (h1 : q = true → SS X Γ ρ bd { E with nx := fun _ => False }) (h2 : q = false → SS X Γ ρ rest E) : SS X Γ ρ (.If c bd [] pos :: rest) E := by
  refine ss_if (M := fun ρ' => ρ' = ρ ∧ q = false) hc (fun e => (h1 e).weak fun D σ H ⟨G, S, k⟩ => ⟨G, S, ⟨fun _ _ _ _ z => z.elim, k.bk, k.ct, k.rt⟩⟩) (fun e => ss_nil ⟨rfl, e⟩) fun ρ' ⟨e, eq⟩ => e ▸ h2 eq
/-- an if whose test's answer is known -/
theorem ss_ifT (hc : DT X Γ ρ c true) (h1 : SS X Γ ρ bd { E with nx := fun ρ' => SS X Γ ρ' rest E }) : SS X Γ ρ (.If c bd el pos :: rest) E := ss_if hc (fun _ => h1) (fun z => by cases z) fun _ z => z
theorem ss_ifF (hc : DT X Γ ρ c false) (h1 : SS X Γ ρ el { E with nx := fun ρ' => SS X Γ ρ' rest E }) : SS X Γ ρ (.If c bd el pos :: rest) E := ss_if hc (fun z => by cases z) (fun _ => h1) fun _ z => z
theorem ss_ifF0 (hc : DT X Γ ρ c false) (h1 : SS X Γ ρ rest E) : SS X Γ ρ (.If c bd [] pos :: rest) E := ss_ifF hc (ss_nil h1)
/-- two ways that both go on -/
theorem ss_if2 (hc : DT X Γ ρ c q) (h1 : q = true → SS X Γ ρ bd { E with nx := fun ρ' => SS X Γ ρ' rest E }) (h2 : q = false → SS X Γ ρ el { E with nx := fun ρ' => SS X Γ ρ' rest E }) : SS X Γ ρ (.If c bd el pos :: rest) E := ss_if hc h1 h2 fun _ z => z
/-- raise of an own class, let -/
theorem ss_raise {C : Addr} {t : L2.St → Hp → XK → Prop} (hc : X.calm = true) (hx : RX X Γ C) (he : PMk X e t) (ht : ∀ σ H Q, Q (.ref C) none H → t σ H Q) : SS X Γ ρ (.Raise (some e) none pos :: rest) E := by
  obtain ⟨W, tk, hw⟩ := hx
  exact ss_cons (M := fun _ => False) ((ps_raise hc tk he).weak fun D σ H ⟨G, S, k⟩ => ht _ _ _ (hw σ H S.step.h)) fun ρ' e => e.elim
end
end DL

set_option Elab.async false
set_option linter.all false
set_option maxRecDepth 100000
set_option maxHeartbeats 2000000
namespace DL
open PySem L2

/-! ### a def by its body -/
theorem slr_start {K : Fg} {I G H : Hp} {N : List Str} {vs : List V} {ss : List Sl} {m : Nat} (r : SlR K I G H (vs.map some) ss []) (h : N.length - vs.length = m) : SlR K I G H (L2.start N vs) (ss ++ List.replicate m .un) [] := by
  unfold L2.start
  rw [h]
  exact r.app (SlR.uns m _ (by simp))
theorem slr_len {K : Fg} {I G H : Hp} {vs : List V} {ss : List Sl} {A} (r : SlR K I G H (vs.map some) ss A) : vs.length = ss.length := by
  have := r.len
  simpa using this
/-- what every def's body and block has -/
structure XO (X : Cx) : Prop where
  calm : X.calm = true
  nd : X.N.Nodup
  hu : X.A.units + 65 < cLine
theorem XO.hu64 {X : Cx} (x : XO X) : X.A.units + 64 < cLine := by have := x.hu; omega
section
variable {P : Program} {w : World} {K : Fg} {mg : Str → Option Value} {base : Heap}
theorem ok_def {x qual : Str} {st : Stmt} {f : Addr} {fd : FuncData} {N ps : List Str} {k m : Nat} {ss : List Sl} {o : Oc} (F : Fun K x qual st f fd) (S : FnScope N ps (defScope st)) (hl : ss.length = ps.length) (hm : N.length - ps.length = m)
    (hbody : ∀ (cdv : Value) (A : Around) (outer : List Env) (s : Shared) (G H : Hp) (E : XK), Room k (A.deeper (PyProof.Rows.envOfC qual (defScope st) s.heap.objs.size f cdv)) →
      XO (cxOf (L2.CX P w) P w K mg base N qual (defScope st) f cdv A outer s H E) →
      PassesOwn (model P w) (A.deeper (PyProof.Rows.envOfC qual (defScope st) s.heap.objs.size f cdv)) (PyProof.Rows.envOfC qual (defScope st) s.heap.objs.size f cdv) (cxOf (L2.CX P w) P w K mg base N qual (defScope st) f cdv A outer s H E).xe →
      (∀ C, o = .exc C → RX (cxOf (L2.CX P w) P w K mg base N qual (defScope st) f cdv A outer s H E) ⟨K, G, H⟩ C) →
      SS (cxOf (L2.CX P w) P w K mg base N qual (defScope st) f cdv A outer s H E) ⟨K, G, H⟩ (ss ++ List.replicate m .un) (defBody st) { nx := fun _ => o = .ret (.fz .none), rt := fun t _ => o = .ret t }) :
    FnOk P w K mg base (L2.CX P w) (k + 1) f fd ps (sp1 K ss o) := by
  have len : ∀ vs H Q E, sp1 K ss o vs H Q E → vs.length = ps.length := fun vs H Q E h => by
    cases o with
    | ret t =>
      obtain ⟨G, _, r, _⟩ := h
      rw [slr_len r, hl]
    | exc C =>
      obtain ⟨G, _, r, _⟩ := h
      rw [slr_len r, hl]
  refine F.okX S len (fun cdv A outer s H vs Q E hr h => ?_)
  have hv := len _ _ _ _ h
  have xo : XO (cxOf (L2.CX P w) P w K mg base N qual (defScope st) f cdv A outer s H E) := ⟨rfl, S.nd, by have := hr.un; show (A.deeper (PyProof.Rows.envOfC qual (defScope st) s.heap.objs.size f cdv)).units + 65 < cLine; omega⟩
  have hp : PassesOwn (model P w) (A.deeper (PyProof.Rows.envOfC qual (defScope st) s.heap.objs.size f cdv)) (PyProof.Rows.envOfC qual (defScope st) s.heap.objs.size f cdv) (cxOf (L2.CX P w) P w K mg base N qual (defScope st) f cdv A outer s H E).xe := passes_of (X := cxOf (L2.CX P w) P w K mg base N qual (defScope st) f cdv A outer s H E) rfl
  cases o with
  | ret t =>
    obtain ⟨G, eg, r, kk⟩ := h
    refine ⟨_, hbody cdv A outer s G H E hr xo hp (fun C z => by cases z), G, ⟨⟨Ex.refl _, Ex.refl _, fun _ _ e _ => e⟩, eg, [], slr_start r (by rw [hv, hm]), List.nodup_nil, fun _ z => by cases z⟩, ?_⟩
    refine ⟨fun ρ σ G' H' e S' _ => ?_, fun _ _ _ _ z => z.elim, fun _ _ _ _ z => z.elim, fun t' _ _ v G' H' A e st ex o nd f _ => ?_⟩
    · cases e
      exact kk .non G' H' [] S'.step S'.sub (.fz .non) List.nodup_nil fun _ z => by cases z
    · cases e
      exact kk v G' H' A st ex o nd f
  | exc C =>
    obtain ⟨G, eg, r, kk⟩ := h
    refine ⟨_, hbody cdv A outer s G H E hr xo hp (fun C' z => ?_), G, ⟨⟨Ex.refl _, Ex.refl _, fun _ _ e _ => e⟩, eg, [], slr_start r (by rw [hv, hm]), List.nodup_nil, fun _ z => by cases z⟩, ?_⟩
    · cases z
      exact ⟨_, takes_of rfl rfl rfl rfl, fun σ H2 e2 => kk H2 e2⟩
    · exact ⟨fun ρ σ G' H' e => (by cases e), fun _ _ _ _ z => z.elim, fun _ _ _ _ z => z.elim, fun t' _ _ v G' H' A e => (by cases e)⟩
end

/-! ### what is walked -/
structure Walk (Γ : Gm) (J : It) (G1 H1 : Hp) (n : Nat) (it : Nat → Sl) : Prop where
  go : ∀ i G H, Ex G1 G → Ex G H → Ex Γ.H H → i < n → J.go i H
  yld : ∀ i G H x H', Ex G1 G → Ex G H → Ex Γ.H H → i < n → J.yld i H x H' → ∃ G', Step G H G' H' ∧ Ex G' H' ∧ SlS Γ.K Γ.H G' H' (some x) (it i) []
  stop : ∀ i G H, Ex G1 G → Ex G H → Ex Γ.H H → n ≤ i → J.stop i H
def tIt (Γ : Gm) (ρ : List Sl) (n : Nat) (it : Nat → Sl) : TI := fun σ H R => ∃ G, Sr Γ G H σ ρ ∧ ∀ J G1 H1, Step G H G1 H1 → Ex G1 H1 → Walk Γ J G1 H1 n it → R J H1
def DI (X : Cx) (Γ : Gm) (ρ : List Sl) (tg e : Expr) (n : Nat) (it : Nat → Sl) : Prop := PI X tg e (tIt Γ ρ n it)
/-- an item as a slot holds it -/
inductive SubSl : D → Sl → Prop
  | v {d x} : dV d = some x → SubSl d (.v x)
  | sh {d} : SubSl d (.sh d)
theorem SubSl.sl {K : Fg} {I G H : Hp} {v : V} {d : D} {s : Sl} (h : SubSl d s) (r : Rep G v d) : SlS K I G H (some v) s [] := by
  cases h with
  | v e => rw [rep_dV r e]; exact .v
  | sh => exact .sh r
/-- .. of what is only read -/
inductive SubRo : D → Sl → Prop
  | v {d x} : dV d = some x → SubRo d (.v x)
  | ro {d} : SubRo d (.ro d)
theorem SubRo.sl {K : Fg} {I G H : Hp} {v : V} {d : D} {s : Sl} (h : SubRo d s) (r : Rep I v d) : SlS K I G H (some v) s [] := by
  cases h with
  | v e => rw [rep_dV r e]; exact .v
  | ro => exact .ro r
section
variable {X : Cx} {Γ : Gm} {ρ ρ' : List Sl} {e a b c tg : Expr} {es : List Expr} {pos p p' : Pos} {κ κ' : Kd} {d d' : D} {x y z : V} {t : OT} {σ : L2.St} {G H G1 H1 G2 H2 : Hp} {E : En} {st : Stmt} {rest body : List Stmt} {n : Str} {i : Nat} {α : Type} {f : α → D}
theorem di_list {ds : List D} {it : Nat → Sl} (h : DE X Γ ρ e .z (.list ds)) (hi : ∀ i d, ds[i]? = some d → SubSl d (it i)) : DI X Γ ρ tg e ds.length it :=
  (pi_list h).weak fun σ H R ⟨G, S, k⟩ => ⟨G, S, fun v G1 H1 s1 e1 q => by
    have q' : Rep G1 v (.list ds) := q
    cases q' with
    | @lst a xs _ hl r =>
      have ln := r.len
      refine ⟨a, rfl, ⟨xs, SqL.of (e1 _ _ hl)⟩, k _ G1 H1 s1 e1 ⟨fun i G' H' g1 g2 _ hi => ?_, fun i G' H' x H'' g1 g2 _ hlt hy => ?_, fun i G' H' g1 g2 _ hi => ⟨xs, SqL.of (g2 _ _ (g1 _ _ hl)), by omega⟩⟩⟩
      · exact ⟨xs, xs[i], SqL.of (g2 _ _ (g1 _ _ hl)), List.getElem?_eq_getElem (by omega)⟩
      · obtain ⟨rfl, hx⟩ := hy
        obtain ⟨d, h1, h2⟩ := (Reps.mono g1 r).getV (hx xs (SqL.of (g2 _ _ (g1 _ _ hl))))
        exact ⟨G', Step.refl _ _, g2, (hi i d h1).sl h2⟩⟩
theorem di_listR {ds : List D} {it : Nat → Sl} (h : DE X Γ ρ e .r (.list ds)) (hi : ∀ i d, ds[i]? = some d → SubRo d (it i)) : DI X Γ ρ tg e ds.length it :=
  (pi_list h).weak fun σ H R ⟨G, S, k⟩ => ⟨G, S, fun v G1 H1 s1 e1 q => by
    have q' : Rep Γ.H v (.list ds) := q
    cases q' with
    | @lst a xs _ hl r =>
      have ln := r.len
      refine ⟨a, rfl, ⟨xs, SqL.of ((S.step.trans s1).h _ _ hl)⟩, k _ G1 H1 s1 e1 ⟨fun i G' H' g1 g2 g3 hi => ?_, fun i G' H' x H'' g1 g2 g3 hlt hy => ?_, fun i G' H' g1 g2 g3 hi => ⟨xs, SqL.of (g3 _ _ hl), by omega⟩⟩⟩
      · exact ⟨xs, xs[i], SqL.of (g3 _ _ hl), List.getElem?_eq_getElem (by omega)⟩
      · obtain ⟨rfl, hx⟩ := hy
        obtain ⟨d, h1, h2⟩ := r.getV (hx xs (SqL.of (g3 _ _ hl)))
        exact ⟨G', Step.refl _ _, g2, (hi i d h1).sl h2⟩⟩
/-- items of typed lists -/
theorem map_at {β : Type} [Inhabited α] {g : α → β} {xs : List α} {i : Nat} {d : β} (h : (xs.map g)[i]? = some d) : d = g (xs.getD i default) := by
  rw [List.getElem?_map] at h
  cases e : xs[i]? with
  | none => rw [e] at h; cases h
  | some a =>
    rw [e] at h
    rw [List.getD_eq_getElem?_getD, e]
    exact (Option.some.inj h).symm
theorem di_z [Inhabited α] {xs : List α} (h : DE X Γ ρ e .z (dl f xs)) : DI X Γ ρ tg e xs.length (fun i => .sh (f (xs.getD i default))) := by
  have := di_list (tg := tg) (it := fun i => .sh (f (xs.getD i default))) h fun i d hd => by rw [map_at hd]; exact .sh
  rwa [List.length_map] at this
theorem di_r [Inhabited α] {xs : List α} (h : DE X Γ ρ e .r (dl f xs)) : DI X Γ ρ tg e xs.length (fun i => .ro (f (xs.getD i default))) := by
  have := di_listR (tg := tg) (it := fun i => .ro (f (xs.getD i default))) h fun i d hd => by rw [map_at hd]; exact .ro
  rwa [List.length_map] at this
theorem di_zI {xs : List Int} (h : DE X Γ ρ e .z (dl dI xs)) : DI X Γ ρ tg e xs.length (fun i => .v (.int (xs.getD i default))) := by
  have := di_list (tg := tg) (it := fun i => .v (.int (xs.getD i default))) h fun i d hd => by rw [map_at hd]; exact .v rfl
  rwa [List.length_map] at this
theorem di_rI {xs : List Int} (h : DE X Γ ρ e .r (dl dI xs)) : DI X Γ ρ tg e xs.length (fun i => .v (.int (xs.getD i default))) := by
  have := di_listR (tg := tg) (it := fun i => .v (.int (xs.getD i default))) h fun i d hd => by rw [map_at hd]; exact .v rfl
  rwa [List.length_map] at this
theorem di_range {m : Int} {pr : Pos} (ha : DV X Γ ρ a (.int m)) (hb : m < 2 ^ 62) (hb2 : -(2 ^ 62) ≤ m) (hm : X.mg "range" = none) (hg : Gl X "range" := by rfl) (hs1 : starEach [a] X.env = (false, eval a X.env) :: starEach [] X.env := by rfl) (hs : starEach [a] X.env = [(false, eval a X.env)] := by rfl) :
    DI X Γ ρ tg (.Call (.Name "range" p) [a] [] pos) m.toNat (fun i => .v (.int (i : Int))) :=
  (pi_range1 hg hm (pa_cons ha pa_nil hs1) hs).weak fun σ H R ⟨G, S, k⟩ => ⟨G, S, fun v G1 H1 s1 e1 (q : v = .int m) => by
    rw [q]
    exact ⟨m, rfl, hb2, hb, k _ G1 H1 s1 e1 ⟨fun _ _ _ _ _ _ h => h, fun i G' H' x H'' g1 g2 _ hlt hy => by
      obtain ⟨rfl, rfl⟩ := hy
      refine ⟨G', Step.refl _ _, g2, ?_⟩
      show SlS _ _ _ _ (some (V.int (0 + (i : Int)))) _ _
      rw [Int.zero_add]
      exact .v, fun _ _ _ _ _ _ h => h⟩⟩⟩
theorem di_range2 {m0 m : Int} {pr : Pos} (ha : DV X Γ ρ a (.int m0)) (hc : DV X Γ ρ b (.int m)) (hb : (-(2 ^ 62) ≤ m0 ∧ m0 < 2 ^ 62) ∧ -(2 ^ 62) ≤ m ∧ m < 2 ^ 62) (hm : X.mg "range" = none) (hg : Gl X "range" := by rfl) (hs1 : starEach [a, b] X.env = (false, eval a X.env) :: starEach [b] X.env := by rfl) (hs0 : starEach [b] X.env = (false, eval b X.env) :: starEach [] X.env := by rfl)
    (hs : starEach [a, b] X.env = [(false, eval a X.env), (false, eval b X.env)] := by rfl) (hs2 : starEach [b] X.env = [(false, eval b X.env)] := by rfl) :
    DI X Γ ρ tg (.Call (.Name "range" p) [a, b] [] pos) (m - m0).toNat (fun i => .v (.int (m0 + (i : Int)))) :=
  (pi_range2 hg hm (pa_cons ha (pa_cons hc pa_nil hs0) hs1) hs hs2).weak fun σ H R ⟨G, S, k⟩ => ⟨G, S, fun v G1 H1 s1 e1 (q : v = .int m0) => ⟨G1, S.more s1 e1, fun u G2 H2 s2 e2 (q2 : u = .int m) => by
    rw [q, q2]
    exact ⟨m0, m, rfl, ⟨hb.1.1, hb.1.2, hb.2.1, hb.2.2⟩, k _ G2 H2 (s1.trans s2) e2 ⟨fun _ _ _ _ _ _ h => h, fun i G' H' x H'' g1 g2 _ hlt hy => by
      obtain ⟨rfl, rfl⟩ := hy
      exact ⟨G', Step.refl _ _, g2, .v⟩, fun _ _ _ _ _ _ h => h⟩⟩⟩⟩
/-- targets: what they put where -/
def DG (X : Cx) (Γ : Gm) (tg : Expr) (s : Sl) (h : List Sl → List Sl) : Prop := ∃ g : TG, PG X tg g ∧ ∀ (ρ : List Sl) (σ : L2.St) (G H : Hp) (v : V) (Q : L2.St → Hp → Prop), Sr Γ G H σ ρ → SlS Γ.K Γ.H G H (some v) s [] → (∀ σ', Sr Γ G H σ' (h ρ) → Q σ' H) → g v σ H Q
theorem dg_name (j : Nat) {s : Sl} (hN : X.N.Nodup) (hj : X.N[j]? = some n := by rfl) (hx : Loc X.env.scope n := by first | exact .inl rfl | exact .inr rfl) (hf : X.fn n = true ∨ X.env.scope.names.lookup n = some .local := by first | exact .inl rfl | exact .inr rfl) : DG X Γ (.Name n pos) s (fun ρ => ρ.set j s) :=
  ⟨gName j, pg_name hN hj hx hf, fun ρ σ G H v Q S h k => k _ (S.store (Step.refl _ _) S.sub h List.nodup_nil fun _ z => by cases z)⟩
theorem dg_pair {tg1 tg2 : Expr} {kk} {d1 d2' : D} {s1 s2 : Sl} {h1 h2 : List Sl → List Sl} (hc : X.calm = true) (g1 : DG X Γ tg1 s1 h1) (g2 : DG X Γ tg2 s2 h2) (q1 : SubSl d1 s1) (q2 : SubSl d2' s2)
    (hs1 : (assignEach [tg1, tg2] X.env).map (·.2) = assign tg1 X.env :: (assignEach [tg2] X.env).map (·.2) := by rfl) (hs2 : (assignEach [tg2] X.env).map (·.2) = assign tg2 X.env :: (assignEach [] X.env).map (·.2) := by rfl)
    (hn : (assignEach [tg1, tg2] X.env).length = 2 := by rfl) (hst : (assignEach [tg1, tg2] X.env).findIdx? (·.1) = none := by rfl) : DG X Γ (.Tuple [tg1, tg2] kk pos) (.sh (.tuple [d1, d2'])) (fun ρ => h2 (h1 ρ)) := by
  obtain ⟨t1, p1, w1⟩ := g1
  obtain ⟨t2, p2, w2⟩ := g2
  refine ⟨_, pg_tup hc (pgs_cons p1 (pgs_cons p2 pgs_nil hs2) hs1) hn hst, fun ρ σ G H v Q S h k => ?_⟩
  cases h with
  | sh r =>
    cases r with
    | @tup a xs _ ht r =>
      cases r with
      | cons r1 r =>
        cases r with
        | cons r2 r =>
          cases r
          refine ⟨a, _, rfl, SqT.of (S.sub _ _ ht), rfl, _, _, rfl, ?_⟩
          refine w1 ρ σ G H _ _ S (q1.sl r1) fun σ1 S1 => ?_
          refine ⟨_, _, rfl, ?_⟩
          exact w2 _ σ1 G H _ _ S1 (q2.sl r2) fun σ2 S2 => ⟨rfl, k σ2 S2⟩

/-! ### for -/
theorem ss_for {m : Nat} {it : Nat → Sl} {hh : Nat → List Sl → List Sl} (hp : PassesOwn (model X.prog X.w) X.A X.env X.xe) (hc : X.calm = true) (hi : DI X Γ ρ tg e m it) {g : TG} (hg : PG X tg g)
    (hg2 : ∀ i, i < m → ∀ (ρ : List Sl) (σ : L2.St) (G H : Hp) (v : V) (Q : L2.St → Hp → Prop), Sr Γ G H σ ρ → SlS Γ.K Γ.H G H (some v) (it i) [] → (∀ σ', Sr Γ G H σ' (hh i ρ) → Q σ' H) → g v σ H Q)
    (Inv Bk : List Sl → Nat → Prop) (h0 : Inv ρ 0) (hs : ∀ i ρ', i < m → Inv ρ' i → SS X Γ (hh i ρ') body { E with nx := fun ρ2 => Inv ρ2 (i + 1), ct := fun ρ2 => Inv ρ2 (i + 1), bk := fun ρ2 => Bk ρ2 i })
    (hd : ∀ ρ', Inv ρ' m → SS X Γ ρ' rest E) (hb : ∀ ρ' i, i < m → Bk ρ' i → SS X Γ ρ' rest E) (hs2 : ∀ x, foldedSetIterable e X.env x = pure x := by intro _; rfl) : SS X Γ ρ (.For tg e body [] pos :: rest) E := by
  have hbody : PSs X body (fun D σ H => ∃ i ρ', i < m ∧ Inv ρ' i ∧ tS Γ (hh i ρ') { E with nx := fun ρ2 => Inv ρ2 (i + 1), ct := fun ρ2 => Inv ρ2 (i + 1), bk := fun ρ2 => Bk ρ2 i } D σ H) :=
    ⟨fun pins s σ H D I ⟨i, ρ', h1, h2, q⟩ => (hs i ρ' h1 h2).run pins s σ H D I q⟩
  refine ss_cons (M := fun ρ' => Inv ρ' m ∨ ∃ i, i < m ∧ Bk ρ' i) ((ps_for hp hc hi hg hbody hs2).weak fun D σ H ⟨G, S, k⟩ => ⟨G, S, fun J G1 H1 s1 e1 W => ?_⟩) fun ρ' h => h.elim (hd ρ') fun ⟨i, h1, h2⟩ => hb ρ' i h1 h2
  refine ⟨fun i μ σ H => μ = m - i ∧ i ≤ m ∧ ∃ ρ' G, Sr Γ G H σ ρ' ∧ Ex G1 G ∧ Inv ρ' i, ⟨m, rfl, Nat.zero_le _, ρ, G1, S.more s1 e1, Ex.refl _, h0⟩, ?_⟩
  rintro i μ σ' H' ⟨rfl, him, ρ', G', S', eg, inv⟩
  by_cases hlt : i < m
  · refine .inr ⟨W.go i G' H' eg S'.sub S'.step.h hlt, fun σ2 H2 => ∃ ρ2 G2, Sr Γ G2 H2 σ2 ρ2 ∧ Ex G1 G2 ∧ Inv ρ2 (i + 1), fun σ2 H2 ⟨ρ2, G2, S2, e2, inv2⟩ => ⟨m - (i + 1), by omega, rfl, hlt, ρ2, G2, S2, e2, inv2⟩, fun x H'' hy => ?_⟩
    obtain ⟨G3, s3, e3, sl⟩ := W.yld i G' H' x H'' eg S'.sub S'.step.h hlt hy
    refine hg2 i hlt ρ' σ' G3 H'' x _ (S'.more s3 e3) sl fun σ3 S3 => ?_
    exact ⟨i, ρ', hlt, inv, G3, S3, ⟨fun ρ2 σ2 G2 H2 h S2 x => ⟨ρ2, G2, S2, (eg.trans s3.g).trans x, h⟩, fun ρ2 σ2 G2 H2 h S2 x => k.nx ρ2 σ2 G2 H2 (.inr ⟨i, hlt, h⟩) S2 (s1.g.trans ((eg.trans s3.g).trans x)), fun ρ2 σ2 G2 H2 h S2 x => ⟨ρ2, G2, S2, (eg.trans s3.g).trans x, h⟩, k.rt⟩⟩
  · have e : i = m := by omega
    subst e
    exact .inl ⟨W.stop i G' H' eg S'.sub S'.step.h (Nat.le_refl _), k.nx ρ' σ' G' H' (.inl inv) S' (s1.g.trans eg)⟩
end
end DL

set_option Elab.async false
set_option linter.all false
set_option maxRecDepth 100000
set_option maxHeartbeats 2000000
namespace DL
open PySem L2

/-! ### places in owned trees -/
def OT.at : List Nat → OT → Option OT
  | [], t => some t
  | k :: p, .cell ts => (ts[k]?).bind fun u => OT.at p u
  | _ :: _, .fz _ => none
def OT.put : List Nat → OT → OT → OT
  | [], _, t' => t'
  | k :: p, .cell ts, t' => .cell (match ts[k]? with | some u => ts.set k (OT.put p u t') | none => ts)
  | _ :: _, .fz d, _ => .fz d
def PathV (H : Hp) : List Nat → V → V → Prop
  | [], v, w => v = w
  | k :: p, v, w => ∃ a vs u, v = .ref a ∧ H a = some (.lst vs) ∧ vs[k]? = some u ∧ PathV H p u w
theorem PathV.mono {H H' : Hp} (e : Ex H H') : ∀ {p : List Nat} {v w : V}, PathV H p v w → PathV H' p v w
  | [], _, _, h => h
  | _ :: _, _, _, ⟨a, vs, u, h1, h2, h3, h4⟩ => ⟨a, vs, u, h1, e _ _ h2, h3, PathV.mono e h4⟩
theorem PathV.snoc {H : Hp} {k : Nat} : ∀ {p : List Nat} {v w u : V} {a : Addr} {vs : List V}, PathV H p v w → w = .ref a → H a = some (.lst vs) → vs[k]? = some u → PathV H (p ++ [k]) v u
  | [], _, _, u, a, vs, h, e, h1, h2 => ⟨a, vs, u, h.trans e, h1, h2, rfl⟩
  | _ :: _, _, _, u, _, _, ⟨a, vs, u', h1, h2, h3, h4⟩, e, q1, q2 => ⟨a, vs, u', h1, h2, h3, PathV.snoc h4 e q1 q2⟩
section
variable {G H G2 H2 : Hp}
theorem OwnTs.focus : ∀ {k : Nat} {ts : List OT} {vs : List V} {A : List Addr} {t : OT}, OwnTs G H ts vs A → ts[k]? = some t → ∃ v A1 B A2, vs[k]? = some v ∧ OwnT G H t v B ∧ A = A1 ++ (B ++ A2) ∧
    ∀ (H' : Hp) (t' : OT) (B' : List Addr), (∀ b ∈ A1 ++ A2, H' b = H b) → OwnT G H' t' v B' → OwnTs G H' (ts.set k t') vs (A1 ++ (B' ++ A2))
  | 0, _, _, _, t, .cons (A := A0) (B := B0) h r, e => by
    obtain rfl := Option.some.inj e
    refine ⟨_, [], A0, B0, rfl, h, by simp, fun H' t' B' kk h' => ?_⟩
    simp only [List.nil_append]
    exact .cons h' (r.frame (Ex.refl _) (fun _ _ g => g) (fun b hb => kk b (by simpa using hb)))
  | k + 1, _, _, _, t, .cons (A := A0) (B := B0) h r, e => by
    obtain ⟨v, A1, B, A2, h1, h2, h3, h4⟩ := OwnTs.focus (k := k) (t := t) r (by simpa using e)
    refine ⟨v, A0 ++ A1, B, A2, by simpa using h1, h2, by rw [h3]; simp, fun H' t' B' kk h' => ?_⟩
    have := OwnTs.cons (h.frame (Ex.refl _) (fun _ _ g => g) (fun b hb => kk b (by simp [hb]))) (h4 H' t' B' (fun b hb => kk b (by
      rcases List.mem_append.mp hb with z | z
      · simp [z]
      · simp [z])) h')
    simpa using this
  | 0, _, _, _, t, .nil, e => by cases e
  | _ + 1, _, _, _, t, .nil, e => by cases e
theorem OwnT.path : ∀ {p : List Nat} {t : OT} {v : V} {A : List Addr} {ts : List OT} {a : Addr}, OwnT G H t v A → A.Nodup → OT.at p t = some (.cell ts) → PathV H p v (.ref a) →
    ∃ A1 B A2 vs, A = A1 ++ ((a :: B) ++ A2) ∧ G a = none ∧ H a = some (.lst vs) ∧ OwnTs G H ts vs B ∧
      ∀ (H' : Hp) (ts' : List OT) (vs' : List V) (B' : List Addr), (∀ b ∈ A1 ++ A2, H' b = H b) → H' a = some (.lst vs') → OwnTs G H' ts' vs' B' → OwnT G H' (OT.put p t (.cell ts')) v (A1 ++ ((a :: B') ++ A2))
  | [], t, v, A, ts, a, o, nd, hp, hv => by
    unfold OT.at at hp
    cases Option.some.inj hp
    have hv' : v = .ref a := hv
    subst hv'
    cases o with
    | @cell _ _ vs B hg hh r =>
      refine ⟨[], B, [], vs, by simp, hg, hh, r, fun H' ts' vs' B' _ h1 h2 => ?_⟩
      have := OwnT.cell hg h1 h2
      simpa [OT.put] using this
  | k :: p, t, v, A, ts, a, o, nd, hp, hv => by
    cases o with
    | fz _ => simp [OT.at] at hp
    | @cell us a0 vs0 A' hg hh r =>
      obtain ⟨a1, vs1, u1, e1, e2, e3, e4⟩ := hv
      cases e1
      rw [hh] at e2
      cases e2
      unfold OT.at at hp
      cases hk : us[k]? with
      | none => rw [hk] at hp; cases hp
      | some u =>
        rw [hk] at hp
        obtain ⟨v', A1, B, A2, h1, h2, h3, h4⟩ := r.focus hk
        rw [e3] at h1
        cases h1
        have nd' := nd
        rw [h3] at nd'
        have ndB : B.Nodup := by
          simp only [List.nodup_cons, List.nodup_append] at nd'
          exact nd'.2.2.1.1
        obtain ⟨A3, B3, A4, vs3, q1, q2, q3, q4, q5⟩ := OwnT.path h2 ndB hp e4
        refine ⟨a0 :: (A1 ++ A3), B3, A4 ++ A2, vs3, by rw [h3, q1]; simp, q2, q3, q4, fun H' ts' vs' B' k1 k2 k3 => ?_⟩
        have w1 := q5 H' ts' vs' B' (fun b hb => k1 b (by
          rcases List.mem_append.mp hb with z | z
          · simp [z]
          · simp [z])) k2 k3
        have w2 := h4 H' _ _ (fun b hb => k1 b (by
          rcases List.mem_append.mp hb with z | z
          · simp [z]
          · simp [z])) w1
        have w3 := OwnT.cell hg ((k1 a0 (by simp)).trans hh) w2
        have e5 : OT.put (k :: p) (.cell us) (.cell ts') = .cell (us.set k (OT.put p u (.cell ts'))) := by
          show OT.cell (match us[k]? with | some u => us.set k (OT.put p u (.cell ts')) | none => us) = _
          rw [hk]
        rw [e5]
        simpa using w3
end

/-! ### the state, its owned addresses told -/
structure SrA (Γ : Gm) (G H : Hp) (σ : L2.St) (ρ : List Sl) (A : List Addr) : Prop where
  step : Step Γ.G Γ.H G H
  sub : Ex G H
  sl : SlR Γ.K Γ.H G H σ ρ A
  nd : A.Nodup
  fr : ∀ a ∈ A, Γ.H a = none
section
variable {Γ : Gm} {G H G2 H2 : Hp} {σ : L2.St} {ρ : List Sl} {A : List Addr} {i : Nat} {t : OT} {p : List Nat} {ts : List OT} {a : Addr}
theorem SrA.sr (S : SrA Γ G H σ ρ A) : Sr Γ G H σ ρ := ⟨S.step, S.sub, A, S.sl, S.nd, S.fr⟩
theorem Sr.ad (S : Sr Γ G H σ ρ) : ∃ A, SrA Γ G H σ ρ A := let ⟨A, r, n, f⟩ := S.sl; ⟨A, S.step, S.sub, r, n, f⟩
theorem SrA.more (S : SrA Γ G H σ ρ A) (s : Step G H G2 H2) (e : Ex G2 H2) : SrA Γ G2 H2 σ ρ A := ⟨S.step.trans s, e, S.sl.more s, S.nd, S.fr⟩
theorem SrA.mem (S : SrA Γ G H σ ρ A) : ∀ b ∈ A, G b = none ∧ ∃ o, H b = some o := S.sl.mem
theorem nd_mid {A1 B A2 : List Addr} (h : (A1 ++ (B ++ A2)).Nodup) : B.Nodup ∧ ∀ b ∈ B, b ∉ A1 ++ A2 := by
  simp only [List.nodup_append, List.mem_append] at h
  refine ⟨h.2.1.1, fun b hb z => ?_⟩
  rcases List.mem_append.mp z with z | z
  · exact h.2.2 b z b (.inl hb) rfl
  · exact h.2.1.2.2 b hb b z rfl
theorem SrA.mut (S : SrA Γ G H σ ρ A) (h : ρ[i]? = some (.ow t)) (hp : OT.at p t = some (.cell ts)) {v0 : V} (h0 : σ[i]? = some (some v0)) (hv : PathV H p v0 (.ref a)) :
    ∃ vs B, H a = some (.lst vs) ∧ G a = none ∧ a ∈ A ∧ OwnTs G H ts vs B ∧ B.Nodup ∧ a ∉ B ∧ (∀ b ∈ B, b ∈ A) ∧
      ∀ (ts' : List OT) (vs' : List V) (B' : List Addr), OwnTs G H ts' vs' B' → B'.Nodup → a ∉ B' → (∀ b ∈ B', b ∈ B ∨ b ∉ A) → (∀ b ∈ B', Γ.H b = none) → Sr Γ G (upd H a (.lst vs')) σ (ρ.set i (.ow (OT.put p t (.cell ts')))) := by
  obtain ⟨o, A1, Bt, A2, h1, h2, e, h4⟩ := S.sl.focus h
  rw [h0] at h1
  cases h1
  have ndA := S.nd
  rw [e] at ndA
  obtain ⟨ndBt, dBt⟩ := nd_mid ndA
  cases h2 with
  | ow q =>
    obtain ⟨A3, B3, A4, vs, q1, q2, q3, q4, q5⟩ := q.path ndBt hp hv
    have ndBt' := ndBt
    rw [q1] at ndBt'
    obtain ⟨ndaB, daB⟩ := nd_mid ndBt'
    rw [List.nodup_cons] at ndaB
    have sub : ∀ b, b ∈ a :: B3 → b ∈ A := fun b hb => by
      rw [e, q1]
      simp only [List.mem_append]
      exact .inr (.inl (.inr (.inl hb)))
    refine ⟨vs, B3, q3, q2, sub a List.mem_cons_self, q4, ndaB.2, ndaB.1, fun b hb => sub b (List.mem_cons_of_mem _ hb), fun ts' vs' B' o' nd' na' d' f' => ?_⟩
    have dB' : ∀ b ∈ B', b ∉ A1 ++ A2 ∧ b ∉ A3 ++ A4 := fun b hb => by
      rcases d' b hb with z | z
      · refine ⟨dBt b (by rw [q1]; simp [z]), daB b (List.mem_cons_of_mem _ z)⟩
      · rw [e, q1] at z
        simp only [List.mem_append, not_or] at z ⊢
        exact ⟨⟨z.1, z.2.2⟩, ⟨z.2.1.1, z.2.1.2.2⟩⟩
    have aO : a ∉ A1 ++ A2 := dBt a (by rw [q1]; simp)
    have aI : a ∉ A3 ++ A4 := daB a List.mem_cons_self
    have w := q5 (upd H a (.lst vs')) ts' vs' B' (fun b hb => upd_ne (fun z => aI (z ▸ hb))) upd_same (o'.frame (Ex.refl _) (fun _ _ g => g) fun b hb => upd_ne (fun z => na' (z ▸ hb)))
    have w2 := h4 G (upd H a (.lst vs')) (some v0) (.ow (OT.put p t (.cell ts'))) _ (Ex.refl _) (fun _ _ g => g) (fun b hb => upd_ne (fun z => aO (z ▸ hb))) (.ow w)
    have e2 : σ.set i (some v0) = σ := by
      obtain ⟨hi, e⟩ := List.getElem?_eq_some_iff.mp h0
      rw [← e]
      simp
    rw [e2] at w2
    have aΓ : Γ.H a = none := S.fr a (sub a List.mem_cons_self)
    refine ⟨⟨S.step.g, S.step.h.mut aΓ, fun b u g1 g2 => S.step.f b u g1 g2⟩, S.sub.mut q2, _, w2, ?_, ?_⟩
    · refine nd_swap ndA ?_ fun b hb z => ?_
      · refine nd_swap ndBt' (List.nodup_cons.mpr ⟨na', nd'⟩) fun b hb z => ?_
        rcases List.mem_cons.mp hb with hb | hb
        · subst hb; exact aI z
        · exact (dB' b hb).2 z
      · simp only [List.mem_append] at hb
        rcases hb with hb | hb | hb
        · exact dBt b (by rw [q1]; simp [hb]) z
        · rcases List.mem_cons.mp hb with hb | hb
          · subst hb; exact aO z
          · exact (dB' b hb).1 z
        · exact dBt b (by rw [q1]; simp [hb]) z
    · intro x hx
      simp only [List.mem_append, List.mem_cons] at hx
      rcases hx with z | (z | (z | z) | z) | z
      · exact S.fr x (by rw [e]; simp [z])
      · exact S.fr x (by rw [e, q1]; simp [z])
      · subst z; exact aΓ
      · exact f' x z
      · exact S.fr x (by rw [e, q1]; simp [z])
      · exact S.fr x (by rw [e]; simp [z])
/-- an owned thing is taken out of its name -/
theorem SrA.take (S : SrA Γ G H σ ρ A) (h : ρ[i]? = some (.ow t)) : ∃ v B A', σ[i]? = some (some v) ∧ OwnT G H t v B ∧ B.Nodup ∧ SrA Γ G H σ (ρ.set i .un) A' ∧ (∀ b ∈ B, b ∉ A' ∧ b ∈ A) ∧ (∀ b ∈ B, Γ.H b = none) ∧ (∀ b ∈ A', b ∈ A) := by
  obtain ⟨o, A1, Bt, A2, h1, h2, e, h4⟩ := S.sl.focus h
  have ndA := S.nd
  rw [e] at ndA
  obtain ⟨ndBt, dBt⟩ := nd_mid ndA
  cases h2 with
  | @ow v _ _ q =>
    have w := h4 G H (some v) .un [] (Ex.refl _) (fun _ _ g => g) (fun _ _ => rfl) .un
    have e2 : σ.set i (some v) = σ := by
      obtain ⟨hi, e⟩ := List.getElem?_eq_some_iff.mp h1
      rw [← e]
      simp
    rw [e2] at w
    refine ⟨v, Bt, A1 ++ ([] ++ A2), h1, q, ndBt, ⟨S.step, S.sub, w, nd_swap ndA List.nodup_nil (fun _ z => by cases z), fun x hx => S.fr x ?_⟩, fun b hb => ⟨by simpa using dBt b hb, by rw [e]; simp [hb]⟩, fun b hb => S.fr b (by rw [e]; simp [hb]), fun x hx => ?_⟩
    · rw [e]
      simp only [List.nil_append, List.mem_append] at hx ⊢
      rcases hx with z | z
      · exact .inl z
      · exact .inr (.inr z)
    · rw [e]
      simp only [List.nil_append, List.mem_append] at hx ⊢
      rcases hx with z | z
      · exact .inl z
      · exact .inr (.inr z)
end
end DL

set_option Elab.async false
set_option linter.all false
set_option maxRecDepth 100000
set_option maxHeartbeats 2000000
namespace DL
open PySem L2

def tP (Γ : Gm) (ρ : List Sl) (i : Nat) (pa : List Nat) : TE := fun σ H Q => ∃ G, Sr Γ G H σ ρ ∧ ∀ v G2 H2, Step G H G2 H2 → Ex G2 H2 → (∃ v0, σ[i]? = some (some v0) ∧ PathV H2 pa v0 v) → Q v H2
def DPl (X : Cx) (Γ : Gm) (ρ : List Sl) (o : Expr) (i : Nat) (pa : List Nat) : Prop := PE X o (tP Γ ρ i pa)
theorem OwnT.pathRef {G H : Hp} : ∀ {pa : List Nat} {t : OT} {v w : V} {A : List Addr} {ts : List OT}, OwnT G H t v A → OT.at pa t = some (.cell ts) → PathV H pa v w → ∃ a, w = .ref a
  | [], t, v, w, A, ts, o, hp, hv => by
    unfold OT.at at hp
    cases Option.some.inj hp
    have hv' : v = w := hv
    subst hv'
    cases o with
    | cell hg hh r => exact ⟨_, rfl⟩
  | k :: pa, t, v, w, A, ts, o, hp, hv => by
    cases o with
    | fz _ => simp [OT.at] at hp
    | @cell us a0 vs0 A' hg hh r =>
      obtain ⟨a1, vs1, u1, e1, e2, e3, e4⟩ := hv
      cases e1
      rw [hh] at e2
      cases e2
      unfold OT.at at hp
      cases hk : us[k]? with
      | none => rw [hk] at hp; cases hp
      | some u =>
        rw [hk] at hp
        obtain ⟨v', A1, B, A2, h1, h2, _, _⟩ := r.focus hk
        rw [e3] at h1
        cases h1
        exact OwnT.pathRef h2 hp e4
section
variable {X : Cx} {Γ : Gm} {ρ ρ' : List Sl} {e a b c o : Expr} {es : List Expr} {pos p p' apos cpos : Pos} {κ κ' : Kd} {d d' : D} {x y z : V} {t t' : OT} {σ : L2.St} {G H G1 H1 G2 H2 : Hp} {E : En} {st : Stmt} {rest body : List Stmt} {n : Str} {i : Nat} {ts : List OT} {pa : List Nat}
theorem Sr.ref {v0 w : V} (S : Sr Γ G H σ ρ) (h : ρ[i]? = some (.ow t)) (hp : OT.at pa t = some (.cell ts)) (h0 : σ[i]? = some (some v0)) (hv : PathV H pa v0 w) : ∃ a, w = .ref a := by
  obtain ⟨ob, B, h1, h2⟩ := S.slot h
  rw [h0] at h1
  cases h1
  cases h2 with
  | ow q => exact q.pathRef hp hv
theorem dpl_var (i : Nat) (h : ρ[i]? = some (.ow t)) (hN : X.N[i]? = some n := by rfl) (hv : Vis X.env.scope n := by first | exact Or.inl rfl | exact Or.inr (Or.inl rfl) | exact Or.inr (Or.inr rfl)) (hd : (n == ("__debug__" : Str)) = false := by decide) (hcd : (n == ("__classdict__" : Str)) = false := by decide) :
    DPl X Γ ρ (.Name n pos) i [] := (pe_var hN hv hd hcd).weak fun σ H Q ⟨G, S, k⟩ => by
  obtain ⟨ob, B, h1, h2⟩ := S.slot h
  cases h2 with
  | ow q => exact ⟨_, h1, k _ G H (Step.refl _ _) S.sub ⟨_, h1, rfl⟩⟩
theorem dpl_ix {k : Int} {j : Nat} (ho : DPl X Γ ρ o i pa) (hb : DV X Γ ρ b (.int k)) (h : ρ[i]? = some (.ow t)) (hp : OT.at pa t = some (.cell ts)) (hk : ixN ts.length k = some j) (hj : j < ts.length) (hs : PlainIx b := by intro _ _; rfl) : DPl X Γ ρ (.Subscript o b pos) i (pa ++ [j]) :=
  (pe_ix ix_list ho hb hs).weak fun σ H Q ⟨G, S, kk⟩ => ⟨G, S, fun v G1 H1 s1 e1 ⟨v0, h0, hv⟩ => ⟨G1, S.more s1 e1, fun u G2 H2 s2 e2 (q : u = .int k) => by
    have S2 := (S.more s1 e1).more s2 e2
    have hv2 := hv.mono s2.h
    obtain ⟨a, rfl⟩ := S2.ref h hp h0 hv2
    obtain ⟨A, SA⟩ := S2.ad
    obtain ⟨vs, B, q1, _, _, q2, _⟩ := SA.mut h hp h0 hv2
    have ln := q2.len
    have hx : ∃ w, vs[j]? = some w := ⟨vs[j], List.getElem?_eq_getElem (by omega)⟩
    obtain ⟨w, hw⟩ := hx
    refine ⟨a, vs, k, w, rfl, q, SqL.of q1, ?_, kk w G2 H2 (s1.trans s2) e2 ⟨v0, h0, hv2.snoc rfl q1 hw⟩⟩
    unfold atI
    rw [ln, hk]
    exact hw⟩⟩
/-- the ways a list is changed, its value read as nothing -/
theorem ty_list {K : Fg} {a : Addr} {xs : List V} (h : H a = some (.lst xs)) : tyV K "list" (.ref a) H := Or.inl ⟨rfl, _, SqL.of h⟩
theorem ss_app (ho : DPl X Γ ρ o i pa) (he : DO X Γ ρ e t') (h : ρ[i]? = some (.ow t)) (hp : OT.at pa t = some (.cell ts)) (hl : ts.length < sizeLine) (hr : SS X Γ (ρ.set i (.ow (OT.put pa t (.cell (ts ++ [t']))))) rest E)
    (hbase : attributeBase o "append" X.env (eval o X.env) = eval o X.env := by rfl)
    (hfew : ((backTo cpos (starEach [e] X.env)).all (fun x => !x.1) && (backToKw cpos (keywordEach [] X.env)).all (fun x => x.1.isSome) && decide (([e] : List Expr).length + ([] : List Keyword).length + (if ([] : List Keyword).isEmpty then 0 else 1) < 30)) = true := by rfl)
    (hline : (apos.endLine == cpos.line) = true := by rfl) (hs : starEach [e] X.env = (false, eval e X.env) :: starEach [] X.env := by rfl) (hplain : (backTo cpos (starEach [] X.env)).any (·.1) = false := by rfl)
    (hsw : swapsWith (.Call (.Attribute o "append" apos) [e] [] cpos) none pos.line X.env = pure false := by rfl) : SS X Γ ρ (.Expr (.Call (.Attribute o "append" apos) [e] [] cpos) pos :: rest) E :=
  ss_cons (M := fun ρ' => ρ' = ρ.set i (.ow (OT.put pa t (.cell (ts ++ [t']))))) ((ps_expr (pe_bm PySem.F.plainAttrs_list PySem.F.slot_list_append PySem.F.type_list_append mt_append ho (pa_cons he pa_nil hs) hbase hfew hline hs hplain) hsw).weak fun D σ H ⟨G, S, k⟩ =>
    ⟨G, S, fun v G1 H1 s1 e1 ⟨v0, h0, hv⟩ => by
      obtain ⟨A, SA⟩ := (S.more s1 e1).ad
      obtain ⟨a, rfl⟩ := (S.more s1 e1).ref h hp h0 hv
      obtain ⟨vs1, B1, q1, _⟩ := SA.mut h hp h0 hv
      refine ⟨ty_list q1, G1, S.more s1 e1, fun w G2 H2 s2 e2 ⟨C, oc, ndC, fC⟩ => ?_⟩
      have SA2 := SA.more s2 e2
      obtain ⟨vs, B, q1, q2, q3, q4, q5, q6, q7, q8⟩ := SA2.mut h hp h0 (hv.mono s2.h)
      have ln := q4.len
      refine ⟨a, vs, w, rfl, rfl, q1, by omega, ?_⟩
      have CA : ∀ b ∈ C, b ∉ A := fun b hb z => by
        obtain ⟨_, u, hu⟩ := SA.mem b z
        rw [fC b hb] at hu; cases hu
      refine k.nx _ _ G2 _ rfl (q8 _ _ _ (q4.app (OwnTs.one oc)) (List.nodup_append.mpr ⟨q5, ndC, fun x hx y hy z => ?_⟩) ?_ ?_ ?_) (s1.g.trans s2.g)
      · subst z
        exact CA x hy (q7 x hx)
      · intro z
        rcases List.mem_append.mp z with z | z
        · exact q6 z
        · exact CA a z q3
      · intro b hb
        rcases List.mem_append.mp hb with z | z
        · exact .inl z
        · exact .inr (CA b z)
      · intro b hb
        rcases List.mem_append.mp hb with z | z
        · exact SA2.fr b (q7 b z)
        · exact (S.step.trans s1).h.none (fC b z)⟩) fun ρ' e => e ▸ hr
/-- the thing that a name holds goes into the list -/
theorem ss_appV (j : Nat) {m : Str} {p2 : Pos} (ho : DPl X Γ ρ o i pa) (h : ρ[i]? = some (.ow t)) (hp : OT.at pa t = some (.cell ts)) (hj : ρ[j]? = some (.ow t')) (hij : i ≠ j) (hl : ts.length < sizeLine) (hr : SS X Γ ((ρ.set j .un).set i (.ow (OT.put pa t (.cell (ts ++ [t']))))) rest E)
    (hN : X.N[j]? = some m := by rfl) (hvis : Vis X.env.scope m := by first | exact Or.inl rfl | exact Or.inr (Or.inl rfl) | exact Or.inr (Or.inr rfl)) (hd : (m == ("__debug__" : Str)) = false := by decide) (hcd : (m == ("__classdict__" : Str)) = false := by decide)
    (hbase : attributeBase o "append" X.env (eval o X.env) = eval o X.env := by rfl)
    (hfew : ((backTo cpos (starEach [.Name m p2] X.env)).all (fun x => !x.1) && (backToKw cpos (keywordEach [] X.env)).all (fun x => x.1.isSome) && decide (([.Name m p2] : List Expr).length + ([] : List Keyword).length + (if ([] : List Keyword).isEmpty then 0 else 1) < 30)) = true := by rfl)
    (hline : (apos.endLine == cpos.line) = true := by rfl) (hs : starEach [.Name m p2] X.env = (false, eval (.Name m p2) X.env) :: starEach [] X.env := by rfl) (hplain : (backTo cpos (starEach [] X.env)).any (·.1) = false := by rfl)
    (hsw : swapsWith (.Call (.Attribute o "append" apos) [.Name m p2] [] cpos) none pos.line X.env = pure false := by rfl) : SS X Γ ρ (.Expr (.Call (.Attribute o "append" apos) [.Name m p2] [] cpos) pos :: rest) E :=
  ss_cons (M := fun ρ' => ρ' = (ρ.set j .un).set i (.ow (OT.put pa t (.cell (ts ++ [t']))))) ((ps_expr (pe_bm PySem.F.plainAttrs_list PySem.F.slot_list_append PySem.F.type_list_append mt_append ho (pa_cons (pe_var hN hvis hd hcd) pa_nil hs) hbase hfew hline hs hplain) hsw).weak fun D σ H ⟨G, S, k⟩ =>
    ⟨G, S, fun v G1 H1 s1 e1 ⟨v0, h0, hv⟩ => by
      obtain ⟨A, SA⟩ := (S.more s1 e1).ad
      obtain ⟨a, rfl⟩ := (S.more s1 e1).ref h hp h0 hv
      obtain ⟨vs1, B1, q1, _⟩ := SA.mut h hp h0 hv
      obtain ⟨w, C, A', hw, oc, ndC, SA', dC, fC, sub⟩ := SA.take hj
      refine ⟨ty_list q1, w, hw, ?_⟩
      have h' : (ρ.set j .un)[i]? = some (.ow t) := by rw [List.getElem?_set_ne (Ne.symm hij)]; exact h
      obtain ⟨vs, B, q1, q2, q3, q4, q5, q6, q7, q8⟩ := SA'.mut h' hp h0 hv
      have ln := q4.len
      refine ⟨a, vs, w, rfl, rfl, q1, by omega, ?_⟩
      refine k.nx _ _ G1 _ rfl (q8 _ _ _ (q4.app (OwnTs.one oc)) (List.nodup_append.mpr ⟨q5, ndC, fun x hx y hy z => ?_⟩) ?_ ?_ ?_) s1.g
      · subst z
        exact (dC x hy).1 (q7 x hx)
      · intro z
        rcases List.mem_append.mp z with z | z
        · exact q6 z
        · exact (dC a z).1 q3
      · intro b hb
        rcases List.mem_append.mp hb with z | z
        · exact .inl z
        · exact .inr (dC b z).1
      · intro b hb
        rcases List.mem_append.mp hb with z | z
        · exact SA'.fr b (q7 b z)
        · exact fC b z⟩) fun ρ' e => e ▸ hr
theorem OwnTs.at {k : Nat} {vs : List V} {A : List Addr} {u : OT} (h : OwnTs G H ts vs A) (e : ts[k]? = some u) : ∃ v A1 B A2, vs[k]? = some v ∧ OwnT G H u v B ∧ A = A1 ++ (B ++ A2) ∧ ∀ (v' : V) (t' : OT) (B' : List Addr), OwnT G H t' v' B' → OwnTs G H (ts.set k t') (vs.set k v') (A1 ++ (B' ++ A2)) := by
  induction k generalizing ts vs A with
  | zero =>
    cases h with
    | nil => cases e
    | @cons _ _ _ _ A0 B0 h r =>
      obtain rfl := Option.some.inj e
      exact ⟨_, [], A0, B0, rfl, h, by simp, fun v' t' B' h' => by simpa using OwnTs.cons h' r⟩
  | succ k ih =>
    cases h with
    | nil => cases e
    | @cons _ _ _ _ A0 B0 h r =>
      obtain ⟨v, A1, B, A2, h1, h2, h3, h4⟩ := ih r (by simpa using e)
      refine ⟨v, A0 ++ A1, B, A2, by simpa using h1, h2, by rw [h3]; simp, fun v' t' B' h' => ?_⟩
      simpa using OwnTs.cons h (h4 v' t' B' h')
/-- o[i] = e -/
theorem ss_st {k : Int} {j : Nat} {u : OT} (ho : DPl X Γ ρ o i pa) (hb : DV X Γ ρ b (.int k)) (he : DO X Γ ρ e t') (h : ρ[i]? = some (.ow t)) (hp : OT.at pa t = some (.cell ts)) (hk : ixN ts.length k = some j) (hj : ts[j]? = some u) (hr : SS X Γ (ρ.set i (.ow (OT.put pa t (.cell (ts.set j t'))))) rest E)
    (ha : ∀ v, assign (.Subscript o b p) X.env v = (do
      let ov ← holding [v] (eval o X.env)
      let iv ← holding [v, ov] (eval b X.env)
      standAt p
      holding [v, ov, iv] (setItem ov iv v)
      release [v, ov, iv] []) := by intro _; rfl)
    (hs : swapsWithSole [.Subscript o b p] e pos.line X.env = pure false := by rfl) (hw : swappedStores [.Subscript o b p] e X.env = pure none := by rfl) (h1 : (assignEach [.Subscript o b p] X.env).map (·.2) = [assign (.Subscript o b p) X.env] := by rfl) :
    SS X Γ ρ (.Assign [.Subscript o b p] e pos :: rest) E :=
  ss_cons (M := fun ρ' => ρ' = ρ.set i (.ow (OT.put pa t (.cell (ts.set j t'))))) ((ps_asg he (pg_sub ho hb set_list ha) hs hw h1).weak fun D σ H ⟨G, S, kk⟩ => ⟨G, S, fun w G1 H1 s1 e1 ⟨C, oc, ndC, fC⟩ => ⟨G1, S.more s1 e1, fun v G2 H2 s2 e2 ⟨v0, h0, hv⟩ => ⟨G2, (S.more s1 e1).more s2 e2, fun iv G3 H3 s3 e3 (q : iv = .int k) => by
    obtain ⟨A, SA⟩ := S.ad
    have SA3 := ((SA.more s1 e1).more s2 e2).more s3 e3
    have hv3 := hv.mono s3.h
    obtain ⟨a, rfl⟩ := SA3.sr.ref h hp h0 hv3
    obtain ⟨vs, B, q1, q2, q3, q4, q5, q6, q7, q8⟩ := SA3.mut h hp h0 hv3
    have ln := q4.len
    obtain ⟨v', A1, B', A2, w1, w2, w3, w4⟩ := q4.at hj
    refine ⟨a, vs, k, j, rfl, q, q1, by rw [ln]; exact hk, ?_⟩
    have CA : ∀ b ∈ C, b ∉ A := fun b hb z => by
      obtain ⟨_, u, hu⟩ := SA.mem b z
      rw [fC b hb] at hu; cases hu
    have q5' := q5
    rw [w3] at q5'
    refine kk.nx _ _ G3 _ rfl (q8 _ _ _ (w4 w t' C ((oc.more s2).more s3)) (nd_swap q5' ndC fun b hb z => CA b hb (q7 b (by rw [w3]; simp only [List.mem_append] at z ⊢; rcases z with z | z; exact .inl z; exact .inr (.inr z)))) ?_ ?_ ?_) ((s1.g.trans s2.g).trans s3.g)
    · intro z
      simp only [List.mem_append] at z
      rcases z with z | z | z
      · exact q6 (by rw [w3]; simp [z])
      · exact CA a z q3
      · exact q6 (by rw [w3]; simp [z])
    · intro b hb
      simp only [List.mem_append] at hb
      rcases hb with z | z | z
      · exact .inl (by rw [w3]; simp [z])
      · exact .inr (CA b z)
      · exact .inl (by rw [w3]; simp [z])
    · intro b hb
      simp only [List.mem_append] at hb
      rcases hb with z | z | z
      · exact SA3.fr b (q7 b (by rw [w3]; simp [z]))
      · exact S.step.h.none (fC b z)
      · exact SA3.fr b (q7 b (by rw [w3]; simp [z]))⟩⟩⟩) fun ρ' e => e ▸ hr

/-! ### the same, by types -/
variable {α : Type} {g : α → OT}
theorem at_nil (t : OT) : OT.at [] t = some t := rfl
theorem ss_app0 (i : Nat) {xs : List α} {x : α} (ho : DPl X Γ ρ o i []) (he : DO X Γ ρ e (g x)) (h : ρ[i]? = some (.ow (tl g xs))) (hl : xs.length < 16000000) (hr : SS X Γ (ρ.set i (.ow (tl g (xs ++ [x])))) rest E)
    (hbase : attributeBase o "append" X.env (eval o X.env) = eval o X.env := by rfl)
    (hfew : ((backTo cpos (starEach [e] X.env)).all (fun x => !x.1) && (backToKw cpos (keywordEach [] X.env)).all (fun x => x.1.isSome) && decide (([e] : List Expr).length + ([] : List Keyword).length + (if ([] : List Keyword).isEmpty then 0 else 1) < 30)) = true := by rfl)
    (hline : (apos.endLine == cpos.line) = true := by rfl) (hs : starEach [e] X.env = (false, eval e X.env) :: starEach [] X.env := by rfl) (hplain : (backTo cpos (starEach [] X.env)).any (·.1) = false := by rfl)
    (hsw : swapsWith (.Call (.Attribute o "append" apos) [e] [] cpos) none pos.line X.env = pure false := by rfl) : SS X Γ ρ (.Expr (.Call (.Attribute o "append" apos) [e] [] cpos) pos :: rest) E :=
  ss_app ho he h (at_nil _) (by rw [List.length_map]; exact Nat.lt_of_lt_of_le hl (by decide)) (by
    have e1 : OT.put [] (tl g xs) (.cell (xs.map g ++ [g x])) = tl g (xs ++ [x]) := by unfold tl OT.put; rw [List.map_append]; rfl
    rw [e1]; exact hr) hbase hfew hline hs hplain hsw
theorem ss_app0V (i j : Nat) {m : Str} {p2 : Pos} {xs : List α} {x : α} (ho : DPl X Γ ρ o i []) (h : ρ[i]? = some (.ow (tl g xs))) (hj : ρ[j]? = some (.ow (g x))) (hij : i ≠ j) (hl : xs.length < 16000000) (hr : SS X Γ ((ρ.set j .un).set i (.ow (tl g (xs ++ [x])))) rest E)
    (hN : X.N[j]? = some m := by rfl) (hvis : Vis X.env.scope m := by first | exact Or.inl rfl | exact Or.inr (Or.inl rfl) | exact Or.inr (Or.inr rfl)) (hd : (m == ("__debug__" : Str)) = false := by decide) (hcd : (m == ("__classdict__" : Str)) = false := by decide)
    (hbase : attributeBase o "append" X.env (eval o X.env) = eval o X.env := by rfl)
    (hfew : ((backTo cpos (starEach [.Name m p2] X.env)).all (fun x => !x.1) && (backToKw cpos (keywordEach [] X.env)).all (fun x => x.1.isSome) && decide (([.Name m p2] : List Expr).length + ([] : List Keyword).length + (if ([] : List Keyword).isEmpty then 0 else 1) < 30)) = true := by rfl)
    (hline : (apos.endLine == cpos.line) = true := by rfl) (hs : starEach [.Name m p2] X.env = (false, eval (.Name m p2) X.env) :: starEach [] X.env := by rfl) (hplain : (backTo cpos (starEach [] X.env)).any (·.1) = false := by rfl)
    (hsw : swapsWith (.Call (.Attribute o "append" apos) [.Name m p2] [] cpos) none pos.line X.env = pure false := by rfl) : SS X Γ ρ (.Expr (.Call (.Attribute o "append" apos) [.Name m p2] [] cpos) pos :: rest) E :=
  ss_appV j ho h (at_nil _) hj hij (by rw [List.length_map]; exact Nat.lt_of_lt_of_le hl (by decide)) (by
    have e1 : OT.put [] (tl g xs) (.cell (xs.map g ++ [g x])) = tl g (xs ++ [x]) := by unfold tl OT.put; rw [List.map_append]; rfl
    rw [e1]; exact hr) hN hvis hd hcd hbase hfew hline hs hplain hsw
/-- a list's place changed -/
def pyIx (n : Nat) (k : Int) : Nat := if 0 ≤ k then k.toNat else (k + n).toNat
theorem ixN_pyIx {n : Nat} {k : Int} (h : inR n k) : ixN n k = some (pyIx n k) ∧ pyIx n k < n := by
  obtain ⟨h1, h2⟩ := h
  unfold ixN pyIx
  by_cases h0 : 0 ≤ k
  · rw [if_pos h0, if_pos h2, if_pos h0]
    exact ⟨rfl, by omega⟩
  · rw [if_neg h0, if_pos h1, if_neg h0]
    exact ⟨rfl, by omega⟩
theorem pyAt_ix [Inhabited α] (xs : List α) (k : Int) : pyAt xs k = xs.getD (pyIx xs.length k) default := by
  unfold pyAt pyIx
  split <;> rfl
def pySet (xs : List α) (k : Int) (x : α) : List α := xs.set (pyIx xs.length k) x
theorem ss_st0 (i : Nat) {xs : List α} {x : α} {k : Int} (ho : DPl X Γ ρ o i []) (hb : DV X Γ ρ b (.int k)) (he : DO X Γ ρ e (g x)) (h : ρ[i]? = some (.ow (tl g xs))) (hk : inR xs.length k) (hr : SS X Γ (ρ.set i (.ow (tl g (pySet xs k x)))) rest E)
    (ha : ∀ v, assign (.Subscript o b p) X.env v = (do
      let ov ← holding [v] (eval o X.env)
      let iv ← holding [v, ov] (eval b X.env)
      standAt p
      holding [v, ov, iv] (setItem ov iv v)
      release [v, ov, iv] []) := by intro _; rfl)
    (hs : swapsWithSole [.Subscript o b p] e pos.line X.env = pure false := by rfl) (hw : swappedStores [.Subscript o b p] e X.env = pure none := by rfl) (h1 : (assignEach [.Subscript o b p] X.env).map (·.2) = [assign (.Subscript o b p) X.env] := by rfl) :
    SS X Γ ρ (.Assign [.Subscript o b p] e pos :: rest) E := by
  obtain ⟨q1, q2⟩ := ixN_pyIx hk
  have e1 : (xs.map g)[pyIx xs.length k]? = some (g (xs[pyIx xs.length k]'q2)) := by simp [q2]
  exact ss_st ho hb he h (at_nil _) (by rw [List.length_map]; exact q1) e1 (by
    have e1 : OT.put [] (tl g xs) (.cell ((xs.map g).set (pyIx xs.length k) (g x))) = tl g (pySet xs k x) := by
      unfold tl OT.put pySet
      rw [List.map_set]
    rw [e1]; exact hr) ha hs hw h1
/-- .. of a list within a list -/
theorem at_one {xss : List (List α)} {j : Nat} (h : j < xss.length) : OT.at [j] (tl (tl g) xss) = some (.cell ((xss.getD j []).map g)) := by
  unfold tl OT.at
  rw [List.getElem?_map, List.getElem?_eq_getElem h]
  simp [OT.at, tl, List.getD_eq_getElem?_getD, h]
theorem put_one {xss : List (List α)} {j : Nat} {ys : List α} (h : j < xss.length) : OT.put [j] (tl (tl g) xss) (.cell (ys.map g)) = tl (tl g) (xss.set j ys) := by
  unfold tl OT.put
  rw [List.getElem?_map, List.getElem?_eq_getElem h]
  simp [OT.put, List.map_set]
theorem ss_app1 (i : Nat) {xss : List (List α)} {x : α} {j : Nat} (ho : DPl X Γ ρ o i [j]) (he : DO X Γ ρ e (g x)) (h : ρ[i]? = some (.ow (tl (tl g) xss))) (hj : j < xss.length) (hl : (xss.getD j []).length < 16000000) (hr : SS X Γ (ρ.set i (.ow (tl (tl g) (xss.set j (xss.getD j [] ++ [x]))))) rest E)
    (hbase : attributeBase o "append" X.env (eval o X.env) = eval o X.env := by rfl)
    (hfew : ((backTo cpos (starEach [e] X.env)).all (fun x => !x.1) && (backToKw cpos (keywordEach [] X.env)).all (fun x => x.1.isSome) && decide (([e] : List Expr).length + ([] : List Keyword).length + (if ([] : List Keyword).isEmpty then 0 else 1) < 30)) = true := by rfl)
    (hline : (apos.endLine == cpos.line) = true := by rfl) (hs : starEach [e] X.env = (false, eval e X.env) :: starEach [] X.env := by rfl) (hplain : (backTo cpos (starEach [] X.env)).any (·.1) = false := by rfl)
    (hsw : swapsWith (.Call (.Attribute o "append" apos) [e] [] cpos) none pos.line X.env = pure false := by rfl) : SS X Γ ρ (.Expr (.Call (.Attribute o "append" apos) [e] [] cpos) pos :: rest) E :=
  ss_app ho he h (at_one hj) (by rw [List.length_map]; exact Nat.lt_of_lt_of_le hl (by decide)) (by
    have e1 : (xss.getD j []).map g ++ [g x] = (xss.getD j [] ++ [x]).map g := by rw [List.map_append]; rfl
    rw [e1, put_one hj]; exact hr) hbase hfew hline hs hplain hsw
theorem ss_st1 (i : Nat) {xss : List (List α)} {x : α} {k : Int} {j : Nat} (ho : DPl X Γ ρ o i [j]) (hb : DV X Γ ρ b (.int k)) (he : DO X Γ ρ e (g x)) (h : ρ[i]? = some (.ow (tl (tl g) xss))) (hj : j < xss.length) (hk : inR (xss.getD j []).length k) (hr : SS X Γ (ρ.set i (.ow (tl (tl g) (xss.set j (pySet (xss.getD j []) k x))))) rest E)
    (ha : ∀ v, assign (.Subscript o b p) X.env v = (do
      let ov ← holding [v] (eval o X.env)
      let iv ← holding [v, ov] (eval b X.env)
      standAt p
      holding [v, ov, iv] (setItem ov iv v)
      release [v, ov, iv] []) := by intro _; rfl)
    (hs : swapsWithSole [.Subscript o b p] e pos.line X.env = pure false := by rfl) (hw : swappedStores [.Subscript o b p] e X.env = pure none := by rfl) (h1 : (assignEach [.Subscript o b p] X.env).map (·.2) = [assign (.Subscript o b p) X.env] := by rfl) :
    SS X Γ ρ (.Assign [.Subscript o b p] e pos :: rest) E := by
  obtain ⟨q1, q2⟩ := ixN_pyIx hk
  have e1 : ((xss.getD j []).map g)[pyIx (xss.getD j []).length k]? = some (g ((xss.getD j [])[pyIx (xss.getD j []).length k]'q2)) := by rw [List.getElem?_map, List.getElem?_eq_getElem q2] <;> rfl
  exact ss_st ho hb he h (at_one hj) (by rw [List.length_map]; exact q1) e1 (by
    have e1 : ((xss.getD j []).map g).set (pyIx (xss.getD j []).length k) (g x) = (pySet (xss.getD j []) k x).map g := by
      unfold pySet
      rw [List.map_set]
    rw [e1, put_one hj]; exact hr) ha hs hw h1
theorem dpl_ix1 (i : Nat) {xss : List (List α)} {k : Int} (ho : DPl X Γ ρ o i []) (hb : DV X Γ ρ b (.int k)) (h : ρ[i]? = some (.ow (tl (tl g) xss))) (hk : inR xss.length k) (hs : PlainIx b := by intro _ _; rfl) : DPl X Γ ρ (.Subscript o b pos) i [pyIx xss.length k] := by
  obtain ⟨q1, q2⟩ := ixN_pyIx hk
  exact dpl_ix (ts := xss.map (tl g)) ho hb h (at_nil _) (by rw [List.length_map]; exact q1) (by rw [List.length_map]; exact q2) hs
end
end DL

set_option Elab.async false
set_option linter.all false
set_option maxRecDepth 100000
set_option maxHeartbeats 2000000
namespace DL
open PySem L2

/-- the ints in order -/
def sortI (ns : List Int) : List Int := ns.mergeSort (fun a b => decide (a ≤ b))
theorem sortI_perm (ns : List Int) : (sortI ns).Perm ns := List.mergeSort_perm _ _
theorem sortI_sorted (ns : List Int) : (sortI ns).Pairwise (· ≤ ·) := by
  have := List.pairwise_mergeSort (le := fun a b : Int => decide (a ≤ b)) (fun a b c h1 h2 => by simp at *; omega) (fun a b => by simp; omega) ns
  exact this.imp fun h => by simpa using h
theorem sorted_uniq : ∀ {xs ys : List Int}, xs.Perm ys → xs.Pairwise (· ≤ ·) → ys.Pairwise (· ≤ ·) → xs = ys
  | [], ys, p, _, _ => by simpa using p.symm.eq_nil.symm
  | x :: xs, [], p, _, _ => by simpa using p.eq_nil
  | x :: xs, y :: ys, p, hx, hy => by
    rw [List.pairwise_cons] at hx hy
    have e : x = y := by
      have h1 : x ∈ y :: ys := p.subset List.mem_cons_self
      have h2 : y ∈ x :: xs := p.symm.subset List.mem_cons_self
      rcases List.mem_cons.mp h1 with z | z
      · exact z
      · rcases List.mem_cons.mp h2 with w | w
        · exact w.symm
        · have := hx.1 y w
          have := hy.1 x z
          omega
    subst e
    rw [sorted_uniq (List.Perm.cons_inv p) hx.2 hy.2]
theorem sortI_uniq {ns ms : List Int} (p : ms.Perm ns) (h : ms.Pairwise (· ≤ ·)) : ms = sortI ns := sorted_uniq (p.trans (sortI_perm ns).symm) h (sortI_sorted ns)
/-- the greatest, the least -/
def maxI : List Int → Int
  | [] => 0
  | x :: xs => xs.foldl max x
def minI : List Int → Int
  | [] => 0
  | x :: xs => xs.foldl min x
theorem foldl_max : ∀ (xs : List Int) (x : Int), xs.foldl max x ∈ x :: xs ∧ ∀ y ∈ x :: xs, y ≤ xs.foldl max x
  | [], x => by simp
  | z :: xs, x => by
    obtain ⟨h1, h2⟩ := foldl_max xs (max x z)
    rw [List.foldl_cons]
    refine ⟨?_, fun y hy => ?_⟩
    · rcases List.mem_cons.mp h1 with e | e
      · rw [e]
        by_cases q : x ≤ z
        · rw [Int.max_eq_right q]; simp
        · rw [Int.max_eq_left (by omega)]; simp
      · simp [e]
    · have h3 := h2 (max x z) List.mem_cons_self
      rcases List.mem_cons.mp hy with e | hy
      · subst e; have := Int.le_max_left y z; omega
      · rcases List.mem_cons.mp hy with e | hy
        · subst e; have := Int.le_max_right x y; omega
        · exact h2 y (List.mem_cons_of_mem _ hy)
theorem foldl_min : ∀ (xs : List Int) (x : Int), xs.foldl min x ∈ x :: xs ∧ ∀ y ∈ x :: xs, xs.foldl min x ≤ y
  | [], x => by simp
  | z :: xs, x => by
    obtain ⟨h1, h2⟩ := foldl_min xs (min x z)
    rw [List.foldl_cons]
    refine ⟨?_, fun y hy => ?_⟩
    · rcases List.mem_cons.mp h1 with e | e
      · rw [e]
        by_cases q : x ≤ z
        · rw [Int.min_eq_left q]; simp
        · rw [Int.min_eq_right (by omega)]; simp
      · simp [e]
    · have h3 := h2 (min x z) List.mem_cons_self
      rcases List.mem_cons.mp hy with e | hy
      · subst e; have := Int.min_le_left y z; omega
      · rcases List.mem_cons.mp hy with e | hy
        · subst e; have := Int.min_le_right x y; omega
        · exact h2 y (List.mem_cons_of_mem _ hy)
theorem maxI_mem {ns : List Int} (h : 0 < ns.length) : maxI ns ∈ ns := by
  cases ns with
  | nil => simp at h
  | cons x xs => exact (foldl_max xs x).1
theorem maxI_ge {ns : List Int} {y : Int} (h : y ∈ ns) : y ≤ maxI ns := by
  cases ns with
  | nil => simp at h
  | cons x xs => exact (foldl_max xs x).2 y h
theorem minI_mem {ns : List Int} (h : 0 < ns.length) : minI ns ∈ ns := by
  cases ns with
  | nil => simp at h
  | cons x xs => exact (foldl_min xs x).1
theorem minI_le {ns : List Int} {y : Int} (h : y ∈ ns) : minI ns ≤ y := by
  cases ns with
  | nil => simp at h
  | cons x xs => exact (foldl_min xs x).2 y h

section
variable {X : Cx} {Γ : Gm} {ρ ρ' : List Sl} {e a b c o : Expr} {es : List Expr} {pos p p' apos cpos : Pos} {κ κ' : Kd} {d d' : D} {x y z : V} {t t' : OT} {σ : L2.St} {G H G1 H1 G2 H2 : Hp} {n : Str} {i j : Int} {α : Type} {f : α → D} {g : α → OT}
theorem cb1 {r : List V → Hp → VK → Prop} {PA P : Hp → Hp → Hp → V → Prop} (h : PE X e (tCB r (tCons (tX Γ ρ PA) tNil)))
    (w : ∀ (σ : L2.St) (G H G1 H1 : Hp) (v : V) (Q : VK), Sr Γ G H σ ρ → Step G H G1 H1 → Ex G1 H1 → PA H G1 H1 v → (∀ w G2 H2, Step G1 H1 G2 H2 → Ex G2 H2 → P H G2 H2 w → Q w H2) → r [v] H1 Q) : PE X e (tX Γ ρ P) :=
  h.weak fun σ H Q ⟨G, S, k⟩ => ⟨G, S, fun v G1 H1 s1 e1 p1 => w σ G H G1 H1 v Q S s1 e1 p1 fun u G2 H2 s2 e2 p2 => k u G2 H2 (s1.trans s2) e2 p2⟩
theorem cb2 {r : List V → Hp → VK → Prop} {PA PB P : Hp → Hp → Hp → V → Prop} (h : PE X e (tCB r (tCons (tX Γ ρ PA) (tCons (tX Γ ρ PB) tNil))))
    (w : ∀ (σ : L2.St) (G H G1 H1 G2 H2 : Hp) (v u : V) (Q : VK), Sr Γ G H σ ρ → Step G H G1 H1 → Ex G1 H1 → PA H G1 H1 v → Step G1 H1 G2 H2 → Ex G2 H2 → PB H1 G2 H2 u → (∀ w G3 H3, Step G2 H2 G3 H3 → Ex G3 H3 → P H G3 H3 w → Q w H3) → r [v, u] H2 Q) : PE X e (tX Γ ρ P) :=
  h.weak fun σ H Q ⟨G, S, k⟩ => ⟨G, S, fun v G1 H1 s1 e1 p1 => ⟨G1, S.more s1 e1, fun u G2 H2 s2 e2 p2 => w σ G H G1 H1 G2 H2 v u Q S s1 e1 p1 s2 e2 p2 fun z G3 H3 s3 e3 p3 => k z G3 H3 ((s1.trans s2).trans s3) e3 p3⟩⟩
theorem Rep.l {ds : List D} {v : V} (r : Rep H v (.list ds)) : ∃ a xs, v = .ref a ∧ H a = some (.lst xs) ∧ Reps H xs ds := by
  cases r with
  | lst h r => exact ⟨_, _, rfl, h, r⟩
/-- len -/
theorem dv_lenD {ds : List D} (ha : DE X Γ ρ a κ (.list ds)) (hm : X.mg "len" = none) (hg : Gl X "len" := by rfl) (he : starEach [a] X.env = (false, eval a X.env) :: starEach [] X.env := by rfl) (hpl : (backTo pos (starEach [] X.env)).any (·.1) = false := by rfl) : DV X Γ ρ (.Call (.Name "len" p) [a] [] pos) (.int (ds.length : Int)) :=
  cb1 (pe_callB call_len_seq hg hm boot_len (pa_cons ha pa_nil he) (by decide) (by decide) he hpl) fun σ G H G1 H1 v Q S s1 e1 q k => by
    obtain ⟨a, xs, rfl, h, r⟩ := (pK_c S s1 e1 q).l
    exact ⟨a, xs, rfl, .inl (SqL.of h), by rw [r.len]; exact k _ G1 H1 (Step.refl _ _) e1 rfl⟩
theorem dv_len {xs : List α} (ha : DE X Γ ρ a κ (dl f xs)) (hm : X.mg "len" = none) (hg : Gl X "len" := by rfl) (he : starEach [a] X.env = (false, eval a X.env) :: starEach [] X.env := by rfl) (hpl : (backTo pos (starEach [] X.env)).any (·.1) = false := by rfl) : DV X Γ ρ (.Call (.Name "len" p) [a] [] pos) (.int (xs.length : Int)) := by
  have := dv_lenD (ds := xs.map f) (pos := pos) (p := p) ha hm hg he hpl
  rwa [List.length_map] at this
theorem dv_lenS {ns : List Int} (hK : Γ.K = X.K) (ha : DS_ X Γ ρ a ns) (hm : X.mg "len" = none) (hg : Gl X "len" := by rfl) (he : starEach [a] X.env = (false, eval a X.env) :: starEach [] X.env := by rfl) (hpl : (backTo pos (starEach [] X.env)).any (·.1) = false := by rfl) : DV X Γ ρ (.Call (.Name "len" p) [a] [] pos) (.int (ns.length : Int)) :=
  cb1 (pe_callB call_len_seq hg hm boot_len (pa_cons ha pa_nil he) (by decide) (by decide) he hpl) fun σ G H G1 H1 v Q S s1 e1 ⟨a, ev, q⟩ k => by
    rw [hK] at q
    exact ⟨a, _, by rw [ev], .inl q, by rw [List.length_map]; exact k _ G1 H1 (Step.refl _ _) e1 rfl⟩
theorem dv_lenT {u : Str} (ha : DV X Γ ρ a (.str u)) (hu : u.length ≤ sizeLine) (hm : X.mg "len" = none) (hg : Gl X "len" := by rfl) (he : starEach [a] X.env = (false, eval a X.env) :: starEach [] X.env := by rfl) (hpl : (backTo pos (starEach [] X.env)).any (·.1) = false := by rfl) : DV X Γ ρ (.Call (.Name "len" p) [a] [] pos) (.int (u.length : Int)) :=
  cb1 (pe_callB call_len_str hg hm boot_len (pa_cons ha pa_nil he) (by decide) (by decide) he hpl) fun σ G H G1 H1 v Q S s1 e1 q k => ⟨u, by rw [q], hu, k _ G1 H1 (Step.refl _ _) e1 rfl⟩
/-- sum, max, min of ints; all, any of truth values -/
theorem dv_sum {ns : List Int} (xo : XO X) (ha : DE X Γ ρ a κ (dl dI ns)) (hm : X.mg "sum" = none) (hg : Gl X "sum" := by rfl) (he : starEach [a] X.env = (false, eval a X.env) :: starEach [] X.env := by rfl) (hpl : (backTo pos (starEach [] X.env)).any (·.1) = false := by rfl) : DV X Γ ρ (.Call (.Name "sum" p) [a] [] pos) (.int ns.sum) :=
  cb1 (pe_callB (cr_sum xo.calm) hg hm (by decide +kernel) (pa_cons ha pa_nil he) (by decide) (by decide) he hpl) fun σ G H G1 H1 v Q S s1 e1 q k => by
    obtain ⟨a, xs, rfl, h, r⟩ := Rep.l (pK_c S s1 e1 q)
    exact ⟨a, ns, rfl, by rw [← r.ints]; exact SqL.of h, k _ G1 H1 (Step.refl _ _) e1 rfl⟩
theorem dv_max {ns : List Int} (xo : XO X) (ha : DE X Γ ρ a κ (dl dI ns)) (h0 : 0 < ns.length) (hm : X.mg "max" = none) (hg : Gl X "max" := by rfl) (he : starEach [a] X.env = (false, eval a X.env) :: starEach [] X.env := by rfl) (hpl : (backTo pos (starEach [] X.env)).any (·.1) = false := by rfl) : DV X Γ ρ (.Call (.Name "max" p) [a] [] pos) (.int (maxI ns)) :=
  cb1 (pe_callB (cr_max xo.calm) hg hm (by decide +kernel) (pa_cons ha pa_nil he) (by decide) (by decide) he hpl) fun σ G H G1 H1 v Q S s1 e1 q k => by
    obtain ⟨a, xs, rfl, h, r⟩ := Rep.l (pK_c S s1 e1 q)
    refine ⟨a, ns, rfl, by rw [← r.ints]; exact SqL.of h, h0, fun m hm1 hm2 => ?_⟩
    have e : m = maxI ns := by
      have h1 := maxI_ge hm1
      have h2 := hm2 _ (maxI_mem h0)
      omega
    rw [e]
    exact k _ G1 H1 (Step.refl _ _) e1 rfl
theorem dv_min {ns : List Int} (xo : XO X) (ha : DE X Γ ρ a κ (dl dI ns)) (h0 : 0 < ns.length) (hm : X.mg "min" = none) (hg : Gl X "min" := by rfl) (he : starEach [a] X.env = (false, eval a X.env) :: starEach [] X.env := by rfl) (hpl : (backTo pos (starEach [] X.env)).any (·.1) = false := by rfl) : DV X Γ ρ (.Call (.Name "min" p) [a] [] pos) (.int (minI ns)) :=
  cb1 (pe_callB (cr_min xo.calm) hg hm (by decide +kernel) (pa_cons ha pa_nil he) (by decide) (by decide) he hpl) fun σ G H G1 H1 v Q S s1 e1 q k => by
    obtain ⟨a, xs, rfl, h, r⟩ := Rep.l (pK_c S s1 e1 q)
    refine ⟨a, ns, rfl, by rw [← r.ints]; exact SqL.of h, h0, fun m hm1 hm2 => ?_⟩
    have e : m = minI ns := by
      have h1 := minI_le hm1
      have h2 := hm2 _ (minI_mem h0)
      omega
    rw [e]
    exact k _ G1 H1 (Step.refl _ _) e1 rfl
theorem dv_max2 (xo : XO X) (ha : DV X Γ ρ a (.int i)) (hb : DV X Γ ρ b (.int j)) (hm : X.mg "max" = none) (hg : Gl X "max" := by rfl) (he : starEach [a, b] X.env = (false, eval a X.env) :: starEach [b] X.env := by rfl) (he2 : starEach [b] X.env = (false, eval b X.env) :: starEach [] X.env := by rfl) (hpl : (backTo pos (starEach [b] X.env)).any (·.1) = false := by rfl) : DV X Γ ρ (.Call (.Name "max" p) [a, b] [] pos) (.int (max i j)) :=
  cb2 (pe_callB (call_max2 xo.calm) hg hm (by decide +kernel) (pa_cons ha (pa_cons hb pa_nil he2) he) (by decide) (by decide) he hpl) fun σ G H G1 H1 G2 H2 v u Q S s1 e1 q1 s2 e2 q2 k => ⟨i, j, by rw [q1, q2], by
    have : (if j > i then j else i) = max i j := by
      split
      · rw [Int.max_eq_right (by omega)]
      · rw [Int.max_eq_left (by omega)]
    rw [this]
    exact k _ G2 H2 (Step.refl _ _) e2 rfl⟩
theorem dv_min2 (xo : XO X) (ha : DV X Γ ρ a (.int i)) (hb : DV X Γ ρ b (.int j)) (hm : X.mg "min" = none) (hg : Gl X "min" := by rfl) (he : starEach [a, b] X.env = (false, eval a X.env) :: starEach [b] X.env := by rfl) (he2 : starEach [b] X.env = (false, eval b X.env) :: starEach [] X.env := by rfl) (hpl : (backTo pos (starEach [b] X.env)).any (·.1) = false := by rfl) : DV X Γ ρ (.Call (.Name "min" p) [a, b] [] pos) (.int (min i j)) :=
  cb2 (pe_callB (call_min2 xo.calm) hg hm (by decide +kernel) (pa_cons ha (pa_cons hb pa_nil he2) he) (by decide) (by decide) he hpl) fun σ G H G1 H1 G2 H2 v u Q S s1 e1 q1 s2 e2 q2 k => ⟨i, j, by rw [q1, q2], by
    have : (if j < i then j else i) = min i j := by
      split
      · rw [Int.min_eq_right (by omega)]
      · rw [Int.min_eq_left (by omega)]
    rw [this]
    exact k _ G2 H2 (Step.refl _ _) e2 rfl⟩
theorem dv_all {bs : List Bool} (xo : XO X) (ha : DE X Γ ρ a κ (dl .bool bs)) (hm : X.mg "all" = none) (hg : Gl X "all" := by rfl) (he : starEach [a] X.env = (false, eval a X.env) :: starEach [] X.env := by rfl) (hpl : (backTo pos (starEach [] X.env)).any (·.1) = false := by rfl) : DV X Γ ρ (.Call (.Name "all" p) [a] [] pos) (.bl (bs.all id)) :=
  cb1 (pe_callB (cr_all xo.calm) hg hm (by decide +kernel) (pa_cons ha pa_nil he) (by decide) (by decide) he hpl) fun σ G H G1 H1 v Q S s1 e1 q k => by
    obtain ⟨a, xs, rfl, h, r⟩ := Rep.l (pK_c S s1 e1 q)
    exact ⟨a, bs, rfl, by rw [← r.bools]; exact SqL.of h, k _ G1 H1 (Step.refl _ _) e1 rfl⟩
theorem dv_any {bs : List Bool} (xo : XO X) (ha : DE X Γ ρ a κ (dl .bool bs)) (hm : X.mg "any" = none) (hg : Gl X "any" := by rfl) (he : starEach [a] X.env = (false, eval a X.env) :: starEach [] X.env := by rfl) (hpl : (backTo pos (starEach [] X.env)).any (·.1) = false := by rfl) : DV X Γ ρ (.Call (.Name "any" p) [a] [] pos) (.bl (bs.any id)) :=
  cb1 (pe_callB (cr_any xo.calm) hg hm (by decide +kernel) (pa_cons ha pa_nil he) (by decide) (by decide) he hpl) fun σ G H G1 H1 v Q S s1 e1 q k => by
    obtain ⟨a, xs, rfl, h, r⟩ := Rep.l (pK_c S s1 e1 q)
    exact ⟨a, bs, rfl, by rw [← r.bools]; exact SqL.of h, k _ G1 H1 (Step.refl _ _) e1 rfl⟩
/-- int(a truth value), int(an int), str(an int) -/
theorem dv_intB {q : Bool} (ha : DV X Γ ρ a (.bl q)) (hm : X.mg "int" = none) (hg : Gl X "int" := by rfl) (he : starEach [a] X.env = (false, eval a X.env) :: starEach [] X.env := by rfl) (hpl : (backTo pos (starEach [] X.env)).any (·.1) = false := by rfl) : DV X Γ ρ (.Call (.Name "int" p) [a] [] pos) (.int (if q then 1 else 0)) :=
  cb1 (pe_callTy call_int1 hg hm PyProof.Rows.boot_int (pa_cons ha pa_nil he) (by decide) (by decide) he hpl) fun σ G H G1 H1 v Q S s1 e1 qv k => .inr ⟨q, by rw [qv], k _ G1 H1 (Step.refl _ _) e1 rfl⟩
theorem dv_str1 (ha : DV X Γ ρ a (.int i)) (hi : i.natAbs.log2 < 1920) (hm : X.mg "str" = none) (hg : Gl X "str" := by rfl) (he : starEach [a] X.env = (false, eval a X.env) :: starEach [] X.env := by rfl) (hpl : (backTo pos (starEach [] X.env)).any (·.1) = false := by rfl) : DV X Γ ρ (.Call (.Name "str" p) [a] [] pos) (.str (toString i)) :=
  cb1 (pe_callTy call_str_int hg hm PyProof.Rows.boot_str (pa_cons ha pa_nil he) (by decide) (by decide) he hpl) fun σ G H G1 H1 v Q S s1 e1 qv k => ⟨i, by rw [qv], hi, k _ G1 H1 (Step.refl _ _) e1 rfl⟩
/-- sorted of ints: a new list -/
theorem OwnTs.ints {ns : List Int} : OwnTs G H (ns.map tI) (ns.map V.int) [] := by
  induction ns with
  | nil => exact .nil
  | cons n ns ih => exact .cons (A := []) (B := []) (.fz (.int n)) ih
theorem OwnT.intsNew {ns : List Int} {q : Addr} (h : G q = none) (h2 : H q = some (.lst (ns.map V.int))) : OwnT G H (tl tI ns) (.ref q) [q] := .cell h h2 OwnTs.ints
theorem Step.laid {q : Addr} {o : HO} (h : H q = none) : Step G H G (upd H q o) := ⟨Ex.refl _, Ex.new h, fun _ _ e _ => e⟩
theorem do_new {ns : List Int} {q : Addr} {Q : VK} (ex : Ex G H) (hq : H q = none) (H0 : Hp) (e0 : Ex H0 H) (k : ∀ w G2 H2, Step G H G2 H2 → Ex G2 H2 → pO (tl tI ns) H0 G2 H2 w → Q w H2) : Q (.ref q) (upd H q (.lst (ns.map V.int))) :=
  k (.ref q) G _ (Step.laid hq) (ex.trans (Ex.new hq)) ⟨[q], .intsNew (ex.none hq) upd_same, by simp, fun a ha => by
    rw [List.mem_singleton.mp ha]
    exact e0.none hq⟩
theorem do_sorted {ns : List Int} (ha : DE X Γ ρ a κ (dl dI ns)) (hm : X.mg "sorted" = none) (hg : Gl X "sorted" := by rfl) (he : starEach [a] X.env = (false, eval a X.env) :: starEach [] X.env := by rfl) (hpl : (backTo pos (starEach [] X.env)).any (·.1) = false := by rfl) : DO X Γ ρ (.Call (.Name "sorted" p) [a] [] pos) (tl tI (sortI ns)) :=
  cb1 (pe_callB cr_sortedI hg hm PyProof.Rows.boot_sorted (pa_cons ha pa_nil he) (by decide) (by decide) he hpl) fun σ G H G1 H1 v Q S s1 e1 q k => by
    obtain ⟨a, xs, rfl, h, r⟩ := Rep.l (pK_c S s1 e1 q)
    refine ⟨a, ns, rfl, by rw [← r.ints]; exact SqL.of h, fun ns' q pr so hq => ?_⟩
    rw [sortI_uniq pr so]
    exact do_new e1 hq H s1.h k
/-- a new list of what an elder one holds -/
theorem OwnTs.fzs : ∀ {xs : List V} {ds : List D}, Reps G xs ds → OwnTs G H (ds.map OT.fz) xs []
  | _, _, .nil => .nil
  | _, _, .cons h r => .cons (A := []) (B := []) (.fz h) (OwnTs.fzs r)
theorem newF {xs : List V} {ds : List D} {q : Addr} {Q : VK} (ex : Ex G H) (hq : H q = none) (H0 : Hp) (e0 : Ex H0 H) (r : Reps G xs ds) (k : ∀ w G2 H2, Step G H G2 H2 → Ex G2 H2 → pO (.cell (ds.map OT.fz)) H0 G2 H2 w → Q w H2) : Q (.ref q) (upd H q (.lst xs)) :=
  k (.ref q) G _ (Step.laid hq) (ex.trans (Ex.new hq)) ⟨[q], .cell (ex.none hq) upd_same (OwnTs.fzs r), by simp, fun a ha => by
    rw [List.mem_singleton.mp ha]
    exact e0.none hq⟩
theorem tF_map {xs : List α} : OT.cell ((xs.map f).map OT.fz) = tl (tF f) xs := by
  unfold tl
  rw [List.map_map]
  rfl
theorem do_list {xs : List α} (ha : DE X Γ ρ a .z (dl f xs)) (hm : X.mg "list" = none) (hg : Gl X "list" := by rfl) (he : starEach [a] X.env = (false, eval a X.env) :: starEach [] X.env := by rfl) (hpl : (backTo pos (starEach [] X.env)).any (·.1) = false := by rfl) : DO X Γ ρ (.Call (.Name "list" p) [a] [] pos) (tl (tF f) xs) :=
  cb1 (pe_callTy call_list_of hg hm PyProof.Rows.boot_list (pa_cons ha pa_nil he) (by decide) (by decide) he hpl) fun σ G H G1 H1 v Q S s1 e1 q k => by
    obtain ⟨a, vs, rfl, h, r⟩ := Rep.l q
    refine ⟨a, vs, rfl, .inl (SqL.of (e1 _ _ h)), fun q hq => ?_⟩
    exact newF e1 hq H s1.h r (by rw [tF_map]; exact k)
theorem do_listI {ns : List Int} (ha : DE X Γ ρ a κ (dl dI ns)) (hm : X.mg "list" = none) (hg : Gl X "list" := by rfl) (he : starEach [a] X.env = (false, eval a X.env) :: starEach [] X.env := by rfl) (hpl : (backTo pos (starEach [] X.env)).any (·.1) = false := by rfl) : DO X Γ ρ (.Call (.Name "list" p) [a] [] pos) (tl tI ns) :=
  cb1 (pe_callTy call_list_of hg hm PyProof.Rows.boot_list (pa_cons ha pa_nil he) (by decide) (by decide) he hpl) fun σ G H G1 H1 v Q S s1 e1 q k => by
    obtain ⟨a, vs, rfl, h, r⟩ := Rep.l (pK_c S s1 e1 q)
    have ev : vs = ns.map V.int := r.ints
    subst ev
    exact ⟨a, _, rfl, .inl (SqL.of h), fun q hq => do_new e1 hq H s1.h k⟩
/-- list(range(n)) -/
def rgI (n : Nat) : List Int := (List.range n).map fun (i : Nat) => (i : Int)
theorem do_listRg {m : Int} (xo : XO X) {p2 pos2 : Pos} (ha : DV X Γ ρ a (.int m)) (hb : -(2 ^ 62) ≤ m ∧ m ≤ 16000000) (hm : X.mg "list" = none) (hm2 : X.mg "range" = none) (hg : Gl X "list" := by rfl) (hg2 : Gl X "range" := by rfl) (he : starEach [a] X.env = (false, eval a X.env) :: starEach [] X.env := by rfl)
    (he2 : starEach [.Call (.Name "range" p2) [a] [] pos2] X.env = (false, eval (.Call (.Name "range" p2) [a] [] pos2) X.env) :: starEach [] X.env := by rfl) : DO X Γ ρ (.Call (.Name "list" p) [.Call (.Name "range" p2) [a] [] pos2] [] pos) (tl tI (rgI m.toNat)) :=
  (pe_listRg xo.calm hg hm (prg_1 hg2 hm2 ha he) he2).weak fun σ H Q ⟨G, S, k⟩ => ⟨G, S, fun v G1 H1 s1 e1 (q : v = .int m) => ⟨m, q, ⟨by omega, by omega, by omega, by omega, by omega⟩, fun q hq => by
    have e : rgV 0 m = (rgI m.toNat).map V.int := by
      unfold rgV rgI
      rw [List.map_map]
      have : (m - 0).toNat = m.toNat := by rw [Int.sub_zero]
      rw [this]
      exact List.map_congr_left fun i _ => by simp
    rw [e]
    exact do_new e1 hq H s1.h fun w G2 H2 s2 e2 p2 => k w G2 H2 (s1.trans s2) e2 p2⟩⟩
/-- tuple(a list of ints) -/
theorem de_tuple {ns : List Int} (ha : DE X Γ ρ a κ (dl dI ns)) (hm : X.mg "tuple" = none) (hg : Gl X "tuple" := by rfl) (he : starEach [a] X.env = (false, eval a X.env) :: starEach [] X.env := by rfl) : DE X Γ ρ (.Call (.Name "tuple" p) [a] [] pos) .z (.tuple (ns.map dI)) :=
  (pe_tupleOf hg hm ha he).weak fun σ H Q ⟨G, S, k⟩ => ⟨G, S, fun v G1 H1 s1 e1 q => by
    obtain ⟨a, vs, rfl, h, r⟩ := Rep.l (pK_c S s1 e1 q)
    have ev : vs = ns.map V.int := r.ints
    subst ev
    refine .inl ⟨a, _, rfl, SqL.of h, fun q hq => k (.ref q) (upd G1 q (.tup (ns.map V.int))) _ (s1.trans ⟨Ex.new (e1.none hq), Ex.new hq, fun b o g1 g2 => ?_⟩) (fun b o hb => ?_) (.tup upd_same ?_)⟩
    · by_cases z : b = q
      · rw [z, hq] at g2; cases g2
      · rw [upd_ne z]; exact g1
    · by_cases z : b = q
      · rw [z] at hb ⊢; rw [upd_same] at hb ⊢; exact hb
      · rw [upd_ne z] at hb ⊢; exact e1 _ _ hb
    · exact Reps.mono (Ex.refl _) (reps_ints ns)⟩
/-- a tuple written out, of frozen things -/
def slD : Sl → D
  | .v x => vD x
  | .sh d => d
  | _ => .none
def slFz : Sl → Bool
  | .v x => vOk x
  | .sh _ => true
  | _ => false
theorem slR_reps {K : Fg} {I : Hp} : ∀ {vs : List V} {ss : List Sl} {A : List Addr}, SlR K I G H (vs.map some) ss A → ss.all slFz = true → Reps G vs (ss.map slD)
  | [], [], _, .nil, _ => .nil
  | v :: vs, s :: ss, _, .cons h r, q => by
    rw [List.all_cons, Bool.and_eq_true] at q
    refine .cons ?_ (slR_reps r q.2)
    cases h with
    | v => exact vD_rep q.1
    | sh z => exact z
    | un => cases q.1
    | ro _ => cases q.1
    | ow _ => cases q.1
    | sc _ => cases q.1
    | ob _ _ _ => cases q.1
    | oa _ => cases q.1
    | rb _ _ => cases q.1
theorem de_tup {ss : List Sl} {kk} (ha : DA X Γ ρ es ss) (hs : ss.all slFz = true := by rfl) (hl : ss.length ≤ 1000 := by simp) : DE X Γ ρ (.Tuple es kk pos) .z (.tuple (ss.map slD)) :=
  (pe_tup ha).weak fun σ H Q ⟨G, S, k⟩ => ⟨G, S, fun vs G1 H1 A s1 e1 r nd f => by
    have r' := slR_reps r hs
    refine ⟨by rw [slr_len r]; exact Nat.le_trans hl (by decide), fun q hq => k (.ref q) (upd G1 q (.tup vs)) _ (s1.trans ⟨Ex.new (e1.none hq), Ex.new hq, fun b o g1 g2 => ?_⟩) (fun b o hb => ?_) (.tup upd_same (Reps.mono (Ex.new (e1.none hq)) r'))⟩
    · by_cases z : b = q
      · rw [z, hq] at g2; cases g2
      · rw [upd_ne z]; exact g1
    · by_cases z : b = q
      · rw [z] at hb ⊢; rw [upd_same] at hb ⊢; exact hb
      · rw [upd_ne z] at hb ⊢; exact e1 _ _ hb⟩
/-- a list written out -/
def slT : Sl → OT
  | .v x => .fz (vD x)
  | .sh d => .fz d
  | .ow t => t
  | _ => .fz .none
def slOw : Sl → Bool
  | .v x => vOk x
  | .sh _ => true
  | .ow _ => true
  | _ => false
theorem slR_owns {K : Fg} {I : Hp} : ∀ {vs : List V} {ss : List Sl} {A : List Addr}, SlR K I G H (vs.map some) ss A → ss.all slOw = true → OwnTs G H (ss.map slT) vs A
  | [], [], _, .nil, _ => .nil
  | v :: vs, s :: ss, _, .cons h r, q => by
    rw [List.all_cons, Bool.and_eq_true] at q
    refine .cons ?_ (slR_owns r q.2)
    cases h with
    | v => exact .fz (vD_rep q.1)
    | sh z => exact .fz z
    | un => cases q.1
    | ro _ => cases q.1
    | ow z => exact z
    | sc _ => cases q.1
    | ob _ _ _ => cases q.1
    | oa _ => cases q.1
    | rb _ _ => cases q.1
theorem do_lst {ss : List Sl} (ha : DA X Γ ρ es ss) (hs : ss.all slOw = true := by rfl) (hl : ss.length ≤ 1000 := by simp) : DO X Γ ρ (.List es pos) (.cell (ss.map slT)) :=
  (pe_lst ha).weak fun σ H Q ⟨G, S, k⟩ => ⟨G, S, fun vs G1 H1 A s1 e1 r nd f => by
    have r' := slR_owns r hs
    refine ⟨by rw [slr_len r]; exact Nat.le_trans hl (by decide), fun q hq => ?_⟩
    have qA : q ∉ A := fun z => by
      obtain ⟨_, o, ho⟩ := r'.mem q z
      rw [hq] at ho; cases ho
    exact k (.ref q) G1 _ (s1.trans (Step.laid hq)) (e1.trans (Ex.new hq)) ⟨q :: A, .cell (e1.none hq) upd_same (r'.frame (Ex.refl _) (fun _ _ g => g) fun b hb => upd_ne fun z => qA (z ▸ hb)), List.nodup_cons.mpr ⟨qA, nd⟩, fun x hx => by
      rcases List.mem_cons.mp hx with z | z
      · rw [z]; exact s1.h.none hq
      · exact f x z⟩⟩
theorem do_nil (g : α → OT) : DO X Γ ρ (.List [] pos) (tl g []) := do_lst da_nil
/-- + of lists -/
theorem do_cat {xs ys : List α} (ha : DE X Γ ρ a .z (dl f xs)) (hb : DE X Γ ρ b .z (dl f ys)) (hl : xs.length + ys.length ≤ 16000000) : DO X Γ ρ (.BinOp a .Add b pos) (tl (tF f) (xs ++ ys)) :=
  bin_weak (ta := tC .non) (tb := tC .non) (pe_op op_cat ha hb) fun σ G H G1 H1 G2 H2 v u Q S s1 e1 p1 s2 e2 p2 k => by
    obtain ⟨q1, vs, rfl, h1, r1⟩ := Rep.l (Rep.mono s2.g p1)
    obtain ⟨q2, us, rfl, h2, r2⟩ := Rep.l p2
    have l1 := r1.len
    have l2 := r2.len
    rw [List.length_map] at l1 l2
    refine ⟨q1, q2, vs, us, rfl, rfl, e2 _ _ h1, e2 _ _ h2, by rw [l1, l2]; exact Nat.le_trans hl (by decide), fun q hq => ?_⟩
    have r := r1.app r2
    rw [← List.map_append] at r
    exact newF e2 hq H (s1.trans s2).h r (by rw [tF_map]; exact k)
theorem do_catI {xs ys : List Int} (ha : DE X Γ ρ a κ (dl dI xs)) (hb : DE X Γ ρ b κ' (dl dI ys)) (hl : xs.length + ys.length ≤ 16000000) : DO X Γ ρ (.BinOp a .Add b pos) (tl tI (xs ++ ys)) :=
  bin_weak (ta := tC .non) (tb := tC .non) (pe_op op_cat ha hb) fun σ G H G1 H1 G2 H2 v u Q S s1 e1 p1 s2 e2 p2 k => by
    obtain ⟨q1, vs, rfl, h1, r1⟩ := Rep.l (Rep.mono s2.h (pK_c S s1 e1 p1))
    obtain ⟨q2, us, rfl, h2, r2⟩ := Rep.l (pK_c (S.more s1 e1) s2 e2 p2)
    have ev : vs = xs.map V.int := r1.ints
    have eu : us = ys.map V.int := r2.ints
    subst ev eu
    refine ⟨q1, q2, _, _, rfl, rfl, h1, h2, by simp only [List.length_map]; exact Nat.le_trans hl (by decide), fun q hq => ?_⟩
    rw [← List.map_append]
    exact do_new e2 hq H (s1.trans s2).h k
/-- slices -/
def tOx (Γ : Gm) (ρ : List Sl) (o : Option Int) : TO := fun σ H Q => ∃ G, Sr Γ G H σ ρ ∧ ∀ G2 H2, Step G H G2 H2 → Ex G2 H2 → Q o H2
def DOx (X : Cx) (Γ : Gm) (ρ : List Sl) (e : Option Expr) (o : Option Int) : Prop := PO X e (tOx Γ ρ o)
end
end DL

set_option Elab.async false
set_option linter.all false
set_option maxRecDepth 100000
set_option maxHeartbeats 2000000
namespace DL
open PySem L2
section
variable {X : Cx} {Γ : Gm} {ρ ρ' : List Sl} {e a b c o : Expr} {es : List Expr} {pos p p' apos cpos : Pos} {κ κ' : Kd} {d d' : D} {x y z : V} {t t' : OT} {σ : L2.St} {G H G1 H1 G2 H2 : Hp} {n : Str} {i j : Int} {α β : Type} {f : α → D} {g : α → OT} {E : En} {rest body : List Stmt}
/-! ### slices -/
theorem ox_none : DOx X Γ ρ none none := ⟨fun pins s σ H Q I ⟨G, S, k⟩ => po_none.run pins s σ H Q I (k G H (Step.refl _ _) S.sub)⟩
theorem ox_some (h : DV X Γ ρ e (.int i)) : DOx X Γ ρ (some e) (some i) := ⟨fun pins s σ H Q I ⟨G, S, k⟩ => (po_some h).run pins s σ H Q I ⟨G, S, fun v G2 H2 st ex (q : v = .int i) => ⟨i, q, k G2 H2 st ex⟩⟩⟩
variable {lo hi : Option Expr} {l u : Option Int} {p2 : Pos}
theorem cut_pySl (xs : List V) (l u : Option Int) : cutV xs l u = pySl xs l u := rfl
theorem Reps.sl {xs : List V} {ds : List D} (r : Reps H xs ds) : Reps H (pySl xs l u) (pySl ds l u) := by
  unfold pySl
  rw [r.len]
  exact (r.drop _).take _
theorem slW {r : V → Option Int → Option Int → Hp → VK → Prop} {PA P : Hp → Hp → Hp → V → Prop} (h : PE X e (tSl r (tX Γ ρ PA) (tOx Γ ρ l) (tOx Γ ρ u)))
    (w : ∀ (σ : L2.St) (G H G1 H1 G2 H2 : Hp) (v : V) (Q : VK), Sr Γ G H σ ρ → Step G H G1 H1 → Ex G1 H1 → PA H G1 H1 v → Step G1 H1 G2 H2 → Ex G2 H2 → (∀ w G3 H3, Step G2 H2 G3 H3 → Ex G3 H3 → P H G3 H3 w → Q w H3) → r v l u H2 Q) : PE X e (tX Γ ρ P) :=
  h.weak fun σ H Q ⟨G, S, k⟩ => ⟨G, S, fun v G1 H1 s1 e1 p1 => ⟨G1, S.more s1 e1, fun G2 H2 s2 e2 => ⟨G2, (S.more s1 e1).more s2 e2, fun G3 H3 s3 e3 =>
    w σ G H G1 H1 G3 H3 v Q S s1 e1 p1 (s2.trans s3) e3 fun z G4 H4 s4 e4 p4 => k z G4 H4 (((s1.trans s2).trans s3).trans s4) e4 p4⟩⟩⟩
theorem do_sl {xs : List α} (ha : DE X Γ ρ a .z (dl f xs)) (hl : DOx X Γ ρ lo l) (hu : DOx X Γ ρ hi u) : DO X Γ ρ (.Subscript a (.Slice lo hi none p2) pos) (tl (tF f) (pySl xs l u)) :=
  slW (pe_slice sl_list ha hl hu) fun σ G H G1 H1 G2 H2 v Q S s1 e1 p1 s2 e2 k => by
    obtain ⟨q1, vs, rfl, h1, r1⟩ := Rep.l (Rep.mono s2.g p1)
    refine ⟨q1, vs, rfl, SqL.of (e2 _ _ h1), fun q hq => ?_⟩
    have r : Reps G2 (pySl vs l u) ((pySl xs l u).map f) := by rw [← pySl_map]; exact r1.sl
    exact newF e2 hq H (s1.trans s2).h r (by rw [tF_map]; exact k)
theorem do_slI {ns : List Int} (ha : DE X Γ ρ a κ (dl dI ns)) (hl : DOx X Γ ρ lo l) (hu : DOx X Γ ρ hi u) : DO X Γ ρ (.Subscript a (.Slice lo hi none p2) pos) (tl tI (pySl ns l u)) :=
  slW (pe_slice sl_list ha hl hu) fun σ G H G1 H1 G2 H2 v Q S s1 e1 p1 s2 e2 k => by
    obtain ⟨q1, vs, rfl, h1, r1⟩ := Rep.l (Rep.mono s2.h (pK_c S s1 e1 p1))
    have ev : vs = ns.map V.int := r1.ints
    subst ev
    refine ⟨q1, _, rfl, SqL.of h1, fun q hq => ?_⟩
    rw [cut_pySl, pySl_map]
    exact do_new e2 hq H (s1.trans s2).h k
theorem do_slS {ns : List Int} (hK : Γ.K = X.K) (ha : DS_ X Γ ρ a ns) (hl : DOx X Γ ρ lo l) (hu : DOx X Γ ρ hi u) : DO X Γ ρ (.Subscript a (.Slice lo hi none p2) pos) (tl tI (pySl ns l u)) :=
  slW (pe_slice sl_list ha hl hu) fun σ G H G1 H1 G2 H2 v Q S s1 e1 ⟨q1, ev, h1⟩ s2 e2 k => by
    rw [hK] at h1
    refine ⟨q1, _, ev, ex_l s2.h h1, fun q hq => ?_⟩
    rw [cut_pySl, pySl_map]
    exact do_new e2 hq H (s1.trans s2).h k

/-! ### comprehensions -/
structure WalkL (Γ : Gm) (J : It) (xs : List α) (s : α → Sl) : Prop where
  go : ∀ i G H, Ex Γ.G G → Ex G H → Ex Γ.H H → i < xs.length → J.go i H
  yld : ∀ i a G H x H', xs[i]? = some a → Ex Γ.G G → Ex G H → Ex Γ.H H → J.yld i H x H' → ∃ G', Step G H G' H' ∧ Ex G' H' ∧ SlS Γ.K Γ.H G' H' (some x) (s a) []
  stop : ∀ i G H, Ex Γ.G G → Ex G H → Ex Γ.H H → xs.length ≤ i → J.stop i H
def tIc (Γ : Gm) (ρ : List Sl) (xs : List α) (s : α → Sl) : TI := fun σ H R => ∃ G, Sr Γ G H σ ρ ∧ ∀ J G1 H1, Step G H G1 H1 → Ex G1 H1 → WalkL ⟨Γ.K, G1, H1⟩ J xs s → R J H1
def DIc (X : Cx) (Γ : Gm) (ρ : List Sl) (tg e : Expr) (xs : List α) (s : α → Sl) : Prop := PI X tg e (tIc Γ ρ xs s)
variable {tg : Expr}
theorem map_at' {f : α → β} {xs : List α} {i : Nat} {a : α} {b : β} (h : xs[i]? = some a) (hb : (xs.map f)[i]? = some b) : b = f a := by
  rw [List.getElem?_map, h] at hb
  exact (Option.some.inj hb).symm
theorem ic_z {xs : List α} (s : α → Sl) (h : DE X Γ ρ e .z (dl f xs)) (hs : ∀ a, SubSl (f a) (s a)) : DIc X Γ ρ tg e xs s :=
  (pi_list h).weak fun σ H R ⟨G, S, k⟩ => ⟨G, S, fun v G1 H1 s1 e1 q => by
    obtain ⟨a, vs, rfl, hl, r⟩ := Rep.l q
    have ln := r.len
    rw [List.length_map] at ln
    refine ⟨a, rfl, ⟨vs, SqL.of (e1 _ _ hl)⟩, k _ G1 H1 s1 e1 ⟨fun i G' H' g1 g2 _ hi => ?_, fun i a' G' H' x H'' hx g1 g2 _ hy => ?_, fun i G' H' g1 g2 _ hi => ⟨vs, SqL.of (g2 _ _ (g1 _ _ hl)), by omega⟩⟩⟩
    · exact ⟨vs, vs[i], SqL.of (g2 _ _ (g1 _ _ hl)), List.getElem?_eq_getElem (by omega)⟩
    · obtain ⟨rfl, hv⟩ := hy
      obtain ⟨d, h1, h2⟩ := (Reps.mono g1 r).getV (hv vs (SqL.of (g2 _ _ (g1 _ _ hl))))
      rw [map_at' hx h1] at h2
      exact ⟨G', Step.refl _ _, g2, (hs a').sl h2⟩⟩
theorem ic_c {xs : List α} (s : α → Sl) (h : DE X Γ ρ e κ (dl f xs)) (hs : ∀ a, SubRo (f a) (s a)) : DIc X Γ ρ tg e xs s :=
  (pi_list h).weak fun σ H R ⟨G, S, k⟩ => ⟨G, S, fun v G1 H1 s1 e1 q => by
    obtain ⟨a, vs, rfl, hl, r⟩ := Rep.l (pK_c S s1 e1 q)
    have ln := r.len
    rw [List.length_map] at ln
    refine ⟨a, rfl, ⟨vs, SqL.of hl⟩, k _ G1 H1 s1 e1 ⟨fun i G' H' g1 g2 g3 hi => ?_, fun i a' G' H' x H'' hx g1 g2 g3 hy => ?_, fun i G' H' g1 g2 g3 hi => ⟨vs, SqL.of (g3 _ _ hl), by omega⟩⟩⟩
    · exact ⟨vs, vs[i], SqL.of (g3 _ _ hl), List.getElem?_eq_getElem (by omega)⟩
    · obtain ⟨rfl, hv⟩ := hy
      obtain ⟨d, h1, h2⟩ := r.getV (hv vs (SqL.of (g3 _ _ hl)))
      rw [map_at' hx h1] at h2
      exact ⟨G', Step.refl _ _, g2, (hs a').sl h2⟩⟩
theorem ic_range {m : Int} (ha : DV X Γ ρ a (.int m)) (hb : -(2 ^ 62) ≤ m ∧ m < 2 ^ 62) (hm : X.mg "range" = none) (hg : Gl X "range" := by rfl) (hs1 : starEach [a] X.env = (false, eval a X.env) :: starEach [] X.env := by rfl) (hs : starEach [a] X.env = [(false, eval a X.env)] := by rfl) :
    DIc X Γ ρ tg (.Call (.Name "range" p) [a] [] pos) (List.range m.toNat) (fun i => .v (.int (i : Int))) :=
  (pi_range1 hg hm (pa_cons ha pa_nil hs1) hs).weak fun σ H R ⟨G, S, k⟩ => ⟨G, S, fun v G1 H1 s1 e1 (q : v = .int m) => by
    rw [q]
    exact ⟨m, rfl, hb.1, hb.2, k _ G1 H1 s1 e1 ⟨fun i _ _ _ _ _ h => by rwa [List.length_range] at h, fun i a' G' H' x H'' hx g1 g2 _ hy => by
      obtain ⟨rfl, rfl⟩ := hy
      have : a' = i := by
        obtain ⟨h1, h2⟩ := List.getElem?_eq_some_iff.mp hx
        rw [List.getElem_range] at h2
        exact h2.symm
      subst this
      refine ⟨G', Step.refl _ _, g2, ?_⟩
      show SlS _ _ _ _ (some (V.int (0 + (a' : Int)))) _ _
      rw [Int.zero_add]
      exact .v, fun i _ _ _ _ _ h => by rwa [List.length_range] at h⟩⟩⟩
/-- what a name holds, seen from within a block -/
def deo : Sl → Sl
  | .ow t => .ro t.er
  | .ob _ C fs => .rb C fs
  | .oa _ t => .ro t.er
  | s => s
def wipeS (ρ : List Sl) : List Nat → List Sl
  | [] => ρ
  | v :: vs => (wipeS ρ vs).set v .un
theorem SlS.deo {K : Fg} {I : Hp} {o s A} (ex : Ex G H) (ei : Ex I H) (h : SlS K I G H o s A) : SlS K H G H o (DL.deo s) [] := by
  cases h with
  | un => exact .un
  | v => exact .v
  | sh r => exact .sh r
  | ro r => exact .ro (r.mono ei)
  | ow q => exact .ro (q.rep ex)
  | sc q => exact .sc (ex_l ei q)
  | ob hg hh fr => exact .rb hh (fr.mono ex)
  | oa q => exact .ro (q.rep ex)
  | rb h fr => exact .rb (ei _ _ h) (fr.mono ei)
theorem SlR.deo {K : Fg} {I : Hp} (ex : Ex G H) (ei : Ex I H) : ∀ {σ ρ A}, SlR K I G H σ ρ A → SlR K H G H σ (ρ.map DL.deo) []
  | _, _, _, .nil => .nil
  | _, _, _, .cons h r => .cons (A := []) (B := []) (h.deo ex ei) (SlR.deo ex ei r)
theorem SlR.setN {K : Fg} {I : Hp} : ∀ {σ ρ} {k : Nat} {o : Option V} {s : Sl}, SlR K I G H σ ρ [] → SlS K I G H o s [] → SlR K I G H (σ.set k o) (ρ.set k s) []
  | _, _, k, o, s, r, h => by
    by_cases hk : k < ‹List Sl›.length
    · obtain ⟨s0, e0⟩ := r.nth hk
      obtain ⟨o0, A1, B, A2, h1, h2, h3, h4⟩ := r.focus e0
      have z : A1 = [] ∧ B = [] ∧ A2 = [] := by
        have := congrArg List.length h3
        simp only [List.length_nil, List.length_append] at this
        exact ⟨List.eq_nil_of_length_eq_zero (by omega), List.eq_nil_of_length_eq_zero (by omega), List.eq_nil_of_length_eq_zero (by omega)⟩
      obtain ⟨rfl, rfl, rfl⟩ := z
      exact h4 G H o s [] (Ex.refl _) (fun _ _ g => g) (fun _ _ => rfl) h
    · rw [List.set_eq_of_length_le (by rw [r.len]; omega), List.set_eq_of_length_le (by omega)]
      exact r
theorem SlR.wipe {K : Fg} {I : Hp} {σ ρ} (r : SlR K I G H σ ρ []) : ∀ vs : List Nat, SlR K I G H (wipe σ vs) (wipeS ρ vs) []
  | [] => r
  | v :: vs => by
    unfold L2.wipe wipeS
    exact (SlR.wipe r vs).setN .un
theorem wipe_get : ∀ (vs : List Nat) (σ : L2.St) (i : Nat), (wipe σ vs)[i]? = if i ∈ vs then σ[i]?.map (fun _ => none) else σ[i]?
  | [], σ, i => by simp [wipe]
  | v :: vs, σ, i => by
    unfold wipe
    by_cases h : v = i
    · subst h
      rw [if_pos List.mem_cons_self]
      by_cases hv : v < (wipe σ vs).length
      · rw [List.getElem?_set_self hv]
        rw [wipe_length] at hv
        rw [List.getElem?_eq_getElem hv]
        rfl
      · rw [wipe_length] at hv
        rw [List.getElem?_eq_none (by rw [List.length_set, wipe_length]; omega), List.getElem?_eq_none (by omega)]
        rfl
    · rw [List.getElem?_set_ne h, wipe_get vs σ i]
      by_cases q : i ∈ vs
      · rw [if_pos q, if_pos (List.mem_cons_of_mem _ q)]
      · rw [if_neg q, if_neg (fun z => by rcases List.mem_cons.mp z with z | z; exact h z.symm; exact q z)]
theorem wipe_set {vs : List Nat} {σ : L2.St} {j : Nat} {x : Option V} (h : j ∈ vs) : wipe (σ.set j x) vs = wipe σ vs := by
  refine List.ext_getElem? fun i => ?_
  rw [wipe_get, wipe_get]
  by_cases q : i ∈ vs
  · rw [if_pos q, if_pos q]
    by_cases e : j = i
    · subst e
      by_cases hj : j < σ.length
      · rw [List.getElem?_set_self hj, List.getElem?_eq_getElem hj]; rfl
      · rw [List.getElem?_eq_none (by rw [List.length_set]; omega), List.getElem?_eq_none (by omega)]
    · rw [List.getElem?_set_ne e]
  · rw [if_neg q, if_neg q, List.getElem?_set_ne (fun e => by subst e; exact q h)]
theorem wipe_wipe {vs : List Nat} {σ : L2.St} : wipe (wipe σ vs) vs = wipe σ vs := by
  refine List.ext_getElem? fun i => ?_
  rw [wipe_get, wipe_get]
  by_cases q : i ∈ vs
  · rw [if_pos q, if_pos q]
    cases σ[i]? <;> rfl
  · rw [if_neg q, if_neg q]
/-- where a block's target puts the item -/
def TgW (gg : TG) (K : Fg) (js : List Nat) (si : Sl) (h : List Sl → List Sl) : Prop := ∀ (I G H : Hp) (σ : L2.St) (ρ : List Sl) (v : V) (Q : L2.St → Hp → Prop), Ex G H → Ex I H → SlR K I G H σ ρ [] → SlS K I G H (some v) si [] →
  (∀ σ', SlR K I G H σ' (h ρ) [] → (∀ vs : List Nat, (∀ j ∈ js, j ∈ vs) → wipe σ' vs = wipe σ vs) → Q σ' H) → gg v σ H Q
theorem tgw_name (K : Fg) (j : Nat) (s : Sl) : TgW (gName j) K [j] s (fun ρ => ρ.set j s) := fun I G H σ ρ v Q ex ei r hs k => k _ (r.setN hs) fun vs hv => wipe_set (hv j (by simp))
theorem tgw_pair (K : Fg) (j1 j2 : Nat) {d1 d2' : D} {s1 s2 : Sl} (q1 : SubSl d1 s1) (q2 : SubSl d2' s2) : TgW (gTup K 2 (gCons (gName j1) (gCons (gName j2) gNil))) K [j1, j2] (.sh (.tuple [d1, d2'])) (fun ρ => (ρ.set j1 s1).set j2 s2) := fun I G H σ ρ v Q ex ei r hs k => by
  cases hs with
  | sh z =>
    cases z with
    | @tup a xs _ ht rr =>
      cases rr with
      | cons r1 rr =>
        cases rr with
        | cons r2 rr =>
          cases rr
          exact ⟨a, _, rfl, SqT.of (ex _ _ ht), rfl, _, _, rfl, _, _, rfl, rfl, k _ ((r.setN (q1.sl r1)).setN (q2.sl r2)) fun vs hv => by rw [wipe_set (hv j2 (by simp)), wipe_set (hv j1 (by simp))]⟩
theorem tgw_pairR (K : Fg) (j1 j2 : Nat) {d1 d2' : D} {s1 s2 : Sl} (q1 : SubRo d1 s1) (q2 : SubRo d2' s2) : TgW (gTup K 2 (gCons (gName j1) (gCons (gName j2) gNil))) K [j1, j2] (.ro (.tuple [d1, d2'])) (fun ρ => (ρ.set j1 s1).set j2 s2) := fun I G H σ ρ v Q ex ei r hs k => by
  cases hs with
  | ro z =>
    cases z with
    | @tup a xs _ ht rr =>
      cases rr with
      | cons r1 rr =>
        cases rr with
        | cons r2 rr =>
          cases rr
          exact ⟨a, _, rfl, SqT.of (ei _ _ ht), rfl, _, _, rfl, _, _, rfl, rfl, k _ ((r.setN (q1.sl r1)).setN (q2.sl r2)) fun vs hv => by rw [wipe_set (hv j2 (by simp)), wipe_set (hv j1 (by simp))]⟩
def uT (Γ : Gm) (xs : List α) (ρw : α → List Sl) (f : α → Bool) : TT := fun σ H Q => ∃ (Γ' : Gm) (a : α), Γ'.K = Γ.K ∧ a ∈ xs ∧ tT Γ' (ρw a) (f a) σ H Q
def uE (Γ : Gm) (xs : List α) (ρw : α → List Sl) (f : α → Bool) (q : α → OT) : TE := fun σ H Q => ∃ (Γ' : Gm) (a : α), Γ'.K = Γ.K ∧ a ∈ xs ∧ f a = true ∧ tX Γ' (ρw a) (pO (q a)) σ H Q
theorem lc_red {xs : List α} {s : α → Sl} {f : α → Bool} {q : α → OT} {gg : TG} {vs js : List Nat} {h : α → List Sl → List Sl} (hg : ∀ a ∈ xs, TgW gg Γ.K js (s a) (h a)) (hj : ∀ j ∈ js, j ∈ vs) (hl : xs.length ≤ 16000000) {Q : VK}
    (hq : tX Γ ρ (pO (tl q (xs.filter f))) σ H Q) : tLc (tIc Γ ρ xs s) gg (uT Γ xs (fun a => h a (wipeS (ρ.map deo) vs)) f) (uE Γ xs (fun a => h a (wipeS (ρ.map deo) vs)) f q) vs σ H Q := by
  obtain ⟨G, S, k⟩ := hq
  refine ⟨G, S, fun J G1 H1 s1 e1 W D hD => ?_⟩
  have S1 := S.more s1 e1
  obtain ⟨A1, SA1⟩ := S1.ad
  have r0 := (SA1.sl.deo e1 SA1.step.h).wipe vs
  have sz : 16000000 < sizeLine := by decide
  -- the word between the turns
  refine ⟨fun i m H' => m = xs.length - i ∧ i ≤ xs.length ∧ ∃ G' acc B, Step G1 H1 G' H' ∧ Ex G' H' ∧ SlR Γ.K H1 G' H' (wipe σ vs) (wipeS (ρ.map deo) vs) [] ∧ H' D = some (.lst acc) ∧ G' D = none ∧
    OwnTs G' H' (((xs.take i).filter f).map q) acc B ∧ B.Nodup ∧ D ∉ B ∧ (∀ b ∈ B, H1 b = none) ∧ acc.length ≤ i, ⟨xs.length, by simp, Nat.zero_le _, G1, [], [], Step.laid hD, e1.trans (Ex.new hD), ?_, upd_same, e1.none hD, by simpa using OwnTs.nil, List.nodup_nil, by simp, by simp, Nat.le_refl _⟩, ?_⟩
  · exact r0.more (Step.laid hD)
  rintro i m H' ⟨rfl, him, G', acc, B, st, ex, rr, hDl, gD, ow, nd, nDB, fB, al⟩
  by_cases hlt : i < xs.length
  · obtain ⟨a, ha⟩ : ∃ a, xs[i]? = some a := ⟨xs[i], List.getElem?_eq_getElem hlt⟩
    have ham : a ∈ xs := List.mem_of_getElem? ha
    have tk : xs.take (i + 1) = xs.take i ++ [a] := by rw [List.take_add_one, ha]; rfl
    refine .inr ⟨W.go i G' H' st.g ex st.h hlt, fun H2 => ∃ G2 acc B, Step G1 H1 G2 H2 ∧ Ex G2 H2 ∧ SlR Γ.K H1 G2 H2 (wipe σ vs) (wipeS (ρ.map deo) vs) [] ∧ H2 D = some (.lst acc) ∧ G2 D = none ∧
      OwnTs G2 H2 (((xs.take (i + 1)).filter f).map q) acc B ∧ B.Nodup ∧ D ∉ B ∧ (∀ b ∈ B, H1 b = none) ∧ acc.length ≤ i + 1, fun H2 z => ⟨xs.length - (i + 1), by omega, rfl, hlt, z⟩, fun x H2 hy => ?_⟩
    obtain ⟨G2, s2, e2, sl⟩ := W.yld i a G' H' x H2 ha st.g ex st.h hy
    refine hg a ham H1 G2 H2 (wipe σ vs) _ x _ e2 (st.trans s2).h (rr.more s2) sl fun σ' r' hw => ?_
    refine ⟨by rw [hw vs hj, wipe_wipe], ?_⟩
    have Sin : Sr ⟨Γ.K, G1, H1⟩ G2 H2 σ' (h a (wipeS (ρ.map deo) vs)) := ⟨st.trans s2, e2, [], r', List.nodup_nil, fun _ z => by cases z⟩
    refine ⟨⟨Γ.K, G1, H1⟩, a, rfl, ham, G2, Sin, fun G3 H3 s3 e3 => ?_⟩
    cases hf : f a with
    | false =>
      refine iteF ⟨G3, acc, B, (st.trans s2).trans s3, e3, (rr.more s2).more s3, s3.h _ _ (s2.h _ _ hDl), ?_, ?_, nd, nDB, fB, by omega⟩
      · exact s3.f _ _ (s2.f _ _ gD hDl) (s2.h _ _ hDl)
      · rw [tk, List.filter_append, List.map_append]
        simp only [List.filter_cons, hf, List.filter_nil, Bool.false_eq_true, if_false, List.map_nil, List.append_nil]
        exact (ow.more s2).more s3
    | true =>
      refine iteT ⟨⟨Γ.K, G1, H1⟩, a, rfl, ham, hf, G3, Sin.more s3 e3, fun y G4 H4 s4 e4 ⟨C, oc, ndC, fC⟩ => ?_⟩
      have s24 := (s2.trans s3).trans s4
      have hD4 := s24.h _ _ hDl
      have gD4 : G4 D = none := s24.f _ _ gD hDl
      have ow4 := ow.more s24
      have BC : ∀ b ∈ B, b ∉ C := fun b hb hc => by
        obtain ⟨_, o, ho⟩ := (ow.more (s2.trans s3)).mem b hb
        rw [fC b hc] at ho; cases ho
      have DC : D ∉ C := fun hc => by
        have := (s2.trans s3).h _ _ hDl
        rw [fC D hc] at this; cases this
      refine ⟨acc, hD4, by omega, G4, acc ++ [y], B ++ C, ?_, e4.mut gD4, ?_, upd_same, gD4, ?_, ?_, ?_, ?_, by simp; omega⟩
      · exact ⟨(st.trans s24).g, (st.trans s24).h.mut hD, (st.trans s24).f⟩
      · exact (rr.more s24).frame (Ex.refl _) (fun _ _ g => g) (fun _ z => by cases z)
      · rw [tk, List.filter_append, List.map_append]
        simp only [List.filter_cons, hf, List.filter_nil, if_true, List.map_cons, List.map_nil]
        refine OwnTs.frame (Ex.refl _) (fun _ _ g => g) (fun b hb => upd_ne fun z => ?_) (ow4.app (OwnTs.one oc))
        subst z
        rcases List.mem_append.mp hb with z | z
        · exact nDB z
        · exact DC z
      · exact List.nodup_append.mpr ⟨nd, ndC, fun x hx y hy z => BC x hx (z ▸ hy)⟩
      · intro z
        rcases List.mem_append.mp z with z | z
        · exact nDB z
        · exact DC z
      · intro b hb
        rcases List.mem_append.mp hb with z | z
        · exact fB b z
        · exact (st.trans (s2.trans s3)).h.none (fC b z)
  · have e : i = xs.length := by omega
    subst e
    rw [List.take_length] at ow
    refine .inl ⟨W.stop _ G' H' st.g ex st.h (Nat.le_refl _), k (.ref D) G' H' (s1.trans st) ex ⟨D :: B, .cell gD hDl ow, List.nodup_cons.mpr ⟨nDB, nd⟩, fun b hb => ?_⟩⟩
    rcases List.mem_cons.mp hb with z | z
    · rw [z]; exact s1.h.none hD
    · exact s1.h.none (fB b z)
/-- the tests of a clause -/
def DTs (X : Cx) (Γ : Gm) (ρ : List Sl) (ifs : List Expr) (b : Bool) : Prop := PTs X ifs (tT Γ ρ b)
theorem dts_nil : DTs X Γ ρ [] true := ⟨fun pins s σ H Q I ⟨G, S, k⟩ => pts_nil.run pins s σ H Q I (k G H (Step.refl _ _) S.sub)⟩
theorem dts_one {q : Bool} (h : DT X Γ ρ c q) : DTs X Γ ρ [c] q := pts_one h
variable {elt iter : Expr} {ifs : List Expr} {scope : Scope} {own : List (Str × Nat)} {xs : List α} {s : α → Sl} {ft : α → Bool} {q : α → OT} {gg : TG} {js : List Nat} {h : α → List Sl → List Sl}
theorem do_lc (xo : XO X) (own : List (Str × Nat)) (hi : DIc X Γ ρ tg iter xs s) (ok : BlkOk X.N X.env.scope scope own) (hgg : ∀ (s : Shared) (H : Hp) (C : Addr) (cl : List (Str × Addr)) (fp : List Addr), PG (X.blk s H scope (compEnvC scope cl C X.env) fp) tg gg)
    (hg : ∀ a ∈ xs, TgW gg Γ.K js (s a) (h a)) (hj : ∀ j ∈ js, j ∈ own.map (·.2))
    (ht : ∀ (Γ' : Gm), Γ'.K = Γ.K → ∀ a ∈ xs, ∀ (s : Shared) (H : Hp) (C : Addr) (cl : List (Str × Addr)) (fp : List Addr), XO (X.blk s H scope (compEnvC scope cl C X.env) fp) → DTs (X.blk s H scope (compEnvC scope cl C X.env) fp) Γ' (h a (wipeS (ρ.map deo) (own.map (·.2)))) ifs (ft a))
    (he : ∀ (Γ' : Gm), Γ'.K = Γ.K → ∀ a ∈ xs, ft a = true → ∀ (s : Shared) (H : Hp) (C : Addr) (cl : List (Str × Addr)) (fp : List Addr), XO (X.blk s H scope (compEnvC scope cl C X.env) fp) → DO (X.blk s H scope (compEnvC scope cl C X.env) fp) Γ' (h a (wipeS (ρ.map deo) (own.map (·.2)))) elt (q a))
    (hl : xs.length ≤ 16000000) (hs : ∀ x, foldedSetIterable iter X.env x = pure x := by intro _; rfl) : DO X Γ ρ (.ListComp elt [⟨tg, iter, ifs, 0⟩] scope pos) (tl q (xs.filter ft)) := by
  have xb : ∀ (s : Shared) (H : Hp) (C : Addr) (cl : List (Str × Addr)) (fp : List Addr), XO (X.blk s H scope (compEnvC scope cl C X.env) fp) := fun _ _ _ _ _ => ⟨xo.calm, xo.nd, xo.hu⟩
  exact (pe_lc xo.calm xo.nd hi ok hgg (fun s H C cl fp => ⟨fun pins s' σ H' Q I ⟨Γ', a, k1, k2, z⟩ => (ht Γ' k1 a k2 s H C cl fp (xb _ _ _ _ _)).run pins s' σ H' Q I z⟩) (fun s H C cl fp => ⟨fun pins s' σ H' Q I ⟨Γ', a, k1, k2, k3, z⟩ => (he Γ' k1 a k2 k3 s H C cl fp (xb _ _ _ _ _)).run pins s' σ H' Q I z⟩) hs).weak fun σ H Q z => lc_red hg hj hl z
/-- name = [..] -/
theorem ss_lc (i : Nat) {y : Str} {py spos : Pos} (xo : XO X) (own : List (Str × Nat)) (hi : DIc X Γ ρ tg iter xs s) (ok : BlkOk X.N X.env.scope scope own) (hgg : ∀ (s : Shared) (H : Hp) (C : Addr) (cl : List (Str × Addr)) (fp : List Addr), PG (X.blk s H scope (compEnvC scope cl C X.env) fp) tg gg)
    (hg : ∀ a ∈ xs, TgW gg Γ.K js (s a) (h a)) (hj : ∀ j ∈ js, j ∈ own.map (·.2))
    (ht : ∀ (Γ' : Gm), Γ'.K = Γ.K → ∀ a ∈ xs, ∀ (s : Shared) (H : Hp) (C : Addr) (cl : List (Str × Addr)) (fp : List Addr), XO (X.blk s H scope (compEnvC scope cl C X.env) fp) → DTs (X.blk s H scope (compEnvC scope cl C X.env) fp) Γ' (h a (wipeS (ρ.map deo) (own.map (·.2)))) ifs (ft a))
    (he : ∀ (Γ' : Gm), Γ'.K = Γ.K → ∀ a ∈ xs, ft a = true → ∀ (s : Shared) (H : Hp) (C : Addr) (cl : List (Str × Addr)) (fp : List Addr), XO (X.blk s H scope (compEnvC scope cl C X.env) fp) → DO (X.blk s H scope (compEnvC scope cl C X.env) fp) Γ' (h a (wipeS (ρ.map deo) (own.map (·.2)))) elt (q a))
    (hl : xs.length ≤ 16000000) (hr : SS X Γ (ρ.set i (.ow (tl q (xs.filter ft)))) rest E) (hy : X.N[i]? = some y := by rfl) (hyl : X.env.scope.names.lookup y = some .local := by rfl)
    (hsw : swapsWith (.ListComp elt [⟨tg, iter, ifs, 0⟩] scope pos) (some (.Name y py)) spos.line X.env = pure true := by exact sw_true rfl rfl rfl (by decide +kernel)) (hs : ∀ x, foldedSetIterable iter X.env x = pure x := by intro _; rfl) :
    SS X Γ ρ (.Assign [.Name y py] (.ListComp elt [⟨tg, iter, ifs, 0⟩] scope pos) spos :: rest) E := by
  have xb : ∀ (s : Shared) (H : Hp) (C : Addr) (cl : List (Str × Addr)) (fp : List Addr), XO (X.blk s H scope (compEnvC scope cl C X.env) fp) := fun _ _ _ _ _ => ⟨xo.calm, xo.nd, xo.hu⟩
  refine ss_cons (M := fun ρ' => ρ' = ρ.set i (.ow (tl q (xs.filter ft)))) ((ps_setLc (tt := uT Γ xs (fun a => h a (wipeS (ρ.map deo) (own.map (·.2)))) ft) (te := uE Γ xs (fun a => h a (wipeS (ρ.map deo) (own.map (·.2)))) ft q) xo.calm xo.nd hy hyl hsw hi ok hgg (fun s H C cl fp => ⟨fun pins s' σ H' Q I ⟨Γ', a, k1, k2, z⟩ => (ht Γ' k1 a k2 s H C cl fp (xb _ _ _ _ _)).run pins s' σ H' Q I z⟩) (fun s H C cl fp => ⟨fun pins s' σ H' Q I ⟨Γ', a, k1, k2, k3, z⟩ => (he Γ' k1 a k2 k3 s H C cl fp (xb _ _ _ _ _)).run pins s' σ H' Q I z⟩) hs).weak fun D σ H ⟨G, S, k⟩ => ?_) fun ρ' e => e ▸ hr
  exact lc_red hg hj hl ⟨G, S, fun v G2 H2 st ex ⟨A, o, nd, f⟩ => k.nx _ _ G2 H2 rfl (S.store st ex (.ow o) nd f) st.g⟩
end
end DL

set_option Elab.async false
set_option linter.all false
set_option maxRecDepth 100000
set_option maxHeartbeats 2000000
namespace DL
open PySem L2

/-! ### len(set(..)) of ints -/
def ddup (ns : List Int) : List Int := PyProof.Rows.firstMet (fun i => ns.getD i 0) ns.length
def tLenSetG (K : Fg) (ta : TE) : TE := fun σ H Q => ta σ H fun x H1 => ∃ (l : Addr) (ns : List Int), x = .ref l ∧ SqL K H1 l (ns.map V.int) ∧ ns.length ≤ 4000 ∧ Q (.int ((ddup ns).length : Nat)) H1
theorem pe_lenSetG {X : Cx} {a : Expr} {ta : TE} {p p2 q pos : Pos} (hg : Gl X "len") (hm : X.mg "len" = none) (hg2 : Gl X "set") (hm2 : X.mg "set" = none) (ha : PE X a ta) (hc : X.calm = true)
    (na : starEach [a] X.env = (false, eval a X.env) :: starEach [] X.env) : PE X (.Call (.Name "len" p) [.Call (.Name "set" p2) [a] [] q] [] pos) (tLenSetG X.K ta) := by
  refine ⟨fun pins s σ H Q I h => ?_⟩
  refine PyProof.Rows.Call_ (ld_blt I hg hm boot_len ?_)
  refine PyProof.Rows.callWith_builtin1 (PyProof.Rows.args_cons ?_ rfl) rfl rfl
  refine PyProof.Rows.Call_ (ld_blt I hg2 hm2 PyProof.Rows.boot_set ?_)
  refine PyProof.Rows.callWith_type1 (PyProof.Rows.args_cons (thn (ha.run pins s σ H _ I h) fun v s1 ⟨x, H1, I1, r1, q1⟩ => PyProof.Rows.args_nil ?_) na) na rfl
  obtain ⟨l, ns, rfl, hq, hl, q1⟩ := q1
  cases r1
  obtain ⟨its, r, pl, hz⟩ := I1.list hq
  have hlen : its.toArray.size = ns.length := by rw [List.size_toArray, ← r.length, List.length_map]
  refine call_set_list (I1.ok.hd hc) pl.isList (by simpa using RZ.intsAre_vals r) (by rw [hlen]; unfold scanBound; omega) fun h' tk hS hk => ?_
  refine PyProof.Rows.args_nil ?_
  rw [hlen] at hS
  have hle : (PyProof.Rows.firstMet (fun i => ns.getD i 0) ns.length).length ≤ ns.length := PyProof.Rows.firstMet_length_le _ _
  obtain ⟨o, es, ep, t, ho, hex, hd, _, _, _, hf, hn⟩ := hS
  have I2 : Inv X pins σ H1 { s1 with heap := h', toks := tk } := I1.kept fun b o e => hk b o (Heap.lt_size e) e
  exact call_len_set ho hex hd hf (by rw [hn] <;> omega) ⟨.int ((ddup ns).length : Nat), H1, I2.tok _, ⟨_, by rw [hn] <;> rfl⟩, q1⟩
theorem ddup_sub (ns : List Int) : ∀ k, k ≤ ns.length → (PyProof.Rows.firstMet (fun i => ns.getD i 0) k).Nodup ∧ ∀ x, x ∈ PyProof.Rows.firstMet (fun i => ns.getD i 0) k ↔ x ∈ ns.take k
  | 0, _ => by simp [PyProof.Rows.firstMet_zero]
  | k + 1, hk => by
    obtain ⟨h1, h2⟩ := ddup_sub ns k (by omega)
    have e : ns.getD k 0 = ns[k] := by simp [List.getD_eq_getElem?_getD, List.getElem?_eq_getElem (show k < ns.length by omega)]
    have tk : ns.take (k + 1) = ns.take k ++ [ns[k]] := by rw [List.take_add_one, List.getElem?_eq_getElem (by omega)]; rfl
    rw [PyProof.Rows.firstMet_succ]
    unfold PyProof.Rows.step_dedup
    rw [tk, e]
    split
    · rename_i hb
      obtain ⟨y, hy, ey⟩ := List.any_eq_true.mp hb
      have ey : y = ns[k] := eq_of_beq ey
      subst ey
      refine ⟨h1, fun x => ?_⟩
      rw [h2, List.mem_append, List.mem_singleton]
      refine ⟨.inl, fun z => z.elim id fun z => ?_⟩
      rw [z]
      exact (h2 _).mp hy
    · rename_i hb
      have nin : ns[k] ∉ PyProof.Rows.firstMet (fun i => ns.getD i 0) k := fun z => hb (List.any_eq_true.mpr ⟨_, z, beq_self_eq_true _⟩)
      refine ⟨List.nodup_append.mpr ⟨h1, by simp, fun x hx y hy z => ?_⟩, fun x => ?_⟩
      · rw [List.mem_singleton] at hy
        subst z hy
        exact nin hx
      · rw [List.mem_append, List.mem_append, h2]
theorem nodup_sub_len : ∀ {xs ys : List Int}, xs.Nodup → (∀ x ∈ xs, x ∈ ys) → xs.length ≤ ys.length
  | [], _, _, _ => Nat.zero_le _
  | x :: xs, ys, nd, h => by
    rw [List.nodup_cons] at nd
    have hx := h x List.mem_cons_self
    have := nodup_sub_len (xs := xs) (ys := ys.erase x) nd.2 fun z hz => (List.mem_erase_of_ne (fun e => by rw [e] at hz; exact nd.1 hz)).mpr (h z (List.mem_cons_of_mem _ hz))
    rw [List.length_erase_of_mem hx] at this
    have : 0 < ys.length := List.length_pos_of_mem hx
    simp only [List.length_cons]
    omega
theorem ddup_len (ns : List Int) : (ddup ns).length = ns.length ↔ ns.Nodup := by
  obtain ⟨h1, h2⟩ := ddup_sub ns ns.length (Nat.le_refl _)
  rw [List.take_length] at h2
  constructor
  · intro e
    induction ns with
    | nil => simp
    | cons n ns ih =>
      refine Classical.byContradiction fun hn => ?_
      -- some item stands twice: fewer different ones than items
      have key : ∀ (ms : List Int), ¬ ms.Nodup → ∃ z : List Int, (∀ x ∈ ms, x ∈ z) ∧ z.length < ms.length := by
        intro ms
        induction ms with
        | nil => intro h; exact absurd List.nodup_nil h
        | cons m ms ih2 =>
          intro h
          by_cases hm : m ∈ ms
          · exact ⟨ms, fun x hx => (List.mem_cons.mp hx).elim (fun e => by rw [e]; exact hm) id, by simp⟩
          · have : ¬ ms.Nodup := fun z => h (List.nodup_cons.mpr ⟨hm, z⟩)
            obtain ⟨z, z1, z2⟩ := ih2 this
            refine ⟨m :: z, fun x hx => (List.mem_cons.mp hx).elim (fun e => by simp [e]) fun q => List.mem_cons_of_mem _ (z1 x q), by simp; omega⟩
      obtain ⟨z, z1, z2⟩ := key _ hn
      have := nodup_sub_len h1 fun x hx => z1 x ((h2 x).mp hx)
      have e' : (PyProof.Rows.firstMet (fun i => (n :: ns).getD i 0) (n :: ns).length).length = (n :: ns).length := e
      omega
  · intro nd
    have a1 := nodup_sub_len h1 fun x hx => (h2 x).mp hx
    have a2 := nodup_sub_len nd fun x hx => (h2 x).mpr hx
    unfold ddup
    omega

/-! ### isinstance -/
def tyD : D → String
  | .none => "NoneType"
  | .bool _ => "bool"
  | .int _ => "int"
  | .str _ => "str"
  | .list _ => "list"
  | .tuple _ => "tuple"
  | .dict _ => "dict"
theorem rep_ty {K : Fg} {H : Hp} {v : V} {d : D} (h : Rep H v d) : TyX K H v (.type (tyD d)) := by
  cases h with
  | non => exact .base .non
  | bl b => exact .base (.bl b)
  | int b => exact .base (.int b)
  | str b => exact .base (.str b)
  | lst h _ => exact .base (.lst h)
  | tup h _ => exact .base (.tup h)
  | dct h => exact .base (.dK h)
def isInt : D → Bool
  | .int _ => true
  | .bool _ => true
  | _ => false
def isBool : D → Bool
  | .bool _ => true
  | _ => false
def isList : D → Bool
  | .list _ => true
  | _ => false
def isStr : D → Bool
  | .str _ => true
  | _ => false
def isTuple : D → Bool
  | .tuple _ => true
  | _ => false
theorem kit_int : ∀ d : D, kitB (tyD d) "int" = some (isInt d)
  | .none => by decide +kernel
  | .bool _ => by show kitB "bool" "int" = some true; decide +kernel
  | .int _ => by show kitB "int" "int" = some true; decide +kernel
  | .str _ => by show kitB "str" "int" = some false; decide +kernel
  | .list _ => by show kitB "list" "int" = some false; decide +kernel
  | .tuple _ => by show kitB "tuple" "int" = some false; decide +kernel
  | .dict _ => by show kitB "dict" "int" = some false; decide +kernel
theorem kit_bool : ∀ d : D, kitB (tyD d) "bool" = some (isBool d)
  | .none => by decide +kernel
  | .bool _ => by show kitB "bool" "bool" = some true; decide +kernel
  | .int _ => by show kitB "int" "bool" = some false; decide +kernel
  | .str _ => by show kitB "str" "bool" = some false; decide +kernel
  | .list _ => by show kitB "list" "bool" = some false; decide +kernel
  | .tuple _ => by show kitB "tuple" "bool" = some false; decide +kernel
  | .dict _ => by show kitB "dict" "bool" = some false; decide +kernel
theorem kit_list : ∀ d : D, kitB (tyD d) "list" = some (isList d)
  | .none => by decide +kernel
  | .bool _ => by show kitB "bool" "list" = some false; decide +kernel
  | .int _ => by show kitB "int" "list" = some false; decide +kernel
  | .str _ => by show kitB "str" "list" = some false; decide +kernel
  | .list _ => by show kitB "list" "list" = some true; decide +kernel
  | .tuple _ => by show kitB "tuple" "list" = some false; decide +kernel
  | .dict _ => by show kitB "dict" "list" = some false; decide +kernel
theorem kit_str : ∀ d : D, kitB (tyD d) "str" = some (isStr d)
  | .none => by decide +kernel
  | .bool _ => by show kitB "bool" "str" = some false; decide +kernel
  | .int _ => by show kitB "int" "str" = some false; decide +kernel
  | .str _ => by show kitB "str" "str" = some true; decide +kernel
  | .list _ => by show kitB "list" "str" = some false; decide +kernel
  | .tuple _ => by show kitB "tuple" "str" = some false; decide +kernel
  | .dict _ => by show kitB "dict" "str" = some false; decide +kernel
theorem kit_tuple : ∀ d : D, kitB (tyD d) "tuple" = some (isTuple d)
  | .none => by decide +kernel
  | .bool _ => by show kitB "bool" "tuple" = some false; decide +kernel
  | .int _ => by show kitB "int" "tuple" = some false; decide +kernel
  | .str _ => by show kitB "str" "tuple" = some false; decide +kernel
  | .list _ => by show kitB "list" "tuple" = some false; decide +kernel
  | .tuple _ => by show kitB "tuple" "tuple" = some true; decide +kernel
  | .dict _ => by show kitB "dict" "tuple" = some false; decide +kernel
section
variable {X : Cx} {Γ : Gm} {ρ ρ' : List Sl} {e a b c o : Expr} {es : List Expr} {pos p p' p2 q2 apos cpos : Pos} {κ κ' : Kd} {d d' : D} {x y z : V} {t t' : OT} {σ : L2.St} {G H G1 H1 G2 H2 : Hp} {n : Str} {i j : Int} {α β : Type} {f : α → D} {g : α → OT} {E : En} {rest body : List Stmt}
theorem dv_lenSet {ns : List Int} (xo : XO X) (ha : DE X Γ ρ a κ (dl dI ns)) (hl : ns.length ≤ 4000) (hm : X.mg "len" = none) (hm2 : X.mg "set" = none) (hg : Gl X "len" := by rfl) (hg2 : Gl X "set" := by rfl) (na : starEach [a] X.env = (false, eval a X.env) :: starEach [] X.env := by rfl) :
    DV X Γ ρ (.Call (.Name "len" p) [.Call (.Name "set" p2) [a] [] q2] [] pos) (.int ((ddup ns).length : Int)) :=
  (pe_lenSetG hg hm hg2 hm2 ha xo.calm na).weak fun σ H Q ⟨G, S, k⟩ => ⟨G, S, fun v G1 H1 s1 e1 q => by
    obtain ⟨a, xs, rfl, h, r⟩ := Rep.l (pK_c S s1 e1 q)
    exact ⟨a, ns, rfl, by rw [← r.ints]; exact SqL.of h, hl, k _ G1 H1 s1 e1 rfl⟩⟩
theorem dv_isi {T : String} {tn : Str} {r : Bool} (ha : DE X Γ ρ a κ d) (hq : kitB (tyD d) T = some r) (hm2 : X.mg tn = none) (hv2 : bootBuiltins tn = some (.type T)) (hm : X.mg "isinstance" = none) (hg : Gl X "isinstance" := by rfl) (hg2 : Gl X tn := by rfl) (hn : tn ≠ "__name__" := by decide) (hd : (tn == ("__debug__" : Str)) = false := by decide)
    (he : starEach [a, .Name tn p2] X.env = (false, eval a X.env) :: starEach [.Name tn p2] X.env := by rfl) (he2 : starEach [.Name tn p2] X.env = (false, eval (.Name tn p2) X.env) :: starEach [] X.env := by rfl) (hpl : (backTo pos (starEach [.Name tn p2] X.env)).any (·.1) = false := by rfl) :
    DV X Γ ρ (.Call (.Name "isinstance" p) [a, .Name tn p2] [] pos) (.bl r) :=
  cb2 (pe_callB call_isi hg hm PyProof.Rows.boot_isinstance (pa_cons ha (pa_cons (dv_bltn (x := .ty T) (Γ := Γ) (ρ := ρ) hg2 hm2 hv2 rfl hn hd) pa_nil he2) he) (by decide) (by decide) he hpl) fun σ G H G1 H1 G2 H2 v u Q S s1 e1 q1 s2 e2 q2 k =>
    ⟨v, u, _, _, r, rfl, by rw [q2]; exact .ty T, rep_ty (Rep.mono s2.h (pK_c S s1 e1 q1)), kit_ty hq, k _ G2 H2 (Step.refl _ _) e2 rfl⟩

/-! ### loops in short -/
theorem Wk.trans : ∀ {ρ1 ρ2 ρ3 : List Sl}, Wk ρ1 ρ2 → Wk ρ2 ρ3 → Wk ρ1 ρ3
  | _, _, _, .nil, .nil => .nil
  | _, _, _, .same w, .same w' => .same (Wk.trans w w')
  | _, _, _, .same w, .un w' => .un (Wk.trans w w')
  | _, _, _, .un w, .same w' => .un (Wk.trans w w')
  | _, _, _, .un w, .un w' => .un (Wk.trans w w')
theorem Wk.eq {s s' : Sl} {ρ ρ' : List Sl} (h : s = s') (w : Wk ρ ρ') : Wk (s :: ρ) (s' :: ρ') := h ▸ .same w
theorem Wk_set : ∀ {ρ ρ' : List Sl}, Wk ρ ρ' → ∀ (j : Nat) (s : Sl), Wk (ρ.set j s) (ρ'.set j s)
  | _, _, .nil, _, _ => .nil
  | _, _, .same w, 0, _ => .same w
  | _, _, .un w, 0, _ => .same w
  | _, _, .same w, j + 1, s => .same (Wk_set w j s)
  | _, _, .un w, j + 1, s => .un (Wk_set w j s)
theorem ss_for1 {m : Nat} {it : Nat → Sl} (xo : XO X) (hp : PassesOwn (model X.prog X.w) X.A X.env X.xe) (j : Nat) (hi : DI X Γ ρ (.Name n p) e m it) (u : Nat → List Sl → List Sl) (I : Nat → Prop) (w0 : Wk ρ (u 0 ρ)) (i0 : I 0)
    (hs : ∀ i, i < m → I i → SS X Γ ((u i ρ).set j (it i)) body { E with nx := fun ρ2 => Wk ρ2 (u (i + 1) ρ) ∧ I (i + 1), ct := fun ρ2 => Wk ρ2 (u (i + 1) ρ) ∧ I (i + 1), bk := fun _ => False })
    (hd : I m → SS X Γ (u m ρ) rest E) (hj : X.N[j]? = some n := by rfl) (hx : Loc X.env.scope n := by first | exact .inl rfl | exact .inr rfl) (hf : X.fn n = true ∨ X.env.scope.names.lookup n = some .local := by first | exact .inl rfl | exact .inr rfl)
    (hs2 : ∀ x, foldedSetIterable e X.env x = pure x := by intro _; rfl) : SS X Γ ρ (.For (.Name n p) e body [] pos :: rest) E :=
  ss_for (hh := fun i ρ => ρ.set j (it i)) hp xo.calm hi (pg_name xo.nd hj hx hf) (fun i _ ρ σ G H v Q S h k => k _ (S.store (Step.refl _ _) S.sub h List.nodup_nil fun _ z => by cases z))
    (fun ρ' i => Wk ρ' (u i ρ) ∧ I i) (fun _ _ => False) ⟨w0, i0⟩ (fun i ρ' h1 ⟨h2, h3⟩ => ss_wk (Wk_set h2 j (it i)) (hs i h1 h3)) (fun ρ' ⟨h1, h2⟩ => ss_wk h1 (hd h2)) (fun _ _ _ z => z.elim) hs2
/-- for a, b in .. -/
theorem ss_for2 {m : Nat} {d1 d2' : Nat → D} {s1 s2 : Nat → Sl} {n1 n2 : Str} {p1 p2 : Pos} {kk} (xo : XO X) (hp : PassesOwn (model X.prog X.w) X.A X.env X.xe) (j1 j2 : Nat) (hi : DI X Γ ρ (.Tuple [.Name n1 p1, .Name n2 p2] kk p) e m (fun i => .sh (.tuple [d1 i, d2' i]))) (q1 : ∀ i, SubSl (d1 i) (s1 i)) (q2 : ∀ i, SubSl (d2' i) (s2 i))
    (u : Nat → List Sl → List Sl) (I : Nat → Prop) (w0 : Wk ρ (u 0 ρ)) (i0 : I 0)
    (hs : ∀ i, i < m → I i → SS X Γ (((u i ρ).set j1 (s1 i)).set j2 (s2 i)) body { E with nx := fun ρ2 => Wk ρ2 (u (i + 1) ρ) ∧ I (i + 1), ct := fun ρ2 => Wk ρ2 (u (i + 1) ρ) ∧ I (i + 1), bk := fun _ => False })
    (hd : I m → SS X Γ (u m ρ) rest E) (hj1 : X.N[j1]? = some n1 := by rfl) (hx1 : Loc X.env.scope n1 := by first | exact .inl rfl | exact .inr rfl) (hf1 : X.fn n1 = true ∨ X.env.scope.names.lookup n1 = some .local := by first | exact .inl rfl | exact .inr rfl)
    (hj2 : X.N[j2]? = some n2 := by rfl) (hx2 : Loc X.env.scope n2 := by first | exact .inl rfl | exact .inr rfl) (hf2 : X.fn n2 = true ∨ X.env.scope.names.lookup n2 = some .local := by first | exact .inl rfl | exact .inr rfl)
    (ha1 : (assignEach [.Name n1 p1, .Name n2 p2] X.env).map (·.2) = assign (.Name n1 p1) X.env :: (assignEach [.Name n2 p2] X.env).map (·.2) := by rfl) (ha2 : (assignEach [.Name n2 p2] X.env).map (·.2) = assign (.Name n2 p2) X.env :: (assignEach [] X.env).map (·.2) := by rfl)
    (hn : (assignEach [.Name n1 p1, .Name n2 p2] X.env).length = 2 := by rfl) (hst : (assignEach [.Name n1 p1, .Name n2 p2] X.env).findIdx? (·.1) = none := by rfl)
    (hs2 : ∀ x, foldedSetIterable e X.env x = pure x := by intro _; rfl) : SS X Γ ρ (.For (.Tuple [.Name n1 p1, .Name n2 p2] kk p) e body [] pos :: rest) E :=
  ss_for (hh := fun i ρ => (ρ.set j1 (s1 i)).set j2 (s2 i)) hp xo.calm hi (pg_tup xo.calm (pgs_cons (pg_name xo.nd hj1 hx1 hf1) (pgs_cons (pg_name xo.nd hj2 hx2 hf2) pgs_nil ha2) ha1) hn hst)
    (fun i _ ρ σ G H v Q S h k => by
      cases h with
      | sh r =>
        cases r with
        | @tup a xs _ ht r =>
          cases r with
          | cons r1 r =>
            cases r with
            | cons r2 r =>
              cases r
              exact ⟨a, _, rfl, SqT.of (S.sub _ _ ht), rfl, _, _, rfl, _, _, rfl, rfl, k _ ((S.store (Step.refl _ _) S.sub ((q1 i).sl r1) List.nodup_nil fun _ z => by cases z).store (Step.refl _ _) S.sub ((q2 i).sl r2) List.nodup_nil fun _ z => by cases z)⟩)
    (fun ρ' i => Wk ρ' (u i ρ) ∧ I i) (fun _ _ => False) ⟨w0, i0⟩ (fun i ρ' h1 ⟨h2, h3⟩ => ss_wk (Wk_set (Wk_set h2 j1 (s1 i)) j2 (s2 i)) (hs i h1 h3)) (fun ρ' ⟨h1, h2⟩ => ss_wk h1 (hd h2)) (fun _ _ _ z => z.elim) hs2
/-- while: τ the state, b the test's answer, μ falls -/
theorem ss_while {τ : Type} (xo : XO X) (hp : PassesOwn (model X.prog X.w) X.A X.env X.xe) (uu : τ → List Sl → List Sl) (I : τ → Prop) (μ : τ → Nat) (bb : τ → Bool) (t0 : τ) (w0 : Wk ρ (uu t0 ρ)) (i0 : I t0) (hc : ∀ t, I t → DT X Γ (uu t ρ) c (bb t))
    (hb : ∀ t, I t → bb t = true → SS X Γ (uu t ρ) body { E with nx := fun ρ2 => ∃ t', I t' ∧ μ t' < μ t ∧ Wk ρ2 (uu t' ρ), ct := fun ρ2 => ∃ t', I t' ∧ μ t' < μ t ∧ Wk ρ2 (uu t' ρ), bk := fun _ => False })
    (hd : ∀ t, I t → bb t = false → SS X Γ (uu t ρ) rest E) : SS X Γ ρ (.While c body [] pos :: rest) E := by
  have hC : PT X c (fun σ H Q => ∃ t, I t ∧ tT Γ (uu t ρ) (bb t) σ H Q) := ⟨fun pins s σ H Q II ⟨t, h, q⟩ => (hc t h).run pins s σ H Q II q⟩
  have hB : PSs X body (fun D σ H => ∃ t, I t ∧ bb t = true ∧ tS Γ (uu t ρ) { E with nx := fun ρ2 => ∃ t', I t' ∧ μ t' < μ t ∧ Wk ρ2 (uu t' ρ), ct := fun ρ2 => ∃ t', I t' ∧ μ t' < μ t ∧ Wk ρ2 (uu t' ρ), bk := fun _ => False } D σ H) := ⟨fun pins s σ H D II ⟨t, h1, h2, q⟩ => (hb t h1 h2).run pins s σ H D II q⟩
  refine ss_wk w0 (ss_cons (M := fun ρ' => ∃ t, I t ∧ bb t = false ∧ ρ' = uu t ρ) ((ps_while hp hC hB).weak fun D σ H ⟨G0, S0, k⟩ => ?_) fun ρ' ⟨t, h1, h2, h3⟩ => h3 ▸ hd t h1 h2)
  refine ⟨fun m σ H => ∃ t G, μ t = m ∧ I t ∧ Sr Γ G H σ (uu t ρ) ∧ Ex G0 G, ⟨_, t0, G0, rfl, i0, S0, Ex.refl _⟩, ?_⟩
  rintro m σ1 H1 ⟨t, G, rfl, it, S, eg⟩
  refine ⟨t, it, G, S, fun G2 H2 st2 ex => ?_⟩
  cases hbt : bb t with
  | true =>
    refine iteT ⟨fun σ3 H3 => ∃ t' G3, I t' ∧ μ t' < μ t ∧ Sr Γ G3 H3 σ3 (uu t' ρ) ∧ Ex G0 G3, fun σ3 H3 ⟨t', G3, h1, h2, h3, h4⟩ => ⟨μ t', h2, t', G3, rfl, h1, h3, h4⟩, ?_⟩
    exact ⟨t, it, hbt, G2, S.more st2 ex, ⟨fun ρ3 σ3 G3 H3 ⟨t', h1, h2, h3⟩ S3 x => ⟨t', G3, h1, h2, S3.wk h3, (eg.trans st2.g).trans x⟩, fun _ _ _ _ z => z.elim, fun ρ3 σ3 G3 H3 ⟨t', h1, h2, h3⟩ S3 x => ⟨t', G3, h1, h2, S3.wk h3, (eg.trans st2.g).trans x⟩, k.rt⟩⟩
  | false => exact iteF (k.nx _ _ G2 H2 ⟨t, it, hbt, rfl⟩ (S.more st2 ex) (eg.trans st2.g))

/-! ### more changes of lists of ints -/
theorem OwnTs.intsV {ns : List Int} {vs : List V} {B : List Addr} (h : OwnTs G H (ns.map tI) vs B) : vs = ns.map V.int ∧ B = [] := by
  induction ns generalizing vs B with
  | nil => cases h; exact ⟨rfl, rfl⟩
  | cons n ns ih =>
    rw [List.map_cons] at h
    unfold tI at h
    cases h with
    | cons h r =>
      cases h with
      | fz hr =>
        cases hr
        obtain ⟨e1, e2⟩ := ih r
        rw [e1, e2]
        exact ⟨rfl, rfl⟩
/-- left.remove(k) -/
theorem ss_rem (i : Nat) {ns : List Int} {k : Int} (ho : DPl X Γ ρ o i []) (he : DV X Γ ρ e (.int k)) (h : ρ[i]? = some (.ow (tl tI ns))) (hk : k ∈ ns) (hr : SS X Γ (ρ.set i (.ow (tl tI (ns.erase k)))) rest E)
    (hbase : attributeBase o "remove" X.env (eval o X.env) = eval o X.env := by rfl)
    (hfew : ((backTo cpos (starEach [e] X.env)).all (fun x => !x.1) && (backToKw cpos (keywordEach [] X.env)).all (fun x => x.1.isSome) && decide (([e] : List Expr).length + ([] : List Keyword).length + (if ([] : List Keyword).isEmpty then 0 else 1) < 30)) = true := by rfl)
    (hline : (apos.endLine == cpos.line) = true := by rfl) (hs : starEach [e] X.env = (false, eval e X.env) :: starEach [] X.env := by rfl) (hplain : (backTo cpos (starEach [] X.env)).any (·.1) = false := by rfl)
    (hsw : swapsWith (.Call (.Attribute o "remove" apos) [e] [] cpos) none pos.line X.env = pure false := by rfl) : SS X Γ ρ (.Expr (.Call (.Attribute o "remove" apos) [e] [] cpos) pos :: rest) E :=
  ss_cons (M := fun ρ' => ρ' = ρ.set i (.ow (tl tI (ns.erase k)))) ((ps_expr (pe_bm PySem.F.plainAttrs_list PySem.F.slot_list_remove PySem.F.type_list_remove mt_remove ho (pa_cons he pa_nil hs) hbase hfew hline hs hplain) hsw).weak fun D σ H ⟨G, S, kk⟩ =>
    ⟨G, S, fun v G1 H1 s1 e1 ⟨v0, h0, hv⟩ => by
      obtain ⟨A, SA⟩ := (S.more s1 e1).ad
      obtain ⟨a, rfl⟩ := (S.more s1 e1).ref (ts := ns.map tI) h (at_nil _) h0 hv
      obtain ⟨vs1, B1, q1, _⟩ := SA.mut (ts := ns.map tI) h (at_nil _) h0 hv
      refine ⟨ty_list q1, G1, S.more s1 e1, fun w G2 H2 s2 e2 (qw : w = .int k) => ?_⟩
      have SA2 := SA.more s2 e2
      obtain ⟨vs, B, q1, q2, q3, q4, q5, q6, q7, q8⟩ := SA2.mut (ts := ns.map tI) h (at_nil _) h0 (hv.mono s2.h)
      obtain ⟨ev, eB⟩ := q4.intsV
      subst ev eB
      have hj : ns.idxOf k < ns.length := List.idxOf_lt_length_iff.mpr hk
      refine ⟨a, ns, k, ns.idxOf k, rfl, by rw [qw], q1, ?_, fun m hm hx => ?_, ?_⟩
      · rw [List.getElem?_eq_getElem hj]
        simp
      · have hml : m < ns.length := by omega
        have h1 : ns[m] = k := by rw [List.getElem?_eq_getElem hml] at hx; exact Option.some.inj hx
        have h2 := List.not_of_lt_findIdx (p := (· == k)) (xs := ns) (i := m) hm
        rw [h1] at h2
        simp at h2
      · rw [← List.erase_eq_eraseIdx_of_idxOf rfl]
        have w := q8 ((ns.erase k).map tI) ((ns.erase k).map V.int) [] OwnTs.ints List.nodup_nil (by simp) (by simp) (by simp)
        exact kk.nx _ _ G2 _ rfl w (s1.g.trans s2.g)⟩) fun ρ' e => e ▸ hr
/-- xs.clear() -/
theorem ss_clear (i : Nat) {ts : List OT} (ho : DPl X Γ ρ o i []) (h : ρ[i]? = some (.ow (.cell ts))) (hr : SS X Γ (ρ.set i (.ow (.cell []))) rest E)
    (hbase : attributeBase o "clear" X.env (eval o X.env) = eval o X.env := by rfl) (hline : (apos.endLine == cpos.line) = true := by rfl)
    (hsw : swapsWith (.Call (.Attribute o "clear" apos) [] [] cpos) none pos.line X.env = pure false := by rfl) : SS X Γ ρ (.Expr (.Call (.Attribute o "clear" apos) [] [] cpos) pos :: rest) E :=
  ss_cons (M := fun ρ' => ρ' = ρ.set i (.ow (.cell []))) ((ps_expr (pe_bm0 PySem.F.plainAttrs_list PySem.F.slot_list_clear PySem.F.type_list_clear mt_clear ho hbase hline) hsw).weak fun D σ H ⟨G, S, kk⟩ =>
    ⟨G, S, fun v G1 H1 s1 e1 ⟨v0, h0, hv⟩ => by
      obtain ⟨A, SA⟩ := (S.more s1 e1).ad
      obtain ⟨a, rfl⟩ := (S.more s1 e1).ref (ts := ts) h (at_nil _) h0 hv
      obtain ⟨vs, B, q1, q2, q3, q4, q5, q6, q7, q8⟩ := SA.mut (ts := ts) h (at_nil _) h0 hv
      refine ⟨ty_list q1, a, vs, rfl, rfl, q1, ?_⟩
      exact kk.nx _ _ G1 _ rfl (q8 [] [] [] .nil List.nodup_nil (by simp) (by simp) (by simp)) s1.g⟩) fun ρ' e => e ▸ hr
theorem eraseIdx_map' {α β : Type} (f : α → β) : ∀ (xs : List α) (k : Nat), (xs.map f).eraseIdx k = (xs.eraseIdx k).map f
  | [], _ => by simp
  | x :: xs, 0 => by simp
  | x :: xs, k + 1 => by simp [eraseIdx_map' f xs k]
/-- x.append(y.pop(k)), both of ints -/
theorem ss_appPop (i j : Nat) {o2 ek : Expr} {apos2 cpos2 : Pos} {ns ms : List Int} {k : Int} (ho : DPl X Γ ρ o i []) (ho2 : DPl X Γ ρ o2 j []) (hk : DV X Γ ρ ek (.int k)) (h : ρ[i]? = some (.ow (tl tI ns))) (h2 : ρ[j]? = some (.ow (tl tI ms))) (hij : i ≠ j) (hl : ns.length < 16000000) (hr0 : 0 ≤ k ∧ k < ms.length) (hb : k < 2 ^ 63)
    (hr : SS X Γ ((ρ.set j (.ow (tl tI (ms.eraseIdx k.toNat)))).set i (.ow (tl tI (ns ++ [ms.getD k.toNat 0])))) rest E)
    (hbase : attributeBase o "append" X.env (eval o X.env) = eval o X.env := by rfl)
    (hfew : ((backTo cpos (starEach [.Call (.Attribute o2 "pop" apos2) [ek] [] cpos2] X.env)).all (fun x => !x.1) && (backToKw cpos (keywordEach [] X.env)).all (fun x => x.1.isSome) && decide (([.Call (.Attribute o2 "pop" apos2) [ek] [] cpos2] : List Expr).length + ([] : List Keyword).length + (if ([] : List Keyword).isEmpty then 0 else 1) < 30)) = true := by rfl)
    (hline : (apos.endLine == cpos.line) = true := by rfl) (hs : starEach [.Call (.Attribute o2 "pop" apos2) [ek] [] cpos2] X.env = (false, eval (.Call (.Attribute o2 "pop" apos2) [ek] [] cpos2) X.env) :: starEach [] X.env := by rfl) (hplain : (backTo cpos (starEach [] X.env)).any (·.1) = false := by rfl)
    (hbase2 : attributeBase o2 "pop" X.env (eval o2 X.env) = eval o2 X.env := by rfl)
    (hfew2 : ((backTo cpos2 (starEach [ek] X.env)).all (fun x => !x.1) && (backToKw cpos2 (keywordEach [] X.env)).all (fun x => x.1.isSome) && decide (([ek] : List Expr).length + ([] : List Keyword).length + (if ([] : List Keyword).isEmpty then 0 else 1) < 30)) = true := by rfl)
    (hline2 : (apos2.endLine == cpos2.line) = true := by rfl) (hs2 : starEach [ek] X.env = (false, eval ek X.env) :: starEach [] X.env := by rfl) (hplain2 : (backTo cpos2 (starEach [] X.env)).any (·.1) = false := by rfl)
    (hsw : swapsWith (.Call (.Attribute o "append" apos) [.Call (.Attribute o2 "pop" apos2) [ek] [] cpos2] [] cpos) none pos.line X.env = pure false := by rfl) :
    SS X Γ ρ (.Expr (.Call (.Attribute o "append" apos) [.Call (.Attribute o2 "pop" apos2) [ek] [] cpos2] [] cpos) pos :: rest) E :=
  ss_cons (M := fun ρ' => ρ' = (ρ.set j (.ow (tl tI (ms.eraseIdx k.toNat)))).set i (.ow (tl tI (ns ++ [ms.getD k.toNat 0])))) ((ps_expr (pe_bm PySem.F.plainAttrs_list PySem.F.slot_list_append PySem.F.type_list_append mt_append ho
      (pa_cons (pe_bm PySem.F.plainAttrs_list PySem.F.slot_list_pop PySem.F.type_list_pop mt_popAt ho2 (pa_cons hk pa_nil hs2) hbase2 hfew2 hline2 hs2 hplain2) pa_nil hs) hbase hfew hline hs hplain) hsw).weak fun D σ H ⟨G, S, kk⟩ =>
    ⟨G, S, fun v G1 H1 s1 e1 ⟨v0, h0, hv⟩ => by
      have S1 := S.more s1 e1
      obtain ⟨A, SA⟩ := S1.ad
      obtain ⟨a, rfl⟩ := S1.ref (ts := ns.map tI) h (at_nil _) h0 hv
      obtain ⟨vs1, B1, q1, _⟩ := SA.mut (ts := ns.map tI) h (at_nil _) h0 hv
      refine ⟨ty_list q1, G1, S1, fun v2 G2 H2 s2 e2 ⟨w0, g0, gv⟩ => ?_⟩
      have S2 := S1.more s2 e2
      obtain ⟨b, rfl⟩ := S2.ref (ts := ms.map tI) h2 (at_nil _) g0 gv
      have SA2 := SA.more s2 e2
      obtain ⟨us1, C1, z1, _⟩ := SA2.mut (ts := ms.map tI) h2 (at_nil _) g0 gv
      refine ⟨ty_list z1, G2, S2, fun w G3 H3 s3 e3 (qw : w = .int k) => ?_⟩
      have SA3 := SA2.more s3 e3
      obtain ⟨us, C, z1, z2, z3, z4, z5, z6, z7, z8⟩ := SA3.mut (ts := ms.map tI) h2 (at_nil _) g0 (gv.mono s3.h)
      obtain ⟨eu, eC⟩ := z4.intsV
      subst eu eC
      have hkl : k.toNat < ms.length := by omega
      have eg : (ms.map V.int)[k.toNat]? = some (.int (ms.getD k.toNat 0)) := by
        rw [List.getElem?_map, List.getElem?_eq_getElem hkl]
        simp [List.getD_eq_getElem?_getD, hkl]
      refine ⟨b, _, k, k.toNat, _, rfl, by rw [qw], z1, by omega, hb, ?_, eg, ?_⟩
      · rw [PySem.seqIndex_of hr0.1 (by rw [List.length_map]; exact hr0.2)]
      have S4 := z8 ((ms.eraseIdx k.toNat).map tI) ((ms.map V.int).eraseIdx k.toNat) [] (by rw [eraseIdx_map']; exact OwnTs.ints) List.nodup_nil (by simp) (by simp) (by simp)
      have h' : (ρ.set j (.ow (OT.put [] (tl tI ms) (.cell ((ms.eraseIdx k.toNat).map tI)))))[i]? = some (.ow (tl tI ns)) := by rw [List.getElem?_set_ne (Ne.symm hij)]; exact h
      obtain ⟨A4, SA4⟩ := S4.ad
      have hva : v0 = .ref a := hv
      obtain ⟨vs, B, y1, y2, y3, y4, y5, y6, y7, y8⟩ := SA4.mut (p := []) (a := a) (ts := ns.map tI) h' (at_nil _) h0 hva
      obtain ⟨ev, eB⟩ := y4.intsV
      subst ev eB
      refine ⟨a, _, _, rfl, rfl, y1, by rw [List.length_map]; exact Nat.lt_of_lt_of_le hl (by decide), ?_⟩
      have w := y8 ((ns ++ [ms.getD k.toNat 0]).map tI) ((ns.map V.int) ++ [.int (ms.getD k.toNat 0)]) [] (by
        have : (ns.map V.int) ++ [V.int (ms.getD k.toNat 0)] = (ns ++ [ms.getD k.toNat 0]).map V.int := by rw [List.map_append]; rfl
        rw [this]; exact OwnTs.ints) List.nodup_nil (by simp) (by simp) (by simp)
      exact kk.nx _ _ G3 _ rfl w ((s1.g.trans s2.g).trans s3.g)⟩) fun ρ' e => e ▸ hr
/-- xs.index(k) of ints -/
theorem dv_index {ns : List Int} {k : Int} (ho : DE X Γ ρ o κ (dl dI ns)) (he : DV X Γ ρ e (.int k)) (hk : k ∈ ns)
    (hbase : attributeBase o "index" X.env (eval o X.env) = eval o X.env := by rfl)
    (hfew : ((backTo cpos (starEach [e] X.env)).all (fun x => !x.1) && (backToKw cpos (keywordEach [] X.env)).all (fun x => x.1.isSome) && decide (([e] : List Expr).length + ([] : List Keyword).length + (if ([] : List Keyword).isEmpty then 0 else 1) < 30)) = true := by rfl)
    (hline : (apos.endLine == cpos.line) = true := by rfl) (hs : starEach [e] X.env = (false, eval e X.env) :: starEach [] X.env := by rfl) (hplain : (backTo cpos (starEach [] X.env)).any (·.1) = false := by rfl) :
    DV X Γ ρ (.Call (.Attribute o "index" apos) [e] [] cpos) (.int (ns.idxOf k : Int)) :=
  (pe_bm PySem.F.plainAttrs_list PySem.F.slot_list_index PySem.F.type_list_index mt_index ho (pa_cons he pa_nil hs) hbase hfew hline hs hplain).weak fun σ H Q ⟨G, S, kk⟩ => ⟨G, S, fun v G1 H1 s1 e1 q => by
    obtain ⟨a, xs, rfl, h, r⟩ := Rep.l (pK_c S s1 e1 q)
    have ev : xs = ns.map V.int := r.ints
    subst ev
    refine ⟨ty_list h, G1, S.more s1 e1, fun w G2 H2 s2 e2 (qw : w = .int k) => ?_⟩
    have hj : ns.idxOf k < ns.length := List.idxOf_lt_length_iff.mpr hk
    refine ⟨a, _, .int k, ns.idxOf k, .int k, rfl, by rw [qw], SqL.of (s2.h _ _ h), rfl, ?_, ?_, ?_, fun m z hm hx => ?_, kk _ G2 H2 (s1.trans s2) e2 rfl⟩
    · simp [flatV]
    · rw [List.getElem?_map, List.getElem?_eq_getElem hj]
      simp
    · simp [eqV]
    · have hml : m < ns.length := by omega
      rw [List.getElem?_map, List.getElem?_eq_getElem hml] at hx
      obtain rfl := Option.some.inj hx
      have h2 := List.not_of_lt_findIdx (p := (· == k)) (xs := ns) (i := m) hm
      simpa [eqV] using h2⟩
end
end DL
namespace DL
open PySem L2
section
variable {X : Cx} {Γ : Gm} {ρ ρ' : List Sl} {e a b c o : Expr} {es : List Expr} {pos p p' p2 q2 apos cpos : Pos} {κ κ' : Kd} {d d' : D} {x y z : V} {t t' : OT} {σ : L2.St} {G H G1 H1 G2 H2 : Hp} {n : Str} {i j : Int} {α β : Type} {f : α → D} {g : β → OT} {E : En} {rest body : List Stmt}
variable {tg elt iter : Expr} {ifs : List Expr} {scope : Scope} {own : List (Str × Nat)} {xs : List α} {s : α → Sl} {ft : α → Bool} {k : α → β} {gg : TG} {js : List Nat} {h : α → List Sl → List Sl}
theorem DV.oI (h : DV X Γ ρ e (.int i)) : DO X Γ ρ e (tI i) := h.dat.own
theorem DV.oB {q : Bool} (h : DV X Γ ρ e (.bl q)) : DO X Γ ρ e (tF PyData.bool q) := h.dat.own
theorem DV.oS {q : Str} (h : DV X Γ ρ e (.str q)) : DO X Γ ρ e (tF PyData.str q) := h.dat.own
theorem DE.oF {x : α} (h : DE X Γ ρ e .z (f x)) : DO X Γ ρ e (tF f x) := h.own
theorem DO.vI (h : DO X Γ ρ e (tI i)) : DV X Γ ρ e (.int i) := h.fzv.int
theorem DO.vB {q : Bool} (h : DO X Γ ρ e (.fz (.bool q))) : DV X Γ ρ e (.bl q) := h.fzv.bool
theorem DO.vS {q : Str} (h : DO X Γ ρ e (.fz (.str q))) : DV X Γ ρ e (.str q) := h.fzv.str
theorem DO.vN (h : DO X Γ ρ e (.fz .none)) : DV X Γ ρ e .non := h.fzv.val rfl
theorem tl_mapf (ys : List α) : tl (fun a => g (k a)) ys = tl g (ys.map k) := by
  unfold tl
  rw [List.map_map]
  rfl
theorem filter_all (xs : List α) : xs.filter (fun _ => true) = xs := by simp
theorem do_lcM (xo : XO X) (own : List (Str × Nat)) (hi : DIc X Γ ρ tg iter xs s) (ok : BlkOk X.N X.env.scope scope own) (hgg : ∀ (s : Shared) (H : Hp) (C : Addr) (cl : List (Str × Addr)) (fp : List Addr), PG (X.blk s H scope (compEnvC scope cl C X.env) fp) tg gg)
    (hg : ∀ a ∈ xs, TgW gg Γ.K js (s a) (h a)) (hj : ∀ j ∈ js, j ∈ own.map (·.2))
    (ht : ∀ (Γ' : Gm), Γ'.K = Γ.K → ∀ a ∈ xs, ∀ (s : Shared) (H : Hp) (C : Addr) (cl : List (Str × Addr)) (fp : List Addr), XO (X.blk s H scope (compEnvC scope cl C X.env) fp) → DTs (X.blk s H scope (compEnvC scope cl C X.env) fp) Γ' (h a (wipeS (ρ.map deo) (own.map (·.2)))) ifs (ft a))
    (he : ∀ (Γ' : Gm), Γ'.K = Γ.K → ∀ a ∈ xs, ft a = true → ∀ (s : Shared) (H : Hp) (C : Addr) (cl : List (Str × Addr)) (fp : List Addr), XO (X.blk s H scope (compEnvC scope cl C X.env) fp) → DO (X.blk s H scope (compEnvC scope cl C X.env) fp) Γ' (h a (wipeS (ρ.map deo) (own.map (·.2)))) elt (g (k a)))
    (hl : xs.length ≤ 16000000) (hs : ∀ x, foldedSetIterable iter X.env x = pure x := by intro _; rfl) : DO X Γ ρ (.ListComp elt [⟨tg, iter, ifs, 0⟩] scope pos) (tl g ((xs.filter ft).map k)) := by
  rw [← tl_mapf]
  exact do_lc xo own hi ok hgg hg hj ht he hl hs
theorem do_lcM0 (xo : XO X) (own : List (Str × Nat)) (hi : DIc X Γ ρ tg iter xs s) (ok : BlkOk X.N X.env.scope scope own) (hgg : ∀ (s : Shared) (H : Hp) (C : Addr) (cl : List (Str × Addr)) (fp : List Addr), PG (X.blk s H scope (compEnvC scope cl C X.env) fp) tg gg)
    (hg : ∀ a ∈ xs, TgW gg Γ.K js (s a) (h a)) (hj : ∀ j ∈ js, j ∈ own.map (·.2))
    (he : ∀ (Γ' : Gm), Γ'.K = Γ.K → ∀ a ∈ xs, ∀ (s : Shared) (H : Hp) (C : Addr) (cl : List (Str × Addr)) (fp : List Addr), XO (X.blk s H scope (compEnvC scope cl C X.env) fp) → DO (X.blk s H scope (compEnvC scope cl C X.env) fp) Γ' (h a (wipeS (ρ.map deo) (own.map (·.2)))) elt (g (k a)))
    (hl : xs.length ≤ 16000000) (hs : ∀ x, foldedSetIterable iter X.env x = pure x := by intro _; rfl) : DO X Γ ρ (.ListComp elt [⟨tg, iter, [], 0⟩] scope pos) (tl g (xs.map k)) := by
  have := do_lcM (ft := fun _ => true) (pos := pos) xo own hi ok hgg hg hj (fun _ _ _ _ _ _ _ _ _ _ => dts_nil) (fun Γ' q a ha _ => he Γ' q a ha) hl hs
  rwa [filter_all] at this
theorem ss_lcM (i : Nat) {y : Str} {py spos : Pos} (xo : XO X) (own : List (Str × Nat)) (hi : DIc X Γ ρ tg iter xs s) (ok : BlkOk X.N X.env.scope scope own) (hgg : ∀ (s : Shared) (H : Hp) (C : Addr) (cl : List (Str × Addr)) (fp : List Addr), PG (X.blk s H scope (compEnvC scope cl C X.env) fp) tg gg)
    (hg : ∀ a ∈ xs, TgW gg Γ.K js (s a) (h a)) (hj : ∀ j ∈ js, j ∈ own.map (·.2))
    (ht : ∀ (Γ' : Gm), Γ'.K = Γ.K → ∀ a ∈ xs, ∀ (s : Shared) (H : Hp) (C : Addr) (cl : List (Str × Addr)) (fp : List Addr), XO (X.blk s H scope (compEnvC scope cl C X.env) fp) → DTs (X.blk s H scope (compEnvC scope cl C X.env) fp) Γ' (h a (wipeS (ρ.map deo) (own.map (·.2)))) ifs (ft a))
    (he : ∀ (Γ' : Gm), Γ'.K = Γ.K → ∀ a ∈ xs, ft a = true → ∀ (s : Shared) (H : Hp) (C : Addr) (cl : List (Str × Addr)) (fp : List Addr), XO (X.blk s H scope (compEnvC scope cl C X.env) fp) → DO (X.blk s H scope (compEnvC scope cl C X.env) fp) Γ' (h a (wipeS (ρ.map deo) (own.map (·.2)))) elt (g (k a)))
    (hl : xs.length ≤ 16000000) (hr : SS X Γ (ρ.set i (.ow (tl g ((xs.filter ft).map k)))) rest E) (hy : X.N[i]? = some y := by rfl) (hyl : X.env.scope.names.lookup y = some .local := by rfl)
    (hsw : swapsWith (.ListComp elt [⟨tg, iter, ifs, 0⟩] scope pos) (some (.Name y py)) spos.line X.env = pure true := by exact sw_true rfl rfl rfl (by decide +kernel)) (hs : ∀ x, foldedSetIterable iter X.env x = pure x := by intro _; rfl) :
    SS X Γ ρ (.Assign [.Name y py] (.ListComp elt [⟨tg, iter, ifs, 0⟩] scope pos) spos :: rest) E :=
  ss_lc i xo own hi ok hgg hg hj ht he hl (by rw [tl_mapf]; exact hr) hy hyl hsw hs
theorem ss_lcM0 (i : Nat) {y : Str} {py spos : Pos} (xo : XO X) (own : List (Str × Nat)) (hi : DIc X Γ ρ tg iter xs s) (ok : BlkOk X.N X.env.scope scope own) (hgg : ∀ (s : Shared) (H : Hp) (C : Addr) (cl : List (Str × Addr)) (fp : List Addr), PG (X.blk s H scope (compEnvC scope cl C X.env) fp) tg gg)
    (hg : ∀ a ∈ xs, TgW gg Γ.K js (s a) (h a)) (hj : ∀ j ∈ js, j ∈ own.map (·.2))
    (he : ∀ (Γ' : Gm), Γ'.K = Γ.K → ∀ a ∈ xs, ∀ (s : Shared) (H : Hp) (C : Addr) (cl : List (Str × Addr)) (fp : List Addr), XO (X.blk s H scope (compEnvC scope cl C X.env) fp) → DO (X.blk s H scope (compEnvC scope cl C X.env) fp) Γ' (h a (wipeS (ρ.map deo) (own.map (·.2)))) elt (g (k a)))
    (hl : xs.length ≤ 16000000) (hr : SS X Γ (ρ.set i (.ow (tl g (xs.map k)))) rest E) (hy : X.N[i]? = some y := by rfl) (hyl : X.env.scope.names.lookup y = some .local := by rfl)
    (hsw : swapsWith (.ListComp elt [⟨tg, iter, [], 0⟩] scope pos) (some (.Name y py)) spos.line X.env = pure true := by exact sw_true rfl rfl rfl (by decide +kernel)) (hs : ∀ x, foldedSetIterable iter X.env x = pure x := by intro _; rfl) :
    SS X Γ ρ (.Assign [.Name y py] (.ListComp elt [⟨tg, iter, [], 0⟩] scope pos) spos :: rest) E :=
  ss_lcM (ft := fun _ => true) i xo own hi ok hgg hg hj (fun _ _ _ _ _ _ _ _ _ _ => dts_nil) (fun Γ' q a ha _ => he Γ' q a ha) hl (by rw [filter_all]; exact hr) hy hyl hsw hs
theorem de_roT (i : Nat) {α : Type} {g : α → OT} {f : α → D} [E : Er g f] {xs : α} {n : Str} (h : ρ[i]? = some (.ro (g xs).er)) (hN : X.N[i]? = some n := by rfl) (hv : Vis X.env.scope n := by first | exact Or.inl rfl | exact Or.inr (Or.inl rfl) | exact Or.inr (Or.inr rfl)) (hd : (n == ("__debug__" : Str)) = false := by decide) (hcd : (n == ("__classdict__" : Str)) = false := by decide) :
    DE X Γ ρ (.Name n pos) .r (f xs) := E.er xs ▸ de_ro i h hN hv hd hcd
end
end DL
namespace DL
open PySem L2
section
variable {X : Cx} {Γ : Gm} {ρ ρ' : List Sl} {e : Expr} {pos p : Pos} {t : OT} {σ : L2.St} {G H : Hp} {n : Str} {E : En} {rest : List Stmt}
/-- an owned name handed back -/
theorem ss_retOw (i : Nat) (h : ρ[i]? = some (.ow t)) (hE : E.rt t (ρ.set i .un)) (hN : X.N[i]? = some n := by rfl) (hv : Vis X.env.scope n := by first | exact Or.inl rfl | exact Or.inr (Or.inl rfl) | exact Or.inr (Or.inr rfl)) (hd : (n == ("__debug__" : Str)) = false := by decide) (hcd : (n == ("__classdict__" : Str)) = false := by decide) : SS X Γ ρ (.Return (some (.Name n p)) pos :: rest) E :=
  ss_cons (M := fun _ => False) ((ps_ret (pe_var hN hv hd hcd)).weak fun D σ H ⟨G, S, k⟩ => by
    obtain ⟨A, SA⟩ := S.ad
    obtain ⟨v, B, A', h1, h2, h3, h4, h5, h6, h7⟩ := SA.take h
    exact ⟨v, h1, k.rt t _ σ v G H B hE S.step S.sub h2 h3 h6 ⟨A', h4.sl, List.nodup_append.mpr ⟨h4.nd, h3, fun a ha b hb e => (h5 b hb).1 (e ▸ ha)⟩, h4.fr⟩⟩) fun ρ' e => e.elim
end
end DL
namespace DL
open PySem L2
/-! ### a law's end -/
def spLaw (K : Fg) : Sp := fun vs H Q _ => ∃ (a : Addr) (ns : List Int), vs = [.ref a] ∧ SqL K H a (ns.map V.int) ∧ ns.length ≤ 63 ∧ ∀ H', Q (.bl true) H'
theorem law_ok {P : Program} {w : World} {K : Fg} {mg : Str → Option Value} {base : Heap} {k : Nat} {f : Addr} {fd : FuncData} {ps : List Str} (F : ∀ ns : List Int, ns.length ≤ 63 → FnOk P w K mg base (L2.CX P w) k f fd ps (sp1 K [.sc ns] (.ret (.fz (.bool true))))) :
    FnOk P w K mg base (L2.CX P w) k f fd ps (spLaw K) := by
  have key : ∀ (vs : List V) (H : Hp) (Q : VK) (E : XK), spLaw K vs H Q E → ∃ ns : List Int, ns.length ≤ 63 ∧ sp1 K [.sc ns] (.ret (.fz (.bool true))) vs H Q E := fun vs H Q E h => by
    obtain ⟨a, ns, rfl, hS, hl, k⟩ := h
    refine ⟨ns, hl, fun _ => none, (fun _ _ z => by cases z), SlR.cons (A := []) (B := []) (SlS.sc hS) SlR.nil, fun v G2 H2 A st ex o nd f => ?_⟩
    cases o with
    | fz r =>
      cases r
      exact k H2
  refine ⟨fun vs H Q E h => ?_, fun A outer s H args us vs Q E hr he hb hv h => ?_⟩
  · obtain ⟨ns, hl, h'⟩ := key vs H Q E h
    exact (F ns hl).len vs H Q E h'
  · obtain ⟨ns, hl, h'⟩ := key vs H Q E h
    exact (F ns hl).run A outer s H args us vs Q E hr he hb hv h'
theorem law_walk {l : PySem.W.OpenLaw} {q : Program} {loose : List Str} {XP : (Str → Option Value) → Heap → Prop} {YP : World → Heap → Prop} {d : DefRec} {K : Params → Fg} {k : Nat} {x : Str} (hn : l.most = some 63) (hdf : d.params.defaults = []) (hr : Room k callerA)
    (hY : ∀ (w : World) (h : Heap), YP w h → (K w.params).In h)
    (F : ∀ (w : World) (mg : Str → Option Value) (fa : Addr) (h : Heap), (K w.params).In h → h.Ns mainGlobals mg → mg d.name = some (.ref fa) →
      ∃ fd : FuncData, (∀ (s : Shared) (u : Value), BindsTo s fd ⟨[u], []⟩ [(x, u)]) ∧ ∀ base : Heap, (K w.params).In base → base.Ns mainGlobals mg → FnOk l.prog w (K w.params) mg base (L2.CX l.prog w) k fa fd [x] (spLaw (K w.params))) :
    PySem.W.WalkO q loose XP YP l.row.toRowW d [] (fun f vs => PySem.call f vs) :=
  L2.walk_of (n := 63) (k := k) (x := x) (CX := fun w => L2.CX l.prog w) (sp := fun w => spLaw (K w.params)) hn (by decide) hdf hr hY F (fun _ _ a ns hl _ hS => ⟨a, ns, rfl, hS, hl, fun _ => rfl⟩)
    fun w H s e s' h => by
      obtain ⟨_, _, _, _, _, _, _, _, _, _, _, _, z⟩ := h
      exact z
end DL

namespace DL
open PySem L2
section
variable {X : Cx} {Γ : Gm} {ρ ρ' : List Sl} {e a tg : Expr} {pos p : Pos}
theorem di_rangeN {m : Nat} (ha : DV X Γ ρ a (.int (m : Int))) (hb : m < 16000000) (hm : X.mg "range" = none) (hg : Gl X "range" := by rfl) (hs1 : starEach [a] X.env = (false, eval a X.env) :: starEach [] X.env := by rfl) (hs : starEach [a] X.env = [(false, eval a X.env)] := by rfl) :
    DI X Γ ρ tg (.Call (.Name "range" p) [a] [] pos) m (fun i => .v (.int (i : Int))) := by
  have := di_range (tg := tg) (p := p) (pos := pos) (pr := ⟨0, 0, 0, 0⟩) ha (by omega) (by omega) hm hg hs1 hs
  rwa [Int.toNat_natCast] at this
theorem ic_rangeN {m : Nat} (ha : DV X Γ ρ a (.int (m : Int))) (hb : m < 16000000) (hm : X.mg "range" = none) (hg : Gl X "range" := by rfl) (hs1 : starEach [a] X.env = (false, eval a X.env) :: starEach [] X.env := by rfl) (hs : starEach [a] X.env = [(false, eval a X.env)] := by rfl) :
    DIc X Γ ρ tg (.Call (.Name "range" p) [a] [] pos) (List.range m) (fun i => .v (.int (i : Int))) := by
  have := ic_range (tg := tg) (p := p) (pos := pos) ha (by omega) hm hg hs1 hs
  rwa [Int.toNat_natCast] at this
theorem do_listRgN {m : Nat} (xo : XO X) {p2 pos2 : Pos} (ha : DV X Γ ρ a (.int (m : Int))) (hb : m ≤ 16000000) (hm : X.mg "list" = none) (hm2 : X.mg "range" = none) (hg : Gl X "list" := by rfl) (hg2 : Gl X "range" := by rfl) (he : starEach [a] X.env = (false, eval a X.env) :: starEach [] X.env := by rfl)
    (he2 : starEach [.Call (.Name "range" p2) [a] [] pos2] X.env = (false, eval (.Call (.Name "range" p2) [a] [] pos2) X.env) :: starEach [] X.env := by rfl) : DO X Γ ρ (.Call (.Name "list" p) [.Call (.Name "range" p2) [a] [] pos2] [] pos) (tl tI (rgI m)) := by
  have := do_listRg (p := p) (pos := pos) (p2 := p2) (pos2 := pos2) xo ha (by omega) hm hm2 hg hg2 he he2
  rwa [Int.toNat_natCast] at this
end
end DL

namespace DL
open PySem L2
/-! ### comparisons as tests -/
section
variable {X : Cx} {Γ : Gm} {ρ : List Sl} {e a b c : Expr} {pos : Pos} {κ κ' : Kd} {d : D} {x y : V} {i j k : Int} {α : Type} {f : α → D}
theorem binT_weak {r : R2} {PA PB : Hp → Hp → Hp → V → Prop} {q : Bool} (h : PT X e (tTest (tOp r (tX Γ ρ PA) (tX Γ ρ PB))))
    (w : ∀ (σ : L2.St) (G H G1 H1 G2 H2 : Hp) (v u : V) (Q : VK), Sr Γ G H σ ρ → Step G H G1 H1 → Ex G1 H1 → PA H G1 H1 v → Step G1 H1 G2 H2 → Ex G2 H2 → PB H1 G2 H2 u →
      (∀ w G3 H3, Step G2 H2 G3 H3 → Ex G3 H3 → w = .bl q → Q w H3) → r v u H2 Q) : DT X Γ ρ e q :=
  h.weak fun σ H Q ⟨G, S, k⟩ => ⟨G, S, fun v G1 H1 s1 e1 p1 => ⟨G1, S.more s1 e1, fun u G2 H2 s2 e2 p2 => w σ G H G1 H1 G2 H2 v u _ S s1 e1 p1 s2 e2 p2 fun x G3 H3 s3 e3 p3 => ⟨q, p3, k G3 H3 ((s1.trans s2).trans s3) e3⟩⟩⟩
theorem dt_cmpR {op : CmpOp} {r : R2} {q : Bool} (ho : OpR X (compareOp op) r) (ha : DV X Γ ρ a x) (hb : DV X Γ ρ b y) (hm : behindInMarks op b = false) (hr : ∀ (H : Hp) (Q : VK), Q (.bl q) H → r x y H Q) : DT X Γ ρ (.Compare a [op] [b] pos) q :=
  binT_weak (pt_cmpR ho ha hb hm) fun σ G H G1 H1 G2 H2 v u Q S s1 e1 p1 s2 e2 p2 k => by
    have p1' : v = x := p1
    have p2' : u = y := p2
    rw [p1', p2']
    exact hr _ _ (k _ G2 H2 (Step.refl _ _) e2 rfl)
theorem dt_lt (ha : DV X Γ ρ a (.int i)) (hb : DV X Γ ρ b (.int j)) : DT X Γ ρ (.Compare a [.Lt] [b] pos) (decide (i < j)) := dt_cmpR op_lt ha hb (nomark _) fun _ _ q => ⟨_, _, rfl, rfl, q⟩
theorem dt_le (ha : DV X Γ ρ a (.int i)) (hb : DV X Γ ρ b (.int j)) : DT X Γ ρ (.Compare a [.LtE] [b] pos) (decide (i ≤ j)) := dt_cmpR op_le ha hb (nomark _) fun _ _ q => ⟨_, _, rfl, rfl, q⟩
theorem dt_gt (ha : DV X Γ ρ a (.int i)) (hb : DV X Γ ρ b (.int j)) : DT X Γ ρ (.Compare a [.Gt] [b] pos) (decide (j < i)) := dt_cmpR op_gt ha hb (nomark _) fun _ _ q => ⟨_, _, rfl, rfl, q⟩
theorem dt_ge (ha : DV X Γ ρ a (.int i)) (hb : DV X Γ ρ b (.int j)) : DT X Γ ρ (.Compare a [.GtE] [b] pos) (decide (j ≤ i)) := dt_cmpR op_ge ha hb (nomark _) fun _ _ q => ⟨_, _, rfl, rfl, q⟩
theorem dt_eqS (ha : DV X Γ ρ a x) (hb : DV X Γ ρ b y) (hs : scal x y = true := by rfl) : DT X Γ ρ (.Compare a [.Eq] [b] pos) (decide (x = y)) := dt_cmpR op_eq ha hb (nomark _) fun _ _ q => ⟨hs, q⟩
theorem dt_neS (ha : DV X Γ ρ a x) (hb : DV X Γ ρ b y) (hs : scal x y = true := by rfl) : DT X Γ ρ (.Compare a [.NotEq] [b] pos) (!decide (x = y)) := dt_cmpR op_ne ha hb (nomark _) fun _ _ q => ⟨hs, q⟩
theorem dt_eq (ha : DV X Γ ρ a (.int i)) (hb : DV X Γ ρ b (.int j)) : DT X Γ ρ (.Compare a [.Eq] [b] pos) (decide (i = j)) := dec_i ▸ dt_eqS ha hb
theorem dt_ne (ha : DV X Γ ρ a (.int i)) (hb : DV X Γ ρ b (.int j)) : DT X Γ ρ (.Compare a [.NotEq] [b] pos) (!decide (i = j)) := dec_i ▸ dt_neS ha hb
theorem dt_eqStr {i j : Str} (ha : DV X Γ ρ a (.str i)) (hb : DV X Γ ρ b (.str j)) : DT X Γ ρ (.Compare a [.Eq] [b] pos) (decide (i = j)) := dec_s ▸ dt_eqS ha hb
theorem dt_neStr {i j : Str} (ha : DV X Γ ρ a (.str i)) (hb : DV X Γ ρ b (.str j)) : DT X Γ ρ (.Compare a [.NotEq] [b] pos) (!decide (i = j)) := dec_s ▸ dt_neS ha hb
theorem dt_eqBl {i j : Bool} (ha : DV X Γ ρ a (.bl i)) (hb : DV X Γ ρ b (.bl j)) : DT X Γ ρ (.Compare a [.Eq] [b] pos) (decide (i = j)) := dec_b ▸ dt_eqS ha hb
theorem dt_neBl {i j : Bool} (ha : DV X Γ ρ a (.bl i)) (hb : DV X Γ ρ b (.bl j)) : DT X Γ ρ (.Compare a [.NotEq] [b] pos) (!decide (i = j)) := dec_b ▸ dt_neS ha hb
theorem dt_isNv (ha : DV X Γ ρ a x) {j q} : DT X Γ ρ (.Compare a [.Is] [.Constant .none j q] pos) (decide (x = .non)) := dt_cmpR op_isN ha dv_non (nomark _) fun _ _ q => ⟨rfl, q⟩
theorem dt_notNv (ha : DV X Γ ρ a x) {j q} : DT X Γ ρ (.Compare a [.IsNot] [.Constant .none j q] pos) (!decide (x = .non)) := dt_cmpR op_notN ha dv_non (nomark _) fun _ _ q => ⟨rfl, q⟩
theorem dt_isN (ha : DE X Γ ρ a κ d) {j q} : DT X Γ ρ (.Compare a [.Is] [.Constant .none j q] pos) (isN d) :=
  binT_weak (pt_cmpR op_isN ha (dv_non (Γ := Γ) (ρ := ρ)) (nomark _)) fun σ G H G1 H1 G2 H2 v u Q S s1 e1 p1 s2 e2 p2 k => by
    have p2' : u = .non := p2
    refine ⟨p2', ?_⟩
    rw [rep_isN (pK_c S s1 e1 p1)]
    exact k _ G2 H2 (Step.refl _ _) e2 rfl
theorem dt_notN (ha : DE X Γ ρ a κ d) {j q} : DT X Γ ρ (.Compare a [.IsNot] [.Constant .none j q] pos) (!isN d) :=
  binT_weak (pt_cmpR op_notN ha (dv_non (Γ := Γ) (ρ := ρ)) (nomark _)) fun σ G H G1 H1 G2 H2 v u Q S s1 e1 p1 s2 e2 p2 k => by
    have p2' : u = .non := p2
    refine ⟨p2', ?_⟩
    rw [rep_isN (pK_c S s1 e1 p1)]
    exact k _ G2 H2 (Step.refl _ _) e2 rfl
theorem shp {n : Nat} [E : EqN f n] (hn : n ≤ 64) (z : α) : SeqAt.shaped (f z) = true := by
  have := E.dep z
  simp only [SeqAt.shaped, E.lay, Bool.true_and, decide_eq_true_eq]
  omega
theorem dt_eqD {xs ys : α} {n : Nat} [DecidableEq α] [E : EqN f n] (hu : X.A.units + 64 < cLine) (ha : DE X Γ ρ a κ (f xs)) (hb : DE X Γ ρ b κ' (f ys)) (hn : n ≤ 64 := by decide) : DT X Γ ρ (.Compare a [.Eq] [b] pos) (decide (xs = ys)) :=
  binT_weak (pt_cmpR (op_eqD hu) ha hb (nomark _)) fun σ G H G1 H1 G2 H2 v u Q S s1 e1 p1 s2 e2 p2 k => by
    have q1 := Rep.mono s2.h (pK_c S s1 e1 p1)
    have q2 := pK_c (S.more s1 e1) s2 e2 p2
    refine ⟨_, _, rep_dp q1 (E.lay _), rep_dp q2 (E.lay _), shp hn _, shp hn _, k _ G2 H2 (Step.refl _ _) e2 ?_⟩
    congr 1
    rw [Bool.eq_iff_iff]
    simp [E.eqv]
theorem dt_neD {xs ys : α} {n : Nat} [DecidableEq α] [E : EqN f n] (hu : X.A.units + 64 < cLine) (ha : DE X Γ ρ a κ (f xs)) (hb : DE X Γ ρ b κ' (f ys)) (hn : n ≤ 64 := by decide) : DT X Γ ρ (.Compare a [.NotEq] [b] pos) (!decide (xs = ys)) :=
  binT_weak (pt_cmpR (op_neD hu) ha hb (nomark _)) fun σ G H G1 H1 G2 H2 v u Q S s1 e1 p1 s2 e2 p2 k => by
    have q1 := Rep.mono s2.h (pK_c S s1 e1 p1)
    have q2 := pK_c (S.more s1 e1) s2 e2 p2
    refine ⟨_, _, rep_dp q1 (E.lay _), rep_dp q2 (E.lay _), shp hn _, shp hn _, k _ G2 H2 (Step.refl _ _) e2 ?_⟩
    congr 2
    rw [Bool.eq_iff_iff]
    simp [E.eqv]
theorem dt_inD {xs : α} {ys : List α} {n : Nat} [DecidableEq α] [E : EqN f n] (hu : X.A.units + 65 < cLine) (ha : DE X Γ ρ a κ (f xs)) (hb : DE X Γ ρ b κ' (dl f ys)) (hm : behindInMarks .In b = false := by rfl) (hn : n + 1 ≤ 64 := by decide) : DT X Γ ρ (.Compare a [.In] [b] pos) (decide (xs ∈ ys)) :=
  binT_weak (pt_cmpR (op_inD hu) ha hb hm) fun σ G H G1 H1 G2 H2 v u Q S s1 e1 p1 s2 e2 p2 k => by
    have q1 := Rep.mono s2.h (pK_c S s1 e1 p1)
    have q2 := pK_c (S.more s1 e1) s2 e2 p2
    have E2 : EqN (dl f) (n + 1) := inferInstance
    refine ⟨_, _, rep_dp q1 (E.lay _), rep_dp q2 (E2.lay _), shp (by omega) _, shp (f := dl f) hn _, k _ G2 H2 (Step.refl _ _) e2 ?_⟩
    rw [eqvAny]
theorem dt_notInD {xs : α} {ys : List α} {n : Nat} [DecidableEq α] [E : EqN f n] (hu : X.A.units + 65 < cLine) (ha : DE X Γ ρ a κ (f xs)) (hb : DE X Γ ρ b κ' (dl f ys)) (hm : behindInMarks .NotIn b = false := by rfl) (hn : n + 1 ≤ 64 := by decide) : DT X Γ ρ (.Compare a [.NotIn] [b] pos) (!decide (xs ∈ ys)) :=
  binT_weak (pt_cmpR (op_notInD hu) ha hb hm) fun σ G H G1 H1 G2 H2 v u Q S s1 e1 p1 s2 e2 p2 k => by
    have q1 := Rep.mono s2.h (pK_c S s1 e1 p1)
    have q2 := pK_c (S.more s1 e1) s2 e2 p2
    have E2 : EqN (dl f) (n + 1) := inferInstance
    refine ⟨_, _, rep_dp q1 (E.lay _), rep_dp q2 (E2.lay _), shp (by omega) _, shp (f := dl f) hn _, k _ G2 H2 (Step.refl _ _) e2 ?_⟩
    rw [eqvAny]
theorem dt_in {ys : List Int} (hu : X.A.units + 65 < cLine) (ha : DV X Γ ρ a (.int i)) (hb : DE X Γ ρ b κ (dl dI ys)) (hm : behindInMarks .In b = false := by rfl) : DT X Γ ρ (.Compare a [.In] [b] pos) (decide (i ∈ ys)) := dt_inD (f := dI) hu (DV.dat ha) hb hm
theorem dt_notIn {ys : List Int} (hu : X.A.units + 65 < cLine) (ha : DV X Γ ρ a (.int i)) (hb : DE X Γ ρ b κ (dl dI ys)) (hm : behindInMarks .NotIn b = false := by rfl) : DT X Γ ρ (.Compare a [.NotIn] [b] pos) (!decide (i ∈ ys)) := dt_notInD (f := dI) hu (DV.dat ha) hb hm
theorem dt_chain {op op' : CmpOp} {f g : Int → Int → Bool} (ho : OpR X (compareOp op) (rI0 fun i j => .bl (f i j))) (ho' : OpR X (compareOp op') (rI0 fun i j => .bl (g i j))) (ha : DV X Γ ρ a (.int i)) (hb : DV X Γ ρ b (.int j)) (hc : DV X Γ ρ c (.int k))
    (hm : lastMarks [op, op'] [b, c] = false := by with_unfolding_all rfl) : DT X Γ ρ (.Compare a [op, op'] [b, c] pos) (f i j && g j k) :=
  (pt_chain ho ho' ha hb hc hm).weak fun σ H Q ⟨G, S, kk⟩ => ⟨G, S, fun v G1 H1 s1 e1 p1 => ⟨G1, S.more s1 e1, fun u G2 H2 s2 e2 p2 => ⟨i, j, p1, p2, f i j, rfl, by
    cases hf : f i j with
    | true =>
      rw [if_pos rfl]
      exact ⟨G2, (S.more s1 e1).more s2 e2, fun w G3 H3 s3 e3 p3 => ⟨j, k, p2, p3, g j k, rfl, by have := kk G3 H3 ((s1.trans s2).trans s3) e3; rwa [hf] at this⟩⟩
    | false =>
      rw [if_neg Bool.false_ne_true]
      exact ⟨false, rfl, by have := kk G2 H2 (s1.trans s2) e2; rwa [hf] at this⟩⟩⟩⟩
theorem dt_leLe (ha : DV X Γ ρ a (.int i)) (hb : DV X Γ ρ b (.int j)) (hc : DV X Γ ρ c (.int k)) (hm : lastMarks [.LtE, .LtE] [b, c] = false := by with_unfolding_all rfl) : DT X Γ ρ (.Compare a [.LtE, .LtE] [b, c] pos) (decide (i ≤ j) && decide (j ≤ k)) := dt_chain op_le op_le ha hb hc hm
theorem dt_leLt (ha : DV X Γ ρ a (.int i)) (hb : DV X Γ ρ b (.int j)) (hc : DV X Γ ρ c (.int k)) (hm : lastMarks [.LtE, .Lt] [b, c] = false := by with_unfolding_all rfl) : DT X Γ ρ (.Compare a [.LtE, .Lt] [b, c] pos) (decide (i ≤ j) && decide (j < k)) := dt_chain op_le op_lt ha hb hc hm
end
end DL

set_option Elab.async false
set_option linter.all false
set_option maxRecDepth 100000
/-! the program's own looks, as plain functions -/
namespace Th
open PySem L2 DL
instance : Inhabited D := ⟨.none⟩
theorem take_succ_map {α β : Type} [Inhabited α] (f : α → β) (xs : List α) {i : Nat} (hi : i < xs.length) : (xs.take (i + 1)).map f = (xs.take i).map f ++ [f (xs.getD i default)] := by
  have e : xs.getD i default = xs[i] := by simp [List.getD_eq_getElem?_getD, hi]
  rw [List.take_add_one, List.getElem?_eq_getElem hi, List.map_append, e]
  rfl
def iOf : D → Int
  | .int i => i
  | _ => 0
def dsOf : D → List D
  | .list ds => ds
  | _ => []
theorem dV_iOf {d : D} (h : isInt d = true) (h2 : isBool d = false) : dV d = some (.int (iOf d)) := by
  cases d <;> simp [isInt, isBool, dV, iOf] at *
theorem d_iOf {d : D} (h : isInt d = true) (h2 : isBool d = false) : d = .int (iOf d) := by
  cases d <;> simp [isInt, isBool, iOf] at *
theorem d_dsOf {d : D} (h : isList d = true) : d = .list (dsOf d) := by
  cases d <;> simp [isList, dsOf] at *
theorem d_dl {d : D} (h : isList d = true) : d = dl (fun x => x) (dsOf d) := by
  unfold dl
  simpa using d_dsOf h
def isAmong (d : D) (lo hi : Int) : Bool := isInt d && (!isBool d && (decide (lo ≤ iOf d) && decide (iOf d ≤ hi)))
theorem isAmong_int {i lo hi : Int} : isAmong (.int i) lo hi = (decide (lo ≤ i) && decide (i ≤ hi)) := rfl
theorem isAmong_d {d : D} {lo hi : Int} (h : isAmong d lo hi = true) : d = .int (iOf d) ∧ lo ≤ iOf d ∧ iOf d ≤ hi := by
  simp [isAmong] at h
  exact ⟨d_iOf h.1 h.2.1, h.2.2.1, h.2.2.2⟩
def nums (d : D) : List Int := (dsOf d).map iOf
theorem nums_dL (ns : List Int) : nums (dL ns) = ns := by
  show (ns.map dI).map iOf = ns
  rw [List.map_map]
  exact (List.map_congr_left fun a _ => rfl).trans (List.map_id _)
theorem d_nums {d : D} {lo hi : Int} (h : isList d = true) (h2 : ((dsOf d).map fun x => isAmong x lo hi).all id = true) : d = dL (nums d) := by
  have e := d_dsOf h
  have e2 : dL (nums d) = .list (dsOf d) := by
    show PyData.list (((dsOf d).map iOf).map dI) = _
    rw [List.map_map]
    congr 1
    refine (List.map_congr_left fun a ha => ?_).trans (List.map_id _)
    have := List.all_eq_true.mp h2 (isAmong a lo hi) (List.mem_map.mpr ⟨a, ha, rfl⟩)
    exact (isAmong_d (by simpa using this)).1.symm
  rw [e2]
  exact e
def isRow (d : D) (many : Int) : Bool := isList d && (decide (((dsOf d).length : Int) = many) && ((dsOf d).map fun x => isAmong x 0 1000000).all id)
def hdD (d : D) : D := (dsOf d).getD 0 .none
def isTable (d : D) : Bool :=
  if (!isList d || (!(decide (1 ≤ ((dsOf d).length : Int)) && decide (((dsOf d).length : Int) ≤ 8)) || !isList (hdD d))) = true then false
  else decide (((dsOf (hdD d)).length : Int) ≤ 40) && ((dsOf d).map fun r => isRow r ((dsOf (hdD d)).length : Int)).all id
def areThings (d : D) (many : Int) : Bool :=
  if (!isList d || !((dsOf d).map fun x => isAmong x 0 (many - 1)).all id) = true then false
  else decide (((ddup (nums d)).length : Int) = ((nums d).length : Int))
def told (d : D) : List Int := ((dsOf d).map nums).flatten
def areShares (d : D) (heirs things : Int) : Bool :=
  if (!isList d || !decide (((dsOf d).length : Int) = heirs)) = true then false
  else if (!((dsOf d).map fun s => areThings s things && decide (nums s = sortI (nums s))).all id) = true then false
  else decide (((ddup (told d)).length : Int) = ((told d).length : Int))
theorem areThings_d {d : D} {many : Int} (h : areThings d many = true) : isList d = true ∧ d = dL (nums d) ∧ (∀ x ∈ nums d, 0 ≤ x ∧ x < many) ∧ (nums d).Nodup := by
  unfold areThings at h
  split at h
  · cases h
  rename_i q
  simp only [Bool.or_eq_true, Bool.not_eq_true', not_or, Bool.not_eq_false] at q
  refine ⟨q.1, d_nums q.1 q.2, fun x hx => ?_, ?_⟩
  · unfold nums at hx
    obtain ⟨a, ha, rfl⟩ := List.mem_map.mp hx
    have := List.all_eq_true.mp q.2 (isAmong a 0 (many - 1)) (List.mem_map.mpr ⟨a, ha, rfl⟩)
    have := isAmong_d (by simpa using this)
    omega
  · have := of_decide_eq_true h
    exact (ddup_len _).mp (by omega)
/-- a good table of typed worths -/
structure GoodT (t : List (List Int)) (m : Nat) : Prop where
  n1 : 1 ≤ t.length
  n8 : t.length ≤ 8
  m40 : m ≤ 40
  len : ∀ r ∈ t, r.length = m
  wor : ∀ r ∈ t, ∀ x ∈ r, 0 ≤ x ∧ x ≤ 1000000
/-- good shares of it -/
structure GoodS (s : List (List Int)) (n m : Nat) : Prop where
  n : s.length = n
  bd : ∀ r ∈ s, ∀ x ∈ r, 0 ≤ x ∧ x < (m : Int)
  up : ∀ r ∈ s, r.Pairwise (· < ·)
  nd : s.flatten.Nodup
theorem dsOf_dLL {α : Type} (f : α → D) (t : List α) : dsOf (dl f t) = t.map f := rfl
theorem all_true {α : Type} {xs : List α} {p : α → Bool} (h : ∀ x ∈ xs, p x = true) : (xs.map p).all id = true := by
  rw [List.all_eq_true]
  intro b hb
  obtain ⟨x, hx, rfl⟩ := List.mem_map.mp hb
  exact h x hx
theorem isRow_y {r : List Int} {m : Nat} (hl : r.length = m) (hw : ∀ x ∈ r, 0 ≤ x ∧ x ≤ 1000000) : isRow (dL r) m = true := by
  unfold isRow
  rw [dsOf_dLL, List.length_map, hl, List.map_map]
  simp only [dl, isList, decide_true, Bool.true_and]
  exact all_true fun x hx => by
    show isAmong (.int x) 0 1000000 = true
    rw [isAmong_int]
    simp [hw x hx]
theorem GoodT.hd {t : List (List Int)} {m : Nat} (h : GoodT t m) : ∃ r, hdD (dLL t) = dL r ∧ r ∈ t := by
  have := h.n1
  refine ⟨t[0], ?_, List.getElem_mem _⟩
  show (t.map dL).getD 0 .none = _
  simp [List.getD_eq_getElem?_getD, List.getElem?_map, List.getElem?_eq_getElem this]
theorem GoodT.isTable {t : List (List Int)} {m : Nat} (h : GoodT t m) : isTable (dLL t) = true := by
  obtain ⟨r, e, hr⟩ := h.hd
  unfold Th.isTable
  rw [e, dsOf_dLL, dsOf_dLL, List.length_map, List.length_map, h.len r hr, List.map_map]
  have h1 := h.n1
  have h8 := h.n8
  have h40 := h.m40
  have a : (t.map ((fun r => isRow r (m : Int)) ∘ dL)).all id = true := all_true fun x hx => isRow_y (h.len x hx) (h.wor x hx)
  rw [a]
  have e1 : isList (dLL t) = true := rfl
  have e2 : isList (dL r) = true := rfl
  rw [e1, e2]
  simp
  omega
theorem GoodT.dsz {t : List (List Int)} {m : Nat} (h : GoodT t m) : ∀ x ∈ dsOf (dLL t), (dsOf x).length ≤ 16000000 := fun x hx => by
  rw [dsOf_dLL] at hx
  obtain ⟨r, hr, rfl⟩ := List.mem_map.mp hx
  rw [dsOf_dLL, List.length_map, h.len r hr]
  have := h.m40
  omega
theorem GoodT.m0 {t : List (List Int)} {m : Nat} (h : GoodT t m) : (pyAt t 0).length = m := by
  have := h.n1
  unfold pyAt
  rw [if_pos (by omega)]
  exact h.len _ (by simp [List.getD_eq_getElem?_getD, show 0 < t.length by omega])
theorem pyAt_mem {α : Type} [Inhabited α] {xs : List α} {i : Int} (h : inR xs.length i) : pyAt xs i ∈ xs := by
  rw [pyAt_ix]
  have := (ixN_pyIx h).2
  simp [List.getD_eq_getElem?_getD, this]
theorem pyAt_nat {α : Type} [Inhabited α] (xs : List α) (i : Nat) : pyAt xs (i : Int) = xs.getD i default := by
  unfold pyAt
  rw [if_pos (by omega), Int.toNat_natCast]
theorem GoodT.at {t : List (List Int)} {m : Nat} (h : GoodT t m) {i : Int} (hi : inR t.length i) : (pyAt t i).length = m := h.len _ (pyAt_mem hi)
theorem areThings_y {ts : List Int} {m : Nat} (hb : ∀ x ∈ ts, 0 ≤ x ∧ x < (m : Int)) (nd : ts.Nodup) : areThings (dL ts) m = true := by
  unfold areThings
  rw [dsOf_dLL, List.map_map, nums_dL]
  have a : (ts.map ((fun x => isAmong x 0 ((m : Int) - 1)) ∘ dI)).all id = true := all_true fun x hx => by
    show isAmong (.int x) 0 _ = true
    rw [isAmong_int]
    have := hb x hx
    simp
    omega
  rw [a]
  have e1 : isList (dL ts) = true := rfl
  rw [e1, (ddup_len ts).mpr nd]
  simp
theorem told_dLL (s : List (List Int)) : told (dLL s) = s.flatten := by
  unfold told
  rw [dsOf_dLL, List.map_map]
  congr 1
  exact (List.map_congr_left fun a _ => nums_dL a).trans (List.map_id _)
theorem up_sorted {r : List Int} (h : r.Pairwise (· < ·)) : r = sortI r := sortI_uniq (List.Perm.refl _) (h.imp fun h => by omega)
theorem nodup_bd {xs : List Int} {m : Nat} (nd : xs.Nodup) (h : ∀ x ∈ xs, 0 ≤ x ∧ x < (m : Int)) : xs.length ≤ m := by
  have := nodup_sub_len (ys := (List.range m).map fun (i : Nat) => (i : Int)) nd fun x hx => by
    have := h x hx
    exact List.mem_map.mpr ⟨x.toNat, List.mem_range.mpr (by omega), by omega⟩
  simpa using this
theorem GoodS.fl {s : List (List Int)} {n m : Nat} (h : GoodS s n m) : s.flatten.length ≤ m := nodup_bd h.nd fun x hx => by
  obtain ⟨r, hr, hx⟩ := List.mem_flatten.mp hx
  exact h.bd r hr x hx
theorem nodup_of_up {r : List Int} (h : r.Pairwise (· < ·)) : r.Nodup := by
  rw [List.nodup_iff_pairwise_ne]
  exact h.imp fun h => by omega
theorem GoodS.row {s : List (List Int)} {n m : Nat} (h : GoodS s n m) {r : List Int} (hr : r ∈ s) : r.length ≤ m := nodup_bd (nodup_of_up (h.up r hr)) (h.bd r hr)
theorem GoodS.areShares {s : List (List Int)} {n m : Nat} (h : GoodS s n m) : areShares (dLL s) n m = true := by
  unfold Th.areShares
  rw [told_dLL, dsOf_dLL, List.length_map, h.n, List.map_map]
  have a : (s.map ((fun s => areThings s (m : Int) && decide (nums s = sortI (nums s))) ∘ dL)).all id = true := all_true fun x hx => by
    show (areThings (dL x) (m : Int) && decide (nums (dL x) = sortI (nums (dL x)))) = true
    rw [nums_dL, areThings_y (h.bd x hx) (nodup_of_up (h.up x hx))]
    simp [← up_sorted (h.up x hx)]
  rw [a]
  have e1 : isList (dLL s) = true := rfl
  rw [e1, (ddup_len _).mpr h.nd]
  simp
theorem GoodS.z1 {s : List (List Int)} {n m : Nat} (h : GoodS s n m) {t : List (List Int)} (ht : GoodT t m) (e : n = t.length := by rfl) : (dsOf (dLL s)).length ≤ 4000 := by
  rw [dsOf_dLL, List.length_map, h.n, e]
  have := ht.n8
  omega
theorem GoodS.z2 {s : List (List Int)} {n m : Nat} (h : GoodS s n m) {t : List (List Int)} (ht : GoodT t m) : ∀ x ∈ dsOf (dLL s), (dsOf x).length ≤ 4000 := fun x hx => by
  rw [dsOf_dLL] at hx
  obtain ⟨r, hr, rfl⟩ := List.mem_map.mp hx
  rw [dsOf_dLL, List.length_map]
  have := h.row hr
  have := ht.m40
  omega
theorem GoodS.z3 {s : List (List Int)} {n m : Nat} (h : GoodS s n m) {t : List (List Int)} (ht : GoodT t m) : (told (dLL s)).length ≤ 4000 := by
  rw [told_dLL]
  have := h.fl
  have := ht.m40
  omega
end Th

set_option Elab.async false
set_option linter.all false
set_option maxRecDepth 100000
/-! the laws' own helpers, as plain functions -/
namespace Th
open PySem L2 DL
def lAt (s : List Int) (k : Int) : Int := if k < s.length then pyAt s k else 0
def lMixed (c k : Int) : Int := (c + 7919 * k + 17) * 48271 % 2147483647
def lHeirs (c : Int) : Int := if c / 5 % 8 = 1 then 1 + c / 40 % 8 else 1 + c % 5
def lThings (c : Int) : Int := if c / 9 % 8 = 1 then 9 + c / 72 % 6 else c % 9
def lWorth (n m : Int) : Int := if m = 0 then n % 1000001 else if m = 1 then 1000000 - n % 3 else n % pyAt [7, 2, 40] (m - 2)
theorem lHeirs_bd (c : Int) : 1 ≤ lHeirs c ∧ lHeirs c ≤ 8 := by unfold lHeirs; split <;> omega
theorem lThings_bd (c : Int) : 0 ≤ lThings c ∧ lThings c ≤ 14 := by unfold lThings; split <;> omega
def lCell (s : List Int) (m : Int) (k : Int) : Int := lWorth (lMixed (lAt s (4 + k % 36)) k / 3) m
/-- a row of the law's table -/
def lRow (s : List Int) (many : Nat) (m : Int) (h : Nat) (j : Nat) : List Int := (List.range j).map fun (t : Nat) => lCell s m ((h : Int) * many + t)
def lTable (s : List Int) (n many : Nat) : List (List Int) := (List.range n).map fun h => lRow s many (lAt s 2 % 5) h many
theorem lWorth_bd {n m : Int} (hn : 0 ≤ n) (h : 0 ≤ m ∧ m < 5) : 0 ≤ lWorth n m ∧ lWorth n m ≤ 1000000 := by
  unfold lWorth
  split
  · omega
  split
  · omega
  have : m = 2 ∨ m = 3 ∨ m = 4 := by omega
  rcases this with e | e | e <;> subst e <;> simp [pyAt] <;> omega
theorem lMixed_bd (c k : Int) : 0 ≤ lMixed c k ∧ lMixed c k < 2147483647 := by unfold lMixed; omega
theorem lCell_bd (s : List Int) {m : Int} (h : 0 ≤ m ∧ m < 5) (k : Int) : 0 ≤ lCell s m k ∧ lCell s m k ≤ 1000000 := by
  unfold lCell
  have := (lMixed_bd (lAt s (4 + k % 36)) k).1
  exact lWorth_bd (by omega) h
theorem lTable_good (s : List Int) {n many : Nat} (h1 : 1 ≤ n) (h8 : n ≤ 8) (hm : many ≤ 40) : GoodT (lTable s n many) many where
  n1 := by simp [lTable]; omega
  n8 := by simp [lTable]; omega
  m40 := hm
  len := fun r hr => by
    simp only [lTable, List.mem_map] at hr
    obtain ⟨h, _, rfl⟩ := hr
    simp [lRow]
  wor := fun r hr x hx => by
    simp only [lTable, List.mem_map] at hr
    obtain ⟨h, _, rfl⟩ := hr
    simp only [lRow, List.mem_map] at hx
    obtain ⟨t, _, rfl⟩ := hx
    exact lCell_bd s (by omega) _
end Th
namespace Th
open PySem L2 DL
/-- to whom the law's shares give a thing -/
def lShTo (s : List Int) (n : Nat) (t : Nat) : Int := lMixed (lAt s (40 + (t : Int) % 8)) t / 5 % ((n : Int) + 1 - (if decide (lAt s 3 % 3 = 1) = true then 1 else 0))
def lShares (s : List Int) (n k : Nat) : List (List Int) := (List.range n).map fun (h : Nat) => ((List.range k).filter fun t => decide (lShTo s n t = (h : Int))).map fun (t : Nat) => (t : Int)
theorem lShTo_nn (s : List Int) {n : Nat} (t : Nat) (hn : 1 ≤ n) : 0 ≤ lShTo s n t := by
  unfold lShTo
  apply Int.emod_nonneg
  split <;> omega
theorem getD_map_range {α : Type} (f : Nat → α) {n j : Nat} (h : j < n) (d : α) : ((List.range n).map f).getD j d = f j := by
  simp [List.getD_eq_getElem?_getD, h]
theorem set_map_range {α : Type} (f g : Nat → α) {n j : Nat} (h : ∀ i, i < n → i ≠ j → f i = g i) : ((List.range n).map f).set j (g j) = (List.range n).map g := by
  refine List.ext_getElem (by simp) fun i h1 h2 => ?_
  simp at h1 h2
  by_cases e : j = i
  · subst e; simp
  · rw [List.getElem_set_ne e]
    simpa using h i h2 (Ne.symm e)
theorem pyIx_nat {n j : Nat} : pyIx n (j : Int) = j := by unfold pyIx; rw [if_pos (by omega)]; omega
theorem lShares_yes (s : List Int) {n k : Nat} (h0 : 0 ≤ lShTo s n k) (h1 : lShTo s n k < n) : (lShares s n k).set (pyIx (lShares s n k).length (lShTo s n k)) ((lShares s n k).getD (pyIx (lShares s n k).length (lShTo s n k)) [] ++ [(k : Int)]) = lShares s n (k + 1) := by
  obtain ⟨j, hj⟩ : ∃ j : Nat, lShTo s n k = j := ⟨(lShTo s n k).toNat, by omega⟩
  have hjn : j < n := by omega
  rw [hj, pyIx_nat]
  unfold lShares
  rw [getD_map_range _ hjn]
  have e : ((List.range k).filter fun t => decide (lShTo s n t = (j : Int))).map (fun (t : Nat) => (t : Int)) ++ [(k : Int)] = (fun (h : Nat) => ((List.range (k + 1)).filter fun t => decide (lShTo s n t = (h : Int))).map fun (t : Nat) => (t : Int)) j := by
    simp [List.range_succ, List.filter_append, hj]
  rw [e]
  refine set_map_range (g := fun (h : Nat) => ((List.range (k + 1)).filter fun t => decide (lShTo s n t = (h : Int))).map fun (t : Nat) => (t : Int)) _ fun i hi hne => ?_
  have : ¬ (lShTo s n k = (i : Int)) := by omega
  simp [List.range_succ, List.filter_append, this]
theorem lShares_no (s : List Int) {n k : Nat} (h1 : ¬ lShTo s n k < n) : lShares s n k = lShares s n (k + 1) := by
  unfold lShares
  refine List.map_congr_left fun i hi => ?_
  have : i < n := List.mem_range.mp hi
  have : ¬ (lShTo s n k = (i : Int)) := by omega
  simp [List.range_succ, List.filter_append, this]
def summed (row things : List Int) : Int := (things.map fun t => pyAt row t).sum
/-- the law's choice of things -/
def lSomeS (c : Int) (m : Nat) : Nat → List Int × List Int
  | 0 => (rgI m, [])
  | k + 1 => let p := lSomeS c m k
    let i := lMixed c k / 7 % (p.1.length : Int)
    (p.1.eraseIdx i.toNat, p.2 ++ [p.1.getD i.toNat 0])
def lSome (c : Int) (m : Nat) : List Int := (lSomeS c m (c % ((m : Int) + 1)).toNat).2
theorem lSomeS_len (c : Int) (m : Nat) : ∀ k, k ≤ m → (lSomeS c m k).1.length = m - k ∧ (lSomeS c m k).2.length = k
  | 0, _ => by simp [lSomeS, rgI]
  | k + 1, h => by
    obtain ⟨h1, h2⟩ := lSomeS_len c m k (by omega)
    have hp : 0 < (lSomeS c m k).1.length := by omega
    have hi : (lMixed c k / 7 % ((lSomeS c m k).1.length : Int)).toNat < (lSomeS c m k).1.length := by
      have := Int.emod_lt_of_pos (lMixed c k / 7) (show (0 : Int) < ((lSomeS c m k).1.length : Int) by omega)
      have := Int.emod_nonneg (lMixed c k / 7) (show ((lSomeS c m k).1.length : Int) ≠ 0 by omega)
      omega
    simp only [lSomeS, List.length_eraseIdx, List.length_append, List.length_singleton]
    rw [if_pos hi]
    omega
theorem rgI_len (m : Nat) : (rgI m).length = m := by simp [rgI]
theorem rgI_mem {m : Nat} {x : Int} : x ∈ rgI m ↔ 0 ≤ x ∧ x < m := by
  simp only [rgI, List.mem_map, List.mem_range]
  constructor
  · rintro ⟨a, h, rfl⟩; omega
  · rintro ⟨h1, h2⟩; exact ⟨x.toNat, by omega, by omega⟩
theorem rgI_nodup (m : Nat) : (rgI m).Nodup := by
  unfold rgI
  rw [List.nodup_iff_pairwise_ne, List.pairwise_map]
  exact List.nodup_range.imp fun h => by omega
theorem erase_perm {α : Type} {xs : List α} {i : Nat} {d : α} (h : i < xs.length) : (xs.eraseIdx i ++ [xs.getD i d]).Perm xs := by
  have e : xs.getD i d = xs[i] := by simp [List.getD_eq_getElem?_getD, h]
  rw [e]
  have : (xs[i] :: xs.eraseIdx i).Perm xs := by
    rw [List.eraseIdx_eq_take_drop_succ]
    have h2 : xs = xs.take i ++ xs[i] :: xs.drop (i + 1) := by simp
    conv => rhs; rw [h2]
    exact List.perm_middle.symm
  exact (List.perm_append_singleton _ _).trans this
theorem lSomeS_perm (c : Int) (m : Nat) : ∀ k, k ≤ m → ((lSomeS c m k).1 ++ (lSomeS c m k).2).Perm (rgI m)
  | 0, _ => by simp [lSomeS]
  | k + 1, h => by
    have ih := lSomeS_perm c m k (by omega)
    obtain ⟨h1, h2⟩ := lSomeS_len c m k (by omega)
    have hp : 0 < (lSomeS c m k).1.length := by omega
    have hi : (lMixed c k / 7 % ((lSomeS c m k).1.length : Int)).toNat < (lSomeS c m k).1.length := by
      have := Int.emod_lt_of_pos (lMixed c k / 7) (show (0 : Int) < ((lSomeS c m k).1.length : Int) by omega)
      have := Int.emod_nonneg (lMixed c k / 7) (show ((lSomeS c m k).1.length : Int) ≠ 0 by omega)
      omega
    refine List.Perm.trans ?_ ih
    simp only [lSomeS]
    refine (List.Perm.append_left _ List.perm_append_comm).trans ?_
    rw [← List.append_assoc]
    exact (erase_perm hi).append_right _
theorem lSome_sub (c : Int) (m : Nat) : (lSome c m).Nodup ∧ ∀ x ∈ lSome c m, 0 ≤ x ∧ x < m := by
  have hk : (c % ((m : Int) + 1)).toNat ≤ m := by
    have := Int.emod_lt_of_pos c (show (0 : Int) < (m : Int) + 1 by omega)
    omega
  have p := lSomeS_perm c m _ hk
  have nd := p.nodup_iff.mpr (rgI_nodup m)
  exact ⟨(List.nodup_append.mp nd).2.1, fun x hx => rgI_mem.mp (p.subset (List.mem_append_right _ hx))⟩
theorem lSome_len (c : Int) (m : Nat) : (lSome c m).length ≤ m := by
  have hk : (c % ((m : Int) + 1)).toNat ≤ m := by
    have := Int.emod_lt_of_pos c (show (0 : Int) < (m : Int) + 1 by omega)
    omega
  have := (lSomeS_len c m _ hk).2
  unfold lSome
  omega
end Th

namespace Th
open PySem L2 DL
theorem lw_inR {m : Int} (hm : 0 ≤ m ∧ m < 5) (h1 : decide (m = 0) = false) (h2 : decide (m = 1) = false) : inR [7, 2, 40].length (m - 2) := by
  have := of_decide_eq_false h1
  have := of_decide_eq_false h2
  exact ⟨by simp; omega, by simp; omega⟩
theorem lw_mod {m : Int} (hm : 0 ≤ m ∧ m < 5) (h1 : decide (m = 0) = false) (h2 : decide (m = 1) = false) : 0 < (pyAt [7, 2, 40] (m - 2) : Int) := by
  have := of_decide_eq_false h1
  have := of_decide_eq_false h2
  have : m = 2 ∨ m = 3 ∨ m = 4 := by omega
  rcases this with e | e | e <;> subst e <;> simp [pyAt]
theorem lSh_inR {s : List Int} {n i : Nat} {x : Int} (h0 : 0 ≤ x) (h1 : x < n) : inR (lShares s n i).length x := by
  have : (lShares s n i).length = n := by simp [lShares]
  rw [this]
  exact ⟨by omega, h1⟩
theorem lSh_row (s : List Int) (n i : Nat) : ∀ r ∈ lShares s n i, r.length ≤ i := fun r hr => by
  simp only [lShares, List.mem_map] at hr
  obtain ⟨h, _, rfl⟩ := hr
  rw [List.length_map]
  exact Nat.le_trans (List.length_filter_le _ _) (by simp)
theorem lSh_sz {s : List Int} {n i j : Nat} (hi : i < 1000) : ((lShares s n i).getD j []).length < 16000000 := by
  by_cases h : j < (lShares s n i).length
  · have := lSh_row s n i ((lShares s n i).getD j []) (by simp [List.getD_eq_getElem?_getD, h])
    omega
  · rw [List.getD_eq_getElem?_getD, List.getElem?_eq_none (by omega)]
    simp
theorem getD_mem {xs : List Int} {i : Nat} (h : i < xs.length) : xs.getD i default ∈ xs := by simp [List.getD_eq_getElem?_getD, h]
theorem summed_take {row things : List Int} {i : Nat} (hi : i < things.length) : summed row (things.take (i + 1)) = summed row (things.take i) + pyAt row (things.getD i default) := by
  unfold summed
  have e : things.getD i default = things[i] := by simp [List.getD_eq_getElem?_getD, hi]
  rw [List.take_add_one, List.getElem?_eq_getElem hi, e, List.map_append, List.sum_append]
  simp only [Option.toList, List.map_cons, List.map_nil, List.sum_cons, List.sum_nil, Int.add_zero]
theorem lSome_k (c : Int) (m : Nat) : (c % ((m : Int) + 1)).toNat ≤ m := by
  have := Int.emod_lt_of_pos c (show (0 : Int) < (m : Int) + 1 by omega)
  omega
def nH (s : List Int) : Nat := (lHeirs (lAt s 0)).toNat
def nM (s : List Int) : Nat := (lThings (lAt s 1)).toNat
theorem nH_eq (s : List Int) : V.int (lHeirs (lAt s 0)) = V.int (nH s) := by
  have := lHeirs_bd (lAt s 0)
  unfold nH
  congr 1
  omega
theorem nM_eq (s : List Int) : V.int (lThings (lAt s 1)) = V.int (nM s) := by
  have := lThings_bd (lAt s 1)
  unfold nM
  congr 1
  omega
theorem nH_bd (s : List Int) : 1 ≤ nH s ∧ nH s ≤ 8 := by
  have := lHeirs_bd (lAt s 0)
  unfold nH
  omega
theorem nM_bd (s : List Int) : nM s ≤ 14 := by
  have := lThings_bd (lAt s 1)
  unfold nM
  omega
theorem lShares_good (s : List Int) {n many : Nat} (hn : 1 ≤ n) : GoodS (lShares s n many) n many where
  n := by simp [lShares]
  bd := fun r hr x hx => by
    simp only [lShares, List.mem_map] at hr
    obtain ⟨h, _, rfl⟩ := hr
    obtain ⟨t, ht, rfl⟩ := List.mem_map.mp hx
    have := List.mem_range.mp (List.mem_filter.mp ht).1
    omega
  up := fun r hr => by
    simp only [lShares, List.mem_map] at hr
    obtain ⟨h, _, rfl⟩ := hr
    rw [List.pairwise_map]
    have : (List.range many).Pairwise (· < ·) := List.pairwise_lt_range
    exact (this.filter _).imp fun h => by omega
  nd := by
    unfold lShares
    rw [List.nodup_iff_pairwise_ne, List.pairwise_flatten]
    refine ⟨fun r hr => ?_, ?_⟩
    · obtain ⟨h, _, rfl⟩ := List.mem_map.mp hr
      rw [List.pairwise_map]
      have : (List.range many).Pairwise (· < ·) := List.pairwise_lt_range
      exact (this.filter _).imp fun h => by omega
    · rw [List.pairwise_map]
      have : (List.range n).Pairwise (· < ·) := List.pairwise_lt_range
      refine this.imp fun {a b} hab => ?_
      intro x hx y hy e
      obtain ⟨t, ht, rfl⟩ := List.mem_map.mp hx
      obtain ⟨u, hu, e2⟩ := List.mem_map.mp hy
      have h1 := of_decide_eq_true (List.mem_filter.mp ht).2
      have h2 := of_decide_eq_true (List.mem_filter.mp hu).2
      have : t = u := by omega
      subst this
      omega
theorem k01_sum {t : List (List Int)} {m : Nat} (g : GoodT t m) {ts : List Int} (hb : ∀ x ∈ ts, 0 ≤ x ∧ x < (m : Int)) {h : Int} (hh : inR t.length h) : ∀ x ∈ ts, inR (pyAt t h).length x := fun x hx => by
  rw [g.at hh]
  have := hb x hx
  exact ⟨by omega, this.2⟩
end Th

set_option Elab.async false
set_option linter.all false
set_option maxRecDepth 100000
set_option maxHeartbeats 2000000
/-! DL, last: a whole number or None; tuples walked; places two deep; a walk that appends to what it walks. -/
namespace DL
open PySem L2
def dO : Option Int → D
  | none => .none
  | some i => .int i
instance : EqN dO 0 := ⟨fun x y => by cases x <;> cases y <;> simp [dO, PyData.eqv], fun x => by cases x <;> simp [dO, PyData.canLay0], fun x => by cases x <;> simp [dO, PyData.depth]⟩
theorem Rep.t {H : Hp} {v : V} {ds : List D} (h : Rep H v (.tuple ds)) : ∃ a vs, v = .ref a ∧ H a = some (.tup vs) ∧ Reps H vs ds := by
  cases h with
  | tup h r => exact ⟨_, _, rfl, h, r⟩
section
variable {X : Cx} {Γ : Gm} {ρ ρ' : List Sl} {e a b c o tg : Expr} {es : List Expr} {pos p p' apos cpos : Pos} {κ κ' : Kd} {d d' : D} {x y z : V} {t t' : OT} {σ : L2.St} {G H G1 H1 G2 H2 : Hp} {E : En} {st : Stmt} {rest body : List Stmt} {n : Str} {i : Nat} {ts : List OT} {pa : List Nat} {α β : Type} {f : α → D} {g : α → OT}
theorem ic_t {xs : List α} (s : α → Sl) (h : DE X Γ ρ e κ (.tuple (xs.map f))) (hs : ∀ a, SubRo (f a) (s a)) : DIc X Γ ρ tg e xs s :=
  (pi_tup h).weak fun σ H R ⟨G, S, k⟩ => ⟨G, S, fun v G1 H1 s1 e1 q => by
    obtain ⟨a, vs, rfl, hl, r⟩ := Rep.t (pK_c S s1 e1 q)
    have ln := r.len
    rw [List.length_map] at ln
    refine ⟨a, rfl, ⟨vs, SqT.of hl⟩, k _ G1 H1 s1 e1 ⟨fun i G' H' g1 g2 g3 hi => ?_, fun i a' G' H' x H'' hx g1 g2 g3 hy => ?_, fun i G' H' g1 g2 g3 hi => ⟨vs, SqT.of (g3 _ _ hl), by omega⟩⟩⟩
    · exact ⟨vs, vs[i], SqT.of (g3 _ _ hl), List.getElem?_eq_getElem (by omega)⟩
    · obtain ⟨rfl, hv⟩ := hy
      obtain ⟨d, h1, h2⟩ := r.getV (hv vs (SqT.of (g3 _ _ hl)))
      rw [map_at' hx h1] at h2
      exact ⟨G', Step.refl _ _, g2, (hs a').sl h2⟩⟩
theorem at_two {x3 : List (List (List α))} {j k : Nat} (h1 : j < x3.length) (h2 : k < (x3.getD j []).length) : OT.at [j, k] (tl (tl (tl g)) x3) = some (.cell (((x3.getD j []).getD k []).map g)) := by
  have e : x3.getD j [] = x3[j] := by simp [List.getD_eq_getElem?_getD, h1]
  rw [e] at h2 ⊢
  unfold tl OT.at
  rw [List.getElem?_map, List.getElem?_eq_getElem h1]
  exact at_one (g := g) h2
theorem put_two {x3 : List (List (List α))} {j k : Nat} {ys : List α} (h1 : j < x3.length) (h2 : k < (x3.getD j []).length) : OT.put [j, k] (tl (tl (tl g)) x3) (.cell (ys.map g)) = tl (tl (tl g)) (x3.set j ((x3.getD j []).set k ys)) := by
  have e : x3.getD j [] = x3[j] := by simp [List.getD_eq_getElem?_getD, h1]
  rw [e] at h2 ⊢
  have := put_one (g := g) (ys := ys) h2
  unfold tl OT.put at *
  rw [List.getElem?_map, List.getElem?_eq_getElem h1]
  simp only [Option.map_some]
  rw [List.map_set]
  congr 2
theorem dpl_ix2 (i : Nat) {x3 : List (List (List α))} {j : Nat} {k : Int} (ho : DPl X Γ ρ o i [j]) (hb : DV X Γ ρ b (.int k)) (h : ρ[i]? = some (.ow (tl (tl (tl g)) x3))) (hj : j < x3.length) (hk : inR (x3.getD j []).length k) (hs : PlainIx b := by intro _ _; rfl) : DPl X Γ ρ (.Subscript o b pos) i [j, pyIx (x3.getD j []).length k] := by
  obtain ⟨q1, q2⟩ := ixN_pyIx hk
  exact dpl_ix (ts := (x3.getD j []).map (tl g)) ho hb h (at_one hj) (by rw [List.length_map]; exact q1) (by rw [List.length_map]; exact q2) hs
theorem ss_st2 (i : Nat) {x3 : List (List (List α))} {x : α} {q : Int} {j k : Nat} (ho : DPl X Γ ρ o i [j, k]) (hb : DV X Γ ρ b (.int q)) (he : DO X Γ ρ e (g x)) (h : ρ[i]? = some (.ow (tl (tl (tl g)) x3))) (hj : j < x3.length) (hk : k < (x3.getD j []).length) (hq : inR ((x3.getD j []).getD k []).length q) (hr : SS X Γ (ρ.set i (.ow (tl (tl (tl g)) (x3.set j ((x3.getD j []).set k (pySet ((x3.getD j []).getD k []) q x)))))) rest E)
    (ha : ∀ v, assign (.Subscript o b p) X.env v = (do
      let ov ← holding [v] (eval o X.env)
      let iv ← holding [v, ov] (eval b X.env)
      standAt p
      holding [v, ov, iv] (setItem ov iv v)
      release [v, ov, iv] []) := by intro _; rfl)
    (hs : swapsWithSole [.Subscript o b p] e pos.line X.env = pure false := by rfl) (hw : swappedStores [.Subscript o b p] e X.env = pure none := by rfl) (h1 : (assignEach [.Subscript o b p] X.env).map (·.2) = [assign (.Subscript o b p) X.env] := by rfl) :
    SS X Γ ρ (.Assign [.Subscript o b p] e pos :: rest) E := by
  obtain ⟨q1, q2⟩ := ixN_pyIx hq
  have e1 : (((x3.getD j []).getD k []).map g)[pyIx ((x3.getD j []).getD k []).length q]? = some (g (((x3.getD j []).getD k [])[pyIx ((x3.getD j []).getD k []).length q]'q2)) := by rw [List.getElem?_map, List.getElem?_eq_getElem q2] <;> rfl
  exact ss_st ho hb he h (at_two hj hk) (by rw [List.length_map]; exact q1) e1 (by
    have e1 : (((x3.getD j []).getD k []).map g).set (pyIx ((x3.getD j []).getD k []).length q) (g x) = (pySet ((x3.getD j []).getD k []) q x).map g := by
      unfold pySet
      rw [List.map_set]
    rw [e1, put_two hj hk]; exact hr) ha hs hw h1

/-! ### for v in n: v.append(e) -/
def Al (H : Hp) (σ : L2.St) (j i : Nat) (pa : List Nat) : Prop := ∃ v0 w, σ[i]? = some (some v0) ∧ σ[j]? = some (some w) ∧ PathV H pa v0 w
theorem ps_appA {j : Nat} (he : DO X Γ ρ e t') (h : ρ[i]? = some (.ow t)) (hp : OT.at pa t = some (.cell ts)) (hl : ts.length < sizeLine)
    (hN : X.N[j]? = some n := by rfl) (hv : Vis X.env.scope n := by first | exact Or.inl rfl | exact Or.inr (Or.inl rfl) | exact Or.inr (Or.inr rfl)) (hd : (n == ("__debug__" : Str)) = false := by decide) (hcd : (n == ("__classdict__" : Str)) = false := by decide)
    (hbase : attributeBase (.Name n p) "append" X.env (eval (.Name n p) X.env) = eval (.Name n p) X.env := by rfl)
    (hfew : ((backTo cpos (starEach [e] X.env)).all (fun x => !x.1) && (backToKw cpos (keywordEach [] X.env)).all (fun x => x.1.isSome) && decide (([e] : List Expr).length + ([] : List Keyword).length + (if ([] : List Keyword).isEmpty then 0 else 1) < 30)) = true := by rfl)
    (hline : (apos.endLine == cpos.line) = true := by rfl) (hs : starEach [e] X.env = (false, eval e X.env) :: starEach [] X.env := by rfl) (hplain : (backTo cpos (starEach [] X.env)).any (·.1) = false := by rfl)
    (hsw : swapsWith (.Call (.Attribute (.Name n p) "append" apos) [e] [] cpos) none pos.line X.env = pure false := by rfl) : PS X (.Expr (.Call (.Attribute (.Name n p) "append" apos) [e] [] cpos) pos) (fun D σ H => ∃ G, Sr Γ G H σ ρ ∧ Al H σ j i pa ∧ ∀ G2 H2, Sr Γ G2 H2 σ (ρ.set i (.ow (OT.put pa t (.cell (ts ++ [t']))))) → Ex G G2 → D.nx σ H2) :=
  (ps_expr (pe_bm PySem.F.plainAttrs_list PySem.F.slot_list_append PySem.F.type_list_append mt_append (pe_var hN hv hd hcd) (pa_cons he pa_nil hs) hbase hfew hline hs hplain) hsw).weak fun D σ H ⟨G, S, ⟨v0, w0, h0, hw0, hv⟩, k⟩ =>
    ⟨w0, hw0, by
      obtain ⟨A, SA⟩ := S.ad
      obtain ⟨a, rfl⟩ := S.ref h hp h0 hv
      obtain ⟨vs1, B1, q1, _⟩ := SA.mut h hp h0 hv
      refine ⟨ty_list q1, G, S, fun w G2 H2 s2 e2 ⟨C, oc, ndC, fC⟩ => ?_⟩
      have SA2 := SA.more s2 e2
      obtain ⟨vs, B, q1, q2, q3, q4, q5, q6, q7, q8⟩ := SA2.mut h hp h0 (hv.mono s2.h)
      have ln := q4.len
      refine ⟨a, vs, w, rfl, rfl, q1, by omega, ?_⟩
      have CA : ∀ b ∈ C, b ∉ A := fun b hb z => by
        obtain ⟨_, u, hu⟩ := SA.mem b z
        rw [fC b hb] at hu; cases hu
      refine k G2 _ (q8 _ _ _ (q4.app (OwnTs.one oc)) (List.nodup_append.mpr ⟨q5, ndC, fun x hx y hy z => ?_⟩) ?_ ?_ ?_) s2.g
      · subst z
        exact CA x hy (q7 x hx)
      · intro z
        rcases List.mem_append.mp z with z | z
        · exact q6 z
        · exact CA a z q3
      · intro b hb
        rcases List.mem_append.mp hb with z | z
        · exact .inl z
        · exact .inr (CA b z)
      · intro b hb
        rcases List.mem_append.mp hb with z | z
        · exact SA2.fr b (q7 b z)
        · exact S.step.h.none (fC b z)⟩
theorem ss_forApp (i j : Nat) {m : Str} {pn pv : Pos} {xss : List (List α)} {x : α} (xo : XO X) (hpo : PassesOwn (model X.prog X.w) X.A X.env X.xe) (h : ρ[i]? = some (.ow (tl (tl g) xss))) (hij : i ≠ j) (hj : j < ρ.length) (he : ∀ ρ', DO X Γ ρ' e (g x)) (hl : ∀ r ∈ xss, r.length < 16000000)
    (hr : SS X Γ ((ρ.set j .un).set i (.ow (tl (tl g) (xss.map (· ++ [x]))))) rest E)
    (hN : X.N[j]? = some n := by rfl) (hM : X.N[i]? = some m := by rfl) (hv : Vis X.env.scope n := by first | exact Or.inl rfl | exact Or.inr (Or.inl rfl) | exact Or.inr (Or.inr rfl)) (hd : (n == ("__debug__" : Str)) = false := by decide) (hcd : (n == ("__classdict__" : Str)) = false := by decide)
    (hv2 : Vis X.env.scope m := by first | exact Or.inl rfl | exact Or.inr (Or.inl rfl) | exact Or.inr (Or.inr rfl)) (hd2 : (m == ("__debug__" : Str)) = false := by decide) (hcd2 : (m == ("__classdict__" : Str)) = false := by decide)
    (hx : Loc X.env.scope n := by first | exact .inl rfl | exact .inr rfl) (hf : X.fn n = true ∨ X.env.scope.names.lookup n = some .local := by first | exact .inl rfl | exact .inr rfl)
    (hs2 : ∀ x, foldedSetIterable (.Name m pn) X.env x = pure x := by intro _; rfl)
    (hbase : attributeBase (.Name n p) "append" X.env (eval (.Name n p) X.env) = eval (.Name n p) X.env := by rfl)
    (hfew : ((backTo cpos (starEach [e] X.env)).all (fun x => !x.1) && (backToKw cpos (keywordEach [] X.env)).all (fun x => x.1.isSome) && decide (([e] : List Expr).length + ([] : List Keyword).length + (if ([] : List Keyword).isEmpty then 0 else 1) < 30)) = true := by rfl)
    (hline : (apos.endLine == cpos.line) = true := by rfl) (hs : starEach [e] X.env = (false, eval e X.env) :: starEach [] X.env := by rfl) (hplain : (backTo cpos (starEach [] X.env)).any (·.1) = false := by rfl)
    (hsw : swapsWith (.Call (.Attribute (.Name n p) "append" apos) [e] [] cpos) none pos.line X.env = pure false := by rfl) :
    SS X Γ ρ (.For (.Name n pv) (.Name m pn) [.Expr (.Call (.Attribute (.Name n p) "append" apos) [e] [] cpos) pos] [] p' :: rest) E := by
  let up : Nat → List (List α) := fun k => (xss.take k).map (· ++ [x]) ++ xss.drop k
  let R : Nat → List Sl := fun k => (ρ.set j .un).set i (.ow (tl (tl g) (up k)))
  have upl : ∀ k, (up k).length = xss.length := fun k => by simp [up]; omega
  have hil : i < ρ.length := by
    obtain ⟨q, _⟩ := List.getElem?_eq_some_iff.mp h
    exact q
  have ri : ∀ k, (R k)[i]? = some (.ow (tl (tl g) (up k))) := fun k => by simp [R, hil]
  have upk : ∀ k (hk : k < xss.length), (up k).getD k [] = xss[k] := fun k hk => by
    simp [up, List.getD_eq_getElem?_getD, List.getElem?_append, Nat.min_eq_left (Nat.le_of_lt hk), hk]
  have ups : ∀ k (hk : k < xss.length), (up k).set k (xss[k] ++ [x]) = up (k + 1) := fun k hk => by
    have hlen : ((xss.take k).map (· ++ [x])).length = k := by simp; omega
    simp only [up]
    rw [List.set_append_right _ _ (by omega), hlen, Nat.sub_self, List.drop_eq_getElem_cons hk, List.set_cons_zero, List.take_add_one, List.getElem?_eq_getElem hk, List.map_append, List.append_assoc]
    rfl
  have hbody : PSs X [.Expr (.Call (.Attribute (.Name n p) "append" apos) [e] [] cpos) pos] (fun D σ H => ∃ k, k < xss.length ∧ ∃ G, Sr Γ G H σ (R k) ∧ Al H σ j i [k] ∧ ∀ G2 H2, Sr Γ G2 H2 σ (R (k + 1)) → Ex G G2 → D.nx σ H2) := by
    refine ⟨fun pins s σ H D I ⟨k, hk, G, S, al, ok⟩ => ?_⟩
    have hku : k < (up k).length := by rw [upl]; exact hk
    have Pk := ps_appA (X := X) (Γ := Γ) (ρ := R k) (p := p) (apos := apos) (cpos := cpos) (pos := pos) (n := n) (j := j) (he (R k)) (ri k) (at_one hku) (by rw [List.length_map, upk k hk]; exact Nat.lt_of_lt_of_le (hl _ (List.getElem_mem hk)) (by decide)) hN hv hd hcd hbase hfew hline hs hplain hsw
    have e1 : (R k).set i (.ow (OT.put [k] (tl (tl g) (up k)) (.cell (((up k).getD k []).map g ++ [g x])))) = R (k + 1) := by
      have e2 : ((up k).getD k []).map g ++ [g x] = ((up k).getD k [] ++ [x]).map g := by rw [List.map_append]; rfl
      rw [e2, put_one hku, upk k hk, ups k hk]
      simp [R]
    rw [e1] at Pk
    have := (pss_cons Pk (pss_nil (X := X))).run pins s σ H D I ⟨G, S, al, ok⟩
    exact this
  refine ss_cons (M := fun ρ' => ρ' = R xss.length) ((ps_for hpo xo.calm (pi_list (pe_var hM hv2 hd2 hcd2)) (pg_name xo.nd hN hx hf) hbody hs2).weak fun D σ H ⟨G, S, k⟩ => ?_) fun ρ' e => by
    have e3 : up xss.length = xss.map (· ++ [x]) := by simp only [up, List.take_length, List.drop_length, List.append_nil]
    rw [e]
    simp only [R]
    rw [e3]
    exact hr
  obtain ⟨ob, B, h1, h2⟩ := S.slot h
  cases h2 with
  | @ow v0 _ _ q =>
    obtain ⟨a, rfl⟩ : ∃ a, v0 = .ref a := by
      unfold tl at q
      cases q with
      | cell hg hh r => exact ⟨_, rfl⟩
    have look : ∀ {k : Nat} {G' H' : Hp} {σ' : L2.St}, Sr Γ G' H' σ' (R k) → σ'[i]? = some (some (.ref a)) → ∃ vs, H' a = some (.lst vs) ∧ vs.length = xss.length := fun {k G' H' σ'} S' hσ => by
      obtain ⟨ob', B', h1', h2'⟩ := S'.slot (ri k)
      rw [hσ] at h1'
      cases h1'
      cases h2' with
      | ow q' =>
        unfold tl at q'
        cases q' with
        | cell hg hh r =>
          have := r.len
          rw [List.length_map, upl] at this
          exact ⟨_, hh, this⟩
    have S0 : Sr Γ G H σ (R 0) := by
      have w : Wk ρ (R 0) := by
        have e0 : R 0 = ρ.set j .un := by
          have eu : up 0 = xss := by simp [up]
          simp only [R]
          rw [eu]
          refine List.ext_getElem? fun q => ?_
          by_cases hq : i = q
          · subst hq
            rw [List.getElem?_set_self (by simpa using hil), List.getElem?_set_ne (Ne.symm hij), h]
          · rw [List.getElem?_set_ne hq]
        rw [e0]
        have go : ∀ (ρ : List Sl) (j : Nat), Wk ρ (ρ.set j .un) := fun ρ => by
          induction ρ with
          | nil => intro j; exact .nil
          | cons s ρ ih =>
            intro j
            cases j with
            | zero => exact .un (Wk.refl _)
            | succ j => exact .same (ih j)
        exact go ρ j
      exact S.wk w
    obtain ⟨vs0, hv0, ln0⟩ := look S0 h1
    refine ⟨_, h1, a, rfl, ⟨vs0, SqL.of hv0⟩, fun k μ σ H => μ = xss.length - k ∧ k ≤ xss.length ∧ σ[i]? = some (some (.ref a)) ∧ ∃ G1, Sr Γ G1 H σ (R k) ∧ Ex G G1, ⟨_, rfl, Nat.zero_le _, h1, G, S0, Ex.refl _⟩, ?_⟩
    rintro k' μ σ' H' ⟨rfl, him, hσ, G', S', eg⟩
    obtain ⟨vs, hvs, ln⟩ := look S' hσ
    by_cases hlt : k' < xss.length
    · refine .inr ⟨⟨vs, vs[k'], SqL.of hvs, List.getElem?_eq_getElem (by omega)⟩, fun σ2 H2 => σ2[i]? = some (some (.ref a)) ∧ ∃ G2, Sr Γ G2 H2 σ2 (R (k' + 1)) ∧ Ex G G2, fun σ2 H2 ⟨h3, G2, S2, e2⟩ => ⟨xss.length - (k' + 1), by omega, rfl, hlt, h3, G2, S2, e2⟩, fun x' H'' hy => ?_⟩
      obtain ⟨rfl, hx'⟩ := hy
      have hx2 := hx' vs (SqL.of hvs)
      have hji : j ≠ i := fun z => hij z.symm
      have eR : (R k').set j .un = R k' := by
        simp only [R]
        rw [List.set_comm _ _ hij, List.set_set, List.set_comm _ _ hji]
      have S3 : Sr Γ G' H'' (σ'.set j (some x')) (R k') := eR ▸ S'.store (s := .un) (Step.refl _ _) S'.sub .un List.nodup_nil fun _ z => by cases z
      have hσ2 : (σ'.set j (some x'))[i]? = some (some (.ref a)) := by rw [List.getElem?_set_ne hji]; exact hσ
      refine ⟨k', hlt, G', S3, ⟨.ref a, x', hσ2, ?_, ⟨a, vs, x', rfl, hvs, hx2, rfl⟩⟩, fun G2 H2 S2 e2 => ⟨hσ2, G2, S2, eg.trans e2⟩⟩
      have hjl : j < σ'.length := by
        obtain ⟨A, r, _⟩ := S'.sl
        have := r.len
        rw [this]
        simpa [R] using hj
      rw [List.getElem?_set_self hjl]
    · have e : k' = xss.length := by omega
      subst e
      exact .inl ⟨⟨vs, SqL.of hvs, by omega⟩, k.nx _ _ _ _ rfl S' eg⟩
end
end DL
namespace DL
open PySem L2
section
variable {X : Cx} {Γ : Gm} {ρ : List Sl} {c : Expr} {pos : Pos} {E : En} {q : Bool} {bd el rest : List Stmt}
/-- two ways that meet -/
theorem ss_ifJ (u : List Sl → List Sl) (hc : DT X Γ ρ c q) (h1 : q = true → SS X Γ ρ bd { E with nx := fun ρ' => Wk ρ' (u ρ) }) (h2 : q = false → SS X Γ ρ el { E with nx := fun ρ' => Wk ρ' (u ρ) }) (hr : SS X Γ (u ρ) rest E) : SS X Γ ρ (.If c bd el pos :: rest) E :=
  ss_if hc h1 h2 fun _ w => ss_wk w hr
end
end DL
namespace DL
open PySem L2
/-- a list written out of things that are only looked at -/
def slC : Sl → D
  | .v x => vD x
  | .sh d => d
  | .ro d => d
  | _ => .none
def slRd : Sl → Bool
  | .v x => vOk x
  | .sh _ => true
  | .ro _ => true
  | _ => false
theorem slR_repsC {K : Fg} {I G H : Hp} (e : Ex G I) : ∀ {vs : List V} {ss : List Sl} {A : List Addr}, SlR K I G H (vs.map some) ss A → ss.all slRd = true → Reps I vs (ss.map slC)
  | [], _, _, .nil, _ => .nil
  | v :: vs, s :: ss, _, .cons h r, q => by
    simp only [List.all_cons, Bool.and_eq_true] at q
    refine .cons ?_ (slR_repsC e r q.2)
    cases h with
    | v => exact vD_rep q.1
    | sh h => exact Rep.mono e h
    | ro h => exact h
    | un => cases q.1
    | ow _ => cases q.1
    | sc _ => cases q.1
    | ob _ _ _ => cases q.1
    | oa _ => cases q.1
    | rb _ _ => cases q.1
section
variable {X : Cx} {Γ : Gm} {ρ : List Sl} {es : List Expr} {pos : Pos}
theorem de_lstC {ss : List Sl} (ha : DA X Γ ρ es ss) (hs : ss.all slRd = true := by rfl) (hl : ss.length ≤ 1000 := by simp) : DE X Γ ρ (.List es pos) .c (.list (ss.map slC)) :=
  (pe_lst ha).weak fun σ H Q ⟨G, S, k⟩ => ⟨G, S, fun vs G1 H1 A s1 e1 r nd f => by
    have r' := slR_repsC e1 r hs
    refine ⟨by rw [slr_len r]; exact Nat.le_trans hl (by decide), fun q hq => ?_⟩
    exact k (.ref q) G1 _ (s1.trans (Step.laid hq)) (e1.trans (Ex.new hq)) (.lst upd_same (Reps.mono (Ex.new hq) r'))⟩
end
end DL
namespace DL
open PySem L2
theorem ss_re {X : Cx} {Γ : Gm} {ρ : List Sl} {E : En} {rest : List Stmt} (u : List Sl → List Sl) (w : Wk ρ (u ρ)) (h : SS X Γ (u ρ) rest E) : SS X Γ ρ rest E := ss_wk w h
end DL

set_option Elab.async false
set_option linter.all false
set_option maxRecDepth 100000
/-! envies, dearest things, spares, bearing -/
namespace Th
open PySem L2 DL
theorem GoodS.at {s : List (List Int)} {n m : Nat} (hs : GoodS s n m) {o : Int} (ho : inR n o) : pyAt s o ∈ s := pyAt_mem (by rw [hs.n]; exact ho)
theorem gs_b {t s : List (List Int)} {m : Nat} (g : GoodT t m) (hs : GoodS s t.length m) {h o : Int} (hh : inR t.length h) (ho : inR t.length o) : ∀ x ∈ pyAt s o, inR (pyAt t h).length x := k01_sum g (hs.bd _ (hs.at ho)) hh
theorem gs_l {t s : List (List Int)} {m : Nat} (g : GoodT t m) (hs : GoodS s t.length m) {o : Int} (ho : inR t.length o) : (pyAt s o).length ≤ 40 := by
  have := hs.row (hs.at ho)
  have := g.m40
  omega
def feels (t s : List (List Int)) (h o : Int) : Bool := decide (summed (pyAt t h) (pyAt s h) < summed (pyAt t h) (pyAt s o))
def pRow (t s : List (List Int)) (h j : Nat) : List (Int × Int) := ((List.range j).filter fun (o : Nat) => feels t s h o).map fun (o : Nat) => ((h : Int), (o : Int))
def pAll (t s : List (List Int)) (n i : Nat) : List (Int × Int) := (List.range i).flatMap fun h => pRow t s h n
def pairsOf (t s : List (List Int)) : List (Int × Int) := pAll t s t.length t.length
theorem pRow_0 (t s : List (List Int)) (i : Nat) : pRow t s i 0 = [] := rfl
theorem pRow_yes {t s : List (List Int)} {i j : Nat} (h : feels t s i j = true) : pRow t s i (j + 1) = pRow t s i j ++ [((i : Int), (j : Int))] := by
  unfold pRow
  rw [List.range_succ, List.filter_append, List.map_append]
  simp [h]
theorem pRow_no {t s : List (List Int)} {i j : Nat} (h : feels t s i j = false) : pRow t s i (j + 1) = pRow t s i j := by
  unfold pRow
  rw [List.range_succ, List.filter_append, List.map_append]
  simp [h]
theorem pAll_succ (t s : List (List Int)) (n i : Nat) : pAll t s n (i + 1) = pAll t s n i ++ pRow t s i n := by
  unfold pAll
  rw [List.range_succ, List.flatMap_append]
  simp
theorem mem_pairsOf {t s : List (List Int)} {p : Int × Int} : p ∈ pairsOf t s ↔ ∃ h o : Nat, p = ((h : Int), (o : Int)) ∧ h < t.length ∧ o < t.length ∧ feels t s h o = true := by
  unfold pairsOf pAll pRow
  simp only [List.mem_flatMap, List.mem_range, List.mem_map, List.mem_filter]
  constructor
  · rintro ⟨h, hh, o, ⟨ho, hf⟩, rfl⟩
    exact ⟨h, o, rfl, hh, ho, hf⟩
  · rintro ⟨h, o, rfl, hh, ho, hf⟩
    exact ⟨h, hh, o, ⟨ho, hf⟩, rfl⟩
theorem summed_nn {row things : List Int} (hn : ∀ x ∈ row, 0 ≤ x) (hb : ∀ x ∈ things, inR row.length x) : 0 ≤ summed row things := by
  unfold summed
  induction things with
  | nil => simp
  | cons a as ih =>
    rw [List.map_cons, List.sum_cons]
    have h1 := hn _ (pyAt_mem (hb a (by simp)))
    have h2 := ih fun x hx => hb x (by simp [hx])
    omega
theorem GoodT.nn {t : List (List Int)} {m : Nat} (g : GoodT t m) {h : Int} (hh : inR t.length h) : ∀ x ∈ pyAt t h, 0 ≤ x := fun x hx => (g.wor _ (pyAt_mem hh) x hx).1
theorem more_pos {row own others : List Int} (hn : ∀ x ∈ row, 0 ≤ x) (hb : ∀ x ∈ own, inR row.length x) (h : summed row own < summed row others) : 0 < others.length := by
  have := summed_nn hn hb
  cases others with
  | nil => simp [summed] at h this; omega
  | cons a as => simp
theorem feels_pos {t s : List (List Int)} {m : Nat} (g : GoodT t m) (hs : GoodS s t.length m) {h o : Int} (hh : inR t.length h) (ho : inR t.length o) (hf : feels t s h o = true) : 0 < (pyAt s o).length :=
  more_pos (g.nn hh) (gs_b g hs hh hh) (of_decide_eq_true hf)
def dearF (row things : List Int) (k : Nat) : Int := (things.take k).foldl (fun b t => if pyAt row b < pyAt row t then t else b) (pyAt things 0)
def dearest (row things : List Int) : Int := dearF row things things.length
theorem dearF_succ {row things : List Int} {i : Nat} (hi : i < things.length) : dearF row things (i + 1) = if pyAt row (dearF row things i) < pyAt row (things.getD i default) then things.getD i default else dearF row things i := by
  unfold dearF
  have e : things.getD i default = things[i] := by simp [List.getD_eq_getElem?_getD, hi]
  rw [List.take_add_one, List.getElem?_eq_getElem hi, List.foldl_append, e]
  rfl
theorem dearF_yes {row things : List Int} {i : Nat} (hi : i < things.length) (h : decide (pyAt row (dearF row things i) < pyAt row (things.getD i default)) = true) : things.getD i default = dearF row things (i + 1) := by
  rw [dearF_succ hi, if_pos (of_decide_eq_true h)]
theorem dearF_no {row things : List Int} {i : Nat} (hi : i < things.length) (h : decide (pyAt row (dearF row things i) < pyAt row (things.getD i default)) = false) : dearF row things i = dearF row things (i + 1) := by
  rw [dearF_succ hi, if_neg (of_decide_eq_false h)]
theorem pyAt_0 {α : Type} [Inhabited α] (xs : List α) : pyAt xs 0 = xs.getD 0 default := pyAt_nat xs 0
/-- what the best so far is -/
theorem dearF_spec {row things : List Int} (h0 : 0 < things.length) (up : things.Pairwise (· < ·)) : ∀ i, i ≤ things.length → dearF row things i ∈ things ∧ (∀ x ∈ things.take i, pyAt row x ≤ pyAt row (dearF row things i)) ∧ ∀ x ∈ things, pyAt row x = pyAt row (dearF row things i) → dearF row things i ≤ x ∨ x ∉ things.take i ∧ dearF row things i < x := by
  intro i
  induction i with
  | zero =>
    intro _
    have e : dearF row things 0 = things[0] := by
      unfold dearF
      rw [List.take_zero]
      show pyAt things 0 = _
      rw [pyAt_0]
      simp [List.getD_eq_getElem?_getD, h0]
    rw [e]
    refine ⟨List.getElem_mem _, fun x hx => by simp at hx, fun x hx _ => ?_⟩
    obtain ⟨j, hj, rfl⟩ := List.mem_iff_getElem.mp hx
    by_cases hj0 : j = 0
    · subst hj0; exact .inl (Int.le_refl _)
    · exact .inl (Int.le_of_lt (List.pairwise_iff_getElem.mp up 0 j h0 hj (by omega)))
  | succ i ih =>
    intro hi
    have hi' : i < things.length := by omega
    obtain ⟨h1, h2, h3⟩ := ih (by omega)
    have e : things.getD i default = things[i] := by simp [List.getD_eq_getElem?_getD, hi']
    have tk : things.take (i + 1) = things.take i ++ [things[i]] := by
      rw [List.take_add_one, List.getElem?_eq_getElem hi']; rfl
    rw [dearF_succ hi', e]
    split
    · rename_i hlt
      refine ⟨List.getElem_mem _, fun x hx => ?_, fun x hx hq => ?_⟩
      · rw [tk] at hx
        rcases List.mem_append.mp hx with z | z
        · have := h2 x z; omega
        · simp at z; subst z; exact Int.le_refl _
      · obtain ⟨j, hj, rfl⟩ := List.mem_iff_getElem.mp hx
        rcases Nat.lt_trichotomy j i with z | z | z
        · have hm : things[j] ∈ things.take i := List.mem_iff_getElem.mpr ⟨j, by simp; omega, by simp⟩
          have := h2 _ hm
          omega
        · subst z; exact .inl (Int.le_refl _)
        · exact .inl (Int.le_of_lt (List.pairwise_iff_getElem.mp up i j hi' hj z))
    · rename_i hlt
      refine ⟨h1, fun x hx => ?_, fun x hx hq => ?_⟩
      · rw [tk] at hx
        rcases List.mem_append.mp hx with z | z
        · exact h2 x z
        · simp at z; subst z; omega
      · rcases h3 x hx hq with z | z
        · exact .inl z
        · exact .inl (Int.le_of_lt z.2)
theorem dearest_spec {row things : List Int} (h0 : 0 < things.length) (up : things.Pairwise (· < ·)) : dearest row things ∈ things ∧ (∀ x ∈ things, pyAt row x ≤ pyAt row (dearest row things)) ∧ ∀ x ∈ things, pyAt row x = pyAt row (dearest row things) → dearest row things ≤ x := by
  obtain ⟨h1, h2, h3⟩ := dearF_spec (row := row) h0 up things.length (Nat.le_refl _)
  rw [List.take_length] at h2 h3
  exact ⟨h1, h2, fun x hx hq => (h3 x hx hq).elim id fun z => absurd hx z.1⟩
theorem dearF_mem {row things : List Int} (h0 : 0 < things.length) : ∀ i, i ≤ things.length → dearF row things i ∈ things := by
  intro i
  induction i with
  | zero =>
    intro _
    unfold dearF
    rw [List.take_zero]
    show pyAt things 0 ∈ _
    exact pyAt_mem ⟨by omega, by omega⟩
  | succ i ih =>
    intro hi
    rw [dearF_succ (by omega)]
    split
    · exact getD_mem (by omega)
    · exact ih (by omega)
def spareOf (t s : List (List Int)) (h o : Int) : Option Int := if feels t s h o = true then some (dearest (pyAt t h) (pyAt s o)) else none
def lSpare (row own others : List Int) : Option Int := if summed row others ≤ summed row own then none else some (minI (others.filter fun t => decide (pyAt row t = maxI (others.map fun t => pyAt row t))))
theorem lSpare_pos {row others : List Int} (h : 0 < others.length) : 0 < (others.filter fun t => decide (pyAt row t = maxI (others.map fun t => pyAt row t))).length := by
  have := maxI_mem (ns := others.map fun t => pyAt row t) (by simpa using h)
  obtain ⟨t, ht, e⟩ := List.mem_map.mp this
  exact List.length_pos_of_mem (List.mem_filter.mpr ⟨ht, by simpa using e⟩)
theorem lSpare_some {row others : List Int} (h0 : 0 < others.length) (up : others.Pairwise (· < ·)) : minI (others.filter fun t => decide (pyAt row t = maxI (others.map fun t => pyAt row t))) = dearest row others := by
  obtain ⟨d1, d2, d3⟩ := dearest_spec (row := row) h0 up
  have em : maxI (others.map fun t => pyAt row t) = pyAt row (dearest row others) := by
    have h1 := maxI_mem (ns := others.map fun t => pyAt row t) (by simpa using h0)
    obtain ⟨t, ht, e⟩ := List.mem_map.mp h1
    have := d2 t ht
    have := maxI_ge (ns := others.map fun t => pyAt row t) (List.mem_map.mpr ⟨_, d1, rfl⟩)
    omega
  have hp := lSpare_pos (row := row) h0
  have h1 := minI_mem hp
  have h2 := List.mem_filter.mp h1
  have h3 := d3 _ h2.1 (by rw [← em]; exact of_decide_eq_true h2.2)
  have h4 := minI_le (ns := others.filter fun t => decide (pyAt row t = maxI (others.map fun t => pyAt row t))) (List.mem_filter.mpr ⟨d1, by simp [em]⟩)
  omega
theorem lSpare_eq {t s : List (List Int)} {m : Nat} (g : GoodT t m) (hs : GoodS s t.length m) {h o : Int} (hh : inR t.length h) (ho : inR t.length o) : lSpare (pyAt t h) (pyAt s h) (pyAt s o) = spareOf t s h o := by
  unfold lSpare spareOf
  by_cases hf : feels t s h o = true
  · have hf' := of_decide_eq_true hf
    rw [if_pos hf, if_neg (by omega), lSpare_some (feels_pos g hs hh ho hf) (hs.up _ (hs.at ho))]
  · rw [if_neg hf, if_pos]
    unfold feels at hf
    simpa using hf
/-- bearing -/
def bOk (t s : List (List Int)) (p : Int × Int) : Bool := !decide (summed (pyAt t p.1) (pyAt s p.1) < summed (pyAt t p.1) (pyAt s p.2) - pyAt (pyAt t p.1) (dearest (pyAt t p.1) (pyAt s p.2)))
def borneB (t s : List (List Int)) : Bool := (pairsOf t s).all (bOk t s)
def lbOk (t s : List (List Int)) (p : Int × Int) : Bool := !decide (summed (pyAt t p.1) (pyAt s p.1) < minI ((pyAt s p.2).map fun x => summed (pyAt t p.1) (pyAt s p.2) - pyAt (pyAt t p.1) x))
def lBorne (t s : List (List Int)) : Bool := (pairsOf t s).all (lbOk t s)
theorem lbOk_eq {t s : List (List Int)} {m : Nat} (g : GoodT t m) (hs : GoodS s t.length m) {p : Int × Int} (hp : p ∈ pairsOf t s) : lbOk t s p = bOk t s p := by
  obtain ⟨h, o, rfl, hh, ho, hf⟩ := mem_pairsOf.mp hp
  have hh' : inR t.length (h : Int) := ⟨by omega, by omega⟩
  have ho' : inR t.length (o : Int) := ⟨by omega, by omega⟩
  have h0 := feels_pos g hs hh' ho' hf
  obtain ⟨d1, d2, d3⟩ := dearest_spec (row := pyAt t (h : Int)) h0 (hs.up _ (hs.at ho'))
  have e : minI ((pyAt s (o : Int)).map fun x => summed (pyAt t (h : Int)) (pyAt s (o : Int)) - pyAt (pyAt t (h : Int)) x) = summed (pyAt t (h : Int)) (pyAt s (o : Int)) - pyAt (pyAt t (h : Int)) (dearest (pyAt t (h : Int)) (pyAt s (o : Int))) := by
    have h1 := minI_mem (ns := (pyAt s (o : Int)).map fun x => summed (pyAt t (h : Int)) (pyAt s (o : Int)) - pyAt (pyAt t (h : Int)) x) (by simpa using h0)
    obtain ⟨x, hx, ex⟩ := List.mem_map.mp h1
    have h2 := d2 x hx
    have h3 := minI_le (ns := (pyAt s (o : Int)).map fun x => summed (pyAt t (h : Int)) (pyAt s (o : Int)) - pyAt (pyAt t (h : Int)) x) (List.mem_map.mpr ⟨_, d1, rfl⟩)
    omega
  unfold lbOk bOk
  rw [e]
theorem lBorne_eq {t s : List (List Int)} {m : Nat} (g : GoodT t m) (hs : GoodS s t.length m) : lBorne t s = borneB t s := by
  unfold lBorne borneB
  rw [Bool.eq_iff_iff, List.all_eq_true, List.all_eq_true]
  constructor
  · intro h p hp; rw [← lbOk_eq g hs hp]; exact h p hp
  · intro h p hp; rw [lbOk_eq g hs hp]; exact h p hp
theorem all_step {α : Type} [Inhabited α] {xs : List α} {q : α → Prop} {i : Nat} (hi : i < xs.length) (h : ∀ p ∈ xs.take i, q p) (h2 : q (xs.getD i default)) : ∀ p ∈ xs.take (i + 1), q p := fun p hp => by
  have e : xs.getD i default = xs[i] := by simp [List.getD_eq_getElem?_getD, hi]
  rw [List.take_add_one, List.getElem?_eq_getElem hi] at hp
  rcases List.mem_append.mp hp with z | z
  · exact h p z
  · simp at z; subst z; rwa [e] at h2
theorem getD_memA {α : Type} [Inhabited α] {xs : List α} {i : Nat} (h : i < xs.length) : xs.getD i default ∈ xs := by simp [List.getD_eq_getElem?_getD, h]
theorem all_false {α : Type} {xs : List α} {q : α → Bool} {a : α} (h : a ∈ xs) (h2 : q a = false) : xs.all q = false := by
  rw [List.all_eq_false]
  exact ⟨a, h, by simp [h2]⟩
/-- both of a pair of envy are heirs -/
theorem pair_in {t s : List (List Int)} {p : Int × Int} (h : p ∈ pairsOf t s) : inR t.length p.1 ∧ inR t.length p.2 ∧ feels t s p.1 p.2 = true := by
  obtain ⟨a, b, rfl, ha, hb, hf⟩ := mem_pairsOf.mp h
  exact ⟨⟨by omega, by omega⟩, ⟨by omega, by omega⟩, hf⟩
end Th
namespace Th
open PySem L2 DL
theorem pRow_len (t s : List (List Int)) (h j : Nat) : (pRow t s h j).length ≤ j := by
  unfold pRow
  rw [List.length_map]
  exact Nat.le_trans (List.length_filter_le _ _) (by simp)
theorem pAll_len (t s : List (List Int)) (n : Nat) : ∀ i, (pAll t s n i).length ≤ i * n
  | 0 => by simp [pAll]
  | i + 1 => by
    rw [pAll_succ, List.length_append, Nat.succ_mul]
    have := pAll_len t s n i
    have := pRow_len t s i n
    omega
theorem pr_sz {t s : List (List Int)} {m : Nat} (g : GoodT t m) {i j : Nat} (hi : i ≤ t.length) (hj : j ≤ t.length) : (pAll t s t.length i ++ pRow t s i j).length < 16000000 := by
  have h1 := pAll_len t s t.length i
  have h2 := pRow_len t s i j
  have h8 := g.n8
  have : i * t.length ≤ 8 * 8 := Nat.mul_le_mul (by omega) (by omega)
  rw [List.length_append]
  omega
end Th

set_option Elab.async false
set_option linter.all false
set_option maxRecDepth 100000
namespace Th
open PySem L2 DL
theorem pySl_tail {α : Type} (xs : List α) : pySl xs (some 1) none = xs.drop 1 := by
  unfold pySl
  have h1 : HT.sIx xs.length 0 (some 1) = min 1 xs.length := HT.sIx_nat _ _ 1
  have h2 : HT.sIx xs.length xs.length none = xs.length := HT.sIx_none _ _
  rw [h1, h2]
  cases xs with
  | nil => simp
  | cons a as => simp
theorem pySl_init {α : Type} (xs : List α) : pySl xs none (some (-1)) = xs.take (xs.length - 1) := by
  unfold pySl
  have h1 : HT.sIx xs.length 0 none = 0 := HT.sIx_none _ _
  have h2 : HT.sIx xs.length xs.length (some (-1)) = xs.length - 1 := by
    unfold HT.sIx
    simp
    omega
  rw [h1, h2]
  simp
theorem set_good {t : List (List Int)} {m : Nat} (g : GoodT t m) {one k : Nat} {v : Int} (hv : 0 ≤ v ∧ v ≤ 1000000) : GoodT (t.set one ((t.getD one []).set k v)) m where
  n1 := by rw [List.length_set]; exact g.n1
  n8 := by rw [List.length_set]; exact g.n8
  m40 := g.m40
  len := fun r hr => by
    by_cases h : one < t.length
    · rcases List.mem_or_eq_of_mem_set hr with z | z
      · exact g.len r z
      · rw [z, List.length_set]
        exact g.len _ (by simp [List.getD_eq_getElem?_getD, h])
    · rw [List.set_eq_of_length_le (by omega)] at hr
      exact g.len r hr
  wor := fun r hr x hx => by
    by_cases h : one < t.length
    · rcases List.mem_or_eq_of_mem_set hr with z | z
      · exact g.wor r z x hx
      · rw [z] at hx
        rcases List.mem_or_eq_of_mem_set hx with y | y
        · exact g.wor _ (by simp [List.getD_eq_getElem?_getD, h]) x y
        · rw [y]; exact hv
    · rw [List.set_eq_of_length_le (by omega)] at hr
      exact g.wor r hr x hx
/-- a share made smaller -/
theorem sub_good {s : List (List Int)} {n m : Nat} (h : GoodS s n m) {one : Nat} {r : List Int} (hr : r.Sublist (s.getD one [])) : GoodS (s.set one r) n m := by
  by_cases ho : one < s.length
  · have hm : s.getD one [] ∈ s := by simp [List.getD_eq_getElem?_getD, ho]
    have e : s.getD one [] = s[one] := by simp [List.getD_eq_getElem?_getD, ho]
    refine ⟨by rw [List.length_set]; exact h.n, fun q hq x hx => ?_, fun q hq => ?_, ?_⟩
    · rcases List.mem_or_eq_of_mem_set hq with z | z
      · exact h.bd q z x hx
      · rw [z] at hx; exact h.bd _ hm x (hr.subset hx)
    · rcases List.mem_or_eq_of_mem_set hq with z | z
      · exact h.up q z
      · rw [z]; exact (h.up _ hm).sublist hr
    · have : (s.set one r).flatten.Sublist s.flatten := by
        have e1 : s = s.take one ++ s[one] :: s.drop (one + 1) := by simp
        have e2 : s.set one r = s.take one ++ r :: s.drop (one + 1) := by
          rw [List.set_eq_take_append_cons_drop, if_pos ho]
        rw [e2]
        conv => rhs; rw [e1]
        rw [List.flatten_append, List.flatten_append, List.flatten_cons, List.flatten_cons]
        rw [e] at hr
        exact (List.Sublist.refl _).append (hr.append (List.Sublist.refl _))
      exact h.nd.sublist this
  · rw [List.set_eq_of_length_le (by omega)]; exact h
/-- a thing's number within what is there -/
theorem mod_in (x : Int) {n : Nat} (h : 0 < n) : 0 ≤ x % (n : Int) ∧ x % (n : Int) < n := ⟨Int.emod_nonneg _ (by omega), Int.emod_lt_of_pos _ (by omega)⟩
theorem pyIx_pos {n : Nat} {i : Int} (h : 0 ≤ i) : pyIx n i = i.toNat := by unfold pyIx; rw [if_pos h]
def k5one (ns : List Int) : Int := lAt ns 48 % (nH ns : Int)
def k5T (ns : List Int) : List (List Int) :=
  let t := lTable ns (nH ns) (nM ns)
  if 0 < (nM ns : Int) then t.set (k5one ns).toNat ((t.getD (k5one ns).toNat []).set (lAt ns 49 % (nM ns : Int)).toNat (lAt ns 50 % 1000001)) else t
def k5S (ns : List Int) : List (List Int) :=
  let s := lShares ns (nH ns) (nM ns)
  s.set (k5one ns).toNat ((s.getD (k5one ns).toNat []).drop 1)
theorem k5one_bd (ns : List Int) : 0 ≤ k5one ns ∧ k5one ns < nH ns := mod_in _ (nH_bd ns).1
theorem k5T_good (ns : List Int) : GoodT (k5T ns) (nM ns) := by
  have b1 := nH_bd ns
  have g := lTable_good ns (n := nH ns) (many := nM ns) b1.1 b1.2 (by have := nM_bd ns; omega)
  unfold k5T
  simp only
  split
  · exact set_good g (by omega)
  · exact g
theorem k5T_len (ns : List Int) : (k5T ns).length = nH ns := by
  unfold k5T
  simp only
  split <;> simp [lTable]
theorem k5S_good (ns : List Int) : GoodS (k5S ns) (k5T ns).length (nM ns) := by
  rw [k5T_len]
  exact sub_good (lShares_good ns (nH_bd ns).1) (List.drop_sublist _ _)
theorem k5_in1 (ns : List Int) : inR (lTable ns (nH ns) (nM ns)).length (lAt ns 48 % (nH ns : Int)) := by
  have := k5one_bd ns
  unfold k5one at this
  have e : (lTable ns (nH ns) (nM ns)).length = nH ns := by simp [lTable]
  exact ⟨by omega, by omega⟩
theorem k5_in3 (ns : List Int) : inR (lShares ns (nH ns) (nM ns)).length (lAt ns 48 % (nH ns : Int)) := by
  have := k5one_bd ns
  unfold k5one at this
  have e : (lShares ns (nH ns) (nM ns)).length = nH ns := by simp [lShares]
  exact ⟨by omega, by omega⟩
theorem k5_in2 (ns : List Int) (h : 0 < (nM ns : Int)) : inR ((lTable ns (nH ns) (nM ns)).getD (pyIx (lTable ns (nH ns) (nM ns)).length (lAt ns 48 % (nH ns : Int))) []).length (lAt ns 49 % (nM ns : Int)) := by
  have b1 := nH_bd ns
  have g := lTable_good ns (n := nH ns) (many := nM ns) b1.1 b1.2 (by have := nM_bd ns; omega)
  have h2 := (ixN_pyIx (k5_in1 ns)).2
  have e := g.len _ (show (lTable ns (nH ns) (nM ns)).getD (pyIx (lTable ns (nH ns) (nM ns)).length (lAt ns 48 % (nH ns : Int))) [] ∈ _ by simp [List.getD_eq_getElem?_getD, h2])
  rw [e]
  have := mod_in (lAt ns 49) (n := nM ns) (by omega)
  exact ⟨by omega, by omega⟩
theorem k5T_yes (ns : List Int) (h : 0 < (nM ns : Int)) : (lTable ns (nH ns) (nM ns)).set (pyIx (lTable ns (nH ns) (nM ns)).length (lAt ns 48 % (nH ns : Int))) (pySet ((lTable ns (nH ns) (nM ns)).getD (pyIx (lTable ns (nH ns) (nM ns)).length (lAt ns 48 % (nH ns : Int))) []) (lAt ns 49 % (nM ns : Int)) (lAt ns 50 % 1000001)) = k5T ns := by
  have h1 := (k5one_bd ns).1
  have h2 := (mod_in (lAt ns 49) (n := nM ns) (by omega)).1
  unfold k5T pySet
  rw [if_pos h, pyIx_pos h2]
  unfold k5one at *
  rw [pyIx_pos h1]
theorem k5T_no (ns : List Int) (h : ¬ 0 < (nM ns : Int)) : lTable ns (nH ns) (nM ns) = k5T ns := by
  unfold k5T
  rw [if_neg h]
theorem k5S_eq (ns : List Int) : pySet (lShares ns (nH ns) (nM ns)) (lAt ns 48 % (nH ns : Int)) (pySl (pyAt (lShares ns (nH ns) (nM ns)) (lAt ns 48 % (nH ns : Int))) (some 1) none) = k5S ns := by
  have h1 := (k5one_bd ns).1
  unfold k5S pySet
  rw [pySl_tail, pyAt_ix]
  unfold k5one at *
  rw [pyIx_pos h1]
  rfl
theorem pairs_len {t s : List (List Int)} {m : Nat} (g : GoodT t m) : (pairsOf t s).length < 16000000 := by
  have := pr_sz (s := s) g (i := t.length) (j := 0) (Nat.le_refl _) (by omega)
  rw [pRow_0, List.append_nil] at this
  exact this
theorem k5_sz (ns : List Int) : (pairsOf (k5T ns) (k5S ns)).length < 16000000 := pairs_len (k5T_good ns)
end Th

set_option Elab.async false
set_option linter.all false
set_option maxRecDepth 100000
namespace Th
open PySem L2 DL
/-- things go one by one to who has least -/
def lSums (t f : List (List Int)) (n : Nat) : List Int := (List.range n).map fun (h : Nat) => summed (pyAt t (h : Int)) (pyAt f (h : Int))
def evTo (t f : List (List Int)) : Nat := (lSums t f t.length).idxOf (minI (lSums t f t.length))
def lEven (t : List (List Int)) : Nat → List (List Int)
  | 0 => t.map fun _ => []
  | k + 1 => (lEven t k).set (evTo t (lEven t k)) ((lEven t k).getD (evTo t (lEven t k)) [] ++ [(k : Int)])
theorem lEven_len (t : List (List Int)) : ∀ k, (lEven t k).length = t.length
  | 0 => by simp [lEven]
  | k + 1 => by simp [lEven, lEven_len t k]
theorem evTo_lt {t f : List (List Int)} (h : 0 < t.length) : evTo t f < t.length := by
  have hl : (lSums t f t.length).length = t.length := by simp [lSums]
  have := minI_mem (ns := lSums t f t.length) (by omega)
  have := List.idxOf_lt_length_iff.mpr this
  unfold evTo
  omega
theorem flat_set {s : List (List Int)} {j : Nat} {x : Int} (h : j < s.length) : ((s.set j (s.getD j [] ++ [x])).flatten).Perm (s.flatten ++ [x]) := by
  have e : s.getD j [] = s[j] := by simp [List.getD_eq_getElem?_getD, h]
  have e1 : s = s.take j ++ s[j] :: s.drop (j + 1) := by simp
  have e2 : s.set j (s[j] ++ [x]) = s.take j ++ (s[j] ++ [x]) :: s.drop (j + 1) := by
    rw [List.set_eq_take_append_cons_drop, if_pos h]
  rw [e, e2]
  have e3 : s.flatten = (s.take j).flatten ++ (s[j] ++ (s.drop (j + 1)).flatten) := by
    conv => lhs; rw [e1]
    rw [List.flatten_append, List.flatten_cons]
  rw [e3, List.flatten_append, List.flatten_cons, List.append_assoc, List.append_assoc, List.append_assoc]
  exact List.Perm.append_left _ (List.Perm.append_left _ (List.perm_append_comm (l₁ := [x])))
theorem lEven_good {t : List (List Int)} {m : Nat} (g : GoodT t m) : ∀ k, GoodS (lEven t k) t.length k
  | 0 => by
    have e0 : ∀ r ∈ lEven t 0, r = [] := fun r hr => by
      simp only [lEven, List.mem_map] at hr
      obtain ⟨_, _, rfl⟩ := hr
      rfl
    refine ⟨lEven_len t 0, fun r hr x hx => ?_, fun r hr => ?_, ?_⟩
    · rw [e0 r hr] at hx; cases hx
    · rw [e0 r hr]; exact List.Pairwise.nil
    · rw [List.flatten_eq_nil_iff.mpr e0]; exact List.nodup_nil
  | k + 1 => by
    have ih := lEven_good g k
    have hj : evTo t (lEven t k) < (lEven t k).length := by rw [lEven_len]; exact evTo_lt g.n1
    have hm : (lEven t k).getD (evTo t (lEven t k)) [] ∈ lEven t k := by simp [List.getD_eq_getElem?_getD, hj]
    refine ⟨lEven_len t (k + 1), fun r hr x hx => ?_, fun r hr => ?_, ?_⟩
    · unfold lEven at hr
      rcases List.mem_or_eq_of_mem_set hr with z | z
      · have := ih.bd r z x hx; omega
      · rw [z] at hx
        rcases List.mem_append.mp hx with y | y
        · have := ih.bd _ hm x y; omega
        · simp at y; omega
    · unfold lEven at hr
      rcases List.mem_or_eq_of_mem_set hr with z | z
      · exact ih.up r z
      · rw [z, List.pairwise_append]
        refine ⟨ih.up _ hm, by simp, fun a ha b hb => ?_⟩
        simp at hb
        have := ih.bd _ hm a ha
        omega
    · unfold lEven
      have p := flat_set (x := (k : Int)) hj
      rw [p.nodup_iff, List.nodup_append]
      refine ⟨ih.nd, by simp, fun a ha b hb => ?_⟩
      simp at hb
      obtain ⟨r, hr, hx⟩ := List.mem_flatten.mp ha
      have := ih.bd r hr a hx
      omega
theorem GoodS.mono {s : List (List Int)} {n m m' : Nat} (h : GoodS s n m) (hm : m ≤ m') : GoodS s n m' := ⟨h.n, fun r hr x hx => by have := h.bd r hr x hx; omega, h.up, h.nd⟩
theorem ev_in {t : List (List Int)} {m : Nat} (g : GoodT t m) {k : Nat} (hk : k ≤ m) {h : Nat} (hh : h < t.length) : ∀ x ∈ pyAt (lEven t k) (h : Int), inR (pyAt t (h : Int)).length x :=
  gs_b g ((lEven_good g k).mono hk) ⟨by omega, by omega⟩ ⟨by omega, by omega⟩
theorem lSums_pos {t f : List (List Int)} {m : Nat} (g : GoodT t m) : 0 < (lSums t f t.length).length := by
  have := g.n1
  simp [lSums]
  omega
theorem evTo_in {t : List (List Int)} {m : Nat} (g : GoodT t m) (k : Nat) : inR (lEven t k).length ((evTo t (lEven t k) : Nat) : Int) := by
  rw [lEven_len]
  have := evTo_lt (f := lEven t k) g.n1
  exact ⟨by omega, by omega⟩
theorem lEven_sz {t : List (List Int)} {m : Nat} (g : GoodT t m) {k : Nat} (hk : k ≤ m) (j : Nat) : ((lEven t k).getD j []).length < 16000000 := by
  by_cases h : j < (lEven t k).length
  · have := (lEven_good g k).row (show (lEven t k).getD j [] ∈ lEven t k by simp [List.getD_eq_getElem?_getD, h])
    have := g.m40
    omega
  · rw [List.getD_eq_getElem?_getD, List.getElem?_eq_none (by omega)]
    simp
theorem lEven_step (t : List (List Int)) (k : Nat) {j : Int} (hj : j = ((evTo t (lEven t k) : Nat) : Int)) : (lEven t k).set (pyIx (lEven t k).length j) ((lEven t k).getD (pyIx (lEven t k).length j) [] ++ [(k : Int)]) = lEven t (k + 1) := by
  rw [hj, pyIx_nat]
  rfl
def k6S (ns : List Int) : List (List Int) := if lAt ns 48 % 2 = 1 then lEven (lTable ns (nH ns) (nM ns)) (nM ns) else lShares ns (nH ns) (nM ns)
theorem k6S_good (ns : List Int) : GoodS (k6S ns) (lTable ns (nH ns) (nM ns)).length (nM ns) := by
  have b1 := nH_bd ns
  have g := lTable_good ns (n := nH ns) (many := nM ns) b1.1 b1.2 (by have := nM_bd ns; omega)
  unfold k6S
  split
  · exact lEven_good g _
  · have e : (lTable ns (nH ns) (nM ns)).length = nH ns := by simp [lTable]
    rw [e]
    exact lShares_good ns b1.1
/-- the table changed at one place -/
def k6T (ns : List Int) : List (List Int) :=
  let t := lTable ns (nH ns) (nM ns)
  t.set (pyIx t.length (lAt ns 49 % (nH ns : Int))) (pySet (t.getD (pyIx t.length (lAt ns 49 % (nH ns : Int))) []) (lAt ns 50 % (nM ns : Int)) (lAt ns 51 % 1000001))
theorem k6_in1 (ns : List Int) : inR (lTable ns (nH ns) (nM ns)).length (lAt ns 49 % (nH ns : Int)) := by
  have := mod_in (lAt ns 49) (nH_bd ns).1
  have e : (lTable ns (nH ns) (nM ns)).length = nH ns := by simp [lTable]
  exact ⟨by omega, by omega⟩
theorem k6_in2 (ns : List Int) (h : 0 < (nM ns : Int)) : inR ((lTable ns (nH ns) (nM ns)).getD (pyIx (lTable ns (nH ns) (nM ns)).length (lAt ns 49 % (nH ns : Int))) []).length (lAt ns 50 % (nM ns : Int)) := by
  have b1 := nH_bd ns
  have g := lTable_good ns (n := nH ns) (many := nM ns) b1.1 b1.2 (by have := nM_bd ns; omega)
  have h2 := (ixN_pyIx (k6_in1 ns)).2
  have e := g.len _ (show (lTable ns (nH ns) (nM ns)).getD (pyIx (lTable ns (nH ns) (nM ns)).length (lAt ns 49 % (nH ns : Int))) [] ∈ _ by simp [List.getD_eq_getElem?_getD, h2])
  rw [e]
  have := mod_in (lAt ns 50) (n := nM ns) (by omega)
  exact ⟨by omega, by omega⟩
theorem k6T_good (ns : List Int) : GoodT (k6T ns) (nM ns) := by
  have b1 := nH_bd ns
  have g := lTable_good ns (n := nH ns) (many := nM ns) b1.1 b1.2 (by have := nM_bd ns; omega)
  unfold k6T pySet
  exact set_good g (by omega)
theorem k6T_len (ns : List Int) : (k6T ns).length = (lTable ns (nH ns) (nM ns)).length := by simp [k6T]
theorem k6_none {t s : List (List Int)} {n : Nat} (hs : GoodS s n 0) : borneB t s = true := by
  have e : pairsOf t s = [] := by
    rw [List.eq_nil_iff_forall_not_mem]
    intro p hp
    obtain ⟨h, o, rfl, hh, ho, hf⟩ := mem_pairsOf.mp hp
    have z : ∀ i : Int, summed (pyAt t (h : Int)) (pyAt s i) = 0 := fun i => by
      have : pyAt s i = [] := by
        unfold pyAt
        have q : ∀ j : Nat, s.getD j default = [] := fun j => by
          by_cases hj : j < s.length
          · have := hs.row (show s.getD j default ∈ s by simp [List.getD_eq_getElem?_getD, hj])
            exact List.eq_nil_of_length_eq_zero (by omega)
          · rw [List.getD_eq_getElem?_getD, List.getElem?_eq_none (by omega)]; rfl
        split <;> exact q _
      rw [this]; rfl
    unfold feels at hf
    rw [z, z] at hf
    simp at hf
  unfold borneB
  rw [e]; rfl
end Th

set_option Elab.async false
set_option linter.all false
set_option maxRecDepth 100000
set_option maxHeartbeats 2000000
/-! return [name.pop(e) for k in range(n)], the name's list being of ints and the only owned thing -/
namespace DL
open PySem L2
def popS (idx : Nat → List Int → Int) (ms : List Int) : Nat → List Int × List Int
  | 0 => (ms, [])
  | k + 1 => ((popS idx ms k).1.eraseIdx (idx k (popS idx ms k).1).toNat, (popS idx ms k).2 ++ [(popS idx ms k).1.getD (idx k (popS idx ms k).1).toNat 0])
def slNo : Sl → Bool
  | .ow _ => false
  | .ob _ _ _ => false
  | .oa _ _ => false
  | _ => true
section
variable {Γ : Gm} {G H G2 H2 : Hp} {σ : L2.St} {ρ : List Sl} {A : List Addr} {i j : Nat} {a : Addr} {ls : List Int}
theorem SlR.noA {K : Fg} {I : Hp} : ∀ {σ ρ A}, SlR K I G H σ ρ A → ρ.all slNo = true → A = []
  | _, _, _, .nil, _ => rfl
  | _, _, _, .cons h r, q => by
    simp only [List.all_cons, Bool.and_eq_true] at q
    have e := SlR.noA r q.2
    subst e
    cases h with
    | ow _ => cases q.1
    | ob _ _ _ => cases q.1
    | oa _ => cases q.1
    | rb _ _ => rfl
    | un => rfl
    | v => rfl
    | sh _ => rfl
    | ro _ => rfl
    | sc _ => rfl
theorem SlR.unset {K : Fg} {I : Hp} : ∀ {σ ρ A} (k : Nat), SlR K I G H σ ρ A → ∃ B, SlR K I G H (σ.set k none) (ρ.set k .un) B ∧ B.Sublist A
  | _, _, _, _, .nil => ⟨[], .nil, List.Sublist.refl _⟩
  | _, _, _, 0, .cons (A := A0) h r => ⟨[] ++ _, .cons .un r, List.Sublist.append (List.nil_sublist _) (List.Sublist.refl _)⟩
  | _, _, _, k + 1, .cons (A := A0) h r => by
    obtain ⟨B, r', s⟩ := SlR.unset k r
    exact ⟨A0 ++ B, .cons h r', List.Sublist.append (List.Sublist.refl _) s⟩
/-- the one owned list -/
theorem SlR.one {K : Fg} {I : Hp} (r : SlR K I G H σ ρ A) (h : ρ[i]? = some (.ow (tl tI ls))) (hno : (ρ.set i .un).all slNo = true) : ∃ a, A = [a] ∧ σ[i]? = some (some (.ref a)) ∧ G a = none ∧ H a = some (.lst (ls.map V.int)) ∧
    ∀ G2 H2 ls', Ex G G2 → G2 a = none → H2 a = some (.lst (ls'.map V.int)) → SlR K I G2 H2 σ (ρ.set i (.ow (tl tI ls'))) [a] := by
  obtain ⟨o, A1, B, A2, h1, h2, h3, h4⟩ := r.focus h
  have z := (h4 G H none .un [] (Ex.refl _) (fun _ _ g => g) (fun _ _ => rfl) .un).noA hno
  have z1 : A1 = [] ∧ A2 = [] := by simpa using z
  obtain ⟨rfl, rfl⟩ := z1
  cases h2 with
  | @ow v _ _ q =>
    unfold tl at q
    cases q with
    | @cell _ a vs B0 hg hh r0 =>
      obtain ⟨e1, e2⟩ := r0.intsV
      subst e1 e2
      refine ⟨a, by simpa using h3, h1, hg, hh, fun G2 H2 ls' eg g2 h2 => ?_⟩
      have w := h4 G2 H2 (some (.ref a)) (.ow (tl tI ls')) [a] eg (fun b hb => by simp at hb) (fun b hb => by simp at hb) (.ow (OwnT.intsNew g2 h2))
      have e2 : σ.set i (some (V.ref a)) = σ := by
        obtain ⟨hi, e⟩ := List.getElem?_eq_some_iff.mp h1
        rw [← e]
        simp
      rw [e2] at w
      simpa using w
end
section
variable {X : Cx} {Γ : Gm} {ρ : List Sl} {a ek : Expr} {pos p p' apos cpos lpos : Pos} {E : En} {rest : List Stmt} {n : Str} {i j : Nat}
def RP (ρ : List Sl) (i j : Nat) (t : Nat) (ls : List Int) : List Sl := ((ρ.set j .un).set i (.ow (tl tI ls))).set j (.v (.int t))
def tePop (Γ : Gm) (ρ : List Sl) (i j m : Nat) (ms : List Int) (idx : Nat → List Int → Int) : TE := fun σ H Q => ∃ (t : Nat) (ls : List Int) (G : Hp) (a : Addr), t < m ∧ ls.length = ms.length - t ∧ SrA Γ G H σ (RP ρ i j t ls) [a] ∧
  ∀ G2 H2, Ex G G2 → SrA Γ G2 H2 σ (RP ρ i j t (ls.eraseIdx (idx t ls).toNat)) [a] → (∀ b o, b ≠ a → H b = some o → H2 b = some o) → (∀ b o, b ≠ a → G b = none → H b = some o → G2 b = none) → Q (.int (ls.getD (idx t ls).toNat 0)) H2
theorem RP_i {ρ : List Sl} (hij : i ≠ j) (hi : i < ρ.length) (t : Nat) (ls : List Int) : (RP ρ i j t ls)[i]? = some (.ow (tl tI ls)) := by
  unfold RP
  rw [List.getElem?_set_ne (Ne.symm hij)]
  simp [hi]
theorem RP_set {ρ : List Sl} (hij : i ≠ j) (t : Nat) (ls ls' : List Int) : (RP ρ i j t ls).set i (.ow (tl tI ls')) = RP ρ i j t ls' := by
  unfold RP
  rw [List.set_comm _ _ (Ne.symm hij), List.set_set]
theorem RP_no {ρ : List Sl} (hij : i ≠ j) (hno : (ρ.set i .un).all slNo = true) (t : Nat) (ls : List Int) : ((RP ρ i j t ls).set i .un).all slNo = true := by
  unfold RP
  rw [List.set_comm _ _ (Ne.symm hij), List.set_set]
  rw [List.all_eq_true] at hno ⊢
  intro s hs
  rcases List.mem_or_eq_of_mem_set hs with z | z
  · rw [List.set_comm _ _ (Ne.symm hij)] at z
    rcases List.mem_or_eq_of_mem_set z with y | y
    · exact hno s y
    · rw [y]; rfl
  · rw [z]; rfl
theorem pe_popK {X' : Cx} {m : Nat} {ms : List Int} {idx : Nat → List Int → Int} (hij : i ≠ j) (hil : i < ρ.length) (hno : (ρ.set i .un).all slNo = true)
    (hN : X'.N[i]? = some n) (hv : Vis X'.env.scope n) (hd : (n == ("__debug__" : Str)) = false) (hcd : (n == ("__classdict__" : Str)) = false)
    (hek : ∀ t ls, t < m → ls.length = ms.length - t → DV X' Γ (RP ρ i j t ls) ek (.int (idx t ls))) (hbd : ∀ t ls, t < m → ls.length = ms.length - t → 0 ≤ idx t ls ∧ idx t ls < ls.length ∧ idx t ls < 2 ^ 63)
    (hbase2 : attributeBase (.Name n p) "pop" X'.env (eval (.Name n p) X'.env) = eval (.Name n p) X'.env)
    (hfew2 : ((backTo cpos (starEach [ek] X'.env)).all (fun x => !x.1) && (backToKw cpos (keywordEach [] X'.env)).all (fun x => x.1.isSome) && decide (([ek] : List Expr).length + ([] : List Keyword).length + (if ([] : List Keyword).isEmpty then 0 else 1) < 30)) = true)
    (hline2 : (apos.endLine == cpos.line) = true) (hs2 : starEach [ek] X'.env = (false, eval ek X'.env) :: starEach [] X'.env) (hplain2 : (backTo cpos (starEach [] X'.env)).any (·.1) = false) :
    PE X' (.Call (.Attribute (.Name n p) "pop" apos) [ek] [] cpos) (tePop Γ ρ i j m ms idx) := by
  let tK : TE := fun σ H Q => ∃ (t : Nat) (ls : List Int) (G : Hp) (a : Addr), t < m ∧ ls.length = ms.length - t ∧ SrA Γ G H σ (RP ρ i j t ls) [a] ∧ ∀ G2 H2, Step G H G2 H2 → Ex G2 H2 → Q (.int (idx t ls)) H2
  have hK : PE X' ek tK := ⟨fun pins s σ H Q I ⟨t, ls, G, a, h1, h2, S, k⟩ => (hek t ls h1 h2).run pins s σ H Q I ⟨G, S.sr, fun v G2 H2 st ex (e : v = _) => by rw [e]; exact k G2 H2 st ex⟩⟩
  refine (pe_bm PySem.F.plainAttrs_list PySem.F.slot_list_pop PySem.F.type_list_pop mt_popAt (pe_var hN hv hd hcd) (pa_cons hK pa_nil hs2) hbase2 hfew2 hline2 hs2 hplain2).weak fun σ H Q ⟨t, ls, G, a, h1, h2, S, k⟩ => ?_
  obtain ⟨a', ea, e1, e2, e3, e4⟩ := S.sl.one (RP_i hij hil t ls) (RP_no hij hno t ls)
  cases ea
  refine ⟨_, e1, ty_list e3, t, ls, G, a, h1, h2, S, fun G2 H2 st ex => ?_⟩
  obtain ⟨q1, q2, q3⟩ := hbd t ls h1 h2
  have hkl : (idx t ls).toNat < ls.length := by omega
  have eg : (ls.map V.int)[(idx t ls).toNat]? = some (.int (ls.getD (idx t ls).toNat 0)) := by
    rw [List.getElem?_map, List.getElem?_eq_getElem hkl]
    simp [List.getD_eq_getElem?_getD, hkl]
  refine ⟨a, _, idx t ls, (idx t ls).toNat, _, rfl, rfl, st.h _ _ e3, by omega, q3, ?_, eg, ?_⟩
  · rw [PySem.seqIndex_of q1 (by rw [List.length_map]; exact q2)]
  have ga : G2 a = none := st.f _ _ e2 e3
  have aΓ : Γ.H a = none := S.fr a (by simp)
  have S2 := S.more st ex
  have w := e4 G2 (upd H2 a (.lst ((ls.map V.int).eraseIdx (idx t ls).toNat))) (ls.eraseIdx (idx t ls).toNat) st.g ga (by rw [upd_same, eraseIdx_map'])
  rw [RP_set hij] at w
  refine k G2 _ st.g ⟨⟨S2.step.g, S2.step.h.mut aΓ, S2.step.f⟩, ex.mut ga, w, by simp, by simpa using aΓ⟩ (fun b o hb ho => by rw [upd_ne hb]; exact st.h _ _ ho) (fun b o hb g0 ho => st.f _ _ g0 ho)
theorem ss_retPop (i j m : Nat) {kn : Str} {pn pr : Pos} {scope : Scope} {ms : List Int} (idx : Nat → List Int → Int) (xo : XO X) (h : ρ[i]? = some (.ow (tl tI ms))) (hij : i ≠ j) (hno : (ρ.set i .un).all slNo = true)
    (ha : DV X Γ ρ a (.int (m : Int))) (hm0 : m < 16000000) (hm : X.mg "range" = none)
    (ok : BlkOk X.N X.env.scope scope [(kn, j)])
    (hgg : ∀ (s : Shared) (H : Hp) (C : Addr) (cl : List (Str × Addr)) (fp : List Addr), PG (X.blk s H scope (compEnvC scope cl C X.env) fp) (.Name kn pn) (gName j))
    (hek : ∀ t ls, t < m → ls.length = ms.length - t → ∀ (s : Shared) (H : Hp) (C : Addr) (cl : List (Str × Addr)) (fp : List Addr), XO (X.blk s H scope (compEnvC scope cl C X.env) fp) → DV (X.blk s H scope (compEnvC scope cl C X.env) fp) Γ (RP ρ i j t ls) ek (.int (idx t ls))) (hbd : ∀ t ls, t < m → ls.length = ms.length - t → 0 ≤ idx t ls ∧ idx t ls < ls.length ∧ idx t ls < 2 ^ 63)
    (hE : E.rt (tl tI (popS idx ms m).2) []) (hml : m ≤ ms.length)
    (hN : ∀ (s : Shared) (H : Hp) (C : Addr) (cl : List (Str × Addr)) (fp : List Addr), (X.blk s H scope (compEnvC scope cl C X.env) fp).N[i]? = some n := by intros; rfl)
    (hv : ∀ (s : Shared) (H : Hp) (C : Addr) (cl : List (Str × Addr)) (fp : List Addr), Vis (X.blk s H scope (compEnvC scope cl C X.env) fp).env.scope n := by intros; first | exact Or.inl rfl | exact Or.inr (Or.inl rfl) | exact Or.inr (Or.inr rfl)) (hd : (n == ("__debug__" : Str)) = false := by decide) (hcd : (n == ("__classdict__" : Str)) = false := by decide)
    (hbase2 : ∀ (s : Shared) (H : Hp) (C : Addr) (cl : List (Str × Addr)) (fp : List Addr), attributeBase (.Name n p) "pop" (X.blk s H scope (compEnvC scope cl C X.env) fp).env (eval (.Name n p) (X.blk s H scope (compEnvC scope cl C X.env) fp).env) = eval (.Name n p) (X.blk s H scope (compEnvC scope cl C X.env) fp).env := by intros; rfl)
    (hfew2 : ∀ (s : Shared) (H : Hp) (C : Addr) (cl : List (Str × Addr)) (fp : List Addr), ((backTo cpos (starEach [ek] (X.blk s H scope (compEnvC scope cl C X.env) fp).env)).all (fun x => !x.1) && (backToKw cpos (keywordEach [] (X.blk s H scope (compEnvC scope cl C X.env) fp).env)).all (fun x => x.1.isSome) && decide (([ek] : List Expr).length + ([] : List Keyword).length + (if ([] : List Keyword).isEmpty then 0 else 1) < 30)) = true := by intros; rfl)
    (hline2 : (apos.endLine == cpos.line) = true := by rfl) (hs2 : ∀ (s : Shared) (H : Hp) (C : Addr) (cl : List (Str × Addr)) (fp : List Addr), starEach [ek] (X.blk s H scope (compEnvC scope cl C X.env) fp).env = (false, eval ek (X.blk s H scope (compEnvC scope cl C X.env) fp).env) :: starEach [] (X.blk s H scope (compEnvC scope cl C X.env) fp).env := by intros; rfl)
    (hplain2 : ∀ (s : Shared) (H : Hp) (C : Addr) (cl : List (Str × Addr)) (fp : List Addr), (backTo cpos (starEach [] (X.blk s H scope (compEnvC scope cl C X.env) fp).env)).any (·.1) = false := by intros; rfl)
    (hg : Gl X "range" := by rfl) (hs1 : starEach [a] X.env = (false, eval a X.env) :: starEach [] X.env := by rfl) (hs : starEach [a] X.env = [(false, eval a X.env)] := by rfl)
    (hs3 : ∀ x, foldedSetIterable (.Call (.Name "range" p') [a] [] pr) X.env x = pure x := by intro _; rfl) :
    SS X Γ ρ (.Return (some (.ListComp (.Call (.Attribute (.Name n p) "pop" apos) [ek] [] cpos) [⟨.Name kn pn, .Call (.Name "range" p') [a] [] pr, [], 0⟩] scope lpos)) pos :: rest) E := by
  have hil : i < ρ.length := (List.getElem?_eq_some_iff.mp h).1
  have xb : ∀ (s : Shared) (H : Hp) (C : Addr) (cl : List (Str × Addr)) (fp : List Addr), XO (X.blk s H scope (compEnvC scope cl C X.env) fp) := fun _ _ _ _ _ => ⟨xo.calm, xo.nd, xo.hu⟩
  have he := fun s H C cl fp => pe_popK (X' := X.blk s H scope (compEnvC scope cl C X.env) fp) (Γ := Γ) (m := m) (ms := ms) (idx := idx) (p := p) (apos := apos) (cpos := cpos) hij hil hno (hN s H C cl fp) (hv s H C cl fp) hd hcd (fun t ls h1 h2 => hek t ls h1 h2 s H C cl fp (xb _ _ _ _ _)) hbd (hbase2 s H C cl fp) (hfew2 s H C cl fp) hline2 (hs2 s H C cl fp) (hplain2 s H C cl fp)
  have hit : PI X (.Name kn pn) (.Call (.Name "range" p') [a] [] pr) (fun σ H R => ∃ G, Sr Γ G H σ ρ ∧ ∀ G1 H1, Step G H G1 H1 → Ex G1 H1 → R (Itr 0 m) H1) :=
    (pi_range1 hg hm (pa_cons ha pa_nil hs1) hs).weak fun σ H R ⟨G, S, k⟩ => ⟨G, S, fun v G1 H1 s1 e1 (q : v = .int m) => by
      rw [q]
      refine ⟨m, rfl, by omega, by omega, ?_⟩
      have := k G1 H1 s1 e1
      rwa [show ((m : Int)).toNat = m by omega]⟩
  have plen : ∀ k, k ≤ m → (popS idx ms k).1.length = ms.length - k := by
    intro k
    induction k with
    | zero => intro _; simp [popS]
    | succ k ih =>
      intro hk
      have ih := ih (by omega)
      obtain ⟨q1, q2, q3⟩ := hbd k (popS idx ms k).1 (by omega) ih
      simp only [popS, List.length_eraseIdx]
      rw [if_pos (by omega)]
      omega
  have plen2 : ∀ k, (popS idx ms k).2.length = k := by
    intro k
    induction k with
    | zero => simp [popS]
    | succ k ih => simp only [popS, List.length_append, ih]; rfl
  let Rw : Nat → List Sl := fun k => (ρ.set j .un).set i (.ow (tl tI (popS idx ms k).1))
  have RwP : ∀ k, (Rw k).set j (.v (.int (k : Int))) = RP ρ i j k (popS idx ms k).1 := fun k => rfl
  have RwU : ∀ k, (RP ρ i j k ((popS idx ms k).1.eraseIdx (idx k (popS idx ms k).1).toNat)).set j .un = Rw (k + 1) := fun k => by
    show (((ρ.set j .un).set i _).set j _).set j .un = (ρ.set j .un).set i _
    rw [List.set_set, List.set_comm _ _ hij, List.set_set]
    rfl
  refine ss_cons (M := fun _ => False) ((ps_ret (pe_lc xo.calm xo.nd hit ok hgg (fun _ _ _ _ _ => pts_nil) he hs3)).weak fun D σ H ⟨G, S, k⟩ => ?_) fun _ e => e.elim
  refine ⟨G, S, fun G1 H1 s1 e1 Dd hD => ?_⟩
  have S1 := S.more s1 e1
  obtain ⟨A, SA⟩ := S1.ad
  obtain ⟨a', eA, o0, g0, h0, _⟩ := SA.sl.one h hno
  subst eA
  have hne : Dd ≠ a' := fun z => by rw [z, h0] at hD; cases hD
  have DΓ : Γ.H Dd = none := S1.step.h.none hD
  have aΓ : Γ.H a' = none := SA.fr a' (by simp)
  have w0 : SlR Γ.K Γ.H G1 H1 (σ.set j none) (Rw 0) [a'] := by
    obtain ⟨B, r, sub⟩ := SA.sl.unset j
    have hi' : (ρ.set j .un)[i]? = some (.ow (tl tI ms)) := by rw [List.getElem?_set_ne (Ne.symm hij)]; exact h
    have hno' : ((ρ.set j .un).set i .un).all slNo = true := by
      rw [List.all_eq_true] at hno ⊢
      intro s hs
      rw [List.set_comm _ _ (Ne.symm hij)] at hs
      rcases List.mem_or_eq_of_mem_set hs with y | y
      · exact hno s y
      · rw [y]; rfl
    obtain ⟨a2, eB, o2, g2, h2, kk⟩ := r.one hi' hno'
    have : a2 = a' := by
      rw [eB] at sub
      simpa using sub
    subst this
    exact kk G1 H1 ms (Ex.refl _) g2 h2
  refine ⟨fun k μ H' => μ = m - k ∧ k ≤ m ∧ ∃ G', SrA Γ G' H' (σ.set j none) (Rw k) [a'] ∧ H' Dd = some (.lst ((popS idx ms k).2.map V.int)) ∧ G' Dd = none, ⟨m, by simp, Nat.zero_le _, G1, ⟨S1.step.trans (Step.laid hD), e1.trans (Ex.new hD), w0.more (Step.laid hD), by simp, by simpa using aΓ⟩, upd_same, e1.none hD⟩, ?_⟩
  rintro kq μ H' ⟨rfl, him, G', S', hDl, gD⟩
  by_cases hlt : kq < m
  · refine .inr ⟨hlt, fun H2 => ∃ G2, SrA Γ G2 H2 (σ.set j none) (Rw (kq + 1)) [a'] ∧ H2 Dd = some (.lst ((popS idx ms (kq + 1)).2.map V.int)) ∧ G2 Dd = none, fun H2 z => ⟨m - (kq + 1), by omega, rfl, hlt, z⟩, fun x H'' hy => ?_⟩
    obtain ⟨rfl, rfl⟩ := hy
    have hw1 : wipe σ [j] = σ.set j none := rfl
    refine ⟨?_, ?_⟩
    · show wipe ((wipe σ [j]).set j _) [j] = wipe σ [j]
      rw [wipe_set (by simp), wipe_wipe]
    simp only [tYes, if_true]
    have hun : (Rw kq)[j]? = some .un ∨ (Rw kq)[j]? = none := by
      by_cases hj : j < ρ.length
      · exact .inl (by simp only [Rw]; rw [List.getElem?_set_ne hij, List.getElem?_set_self hj])
      · exact .inr (List.getElem?_eq_none (by simp [Rw]; omega))
    have S3 : SrA Γ G' H'' ((σ.set j none).set j (some (V.int (0 + (kq : Int))))) (RP ρ i j kq (popS idx ms kq).1) [a'] := by
      rw [← RwP, Int.zero_add]
      refine ⟨S'.step, S'.sub, ?_, S'.nd, S'.fr⟩
      rcases hun with z | z
      · obtain ⟨o, A1, B, A2, q1, q2, q3, q4⟩ := S'.sl.focus z
        cases q2
        have := q4 G' H'' (some (.int (kq : Int))) (.v (.int (kq : Int))) [] (Ex.refl _) (fun _ _ g => g) (fun _ _ => rfl) .v
        rw [← q3] at this
        exact this
      · have l1 := S'.sl.len
        have l2 : (Rw kq).length ≤ j := List.getElem?_eq_none_iff.mp z
        rw [List.length_set] at l1
        have e1 : (σ.set j none).set j (some (V.int (kq : Int))) = σ.set j none := List.set_eq_of_length_le (by rw [List.length_set]; omega)
        rw [e1, List.set_eq_of_length_le l2]
        exact S'.sl
    refine ⟨kq, _, G', a', hlt, plen kq him, S3, fun G2 H2 eg S2 kk kg => ?_⟩
    have hD2 := kk Dd _ hne hDl
    have gD2 := kg Dd _ hne gD hDl
    refine ⟨_, hD2, by rw [List.length_map, plen2]; exact Nat.lt_trans hlt (Nat.lt_trans hm0 (by decide)), G2, ⟨⟨S2.step.g, S2.step.h.mut DΓ, S2.step.f⟩, S2.sub.mut gD2, ?_, by simp, by simpa using aΓ⟩, by rw [upd_same]; simp only [popS, List.map_append]; rfl, gD2⟩
    obtain ⟨B, r, sub⟩ := S2.sl.unset j
    rw [RwU, List.set_set] at r
    change SlR Γ.K Γ.H G2 H2 ((σ.set j none).set j none) (Rw (kq + 1)) B at r
    rw [List.set_set] at r
    have hi' : (Rw (kq + 1))[i]? = some (.ow (tl tI (popS idx ms (kq + 1)).1)) := by simp [Rw, hil]
    have hno' : ((Rw (kq + 1)).set i .un).all slNo = true := by
      simp only [Rw]
      rw [List.set_set]
      rw [List.all_eq_true] at hno ⊢
      intro s hs
      rw [List.set_comm _ _ (Ne.symm hij)] at hs
      rcases List.mem_or_eq_of_mem_set hs with y | y
      · exact hno s y
      · rw [y]; rfl
    obtain ⟨a2, eB, o2, g2, h2, _⟩ := r.one hi' hno'
    have : a2 = a' := by
      rw [eB] at sub
      simpa using sub
    subst this
    rw [eB] at r
    exact r.frame (Ex.refl _) (fun _ _ g => g) (fun b hb => upd_ne fun z => hne (by simp at hb; rw [← z, hb]))
  · have e : kq = m := by omega
    subst e
    exact .inl ⟨Nat.le_refl _, k.rt _ [] [] (.ref Dd) G' H' [Dd] hE S'.step S'.sub (OwnT.intsNew gD hDl) (by simp) (by simpa using DΓ) ⟨[], .nil, by simp, fun _ z => by cases z⟩⟩
end
end DL

set_option Elab.async false
set_option linter.all false
set_option maxRecDepth 100000
set_option maxHeartbeats 2000000
/-! lists of two or three things of several kinds -/
namespace DL
open PySem L2
def dH2 {α β : Type} (f : α → D) (g : β → D) (p : α × β) : D := .list [f p.1, g p.2]
def dH3 {α β γ : Type} (f : α → D) (g : β → D) (h : γ → D) (p : α × β × γ) : D := .list [f p.1, g p.2.1, h p.2.2]
def tH2 {α β : Type} (f : α → OT) (g : β → OT) (p : α × β) : OT := .cell [f p.1, g p.2]
def tH3 {α β γ : Type} (f : α → OT) (g : β → OT) (h : γ → OT) (p : α × β × γ) : OT := .cell [f p.1, g p.2.1, h p.2.2]
theorem er_cell (ts : List OT) : (OT.cell ts).er = .list (ts.map OT.er) := by
  unfold OT.er
  rw [ers_map]
instance {α β : Type} (f : α → OT) (g : β → OT) (f' : α → D) (g' : β → D) [h : Er f f'] [k : Er g g'] : Er (tH2 f g) (dH2 f' g') := ⟨fun x => by
  unfold tH2 dH2
  rw [er_cell]
  simp [h.er, k.er]⟩
instance {α β γ : Type} (f : α → OT) (g : β → OT) (q : γ → OT) (f' : α → D) (g' : β → D) (q' : γ → D) [h : Er f f'] [k : Er g g'] [l : Er q q'] : Er (tH3 f g q) (dH3 f' g' q') := ⟨fun x => by
  unfold tH3 dH3
  rw [er_cell]
  simp [h.er, k.er, l.er]⟩
instance {α β : Type} (f : α → D) (g : β → D) (n m : Nat) [h : EqN f n] [k : EqN g m] : EqN (dH2 f g) (n + m + 1) := ⟨fun x y => by
    unfold dH2
    simp only [PyData.eqv, PyData.eqvAll, Bool.and_eq_true, h.eqv, k.eqv, Prod.ext_iff, and_true], fun x => by simp [dH2, PyData.canLay0, PyData.canLayAll0, h.lay, k.lay], fun x => by
    have := h.dep x.1
    have := k.dep x.2
    simp only [dH2, PyData.depth, PyData.depthAll]
    omega⟩
instance {α β γ : Type} (f : α → D) (g : β → D) (q : γ → D) (n m l : Nat) [h : EqN f n] [k : EqN g m] [j : EqN q l] : EqN (dH3 f g q) (n + m + l + 1) := ⟨fun x y => by
    unfold dH3
    simp only [PyData.eqv, PyData.eqvAll, Bool.and_eq_true, h.eqv, k.eqv, j.eqv, Prod.ext_iff, and_true], fun x => by simp [dH3, PyData.canLay0, PyData.canLayAll0, h.lay, k.lay, j.lay], fun x => by
    have := h.dep x.1
    have := k.dep x.2.1
    have := j.dep x.2.2
    simp only [dH3, PyData.depth, PyData.depthAll]
    omega⟩
section
variable {X : Cx} {Γ : Gm} {ρ : List Sl} {e a b : Expr} {pos : Pos} {κ : Kd} {α β γ : Type} {f : α → D} {g : β → D} {q : γ → D}
theorem de_H0 {p : α × β} (ha : DE X Γ ρ a κ (dH2 f g p)) (hb : DV X Γ ρ b (.int 0)) (hs : PlainIx b := by intro _ _; rfl) : DE X Γ ρ (.Subscript a b pos) κ (f p.1) := de_at ha hb rfl hs
theorem de_H1 {p : α × β} (ha : DE X Γ ρ a κ (dH2 f g p)) (hb : DV X Γ ρ b (.int 1)) (hs : PlainIx b := by intro _ _; rfl) : DE X Γ ρ (.Subscript a b pos) κ (g p.2) := de_at ha hb rfl hs
theorem de_J0 {p : α × β × γ} (ha : DE X Γ ρ a κ (dH3 f g q p)) (hb : DV X Γ ρ b (.int 0)) (hs : PlainIx b := by intro _ _; rfl) : DE X Γ ρ (.Subscript a b pos) κ (f p.1) := de_at ha hb rfl hs
theorem de_J1 {p : α × β × γ} (ha : DE X Γ ρ a κ (dH3 f g q p)) (hb : DV X Γ ρ b (.int 1)) (hs : PlainIx b := by intro _ _; rfl) : DE X Γ ρ (.Subscript a b pos) κ (g p.2.1) := de_at ha hb rfl hs
theorem de_J2 {p : α × β × γ} (ha : DE X Γ ρ a κ (dH3 f g q p)) (hb : DV X Γ ρ b (.int 2)) (hs : PlainIx b := by intro _ _; rfl) : DE X Γ ρ (.Subscript a b pos) κ (q p.2.2) := de_at ha hb rfl hs
end
end DL

set_option Elab.async false
set_option linter.all false
set_option maxRecDepth 100000
/-! picked in turn -/
namespace Th
open PySem L2 DL
def withThing (s : List (List Int)) (h x : Int) : List (List Int) := pySet s h (sortI (pyAt s h ++ [x]))
def pk (t : List (List Int)) (ord : List Int) (m : Nat) : Nat → List Int × List (List Int)
  | 0 => (rgI m, t.map fun _ => [])
  | k + 1 => ((pk t ord m k).1.erase (dearest (pyAt t (pyAt ord ((k : Int) % (ord.length : Int)))) (pk t ord m k).1), withThing (pk t ord m k).2 (pyAt ord ((k : Int) % (ord.length : Int))) (dearest (pyAt t (pyAt ord ((k : Int) % (ord.length : Int)))) (pk t ord m k).1))
/-- an order of all heirs -/
structure GoodO (ord : List Int) (n : Nat) : Prop where
  len : ord.length = n
  bd : ∀ x ∈ ord, 0 ≤ x ∧ x < (n : Int)
  nd : ord.Nodup
section
variable {t : List (List Int)} {ord : List Int} {m : Nat}
/-- whose turn it is -/
def tn (ord : List Int) (k : Nat) : Int := pyAt ord ((k : Int) % (ord.length : Int))
/-- what is picked at a turn -/
def px (t : List (List Int)) (ord : List Int) (m k : Nat) : Int := dearest (pyAt t (tn ord k)) (pk t ord m k).1
theorem pk_s (k : Nat) : pk t ord m (k + 1) = ((pk t ord m k).1.erase (px t ord m k), withThing (pk t ord m k).2 (tn ord k) (px t ord m k)) := rfl
theorem tn_in (g : GoodT t m) (o : GoodO ord t.length) (k : Nat) : inR ord.length ((k : Int) % (ord.length : Int)) := by
  have := mod_in (k : Int) (n := ord.length) (by rw [o.len]; exact g.n1)
  exact ⟨by omega, by omega⟩
theorem tn_bd (g : GoodT t m) (o : GoodO ord t.length) (k : Nat) : 0 ≤ tn ord k ∧ tn ord k < (t.length : Int) := o.bd _ (pyAt_mem (tn_in g o k))
theorem tn_inR (g : GoodT t m) (o : GoodO ord t.length) (k : Nat) : inR t.length (tn ord k) := by have := tn_bd g o k; exact ⟨by omega, by omega⟩
theorem sub_bd {l : List Int} (h : l.Sublist (rgI m)) : ∀ x ∈ l, 0 ≤ x ∧ x < (m : Int) := fun x hx => rgI_mem.mp (h.subset hx)
theorem rgI_up (m : Nat) : (rgI m).Pairwise (· < ·) := by
  unfold rgI
  rw [List.pairwise_map]
  have : (List.range m).Pairwise (· < ·) := List.pairwise_lt_range
  exact this.imp fun h => by omega
theorem pk_left (g : GoodT t m) (o : GoodO ord t.length) : ∀ k, k ≤ m → (pk t ord m k).1.length = m - k ∧ (pk t ord m k).1.Sublist (rgI m) ∧ (k < m → px t ord m k ∈ (pk t ord m k).1)
  | 0, _ => by
    have hx : 0 < m → px t ord m 0 ∈ (pk t ord m 0).1 := fun h => dearF_mem (by show 0 < (rgI m).length; rw [rgI_len]; exact h) _ (Nat.le_refl _)
    exact ⟨by simp [pk, rgI], List.Sublist.refl _, hx⟩
  | k + 1, h => by
    obtain ⟨h1, h2, h3⟩ := pk_left g o k (by omega)
    have e : (pk t ord m (k + 1)).1.length = m - (k + 1) := by
      rw [pk_s]
      show ((pk t ord m k).1.erase (px t ord m k)).length = _
      rw [List.length_erase_of_mem (h3 (by omega)), h1]
      omega
    exact ⟨e, (List.erase_sublist).trans h2, fun hk => dearF_mem (by rw [e]; omega) _ (Nat.le_refl _)⟩
theorem withThing_len (s : List (List Int)) (h x : Int) : (withThing s h x).length = s.length := by simp [withThing, pySet]
theorem pk_len (g : GoodT t m) : ∀ k, (pk t ord m k).2.length = t.length
  | 0 => by simp [pk]
  | k + 1 => by rw [pk_s]; show (withThing _ _ _).length = _; rw [withThing_len]; exact pk_len g k
theorem withThing_perm {s : List (List Int)} {h x : Int} (hh : inR s.length h) : (withThing s h x).flatten.Perm (s.flatten ++ [x]) := by
  have hj := (ixN_pyIx hh).2
  unfold withThing pySet
  rw [pyAt_ix]
  have e : s.getD (pyIx s.length h) default = s[pyIx s.length h] := by simp [List.getD_eq_getElem?_getD, hj]
  have e1 : s = s.take (pyIx s.length h) ++ s[pyIx s.length h] :: s.drop (pyIx s.length h + 1) := by simp
  rw [List.set_eq_take_append_cons_drop, if_pos hj]
  have e3 : s.flatten = (s.take (pyIx s.length h)).flatten ++ (s[pyIx s.length h] ++ (s.drop (pyIx s.length h + 1)).flatten) := by
    conv => lhs; rw [e1]
    rw [List.flatten_append, List.flatten_cons]
  rw [e3, List.flatten_append, List.flatten_cons, List.append_assoc, List.append_assoc, e]
  refine List.Perm.append_left _ (((sortI_perm _).append_right _).trans ?_)
  rw [List.append_assoc]
  exact List.Perm.append_left _ List.perm_append_comm
theorem pk_perm (g : GoodT t m) (o : GoodO ord t.length) : ∀ k, k ≤ m → ((pk t ord m k).1 ++ (pk t ord m k).2.flatten).Perm (rgI m)
  | 0, _ => by
    have : (t.map fun _ => ([] : List Int)).flatten = [] := by
      rw [List.flatten_eq_nil_iff]
      intro l hl
      obtain ⟨_, _, rfl⟩ := List.mem_map.mp hl
      rfl
    show (rgI m ++ (t.map fun _ => ([] : List Int)).flatten).Perm _
    rw [this, List.append_nil]
  | k + 1, h => by
    obtain ⟨h1, h2, h3⟩ := pk_left g o k (by omega)
    refine List.Perm.trans ?_ (pk_perm g o k (by omega))
    rw [pk_s]
    show ((pk t ord m k).1.erase (px t ord m k) ++ (withThing _ _ _).flatten).Perm _
    have p1 := withThing_perm (x := px t ord m k) (show inR (pk t ord m k).2.length (tn ord k) by rw [pk_len g]; exact tn_inR g o k)
    refine (List.Perm.append_left _ p1).trans ?_
    have p2 : (px t ord m k :: (pk t ord m k).1.erase (px t ord m k)).Perm (pk t ord m k).1 := (List.perm_cons_erase (h3 (by omega))).symm
    refine List.Perm.trans ?_ (p2.append_right _)
    rw [← List.append_assoc]
    exact List.perm_append_singleton _ _
end
end Th
namespace Th
open PySem L2 DL
/-- what is taken at the places of one kind -/
def Vs (n : Nat) (y : Nat → Int) (c k : Nat) : Int := (((List.range k).filter fun j => decide (j % n = c)).map y).sum
theorem Vs_succ (n : Nat) (y : Nat → Int) (c k : Nat) : Vs n y c (k + 1) = Vs n y c k + if k % n = c then y k else 0 := by
  unfold Vs
  rw [List.range_succ, List.filter_append, List.map_append, List.sum_append]
  by_cases h : k % n = c <;> simp [h]
theorem mod_step {n k : Nat} (hn : 0 < n) : (k % n + 1 = n ∧ (k + 1) % n = 0) ∨ (k % n + 1 < n ∧ (k + 1) % n = k % n + 1) := by
  have h := Nat.mod_lt k hn
  by_cases e : k % n + 1 = n
  · left
    refine ⟨e, ?_⟩
    by_cases h1 : n = 1
    · subst h1; omega
    · rw [Nat.add_mod, Nat.mod_eq_of_lt (show 1 < n by omega), e, Nat.mod_self]
  · right
    refine ⟨by omega, ?_⟩
    rw [Nat.add_mod, Nat.mod_eq_of_lt (show 1 < n by omega), Nat.mod_eq_of_lt (show k % n + 1 < n by omega)]
theorem ahead {n : Nat} {y : Nat → Int} {a b M : Nat} (hab : a < b) (hb : b < n) (nn : ∀ j, j < M → 0 ≤ y j) (pref : ∀ i j, i < j → j < M → i % n = a → y j ≤ y i) :
    ∀ k, k ≤ M → Vs n y b k ≤ Vs n y a k ∧ (a < k % n → k % n ≤ b → ∃ i, i < k ∧ i % n = a ∧ Vs n y b k + y i ≤ Vs n y a k) := by
  intro k
  induction k with
  | zero => intro _; exact ⟨Int.le_refl _, fun h => by simp at h⟩
  | succ k ih =>
    intro hk
    obtain ⟨h1, h2⟩ := ih (by omega)
    have hy := nn k (by omega)
    have ms := mod_step (n := n) (k := k) (by omega)
    rw [Vs_succ, Vs_succ]
    by_cases ra : k % n = a
    · clear h2 ih
      rw [if_pos ra, if_neg (by omega)]
      exact ⟨by omega, fun _ _ => ⟨k, by omega, ra, by omega⟩⟩
    · rw [if_neg ra]
      by_cases rb : k % n = b
      · rw [if_pos rb]
        obtain ⟨i, q1, q2, q3⟩ := h2 (by clear h2 ih; omega) (by clear h2 ih; omega)
        have := pref i k q1 (by omega) q2
        clear h2 ih
        exact ⟨by omega, fun z1 z2 => by omega⟩
      · rw [if_neg rb]
        refine ⟨(by clear h2 ih; omega), fun z1 z2 => ?_⟩
        obtain ⟨i, q1, q2, q3⟩ := h2 (by clear h2 ih; omega) (by clear h2 ih; omega)
        clear h2 ih
        exact ⟨i, by omega, q2, by omega⟩
theorem Vs_0 {n : Nat} {y : Nat → Int} {a : Nat} (ha : a < n) : ∀ k, k ≤ a → Vs n y a k = 0 := by
  intro k
  induction k with
  | zero => intro _; rfl
  | succ k ih =>
    intro hk
    rw [Vs_succ, ih (by omega), Nat.mod_eq_of_lt (by omega), if_neg (by omega)]
    rfl
theorem Vs_nn {n : Nat} {y : Nat → Int} {M : Nat} (nn : ∀ j, j < M → 0 ≤ y j) (c : Nat) : ∀ k, k ≤ M → 0 ≤ Vs n y c k := by
  intro k
  induction k with
  | zero => intro _; exact Int.le_refl _
  | succ k ih =>
    intro hk
    have := ih (by omega)
    have := nn k (by omega)
    rw [Vs_succ]
    split <;> omega
theorem bears {n : Nat} {y : Nat → Int} {a b M : Nat} (hab : a < b) (hb : b < n) (nn : ∀ j, j < M → 0 ≤ y j) (pref : ∀ i j, i < j → j < M → i % n = b → y j ≤ y i) :
    ∀ k, a < k → k ≤ M → Vs n y a k - y a ≤ Vs n y b k ∧ (b < k % n ∨ k % n ≤ a → ∃ i, i < k ∧ i % n = b ∧ Vs n y a k - y a + y i ≤ Vs n y b k) := by
  intro k
  induction k with
  | zero => intro h; omega
  | succ k ih =>
    intro hak hk
    have hy := nn k (by omega)
    have ms := mod_step (n := n) (k := k) (by omega)
    by_cases e : k = a
    · clear ih
      subst e
      have hr : k % n = k := Nat.mod_eq_of_lt (by omega)
      have h0 := Vs_0 (y := y) (show k < n by omega) k (Nat.le_refl _)
      have hb0 := Vs_nn nn b k (n := n) (by omega)
      rw [Vs_succ, Vs_succ, hr, if_pos rfl, if_neg (by omega)]
      refine ⟨by omega, fun z => ?_⟩
      omega
    obtain ⟨h1, h2⟩ := ih (by omega) (by omega)
    rw [Vs_succ, Vs_succ]
    by_cases rb : k % n = b
    · clear h2 ih
      rw [if_pos rb, if_neg (by omega)]
      exact ⟨by omega, fun _ => ⟨k, by omega, rb, by omega⟩⟩
    · rw [if_neg rb]
      by_cases ra : k % n = a
      · rw [if_pos ra]
        obtain ⟨i, q1, q2, q3⟩ := h2 (by clear h2 ih; omega)
        have := pref i k q1 (by omega) q2
        clear h2 ih
        exact ⟨by omega, fun z => by omega⟩
      · rw [if_neg ra]
        refine ⟨(by clear h2 ih; omega), fun z => ?_⟩
        obtain ⟨i, q1, q2, q3⟩ := h2 (by clear h2 ih; omega)
        clear h2 ih
        exact ⟨i, by omega, q2, by omega⟩
theorem sum_perm {xs ys : List Int} (h : xs.Perm ys) : xs.sum = ys.sum := by
  induction h with
  | nil => rfl
  | cons a _ ih => rw [List.sum_cons, List.sum_cons, ih]
  | swap a b l => simp only [List.sum_cons]; omega
  | trans _ _ h1 h2 => rw [h1, h2]
theorem summed_perm {row : List Int} {xs ys : List Int} (h : xs.Perm ys) : summed row xs = summed row ys := sum_perm (h.map _)
theorem pyAt_set {α : Type} [Inhabited α] {s : List α} {h h' : Int} {v : α} (h0 : 0 ≤ h) (h1 : h < s.length) (h0' : 0 ≤ h') : pyAt (pySet s h v) h' = if h = h' then v else pyAt s h' := by
  obtain ⟨a, rfl⟩ : ∃ a : Nat, h = a := ⟨h.toNat, by omega⟩
  obtain ⟨b, rfl⟩ : ∃ b : Nat, h' = b := ⟨h'.toNat, by omega⟩
  unfold pySet
  rw [pyIx_nat, pyAt_nat, pyAt_nat]
  by_cases e : a = b
  · subst e
    rw [if_pos rfl]
    simp [List.getD_eq_getElem?_getD, show a < s.length by omega]
  · rw [if_neg (by omega)]
    simp only [List.getD_eq_getElem?_getD]
    rw [List.getElem?_set_ne e]
theorem perm_of_nd {xs ys : List Int} (h1 : xs.Nodup) (h2 : ∀ x ∈ xs, x ∈ ys) (h3 : ys.length = xs.length) : xs.Perm ys := by
  induction xs generalizing ys with
  | nil => rw [List.eq_nil_of_length_eq_zero h3]
  | cons a as ih =>
    have ha := h2 a (by simp)
    have nd := List.nodup_cons.mp h1
    have := ih (ys := ys.erase a) nd.2 (fun x hx => (List.mem_erase_of_ne (fun (z : x = a) => nd.1 (z ▸ hx))).mpr (h2 x (by simp [hx]))) (by rw [List.length_erase_of_mem ha]; simp at h3; omega)
    exact (this.cons a).trans (List.perm_cons_erase ha).symm
section
variable {t : List (List Int)} {ord : List Int} {m : Nat}
theorem tn_at (ord : List Int) (k : Nat) : tn ord k = ord.getD (k % ord.length) default := by
  unfold tn
  rw [← pyAt_nat]
  congr 1
theorem tn_eq (g : GoodT t m) (o : GoodO ord t.length) {a k : Nat} (ha : a < ord.length) : tn ord k = ord.getD a default ↔ k % ord.length = a := by
  rw [tn_at]
  have hk : k % ord.length < ord.length := Nat.mod_lt _ (by omega)
  constructor
  · intro h
    simp only [List.getD_eq_getElem?_getD, List.getElem?_eq_getElem hk, List.getElem?_eq_getElem ha, Option.getD_some] at h
    exact (List.getElem_inj o.nd).mp h
  · intro h; rw [h]
theorem row_perm (g : GoodT t m) (o : GoodO ord t.length) {a : Nat} (ha : a < ord.length) : ∀ k, k ≤ m → (pyAt (pk t ord m k).2 (ord.getD a default)).Perm (((List.range k).filter fun j => decide (j % ord.length = a)).map fun j => px t ord m j)
  | 0, _ => by
    have e : pyAt (pk t ord m 0).2 (ord.getD a default) = [] := by
      unfold pyAt pk
      have q : ∀ j : Nat, (t.map fun _ => ([] : List Int)).getD j default = [] := fun j => by
        rw [List.getD_eq_getElem?_getD, List.getElem?_map]
        cases t[j]? <;> rfl
      split <;> exact q _
    rw [e]
    exact List.Perm.refl _
  | k + 1, h => by
    have ih := row_perm g o ha k (by omega)
    have ho := o.bd _ (show ord.getD a default ∈ ord by simp [List.getD_eq_getElem?_getD, ha])
    have ht := tn_bd g o k
    rw [pk_s, List.range_succ, List.filter_append, List.map_append]
    show (pyAt (withThing _ _ _) _).Perm _
    unfold withThing
    rw [pyAt_set ht.1 (by rw [pk_len g]; exact ht.2) ho.1]
    by_cases e : k % ord.length = a
    · have e2 := (tn_eq g o ha).mpr e
      rw [if_pos e2, e2]
      simp only [List.filter_cons, e, decide_true, if_true, List.filter_nil, List.map_cons, List.map_nil]
      exact (sortI_perm _).trans (ih.append_right _)
    · rw [if_neg (fun z => e ((tn_eq g o ha).mp z))]
      simp only [List.filter_cons, e, decide_false, Bool.false_eq_true, if_false, List.filter_nil, List.map_nil, List.append_nil]
      exact ih
theorem row_sum (g : GoodT t m) (o : GoodO ord t.length) {a : Nat} (ha : a < ord.length) (row : List Int) {k : Nat} (hk : k ≤ m) : summed row (pyAt (pk t ord m k).2 (ord.getD a default)) = Vs ord.length (fun j => pyAt row (px t ord m j)) a k := by
  rw [summed_perm (row_perm g o ha k hk)]
  unfold summed Vs
  rw [List.map_map]
  rfl
theorem px_mem (g : GoodT t m) (o : GoodO ord t.length) {j : Nat} (hj : j < m) : px t ord m j ∈ pyAt (pk t ord m m).2 (tn ord j) := by
  have ha : j % ord.length < ord.length := Nat.mod_lt _ (by rw [o.len]; exact g.n1)
  rw [tn_at]
  refine (row_perm g o ha m (Nat.le_refl _)).mem_iff.mpr ?_
  exact List.mem_map.mpr ⟨j, List.mem_filter.mpr ⟨List.mem_range.mpr hj, by simp⟩, rfl⟩
theorem pk_sub (g : GoodT t m) (o : GoodO ord t.length) {i j : Nat} (h : i ≤ j) : (pk t ord m j).1.Sublist (pk t ord m i).1 := by
  induction j with
  | zero => have : i = 0 := by omega
            subst this; exact List.Sublist.refl _
  | succ j ih =>
    by_cases e : i = j + 1
    · subst e; exact List.Sublist.refl _
    · exact (List.erase_sublist).trans (ih (by omega))
theorem px_pref (g : GoodT t m) (o : GoodO ord t.length) {c : Nat} (hc : c < ord.length) : ∀ i j, i < j → j < m → i % ord.length = c → pyAt (pyAt t (ord.getD c default)) (px t ord m j) ≤ pyAt (pyAt t (ord.getD c default)) (px t ord m i) := fun i j hij hj hi => by
  have li := pk_left g o i (by omega)
  have lj := pk_left g o j (by omega)
  have hx := (pk_sub g o (Nat.le_of_lt hij)).subset (lj.2.2 hj)
  have sp := dearest_spec (row := pyAt t (tn ord i)) (things := (pk t ord m i).1) (by rw [li.1]; omega) ((rgI_up m).sublist li.2.1)
  rw [← (tn_eq g o hc).mpr hi]
  exact sp.2.1 _ hx
theorem px_bd (g : GoodT t m) (o : GoodO ord t.length) {j : Nat} (hj : j < m) : 0 ≤ px t ord m j ∧ px t ord m j < (m : Int) := by
  have l := pk_left g o j (by omega)
  exact sub_bd l.2.1 _ (l.2.2 hj)
theorem px_nn (g : GoodT t m) (o : GoodO ord t.length) {h : Int} (hh : inR t.length h) : ∀ j, j < m → 0 ≤ pyAt (pyAt t h) (px t ord m j) := fun j hj => by
  have := px_bd g o hj
  exact g.nn hh _ (pyAt_mem (by rw [g.at hh]; exact ⟨by omega, by omega⟩))
theorem pk_good (g : GoodT t m) (o : GoodO ord t.length) {k : Nat} (hk : k ≤ m) : GoodS (pk t ord m k).2 t.length m := by
  have p := pk_perm g o k hk
  have nd := (p.nodup_iff.mpr (rgI_nodup m))
  have nd2 := (List.nodup_append.mp nd).2.1
  have sorted : ∀ k, ∀ r ∈ (pk t ord m k).2, r.Pairwise (· ≤ ·) := by
    intro k
    induction k with
    | zero =>
      intro r hr
      obtain ⟨_, _, rfl⟩ := List.mem_map.mp hr
      exact List.Pairwise.nil
    | succ k ih =>
      intro r hr
      rw [pk_s] at hr
      rcases List.mem_or_eq_of_mem_set hr with z | z
      · exact ih r z
      · rw [z]; exact sortI_sorted _
  refine ⟨pk_len g k, fun r hr x hx => rgI_mem.mp (p.subset (List.mem_append_right _ (List.mem_flatten.mpr ⟨r, hr, hx⟩))), fun r hr => ?_, nd2⟩
  have n1 : r.Nodup := nd2.sublist (List.sublist_flatten_of_mem hr)
  have := (sorted k r hr).and (List.nodup_iff_pairwise_ne.mp n1)
  exact this.imp fun h => by omega
theorem pk_all (g : GoodT t m) (o : GoodO ord t.length) : sortI (pk t ord m m).2.flatten = rgI m := by
  have l := (pk_left g o m (Nat.le_refl _)).1
  have e : (pk t ord m m).1 = [] := List.eq_nil_of_length_eq_zero (by omega)
  have p := pk_perm g o m (Nat.le_refl _)
  rw [e, List.nil_append] at p
  exact (sortI_uniq p.symm ((rgI_up m).imp fun h => by omega)).symm
/-- who stands ahead doesn't envy -/
theorem pk_ahead (g : GoodT t m) (o : GoodO ord t.length) {p : Int × Int} (hp : p ∈ pairsOf t (pk t ord m m).2) : ord.idxOf p.2 < ord.idxOf p.1 := by
  obtain ⟨h1, h2, hf⟩ := pair_in hp
  obtain ⟨x, y, rfl, hx, hy, _⟩ := mem_pairsOf.mp hp
  have hf' := of_decide_eq_true hf
  have full : ∀ z : Nat, z < t.length → (z : Int) ∈ ord := fun z hz => by
    have pm : ord.Perm ((List.range t.length).map fun (i : Nat) => (i : Int)) := by
      refine perm_of_nd o.nd (fun x hx => ?_) (by simp [o.len])
      have := o.bd x hx
      exact List.mem_map.mpr ⟨x.toNat, List.mem_range.mpr (by omega), by omega⟩
    exact pm.mem_iff.mpr (List.mem_map.mpr ⟨z, List.mem_range.mpr hz, rfl⟩)
  have i1 := List.idxOf_lt_length_iff.mpr (full x hx)
  have i2 := List.idxOf_lt_length_iff.mpr (full y hy)
  have e1 : ord.getD (ord.idxOf (x : Int)) default = (x : Int) := by simp [List.getD_eq_getElem?_getD, i1]
  have e2 : ord.getD (ord.idxOf (y : Int)) default = (y : Int) := by simp [List.getD_eq_getElem?_getD, i2]
  have s1 := row_sum g o i1 (pyAt t (x : Int)) (Nat.le_refl m)
  have s2 := row_sum g o i2 (pyAt t (x : Int)) (Nat.le_refl m)
  rw [e1] at s1
  rw [e2] at s2
  show ord.idxOf (y : Int) < ord.idxOf (x : Int)
  rcases Nat.lt_trichotomy (ord.idxOf (y : Int)) (ord.idxOf (x : Int)) with z | z | z
  · exact z
  · exfalso
    rw [z] at s2
    simp only at hf'
    omega
  · exfalso
    have pr := px_pref g o i1
    rw [e1] at pr
    have := (ahead (y := fun j => pyAt (pyAt t (x : Int)) (px t ord m j)) z i2 (px_nn g o h1) pr m (Nat.le_refl _)).1
    simp only at hf'
    omega
theorem pk_bears (g : GoodT t m) (o : GoodO ord t.length) : borneB t (pk t ord m m).2 = true := by
  have gs := pk_good g o (Nat.le_refl m)
  unfold borneB
  rw [List.all_eq_true]
  intro p hp
  obtain ⟨x, y, rfl, hx, hy, hf⟩ := mem_pairsOf.mp hp
  have ah : ord.idxOf (y : Int) < ord.idxOf (x : Int) := pk_ahead g o hp
  have h1 : inR t.length (x : Int) := ⟨by omega, by omega⟩
  have h2 : inR t.length (y : Int) := ⟨by omega, by omega⟩
  have h0 := feels_pos g gs h1 h2 hf
  have sp := dearest_spec (row := pyAt t (x : Int)) h0 (gs.up _ (gs.at h2))
  have full : ∀ z : Nat, z < t.length → (z : Int) ∈ ord := fun z hz => by
    have pm : ord.Perm ((List.range t.length).map fun (i : Nat) => (i : Int)) := by
      refine perm_of_nd o.nd (fun x hx => ?_) (by simp [o.len])
      have := o.bd x hx
      exact List.mem_map.mpr ⟨x.toNat, List.mem_range.mpr (by omega), by omega⟩
    exact pm.mem_iff.mpr (List.mem_map.mpr ⟨z, List.mem_range.mpr hz, rfl⟩)
  have i1 := List.idxOf_lt_length_iff.mpr (full x hx)
  have i2 := List.idxOf_lt_length_iff.mpr (full y hy)
  have e1 : ord.getD (ord.idxOf (x : Int)) default = (x : Int) := by simp [List.getD_eq_getElem?_getD, i1]
  have e2 : ord.getD (ord.idxOf (y : Int)) default = (y : Int) := by simp [List.getD_eq_getElem?_getD, i2]
  have s1 := row_sum g o i1 (pyAt t (x : Int)) (Nat.le_refl m)
  have s2 := row_sum g o i2 (pyAt t (x : Int)) (Nat.le_refl m)
  rw [e1] at s1
  rw [e2] at s2
  have ham : ord.idxOf (y : Int) < m := by
    rcases Nat.lt_or_ge (ord.idxOf (y : Int)) m with z | z
    · exact z
    · exfalso
      have rp := row_perm g o i2 m (Nat.le_refl _)
      rw [e2] at rp
      have := rp.length_eq
      have e0 : ((List.range m).filter fun j => decide (j % ord.length = ord.idxOf (y : Int))) = [] := by
        rw [List.filter_eq_nil_iff]
        intro j hj
        have := List.mem_range.mp hj
        rw [Nat.mod_eq_of_lt (by omega)]
        simp
        omega
      rw [e0, List.map_nil, List.length_nil] at this
      omega
  have pr := px_pref g o i1
  rw [e1] at pr
  have b := (bears (y := fun j => pyAt (pyAt t (x : Int)) (px t ord m j)) ah i1 (px_nn g o h1) pr m ham (Nat.le_refl _)).1
  have pm := px_mem g o ham
  have et : tn ord (ord.idxOf (y : Int)) = (y : Int) := by rw [(tn_eq g o i2).mpr (Nat.mod_eq_of_lt i2), e2]
  rw [et] at pm
  have := sp.2.1 _ pm
  unfold bOk
  simp only [Bool.not_eq_true', decide_eq_false_iff_not]
  omega
end
end Th
namespace Th
open PySem L2 DL
section
variable {t : List (List Int)} {ord : List Int} {m : Nat}
theorem ord_full (o : GoodO ord t.length) {z : Int} (hz : 0 ≤ z ∧ z < (t.length : Int)) : z ∈ ord := by
  have pm : ord.Perm ((List.range t.length).map fun (i : Nat) => (i : Int)) := by
    refine perm_of_nd o.nd (fun x hx => ?_) (by simp [o.len])
    have := o.bd x hx
    exact List.mem_map.mpr ⟨x.toNat, List.mem_range.mpr (by omega), by omega⟩
  exact pm.mem_iff.mpr (List.mem_map.mpr ⟨z.toNat, List.mem_range.mpr (by omega), by omega⟩)
theorem pk_lt (g : GoodT t m) (o : GoodO ord t.length) {k : Nat} (hk : k ≤ m) (hb : (!decide ((pk t ord m k).1 = [])) = true) : k < m := by
  have l := (pk_left g o k hk).1
  rcases Nat.lt_or_ge k m with z | z
  · exact z
  · have : (pk t ord m k).1 = [] := List.eq_nil_of_length_eq_zero (by omega)
    rw [this] at hb
    simp at hb
theorem pk_end (g : GoodT t m) (o : GoodO ord t.length) {k : Nat} (hk : k ≤ m) (hb : (!decide ((pk t ord m k).1 = [])) = false) : k = m := by
  have l := (pk_left g o k hk).1
  simp only [Bool.not_eq_false', decide_eq_true_eq] at hb
  rw [hb] at l
  simp at l
  omega
theorem pk_heir (g : GoodT t m) (o : GoodO ord t.length) {k : Nat} (hk : k ≤ m) : pyAt ord ((((pyAt t 0).length : Int) - ((pk t ord m k).1.length : Int)) % (ord.length : Int)) = tn ord k := by
  rw [g.m0, (pk_left g o k hk).1]
  unfold tn
  congr 2
  omega
theorem mod_inR {x : Int} {n : Nat} (h : 0 < n) : inR n (x % (n : Int)) := by
  have := mod_in x h
  exact ⟨by omega, by omega⟩
theorem ord_pos (g : GoodT t m) (o : GoodO ord t.length) : 0 < ord.length := by rw [o.len]; exact g.n1
theorem pk_row (g : GoodT t m) (o : GoodO ord t.length) {k : Nat} (hk : k ≤ m) : ∀ r ∈ (pk t ord m k).2, r.length < 16000000 := fun r hr => by
  have := (pk_good g o hk).row hr
  have := g.m40
  omega
theorem best_eq {row l : List Int} (h0 : 0 < l.length) (up : l.Pairwise (· < ·)) : pyAt ((l.filter fun a => decide (pyAt row a = maxI (l.map fun a => pyAt row a))).map fun a => a) 0 = dearest row l := by
  rw [List.map_id']
  have e := lSpare_some (row := row) h0 up
  have hp := lSpare_pos (row := row) h0
  rw [← e, pyAt_0]
  have s : (l.filter fun a => decide (pyAt row a = maxI (l.map fun a => pyAt row a))).Pairwise (· < ·) := up.filter _
  revert hp s
  generalize (l.filter fun a => decide (pyAt row a = maxI (l.map fun a => pyAt row a))) = f
  intro hp s
  cases f with
  | nil => simp at hp
  | cons a as =>
    show a = minI (a :: as)
    have h1 := minI_mem hp
    have h2 := minI_le (ns := a :: as) (y := a) (by simp)
    rcases List.mem_cons.mp h1 with z | z
    · exact z.symm
    · have := List.rel_of_pairwise_cons s z
      omega
theorem best_pos {row l : List Int} (h0 : 0 < l.length) : inR ((l.filter fun a => decide (pyAt row a = maxI (l.map fun a => pyAt row a))).map fun a => a).length 0 := by
  rw [List.length_map]
  have := lSpare_pos (row := row) h0
  exact ⟨by omega, by omega⟩
theorem pk_next (g : GoodT t m) (o : GoodO ord t.length) {k : Nat} (hk : k < m) : ((pk t ord m k).1.filter fun a => !decide (a = px t ord m k)).map (fun a => a) = (pk t ord m (k + 1)).1 := by
  rw [List.map_id', pk_s]
  have nd := (rgI_nodup m).sublist (pk_left g o k (by omega)).2.1
  show _ = (pk t ord m k).1.erase (px t ord m k)
  rw [nd.erase_eq_filter]
  refine List.filter_congr fun x _ => ?_
  by_cases h : x = px t ord m k <;> simp [h]
theorem take_fl {s : List (List Int)} {i : Nat} (hi : i < s.length) : (s.take (i + 1)).flatten = (s.take i).flatten ++ s.getD i default := by
  have e : s.getD i default = s[i] := by simp [List.getD_eq_getElem?_getD, hi]
  rw [List.take_add_one, List.getElem?_eq_getElem hi, List.flatten_append, e]
  simp
theorem take_fl_len {s : List (List Int)} {i : Nat} (hi : i < s.length) : (s.take i).flatten.length + (s.getD i default).length ≤ s.flatten.length := by
  rw [← List.length_append, ← take_fl hi]
  conv => rhs; rw [← List.take_append_drop (i + 1) s, List.flatten_append, List.length_append]
  omega
end
theorem pair_nn {t s : List (List Int)} {p : Int × Int} (h : p ∈ pairsOf t s) : 0 ≤ p.1 ∧ 0 ≤ p.2 := by
  obtain ⟨a, b, rfl, _⟩ := mem_pairsOf.mp h
  exact ⟨by simp, by simp⟩
/-- the law's order -/
def oIx (c : Int) : Nat → List Int → Int := fun t ls => lMixed c t / 7 % (ls.length : Int)
def lOrder (c : Int) (n : Nat) : List Int := (popS (oIx c) (rgI n) n).2
theorem popS_perm (idx : Nat → List Int → Int) (ms : List Int) (hb : ∀ t ls, t < ms.length → ls.length = ms.length - t → 0 ≤ idx t ls ∧ idx t ls < ls.length) : ∀ k, k ≤ ms.length → (popS idx ms k).1.length = ms.length - k ∧ ((popS idx ms k).1 ++ (popS idx ms k).2).Perm ms
  | 0, _ => by simp [popS]
  | k + 1, h => by
    obtain ⟨h1, h2⟩ := popS_perm idx ms hb k (by omega)
    obtain ⟨q1, q2⟩ := hb k _ (by omega) h1
    have hi : (idx k (popS idx ms k).1).toNat < (popS idx ms k).1.length := by omega
    refine ⟨by simp only [popS, List.length_eraseIdx]; rw [if_pos hi]; omega, List.Perm.trans ?_ h2⟩
    simp only [popS]
    refine (List.Perm.append_left _ List.perm_append_comm).trans ?_
    rw [← List.append_assoc]
    exact (erase_perm hi).append_right _
theorem oIx_bd {c : Int} {n : Nat} : ∀ t ls, t < n → ls.length = (rgI n).length - t → 0 ≤ oIx c t ls ∧ oIx c t ls < ls.length := fun t ls h1 h2 => by
  rw [rgI_len] at h2
  exact ⟨Int.emod_nonneg _ (by omega), Int.emod_lt_of_pos _ (by omega)⟩
theorem lOrder_good (c : Int) (n : Nat) : GoodO (lOrder c n) n := by
  have p := popS_perm (oIx c) (rgI n) (fun t ls h1 h2 => oIx_bd t ls (by rwa [rgI_len] at h1) h2) n (by rw [rgI_len]; exact Nat.le_refl _)
  rw [rgI_len] at p
  have e : (popS (oIx c) (rgI n) n).1 = [] := List.eq_nil_of_length_eq_zero (by omega)
  rw [e, List.nil_append] at p
  have p2 : (lOrder c n).Perm (rgI n) := p.2
  exact ⟨by rw [p2.length_eq, rgI_len], fun x hx => rgI_mem.mp (p2.subset hx), p2.nodup_iff.mpr (rgI_nodup n)⟩
end Th

set_option Elab.async false
set_option linter.all false
set_option maxRecDepth 100000
set_option maxHeartbeats 2000000
/-! list(reversed(a list of ints)) -/
namespace DL
open PySem PySem.Spec PyProof.Rows L2 RT
section
variable {prog : Program} {w : World} {A : Around} {E : Value → Shared → Prop} {s : Shared} {R : Result → Shared → Prop}
theorem grow_rev {it l S : Addr} {items : Array Value} {n0 : Nat} (hh : A.handled = none) (hit : s.heap.IsRevIter it l ((items.size : Int) - 1)) (hl : s.heap.IsList l items) (hne : l ≠ it) (hn : items.size ≤ sizeLine) (hSi : S ≠ it) (hSl : S ≠ l) (hS : s.heap.get? S = some { cls := .type "list", data := .seq #[] n0 })
    (hR : ∀ (h' : Heap) (tk : Nat) (acc : Array Value) (c : Nat), (∀ b o, b ≠ S → b ≠ it → s.heap.get? b = some o → h'.get? b = some o) → h'.get? S = some { cls := .type "list", dict := none, data := .seq acc c, slots := #[] } → ItemsOf (fun i v => items[items.size - 1 - i]? = some v) acc items.size → R (.ok (.ret .none)) { s with heap := h', toks := tk }) :
    wpAny (model prog w) A.in1 (Builtin.List.listExtendWith (.ref S) (.ref it) .none) (fun fin s' => match fin with | .done f => R (.ok f) s' | .again c' => c'.quiet = true ∧ codeAny (model prog w) A c' R s') (fun e s' => R (.error e) s') s := by
  have W := (Walks.listRev (prog := prog) (w := w) (A := A.in1) hh it l hne items).toS
  have hSf : S ∉ [it, l] := by simp [hSi, hSl]
  have hT : s.TypeIs (.ref it) "list_reverseiterator" := Heap.IsRevIter.typeIs hit
  have h1 : Builtin.List.listSameRef (.ref S) (.ref it) = false := by simp [Builtin.List.listSameRef, hSi]
  unfold Builtin.List.listExtendWith; refine wpAny_bind (wpAny_typeOf hT ?_); rw [if_neg (by rw [h1]; decide)]; refine wpAny_bind (wpAny_pyIter_revIter hit ?_); refine wpAny_bind (wpAny_holding ?_); unfold Builtin.List.listLengthHint
  refine wpAny_bind (wpAny_specialOf hT nolen_lri ?_); show wpAny _ A.in1 (specialOf (Value.ref it) (Str.ofString "__length_hint__") >>= _) _ _ _
  refine wpAny_bind (wpAny_specialOf hT hint_lri ?_); generalize hid : ("list_reverseiterator.__length_hint__" : String) = idd
  wp_delta
  rw [show splitId idd = some ("list_reverseiterator", "__length_hint__") from by subst hid; decide +kernel]; subst hid
  refine wpAny_bind (wpAny_isInstance (b := true) hT (by rw [isSubtype_type]; kernel_rfl) ?_); refine wpAny_pure ?_
  rw [if_neg (by decide)]; have e0 : ((items.size : Nat) : Int) - 1 - ((0 : Nat) : Int) = (items.size : Int) - 1 := by omega
  refine wpAny_pure ⟨plainId_quiet F.plain_extend_loop _, codeAny_extend_loopS W hn S hSf .none items.size 0 _ _ _ rfl (Nat.zero_le _) ⟨Nat.zero_le _, by rw [e0]; exact hit, hl⟩ hS (ItemsOf.nil _) fun s' acc' c' hm hS' hacc => ?_⟩
  rw [Moved.eq_with hm]
  refine hR s'.heap s'.toks acc' c' (fun b o hb hb2 e => hm.heap b o (fun hmem => ?_) e) hS' hacc
  rcases List.mem_cons.mp hmem with z | z
  · exact hb z
  · exact hb2 (List.mem_singleton.mp z)
theorem init_rev {it l S : Addr} {items : Array Value} (hh : A.handled = none) (hit : s.heap.IsRevIter it l ((items.size : Int) - 1)) (hl : s.heap.IsList l items) (hne : l ≠ it) (hn : items.size ≤ sizeLine) (hSi : S ≠ it) (hSl : S ≠ l) (hS : s.heap.get? S = some { cls := .type "list", data := .seq #[] })
    (hR : ∀ (h' : Heap) (tk : Nat) (acc : Array Value) (c : Nat), (∀ b o, b ≠ S → b ≠ it → s.heap.get? b = some o → h'.get? b = some o) → h'.get? S = some { cls := .type "list", dict := none, data := .seq acc c, slots := #[] } → ItemsOf (fun i v => items[items.size - 1 - i]? = some v) acc items.size → R (.ok (.ret .none)) { s with heap := h', toks := tk }) :
    wpAny (model prog w) A.in1 (Builtin.«list.__init__» ⟨[.ref S, .ref it], []⟩) (fun fin s' => match fin with | .done f => R (.ok f) s' | .again c' => c'.quiet = true ∧ codeAny (model prog w) A c' R s') (fun e s' => R (.error e) s') s := by
  show wpAny _ A.in1 (Builtin.List.listItems (.ref S) >>= fun old => Builtin.List.listUpdate (.ref S) (fun _ => #[]) >>= fun _ => letGo old.toList.reverse >>= fun _ => Builtin.List.listExtendWith (.ref S) (.ref it) .none) _ _ s
  refine wpAny_bind ?_
  unfold Builtin.List.listItems; refine wpAny_bind (wpAny_seqItems hS rfl (wpAny_pure ?_)); show wpAny _ A.in1 (updateSeq S (fun _ => #[]) >>= fun _ => letGo (#[] : Array Value).toList.reverse >>= fun _ => Builtin.List.listExtendWith (.ref S) (.ref it) .none) _ _ s
  refine wpAny_bind (wpAny_updateSeq hS rfl ?_); have hS2 := Heap.get?_update_self (Obj.mapSeq (fun _ => (#[] : Array Value))) hS rfl
  have oth : ∀ b o, b ≠ S → s.heap.get? b = some o → (s.heap.update S (Obj.mapSeq (fun _ => (#[] : Array Value)))).get? b = some o := fun b o hb e => (Heap.get?_update_other _ _ (Ne.symm hb)).trans e
  refine wpAny_bind (wpAny_letGo ?_)
  obtain ⟨ol, q1, q2, qn, q3⟩ := hl
  have hl2 : (s.heap.update S (Obj.mapSeq (fun _ => (#[] : Array Value)))).IsList l items := ⟨ol, oth l ol (Ne.symm hSl) q1, q2, qn, q3⟩
  refine grow_rev (s := { s with heap := s.heap.update S (Obj.mapSeq (fun _ => (#[] : Array Value))) }) hh (hit.at fun o e => oth it o (Ne.symm hSi) e) hl2 hne hn hSi hSl hS2 fun h' tk acc c hk hS' ha => ?_
  exact hR h' tk acc c (fun b o hb hb2 e => hk b o hb hb2 (oth b o hb e)) hS' ha
theorem list_rev {it l : Addr} {items : Array Value} {Q : Value → Shared → Prop} (hh : A.handled = none) (hit : s.heap.IsRevIter it l ((items.size : Int) - 1)) (hl : s.heap.IsList l items) (hne : l ≠ it) (hn : items.size ≤ sizeLine)
    (hQ : ∀ (h' : Heap) (tk : Nat) (acc : Array Value) (c : Nat), (∀ b o, b ≠ it → s.heap.get? b = some o → h'.get? b = some o) → h'.get? s.heap.objs.size = some { cls := .type "list", dict := none, data := .seq acc c, slots := #[] } → ItemsOf (fun i v => items[items.size - 1 - i]? = some v) acc items.size → Q (.ref s.heap.objs.size) { s with heap := h', toks := tk }) :
    wpAny (model prog w) A (call (.type "list") [.ref it]) Q E s := by
  obtain ⟨oi, hoi, hoi2⟩ := id hit
  obtain ⟨ol, hol, q2⟩ := id hl
  refine callType_codes (Q₁ := fun obj t => obj = .ref s.heap.objs.size ∧ t = { s with heap := s.heap.push { cls := .type "list", data := .seq #[] } }) F.called_list (F.typeCall_list_1 _) F.entry_list_init (code_list_new _ ⟨rfl, rfl⟩) fun obj t ht => ?_
  obtain ⟨rfl, rfl⟩ := ht
  have hS : (s.heap.push { cls := .type "list", data := .seq #[] }).get? s.heap.objs.size = some { cls := .type "list", data := .seq #[] } := Heap.get?_push_size _ rfl
  refine ⟨⟨_, hS, rfl⟩, F.args_list_init_2 _ _, init_rev (A := A.in1) (s := { s with heap := s.heap.push { cls := .type "list", data := .seq #[] } }) hh (hit.at fun o e => Heap.get?_push_of_some _ e) (hl.push _) hne hn (Nat.ne_of_gt (Heap.lt_size hoi)) (Nat.ne_of_gt (Heap.lt_size hol)) hS fun h' tk acc c hk hS' ha => ?_⟩
  exact ⟨rfl, hQ h' tk acc c (fun b o hb e => hk b o (Nat.ne_of_lt (Heap.lt_size e)) hb (Heap.get?_push_of_some _ e)) hS' ha⟩
end
/-- list(reversed(x)), x a list: a new list -/
def tLstRev (K : PySem.W.Frag) (te : TE) : TE := fun σ H Q => te σ H fun v H1 => ∃ (a : Addr) (xs : List V), v = .ref a ∧ SqL K H1 a xs ∧ ∀ q, H1 q = none → Q (.ref q) (upd H1 q (.lst xs.reverse))
theorem pe_lstRev {X : Cx} {e : Expr} {te : TE} {p p2 pos pos2 : Pos} (hc : X.calm = true) (hg : Gl X "list") (hm : X.mg "list" = none) (hg2 : Gl X "reversed") (hm2 : X.mg "reversed" = none) (he : PE X e te) (hs : starEach [e] X.env = (false, eval e X.env) :: starEach [] X.env)
    (hs2 : starEach [.Call (.Name "reversed" p2) [e] [] pos2] X.env = (false, eval (.Call (.Name "reversed" p2) [e] [] pos2) X.env) :: starEach [] X.env) : PE X (.Call (.Name "list" p) [.Call (.Name "reversed" p2) [e] [] pos2] [] pos) (tLstRev X.K te) := by
  refine ⟨fun pins s σ H Q I h => ?_⟩
  refine Call_ (ld_blt I hg hm boot_list (PyProof.Rows.callWith_type1 (args_cons (Call_ (ld_blt I hg2 hm2 PyProof.Rows.boot_reversed (PyProof.Rows.callWith_type1 (args_cons (thn (he.run pins s σ H _ I h) fun u s1 ⟨v, H1, I1, r1, q1⟩ => args_nil ?_) hs) hs rfl))) hs2) hs2 rfl))
  obtain ⟨a, xs, ev, hq, q⟩ := q1
  subst ev
  obtain rfl : u = Value.ref a := r1
  obtain ⟨its, rv, p', hz⟩ := I1.list hq
  refine call_reversed_list p'.isList (args_nil ?_)
  have hl := p'.isList
  obtain ⟨ol, hol, _⟩ := id hl
  have hne : a ≠ s1.heap.objs.size := Nat.ne_of_lt (Heap.lt_size hol)
  have hn : its.toArray.size ≤ sizeLine := by rw [List.size_toArray, ← rv.length]; exact hz
  refine list_rev (s := { s1 with heap := s1.heap.push (revObj a ((its.toArray.size : Int) - 1)) }) (I1.ok.hd hc) ⟨_, Heap.get?_push_size _ rfl, rfl, rfl⟩ (hl.push _) hne hn fun h' tk acc c hk hS' hi => ?_
  have hsz : s1.heap.objs.size ≤ (s1.heap.push (revObj a ((its.toArray.size : Int) - 1))).objs.size := by simp [Heap.push]
  have kk : ∀ b o, s1.heap.get? b = some o → h'.get? b = some o := fun b o e => hk b o (Nat.ne_of_lt (Heap.lt_size e)) (Heap.get?_push_of_some _ e)
  refine ⟨.ref (s1.heap.push (revObj a ((its.toArray.size : Int) - 1))).objs.size, upd H1 (s1.heap.push (revObj a ((its.toArray.size : Int) - 1))).objs.size (.lst xs.reverse), I1.laid (t' := tk) kk hsz (show ObjOk X.prog X.w _ _ _ (.lst xs.reverse) from ⟨by rw [List.length_reverse]; exact hz, acc.toList, c, vals_rev rv hi, ?_⟩), rfl, q _ (I1.hok.fresh hsz)⟩
  rw [Array.toArray_toList]; exact hS'
end DL
namespace DL
open PySem L2
section
variable {X : Cx} {Γ : Gm} {ρ : List Sl} {a : Expr} {pos p : Pos} {κ : Kd}
theorem do_lstRev {ns : List Int} {p2 pos2 : Pos} (xo : XO X) (ha : DE X Γ ρ a κ (dl dI ns)) (hm : X.mg "list" = none) (hm2 : X.mg "reversed" = none) (hg : Gl X "list" := by rfl) (hg2 : Gl X "reversed" := by rfl) (hs : starEach [a] X.env = (false, eval a X.env) :: starEach [] X.env := by rfl)
    (hs2 : starEach [.Call (.Name "reversed" p2) [a] [] pos2] X.env = (false, eval (.Call (.Name "reversed" p2) [a] [] pos2) X.env) :: starEach [] X.env := by rfl) : DO X Γ ρ (.Call (.Name "list" p) [.Call (.Name "reversed" p2) [a] [] pos2] [] pos) (tl tI ns.reverse) :=
  (pe_lstRev xo.calm hg hm hg2 hm2 ha hs hs2).weak fun σ H Q ⟨G, S, k⟩ => ⟨G, S, fun v G1 H1 s1 e1 q => by
    obtain ⟨q1, vs, rfl, h1, r1⟩ := Rep.l (pK_c S s1 e1 q)
    have ev : vs = ns.map V.int := r1.ints
    subst ev
    refine ⟨q1, _, rfl, SqL.of h1, fun q hq => ?_⟩
    rw [← List.map_reverse]
    exact do_new e1 hq H s1.h fun w G2 H2 s2 e2 p2 => k w G2 H2 (s1.trans s2) e2 p2⟩
end
end DL
namespace DL
open PySem L2
/-- None or a list of ints -/
def dOL : Option (List Int) → D
  | none => .none
  | some l => dL l
def tOL : Option (List Int) → OT
  | none => .fz .none
  | some l => tL l
instance : Er tOL dOL := ⟨fun x => by
  cases x with
  | none => unfold tOL OT.er; rfl
  | some l => exact Er.er (g := tL) (f := dL) l⟩
end DL

set_option Elab.async false
set_option linter.all false
set_option maxRecDepth 100000
/-! rings and lines -/
namespace Th
open PySem L2 DL
abbrev Ps := List (Int × Int)
def seenBy (ps : Ps) (hs : List Int) : List Int := (ps.filter fun p => decide (p.1 ∈ hs)).map fun p => p.2
def unenv (ps : Ps) (hs : List Int) : List Int := hs.filter fun h => !decide (h ∈ seenBy ps hs)
theorem mem_seenBy {ps : Ps} {hs : List Int} {x : Int} : x ∈ seenBy ps hs ↔ ∃ h, (h, x) ∈ ps ∧ h ∈ hs := by
  unfold seenBy
  simp only [List.mem_map, List.mem_filter, decide_eq_true_eq]
  constructor
  · rintro ⟨p, ⟨h1, h2⟩, rfl⟩; exact ⟨p.1, h1, h2⟩
  · rintro ⟨h, h1, h2⟩; exact ⟨(h, x), ⟨h1, h2⟩, rfl⟩
theorem mem_unenv {ps : Ps} {hs : List Int} {x : Int} : x ∈ unenv ps hs ↔ x ∈ hs ∧ ∀ h ∈ hs, (h, x) ∉ ps := by
  unfold unenv
  simp only [List.mem_filter, Bool.not_eq_true', decide_eq_false_iff_not, mem_seenBy]
  constructor
  · rintro ⟨h1, h2⟩; exact ⟨h1, fun h hh hp => h2 ⟨h, hp, hh⟩⟩
  · rintro ⟨h1, h2⟩; exact ⟨h1, fun ⟨h, hp, hh⟩ => h2 h hh hp⟩
/-- the line, told with what is left -/
def lnF (ps : Ps) : Nat → List Int → List Int → List Int × List Int
  | 0, l, f => (l, f)
  | n + 1, l, f => if unenv ps l = [] then (l, f) else lnF ps n (l.erase ((unenv ps l).getD 0 default)) (f ++ [(unenv ps l).getD 0 default])
def lineS (ps : Ps) (m : Nat) : List Int × List Int := lnF ps m (rgI m) []
def lineOf (ps : Ps) (m : Nat) : List Int := (lineS ps m).2
theorem hd_mem {l : List Int} (h : l ≠ []) : l.getD 0 default ∈ l := by
  cases l with
  | nil => exact absurd rfl h
  | cons a as => simp
theorem hd_pyAt (l : List Int) : pyAt l 0 = l.getD 0 default := pyAt_0 l
/-- what is so at each turn of the line's walk -/
structure LnI (ps : Ps) (m : Nat) (t : List Int × List Int) : Prop where
  fuel : lnF ps t.1.length t.1 t.2 = lineS ps m
  perm : (t.1 ++ t.2).Perm (rgI m)
  sub : t.1.Sublist (rgI m)
  /-- who envies one who came off has come off ahead of it -/
  ord : ∀ k, k < t.2.length → ∀ a ∈ rgI m, (a, t.2.getD k default) ∈ ps → a ∈ t.2.take k
theorem LnI.start (ps : Ps) (m : Nat) : LnI ps m (rgI m, []) := ⟨by rw [rgI_len]; rfl, by simp, List.Sublist.refl _, fun k hk => by simp at hk⟩
theorem LnI.next {ps : Ps} {m : Nat} {t : List Int × List Int} (I : LnI ps m t) (h : unenv ps t.1 ≠ []) :
    (unenv ps t.1).getD 0 default ∈ t.1 ∧ LnI ps m (t.1.erase ((unenv ps t.1).getD 0 default), t.2 ++ [(unenv ps t.1).getD 0 default]) ∧ (t.1.erase ((unenv ps t.1).getD 0 default)).length < t.1.length := by
  have hx := mem_unenv.mp (hd_mem h)
  have hl := List.length_erase_of_mem hx.1
  have hp : 0 < t.1.length := List.length_pos_of_mem hx.1
  refine ⟨hx.1, ⟨?_, ?_, (List.erase_sublist).trans I.sub, ?_⟩, by omega⟩
  · have f := I.fuel
    obtain ⟨n, hn⟩ : ∃ n, t.1.length = n + 1 := ⟨t.1.length - 1, by omega⟩
    rw [hn] at f
    unfold lnF at f
    rw [if_neg h] at f
    show lnF ps (t.1.erase _).length _ _ = _
    rw [hl, hn]
    exact f
  · refine List.Perm.trans ?_ I.perm
    have p2 := (List.perm_cons_erase hx.1).symm
    rw [← List.append_assoc]
    refine (List.perm_append_singleton _ _).trans ?_
    exact (List.perm_append_comm (l₁ := t.1.erase _) (l₂ := t.2)).cons _ |>.trans (List.perm_middle.symm.trans (List.perm_append_comm.trans ((p2).append_right _)))
  · intro k hk a ha hps
    simp only [List.length_append, List.length_singleton] at hk
    rcases Nat.lt_or_ge k t.2.length with z | z
    · have e : (t.2 ++ [(unenv ps t.1).getD 0 default]).getD k default = t.2.getD k default := by simp [List.getD_eq_getElem?_getD, List.getElem?_append, z]
      rw [e] at hps
      rw [List.take_append_of_le_length (by omega)]
      exact I.ord k z a ha hps
    · have ek : k = t.2.length := by omega
      subst ek
      have e : (t.2 ++ [(unenv ps t.1).getD 0 default]).getD t.2.length default = (unenv ps t.1).getD 0 default := by simp [List.getD_eq_getElem?_getD]
      rw [e] at hps
      rw [List.take_left']
      rcases List.mem_append.mp (I.perm.symm.subset ha) with y | y
      · exact absurd hps (hx.2 a y)
      · exact y
      rfl
theorem LnI.done {ps : Ps} {m : Nat} {t : List Int × List Int} (I : LnI ps m t) (h : unenv ps t.1 = []) : t = lineS ps m := by
  have f := I.fuel
  cases hn : t.1.length with
  | zero => rw [hn] at f; unfold lnF at f; exact f
  | succ n => rw [hn] at f; unfold lnF at f; rw [if_pos h] at f; exact f
theorem lineS_spec (ps : Ps) (m : Nat) : LnI ps m (lineS ps m) ∧ unenv ps (lineS ps m).1 = [] := by
  have go : ∀ n (t : List Int × List Int), t.1.length ≤ n → LnI ps m t → LnI ps m (lineS ps m) ∧ unenv ps (lineS ps m).1 = [] := by
    intro n
    induction n with
    | zero =>
      intro t hn I
      have e : t.1 = [] := List.eq_nil_of_length_eq_zero (by omega)
      have hu : unenv ps t.1 = [] := by rw [e]; rfl
      have := I.done hu
      rw [← this]
      exact ⟨I, hu⟩
    | succ n ih =>
      intro t hn I
      by_cases hu : unenv ps t.1 = []
      · have := I.done hu
        rw [← this]
        exact ⟨I, hu⟩
      · obtain ⟨h1, h2, h3⟩ := I.next hu
        exact ih _ (by show (t.1.erase _).length ≤ n; omega) h2
  exact go _ _ (Nat.le_refl _) (LnI.start ps m)
/-- who is left behind the line -/
def leftOf (ps : Ps) (m : Nat) : List Int := (rgI m).filter fun h => !decide (h ∈ lineOf ps m)
theorem lineOf_sub (ps : Ps) (m : Nat) : ∀ x ∈ lineOf ps m, 0 ≤ x ∧ x < (m : Int) := fun x hx => rgI_mem.mp ((lineS_spec ps m).1.perm.subset (List.mem_append_right _ hx))
theorem lineOf_nodup (ps : Ps) (m : Nat) : (lineOf ps m).Nodup := (List.nodup_append.mp ((lineS_spec ps m).1.perm.nodup_iff.mpr (rgI_nodup m))).2.1
theorem mem_leftOf {ps : Ps} {m : Nat} {x : Int} : x ∈ leftOf ps m ↔ x ∈ (lineS ps m).1 := by
  have I := (lineS_spec ps m).1
  have nd := I.perm.nodup_iff.mpr (rgI_nodup m)
  unfold leftOf
  simp only [List.mem_filter, Bool.not_eq_true', decide_eq_false_iff_not]
  constructor
  · rintro ⟨h1, h2⟩
    exact (List.mem_append.mp (I.perm.symm.subset h1)).resolve_right h2
  · intro h
    exact ⟨I.perm.subset (List.mem_append_left _ h), fun z => (List.nodup_append.mp nd).2.2 x h x z rfl⟩
theorem left_envied {ps : Ps} {m : Nat} {x : Int} (hx : x ∈ leftOf ps m) : ∃ h ∈ leftOf ps m, (h, x) ∈ ps := by
  have u := (lineS_spec ps m).2
  have hx' := mem_leftOf.mp hx
  rcases Classical.em (∃ h ∈ leftOf ps m, (h, x) ∈ ps) with z | z
  · exact z
  · have : x ∈ unenv ps (lineS ps m).1 := mem_unenv.mpr ⟨hx', fun h hh hp => z ⟨h, mem_leftOf.mpr hh, hp⟩⟩
    rw [u] at this
    cases this
theorem leftOf_nil {ps : Ps} {m : Nat} : leftOf ps m = [] ↔ (lineOf ps m).length = m := by
  have I := (lineS_spec ps m).1
  have e := I.perm.length_eq
  rw [List.length_append, rgI_len] at e
  have e2 : (lineS ps m).2.length = (lineOf ps m).length := rfl
  constructor
  · intro h
    have : (lineS ps m).1 = [] := by
      rw [List.eq_nil_iff_forall_not_mem]
      intro x hx
      have := mem_leftOf.mpr hx
      rw [h] at this
      cases this
    rw [this] at e
    simp at e
    omega
  · intro h
    have : (lineS ps m).1 = [] := List.eq_nil_of_length_eq_zero (by omega)
    rw [List.eq_nil_iff_forall_not_mem]
    intro x hx
    have := mem_leftOf.mp hx
    rw [‹(lineS ps m).1 = []›] at this
    cases this
theorem line_index {ps : Ps} {m : Nat} (hself : ∀ a, (a, a) ∉ ps) {a b : Int} (h : (a, b) ∈ ps) (ha : a ∈ rgI m) (hb : b ∈ lineOf ps m) : (lineOf ps m).idxOf a < (lineOf ps m).idxOf b := by
  have I := (lineS_spec ps m).1
  have hi := List.idxOf_lt_length_iff.mpr hb
  have e : (lineOf ps m).getD ((lineOf ps m).idxOf b) default = b := by simp [List.getD_eq_getElem?_getD, hi]
  have := I.ord ((lineOf ps m).idxOf b) hi a ha (by show (a, (lineOf ps m).getD _ default) ∈ ps; rw [e]; exact h)
  obtain ⟨j, hj, hj2⟩ := List.mem_iff_getElem.mp this
  have hj3 : j < (lineOf ps m).idxOf b := by
    have : ((lineS ps m).2.take ((lineOf ps m).idxOf b)).length ≤ (lineOf ps m).idxOf b := by simp; omega
    omega
  have hjl : j < (lineOf ps m).length := by omega
  have e3 : (lineOf ps m)[j] = a := by
    rw [List.getElem_take] at hj2
    exact hj2
  have : (lineOf ps m).idxOf a ≤ j := by
    rw [← e3]
    rcases Nat.lt_or_ge j ((lineOf ps m).idxOf (lineOf ps m)[j]) with z | z
    · have := List.not_of_lt_findIdx (p := (· == (lineOf ps m)[j])) (xs := lineOf ps m) (i := j) z
      simp at this
    · exact z
  omega
end Th
namespace Th
open PySem L2 DL
def aheadOf (ps : Ps) (left : List Int) (x : Int) : List Int := (ps.filter fun p => decide (p.2 = x) && decide (p.1 ∈ left)).map fun p => p.1
theorem mem_ahead {ps : Ps} {left : List Int} {x y : Int} : y ∈ aheadOf ps left x ↔ (y, x) ∈ ps ∧ y ∈ left := by
  unfold aheadOf
  simp only [List.mem_map, List.mem_filter, Bool.and_eq_true, decide_eq_true_eq]
  constructor
  · rintro ⟨p, ⟨h1, h2, h3⟩, rfl⟩; subst h2; exact ⟨h1, h3⟩
  · rintro ⟨h1, h2⟩; exact ⟨(y, x), ⟨h1, rfl, h2⟩, rfl⟩
abbrev lastW (w : List Int) : Int := pyAt w (-1)
abbrev initW (w : List Int) : List Int := pySl w none (some (-1))
theorem initW_eq (w : List Int) : initW w = w.take (w.length - 1) := by
  unfold initW pySl
  have h1 : HT.sIx w.length 0 none = 0 := HT.sIx_none _ _
  have h2 : HT.sIx w.length w.length (some (-1)) = w.length - 1 := by
    unfold HT.sIx
    simp
    omega
  rw [h1, h2]
  simp
theorem pySl_from {α : Type} (xs : List α) (k : Nat) : pySl xs (some (k : Int)) none = xs.drop k := by
  unfold pySl
  have h1 : HT.sIx xs.length 0 (some (k : Int)) = min k xs.length := HT.sIx_nat _ _ k
  have h2 : HT.sIx xs.length xs.length none = xs.length := HT.sIx_none _ _
  rw [h1, h2]
  rcases Nat.le_total k xs.length with h | h
  · rw [Nat.min_eq_left h]
    exact List.take_of_length_le (by simp)
  · rw [Nat.min_eq_right h, List.drop_eq_nil_of_le h]
    simp
theorem lastW_eq {w : List Int} (h : 0 < w.length) : lastW w = w.getD (w.length - 1) default := by
  unfold lastW pyAt
  rw [if_neg (by omega)]
  congr 1
  omega
def wayF (ps : Ps) (left : List Int) : Nat → List Int → List Int
  | 0, w => w
  | n + 1, w => if lastW w ∈ initW w then w else wayF ps left n (w ++ [(aheadOf ps left (lastW w)).getD 0 default])
def wayR (ps : Ps) (m : Nat) : List Int := wayF ps (leftOf ps m) (m + 1) [(leftOf ps m).getD 0 default]
def ringW (w : List Int) : List Int := (pySl w (some ((w.idxOf (lastW w) : Nat) + 1 : Int)) none).reverse
def ringOf (ps : Ps) (m : Nat) : Option (List Int) := if leftOf ps m = [] then none else some (ringW (wayR ps m))
structure WyI (ps : Ps) (m : Nat) (w : List Int) : Prop where
  pos : 0 < w.length
  mem : ∀ x ∈ w, x ∈ leftOf ps m
  nd : (w.take (w.length - 1)).Nodup
  chain : ∀ j, j + 1 < w.length → (w.getD (j + 1) default, w.getD j default) ∈ ps
  fuel : wayF ps (leftOf ps m) (m + 2 - w.length) w = wayR ps m
theorem left_len (ps : Ps) (m : Nat) : (leftOf ps m).length ≤ m := by
  unfold leftOf
  exact Nat.le_trans (List.length_filter_le _ _) (by rw [rgI_len]; exact Nat.le_refl _)
theorem WyI.len {ps : Ps} {m : Nat} {w : List Int} (I : WyI ps m w) : w.length ≤ m + 1 := by
  have := nodup_sub_len I.nd fun x hx => I.mem x (List.mem_of_mem_take hx)
  have := left_len ps m
  simp at *
  omega
theorem WyI.start {ps : Ps} {m : Nat} (h : leftOf ps m ≠ []) : WyI ps m [(leftOf ps m).getD 0 default] :=
  ⟨by simp, fun x hx => by simp only [List.mem_singleton] at hx; rw [hx]; exact hd_mem h, by simp, fun j hj => by simp at hj, by simp; rfl⟩
theorem getD_lt {α : Type} [Inhabited α] {xs : List α} {i : Nat} (h : i < xs.length) : xs.getD i default = xs[i] := by simp [List.getD_eq_getElem?_getD, h]
theorem WyI.next {ps : Ps} {m : Nat} {w : List Int} (I : WyI ps m w) (h : lastW w ∉ initW w) :
    aheadOf ps (leftOf ps m) (lastW w) ≠ [] ∧ WyI ps m (w ++ [(aheadOf ps (leftOf ps m) (lastW w)).getD 0 default]) ∧ w.length ≤ m := by
  have hp := I.pos
  have hlast : lastW w ∈ w := by rw [lastW_eq hp, getD_lt (by omega)]; exact List.getElem_mem _
  obtain ⟨e, he, hps⟩ := left_envied (I.mem _ hlast)
  have hne : aheadOf ps (leftOf ps m) (lastW w) ≠ [] := fun z => by
    have := mem_ahead.mpr ⟨hps, he⟩
    rw [z] at this
    cases this
  have hy := mem_ahead.mp (hd_mem hne)
  have ew : w = w.take (w.length - 1) ++ [lastW w] := by
    have e1 := (List.take_append_drop (w.length - 1) w).symm
    have e2 : w.drop (w.length - 1) = [lastW w] := by
      rw [List.drop_eq_getElem_cons (show w.length - 1 < w.length by omega), lastW_eq hp, getD_lt (show w.length - 1 < w.length by omega), List.drop_eq_nil_of_le (by omega)]
    rw [e2] at e1
    exact e1
  have wnd : w.Nodup := by
    rw [ew, List.nodup_append]
    refine ⟨I.nd, by simp, fun a ha b hb => ?_⟩
    simp only [List.mem_singleton] at hb
    intro z
    rw [initW_eq] at h
    rw [← hb, ← z] at h
    exact h ha
  have wl : w.length ≤ m := Nat.le_trans (nodup_sub_len wnd I.mem) (left_len ps m)
  refine ⟨hne, ⟨by simp, fun x hx => ?_, by simpa using wnd, fun j hj => ?_, ?_⟩, wl⟩
  · rcases List.mem_append.mp hx with z | z
    · exact I.mem x z
    · simp only [List.mem_singleton] at z; rw [z]; exact hy.2
  · simp only [List.length_append, List.length_singleton] at hj
    rcases Nat.lt_or_ge (j + 1) w.length with z | z
    · have e1 : (w ++ [(aheadOf ps (leftOf ps m) (lastW w)).getD 0 default]).getD (j + 1) default = w.getD (j + 1) default := by simp [List.getD_eq_getElem?_getD, List.getElem?_append, z]
      have e2 : (w ++ [(aheadOf ps (leftOf ps m) (lastW w)).getD 0 default]).getD j default = w.getD j default := by simp [List.getD_eq_getElem?_getD, List.getElem?_append, show j < w.length by omega]
      rw [e1, e2]
      exact I.chain j z
    · have ej : j + 1 = w.length := by omega
      have e1 : (w ++ [(aheadOf ps (leftOf ps m) (lastW w)).getD 0 default]).getD (j + 1) default = (aheadOf ps (leftOf ps m) (lastW w)).getD 0 default := by rw [ej]; simp [List.getD_eq_getElem?_getD]
      have e2 : (w ++ [(aheadOf ps (leftOf ps m) (lastW w)).getD 0 default]).getD j default = lastW w := by
        rw [lastW_eq hp, show w.length - 1 = j by omega]
        simp [List.getD_eq_getElem?_getD, List.getElem?_append, show j < w.length by omega]
      rw [e1, e2]
      exact hy.1
  · have f := I.fuel
    rw [show m + 2 - w.length = (m + 1 - w.length) + 1 by omega] at f
    unfold wayF at f
    rw [if_neg h] at f
    simp only [List.length_append, List.length_singleton]
    rw [show m + 2 - (w.length + 1) = m + 1 - w.length by omega]
    exact f
theorem WyI.done {ps : Ps} {m : Nat} {w : List Int} (I : WyI ps m w) (h : lastW w ∈ initW w) : w = wayR ps m := by
  have f := I.fuel
  have := I.len
  rw [show m + 2 - w.length = (m + 1 - w.length) + 1 by omega] at f
  unfold wayF at f
  rw [if_pos h] at f
  exact f
theorem wayR_spec {ps : Ps} {m : Nat} (h0 : leftOf ps m ≠ []) : WyI ps m (wayR ps m) ∧ lastW (wayR ps m) ∈ initW (wayR ps m) := by
  have go : ∀ n (w : List Int), m + 2 - w.length ≤ n → WyI ps m w → WyI ps m (wayR ps m) ∧ lastW (wayR ps m) ∈ initW (wayR ps m) := by
    intro n
    induction n with
    | zero => intro w hn I; have := I.len; omega
    | succ n ih =>
      intro w hn I
      by_cases hu : lastW w ∈ initW w
      · have := I.done hu
        rw [← this]
        exact ⟨I, hu⟩
      · obtain ⟨h1, h2, h3⟩ := I.next hu
        exact ih _ (by simp; omega) h2
  exact go _ _ (Nat.le_refl _) (WyI.start h0)
structure IsRing (ps : Ps) (m : Nat) (r : List Int) : Prop where
  two : 2 ≤ r.length
  nd : r.Nodup
  bd : ∀ x ∈ r, 0 ≤ x ∧ x < (m : Int)
  go : ∀ k : Nat, k < r.length → (pyAt r ((k : Int) - 1), pyAt r (k : Int)) ∈ ps
theorem ringW_ring {ps : Ps} {m : Nat} (hself : ∀ a, (a, a) ∉ ps) {w : List Int} (I : WyI ps m w) (h : lastW w ∈ initW w) : IsRing ps m (ringW w) := by
  have hp := I.pos
  have hl := lastW_eq hp
  rw [initW_eq] at h
  -- the place where the way came before
  have hi : w.idxOf (lastW w) < w.length - 1 := by
    have := List.idxOf_lt_length_iff.mpr h
    have e : ∀ x, x ∈ w.take (w.length - 1) → (w.take (w.length - 1)).idxOf x = w.idxOf x := fun x hx => by
      conv => rhs; rw [← List.take_append_drop (w.length - 1) w]
      rw [List.idxOf_append, if_pos hx]
    rw [e _ h] at this
    simp at this
    omega
  have hwi : w.getD (w.idxOf (lastW w)) default = lastW w := by rw [getD_lt (by omega)]; simp
  generalize hgi : w.idxOf (lastW w) = i at hi hwi
  have er : ringW w = (w.drop (i + 1)).reverse := by
    unfold ringW
    rw [hgi]
    have := pySl_from w (i + 1)
    rw [← this]
    rfl
  have rl : (ringW w).length = w.length - (i + 1) := by rw [er]; simp
  have at_ : ∀ k, k < (ringW w).length → pyAt (ringW w) (k : Int) = w.getD (w.length - 1 - k) default := fun k hk => by
    rw [pyAt_nat, getD_lt hk]
    rw [rl] at hk
    simp only [er]
    rw [List.getElem_reverse, List.getElem_drop, getD_lt (by omega)]
    congr 1
    simp
    omega
  have inj : ∀ a b, a < b → b < w.length - 1 → w.getD a default ≠ w.getD b default := fun a b hab hb => by
    have := List.pairwise_iff_getElem.mp (List.nodup_iff_pairwise_ne.mp I.nd) a b (by simp; omega) (by simp; omega) hab
    rw [List.getElem_take, List.getElem_take] at this
    rw [getD_lt (by omega), getD_lt (by omega)]
    exact this
  have two : 2 ≤ (ringW w).length := by
    rw [rl]
    rcases Nat.lt_or_ge (w.length - (i + 1)) 2 with z | z
    · exfalso
      have e : i + 1 = w.length - 1 := by omega
      have c := I.chain i (by omega)
      rw [e, ← hl, hwi] at c
      exact hself _ c
    · exact z
  refine ⟨two, ?_, fun x hx => ?_, fun k hk => ?_⟩
  · rw [er, (List.reverse_perm _).nodup_iff, List.nodup_iff_pairwise_ne, List.pairwise_iff_getElem]
    intro a b ha hb hab
    simp only [List.length_drop] at ha hb
    rw [List.getElem_drop, List.getElem_drop]
    rcases Nat.lt_or_ge (i + 1 + b) (w.length - 1) with z | z
    · have := inj (i + 1 + a) (i + 1 + b) (by omega) z
      rwa [getD_lt (by omega), getD_lt (by omega)] at this
    · have e : i + 1 + b = w.length - 1 := by omega
      have e2 : w[i + 1 + b] = lastW w := by rw [hl, getD_lt (by omega)]; congr 1
      have := inj i (i + 1 + a) (by omega) (by omega)
      rw [hwi, getD_lt (show i + 1 + a < w.length by omega)] at this
      rw [e2]
      exact fun z => this z.symm
  · have : x ∈ leftOf ps m := by
      rw [er, List.mem_reverse] at hx
      exact I.mem x (List.mem_of_mem_drop hx)
    exact rgI_mem.mp (List.mem_filter.mp this).1
  · rcases Nat.eq_zero_or_pos k with z | z
    · subst z
      have e1 : pyAt (ringW w) (((0 : Nat) : Int) - 1) = w.getD (i + 1) default := by
        have : pyAt (ringW w) (((0 : Nat) : Int) - 1) = pyAt (ringW w) (((ringW w).length - 1 : Nat) : Int) := by
          rw [pyAt_nat]
          exact lastW_eq (by omega)
        rw [this, at_ _ (by omega), rl]
        congr 1
        omega
      rw [e1, at_ 0 hk, show w.length - 1 - 0 = w.length - 1 by omega, ← hl, ← hwi]
      exact I.chain i (by omega)
    · have e1 : (k : Int) - 1 = ((k - 1 : Nat) : Int) := by omega
      rw [e1, at_ _ (by omega), at_ k hk]
      rw [rl] at hk
      have c := I.chain (w.length - 1 - k) (by omega)
      rwa [show w.length - 1 - k + 1 = w.length - 1 - (k - 1) by omega] at c
theorem ringOf_ring {ps : Ps} {m : Nat} (hself : ∀ a, (a, a) ∉ ps) {r : List Int} (h : ringOf ps m = some r) : IsRing ps m r := by
  unfold ringOf at h
  split at h
  · cases h
  · rename_i h0
    cases h
    obtain ⟨I, hl⟩ := wayR_spec h0
    exact ringW_ring hself I hl
theorem pairs_self (t s : List (List Int)) : ∀ a, (a, a) ∉ pairsOf t s := fun a h => by
  have := (pair_in h).2.2
  unfold feels at this
  simp at this
end Th
namespace Th
open PySem L2 DL
theorem LnI.lens {ps : Ps} {m : Nat} {t : List Int × List Int} (I : LnI ps m t) : t.1.length + t.2.length = m := by
  have := I.perm.length_eq
  rwa [List.length_append, rgI_len] at this
theorem left_eq (ps : Ps) (m : Nat) : ((List.range m).filter fun (a : Nat) => !decide ((a : Int) ∈ lineOf ps m)).map (fun (a : Nat) => (a : Int)) = leftOf ps m := by
  unfold leftOf rgI
  rw [List.filter_map]
  rfl
theorem lastW_mem {w : List Int} (h : 0 < w.length) : lastW w ∈ w := by
  rw [lastW_eq h, getD_lt (by omega)]
  exact List.getElem_mem _
theorem ah_in {l : List Int} (h : l ≠ []) : inR l.length 0 := by
  have := List.length_pos_iff.mpr h
  exact ⟨by omega, by omega⟩
def ringR (t s : List (List Int)) : List Int := (ringOf (pairsOf t s) t.length).getD []
def lineO (t s : List (List Int)) : Option (List Int) := if ((lineOf (pairsOf t s) t.length).length : Int) < (t.length : Int) then none else some (lineOf (pairsOf t s) t.length)
theorem lineO_some {t s : List (List Int)} (h : leftOf (pairsOf t s) t.length = []) : lineO t s = some (lineOf (pairsOf t s) t.length) := by
  unfold lineO
  rw [if_neg]
  have := leftOf_nil.mp h
  omega
theorem lineO_none {t s : List (List Int)} (h : leftOf (pairsOf t s) t.length ≠ []) : lineO t s = none := by
  unfold lineO
  rw [if_pos]
  have h1 : (lineOf (pairsOf t s) t.length).length ≠ t.length := fun z => h (leftOf_nil.mpr z)
  have := nodup_bd (lineOf_nodup (pairsOf t s) t.length) (lineOf_sub _ _)
  omega
theorem ring_iff {ps : Ps} {m : Nat} : isN (dOL (ringOf ps m)) = decide (leftOf ps m = []) := by
  unfold ringOf
  split
  · rename_i h; simp [h, dOL, isN]
  · rename_i h; simp [h, dOL, isN, dl]
theorem ringR_some {t s : List (List Int)} (h : leftOf (pairsOf t s) t.length ≠ []) : ringOf (pairsOf t s) t.length = some (ringR t s) := by
  unfold ringR ringOf
  rw [if_neg h]
  rfl
theorem ringR_ring {t s : List (List Int)} (h : leftOf (pairsOf t s) t.length ≠ []) : IsRing (pairsOf t s) t.length (ringR t s) := ringOf_ring (pairs_self t s) (ringR_some h)
theorem line_sorted {ps : Ps} {m : Nat} (h : leftOf ps m = []) : sortI (lineOf ps m) = rgI m := by
  have e := leftOf_nil.mp h
  have p := perm_of_nd (lineOf_nodup ps m) (fun x hx => rgI_mem.mpr (lineOf_sub ps m x hx)) (by rw [rgI_len, e])
  exact (sortI_uniq p.symm ((rgI_up m).imp fun h => by omega)).symm
theorem line_full {ps : Ps} {m : Nat} (h : leftOf ps m = []) {x : Int} (hx : 0 ≤ x ∧ x < (m : Int)) : x ∈ lineOf ps m := by
  have e := leftOf_nil.mp h
  have p := perm_of_nd (lineOf_nodup ps m) (fun x hx => rgI_mem.mpr (lineOf_sub ps m x hx)) (by rw [rgI_len, e])
  exact p.symm.subset (rgI_mem.mpr hx)
theorem line_idx {t s : List (List Int)} (h : leftOf (pairsOf t s) t.length = []) : ∀ p ∈ pairsOf t s, p.1 ∈ lineOf (pairsOf t s) t.length ∧ p.2 ∈ lineOf (pairsOf t s) t.length ∧ (lineOf (pairsOf t s) t.length).idxOf p.1 < (lineOf (pairsOf t s) t.length).idxOf p.2 := fun p hp => by
  have h1 := pair_in hp
  have h2 := pair_nn hp
  have m1 := line_full h (x := p.1) ⟨h2.1, h1.1.2⟩
  have m2 := line_full h (x := p.2) ⟨h2.2, h1.2.1.2⟩
  exact ⟨m1, m2, line_index (pairs_self t s) hp (rgI_mem.mpr ⟨h2.1, h1.1.2⟩) m2⟩
/-- where there is a ring, one is found -/
theorem ring_left {t s : List (List Int)} {r : List Int} (hr : IsRing (pairsOf t s) t.length r) : leftOf (pairsOf t s) t.length ≠ [] := fun h => by
  have st := line_idx h
  have two := hr.two
  have step : ∀ k : Nat, k < r.length → (lineOf (pairsOf t s) t.length).idxOf (pyAt r 0) + k ≤ (lineOf (pairsOf t s) t.length).idxOf (pyAt r (k : Int)) := by
    intro k
    induction k with
    | zero => intro _; exact Nat.le_refl _
    | succ k ih =>
      intro hk
      have h1 := ih (by omega)
      have h2 := (st _ (hr.go (k + 1) hk)).2.2
      rw [show ((k + 1 : Nat) : Int) - 1 = (k : Int) by omega] at h2
      simp only at h2
      omega
  have h1 := step (r.length - 1) (by omega)
  have h2 := (st _ (hr.go 0 (by omega))).2.2
  have e : pyAt r (((0 : Nat) : Int) - 1) = pyAt r ((r.length - 1 : Nat) : Int) := by
    rw [pyAt_nat]
    exact lastW_eq (by omega)
  rw [e] at h2
  simp only at h2
  have e0 : pyAt r ((0 : Nat) : Int) = pyAt r 0 := rfl
  rw [e0] at h2
  omega
end Th

set_option Elab.async false
set_option linter.all false
set_option maxRecDepth 100000
/-! a ring put in -/
namespace Th
open PySem L2 DL
def set2 (t : List (List Int)) (a b v : Int) : List (List Int) := t.set (pyIx t.length a) (pySet (t.getD (pyIx t.length a) []) b v)
def arOwn (t : List (List Int)) (a : Int) : Int := min (pyAt (pyAt t a) a) 999000
/-- the table, so many of the ring's heirs done -/
def arS (t : List (List Int)) (way : List Int) (x : Int) : Nat → List (List Int)
  | 0 => t
  | k + 1 => set2 (set2 (arS t way x k) (pyAt way ((k : Int) - 1)) (pyAt way ((k : Int) - 1)) (arOwn (arS t way x k) (pyAt way ((k : Int) - 1)))) (pyAt way ((k : Int) - 1)) (pyAt way (k : Int)) (arOwn (arS t way x k) (pyAt way ((k : Int) - 1)) + 1 + x)
/-- a way of two or more heirs -/
structure GoodW (way : List Int) (n : Nat) : Prop where
  two : 2 ≤ way.length
  bd : ∀ x ∈ way, 0 ≤ x ∧ x < (n : Int)
  nd : way.Nodup
theorem set2_good {t : List (List Int)} {m : Nat} (g : GoodT t m) {a b v : Int} (hb : 0 ≤ b) (hv : 0 ≤ v ∧ v ≤ 1000000) : GoodT (set2 t a b v) m := by
  unfold set2 pySet
  exact set_good g hv
theorem set2_len (t : List (List Int)) (a b v : Int) : (set2 t a b v).length = t.length := by simp [set2]
theorem set2_row {t : List (List Int)} {a b v h : Int} (ha : 0 ≤ a ∧ a < t.length) (hh : 0 ≤ h) : pyAt (set2 t a b v) h = if a = h then pySet (pyAt t a) b v else pyAt t h := by
  have e : set2 t a b v = pySet t a (pySet (pyAt t a) b v) := by
    unfold set2
    rw [pyAt_ix]
    rfl
  rw [e, pyAt_set ha.1 ha.2 hh]
theorem way_m1 {way : List Int} {n : Nat} (w : GoodW way n) {k : Nat} (hk : k < way.length) : pyAt way ((k : Int) - 1) = way.getD (if k = 0 then way.length - 1 else k - 1) default := by
  have := w.two
  split
  · rename_i e
    subst e
    exact lastW_eq (by omega)
  · rename_i e
    rw [show (k : Int) - 1 = ((k - 1 : Nat) : Int) by omega, pyAt_nat]
theorem way_in {way : List Int} {n : Nat} (w : GoodW way n) {k : Nat} (hk : k < way.length) : inR way.length ((k : Int) - 1) ∧ inR way.length (k : Int) := ⟨⟨by omega, by omega⟩, ⟨by omega, by omega⟩⟩
theorem way_bd {way : List Int} {n : Nat} (w : GoodW way n) {k : Nat} (hk : k < way.length) : (0 ≤ pyAt way ((k : Int) - 1) ∧ pyAt way ((k : Int) - 1) < (n : Int)) ∧ 0 ≤ pyAt way (k : Int) ∧ pyAt way (k : Int) < (n : Int) :=
  ⟨w.bd _ (pyAt_mem (way_in w hk).1), w.bd _ (pyAt_mem (way_in w hk).2)⟩
theorem way_ne {way : List Int} {n : Nat} (w : GoodW way n) {k : Nat} (hk : k < way.length) : pyAt way ((k : Int) - 1) ≠ pyAt way (k : Int) := by
  rw [way_m1 w hk, pyAt_nat]
  have := w.two
  intro e
  rw [getD_lt (by split <;> omega), getD_lt hk] at e
  have := (List.getElem_inj w.nd).mp e
  split at this <;> omega
theorem way_inj {way : List Int} {n : Nat} (w : GoodW way n) {j k : Nat} (hj : j < way.length) (hk : k < way.length) (e : pyAt way ((j : Int) - 1) = pyAt way ((k : Int) - 1)) : j = k := by
  have := w.two
  rw [way_m1 w hj, way_m1 w hk] at e
  rw [getD_lt (by split <;> omega), getD_lt (by split <;> omega)] at e
  have := (List.getElem_inj w.nd).mp e
  split at this <;> split at this <;> omega
section
variable {t : List (List Int)} {n : Nat} {way : List Int} {x : Int}
theorem arOwn_bd (g : GoodT t n) {a : Int} (ha : inR t.length a) (ha2 : inR n a) : 0 ≤ arOwn t a ∧ arOwn t a ≤ 999000 := by
  unfold arOwn
  have h := g.nn ha _ (pyAt_mem (by rw [g.at ha]; exact ha2))
  omega
theorem arS_good (g : GoodT t n) (hn : t.length = n) (w : GoodW way n) (hx : 0 ≤ x ∧ x < 999) : ∀ k, k ≤ way.length → GoodT (arS t way x k) n ∧ (arS t way x k).length = n
  | 0, _ => ⟨g, hn⟩
  | k + 1, hk => by
    obtain ⟨h1, h2⟩ := arS_good g hn w hx k (by omega)
    obtain ⟨b1, b2⟩ := way_bd w (show k < way.length by omega)
    have ob := arOwn_bd h1 (a := pyAt way ((k : Int) - 1)) (by rw [h2]; exact ⟨by omega, by omega⟩) ⟨by omega, by omega⟩
    refine ⟨set2_good (set2_good h1 b1.1 (by omega)) b2.1 (by omega), by unfold arS; rw [set2_len, set2_len, h2]⟩
/-- whoever has been done envies the next -/
theorem arS_done (g : GoodT t n) (hn : t.length = n) (w : GoodW way n) (hx : 0 ≤ x ∧ x < 999) : ∀ k, k ≤ way.length → ∀ j, j < k → pyAt (pyAt (arS t way x k) (pyAt way ((j : Int) - 1))) (pyAt way ((j : Int) - 1)) < pyAt (pyAt (arS t way x k) (pyAt way ((j : Int) - 1))) (pyAt way (j : Int))
  | 0, _, j, hj => by omega
  | k + 1, hk, j, hj => by
    obtain ⟨h1, h2⟩ := arS_good g hn w hx k (by omega)
    have hkl : k < way.length := by omega
    have hjl : j < way.length := by omega
    obtain ⟨b1, b2⟩ := way_bd w hkl
    obtain ⟨c1, c2⟩ := way_bd w hjl
    have g1 := set2_good (a := pyAt way ((k : Int) - 1)) h1 b1.1 (v := arOwn (arS t way x k) (pyAt way ((k : Int) - 1))) (by
      have := arOwn_bd h1 (a := pyAt way ((k : Int) - 1)) (by rw [h2]; exact ⟨by omega, by omega⟩) ⟨by omega, by omega⟩
      omega)
    unfold arS
    rw [set2_row (by rw [set2_len, h2]; exact b1) c1.1, set2_row (by rw [h2]; exact b1) b1.1, set2_row (by rw [h2]; exact b1) c1.1, if_pos rfl]
    by_cases e : pyAt way ((k : Int) - 1) = pyAt way ((j : Int) - 1)
    · have ejk := way_inj w hkl hjl e
      subst ejk
      rw [if_pos rfl]
      have rl : (pyAt (arS t way x k) (pyAt way ((k : Int) - 1))).length = n := h1.at (by rw [h2]; exact ⟨by omega, by omega⟩)
      have ne := way_ne w hkl
      have l1 : (pySet (pyAt (arS t way x k) (pyAt way ((k : Int) - 1))) (pyAt way ((k : Int) - 1)) (arOwn (arS t way x k) (pyAt way ((k : Int) - 1)))).length = n := by simp [pySet, rl]
      rw [pyAt_set b2.1 (by rw [l1]; exact b2.2) b1.1, if_neg (Ne.symm ne), pyAt_set b1.1 (by rw [rl]; exact b1.2) b1.1, if_pos rfl, pyAt_set b2.1 (by rw [l1]; exact b2.2) b2.1, if_pos rfl]
      omega
    · rw [if_neg e, if_neg e]
      have hjk : j < k := by
        rcases Nat.lt_or_ge j k with z | z
        · exact z
        · have : j = k := by omega
          subst this
          exact absurd rfl e
      exact arS_done g hn w hx k (by omega) j hjk
end
/-- heir k with thing k -/
def ownS (n : Nat) : List (List Int) := (List.range n).map fun (h : Nat) => [(h : Int)]
theorem ownS_at {n : Nat} {h : Int} (hh : 0 ≤ h ∧ h < n) : pyAt (ownS n) h = [h] := by
  obtain ⟨a, rfl⟩ : ∃ a : Nat, h = a := ⟨h.toNat, by omega⟩
  rw [pyAt_nat]
  unfold ownS
  rw [getD_map_range _ (by omega)]
theorem ownS_good (n : Nat) : GoodS (ownS n) n n where
  n := by simp [ownS]
  bd := fun r hr x hx => by
    simp only [ownS, List.mem_map, List.mem_range] at hr
    obtain ⟨h, hh, rfl⟩ := hr
    simp only [List.mem_singleton] at hx
    omega
  up := fun r hr => by
    simp only [ownS, List.mem_map] at hr
    obtain ⟨h, _, rfl⟩ := hr
    simp
  nd := by
    have e : (ownS n).flatten = rgI n := by
      unfold ownS rgI
      induction (List.range n) with
      | nil => rfl
      | cons a as ih => simp only [List.map_cons, List.flatten_cons, List.singleton_append, ih]
    rw [e]
    exact rgI_nodup n
theorem own_ring {t : List (List Int)} {n : Nat} {way : List Int} (g : GoodT t n) (hn : t.length = n) (w : GoodW way n) (hd : ∀ j, j < way.length → pyAt (pyAt t (pyAt way ((j : Int) - 1))) (pyAt way ((j : Int) - 1)) < pyAt (pyAt t (pyAt way ((j : Int) - 1))) (pyAt way (j : Int))) : IsRing (pairsOf t (ownS n)) t.length way := by
  refine ⟨w.two, w.nd, fun x hx => by rw [hn]; exact w.bd x hx, fun k hk => ?_⟩
  obtain ⟨b1, b2⟩ := way_bd w hk
  refine mem_pairsOf.mpr ⟨(pyAt way ((k : Int) - 1)).toNat, (pyAt way (k : Int)).toNat, ?_, by omega, by omega, ?_⟩
  · rw [Int.toNat_of_nonneg b1.1, Int.toNat_of_nonneg b2.1]
  · rw [Int.toNat_of_nonneg b1.1, Int.toNat_of_nonneg b2.1]
    unfold feels
    rw [ownS_at b1, ownS_at b2]
    have := hd k hk
    simp only [summed, List.map_cons, List.map_nil, List.sum_cons, List.sum_nil, Int.add_zero]
    simpa using this
/-- the law's way -/
def lWayK (ns : List Int) (n : Nat) : Nat := (2 + lAt ns 49 % ((n : Int) - 1)).toNat
def lWay (ns : List Int) (n : Nat) : List Int := (popS (oIx (lAt ns 50)) (rgI n) (lWayK ns n)).2
theorem lWayK_bd (ns : List Int) {n : Nat} (hn : 2 ≤ n) : 2 ≤ lWayK ns n ∧ lWayK ns n ≤ n ∧ 2 + lAt ns 49 % ((n : Int) - 1) = (lWayK ns n : Int) := by
  have h1 := Int.emod_nonneg (lAt ns 49) (show ((n : Int) - 1) ≠ 0 by omega)
  have h2 := Int.emod_lt_of_pos (lAt ns 49) (show (0 : Int) < (n : Int) - 1 by omega)
  unfold lWayK
  omega
theorem popS_len2 (idx : Nat → List Int → Int) (ms : List Int) : ∀ k, (popS idx ms k).2.length = k
  | 0 => rfl
  | k + 1 => by simp only [popS, List.length_append, popS_len2 idx ms k]; rfl
theorem pop_st (c : Int) {n k : Nat} (hk : k ≤ n) : (popS (oIx c) (rgI n) k).1.length = n - k ∧ ((popS (oIx c) (rgI n) k).1 ++ (popS (oIx c) (rgI n) k).2).Perm (rgI n) := by
  have := popS_perm (oIx c) (rgI n) (fun t ls h1 h2 => oIx_bd t ls (by rwa [rgI_len] at h1) h2) k (by rw [rgI_len]; exact hk)
  rwa [rgI_len] at this
theorem lWay_good (ns : List Int) {n : Nat} (hn : 2 ≤ n) : GoodW (lWay ns n) n := by
  obtain ⟨b1, b2, b3⟩ := lWayK_bd ns hn
  have p := (pop_st (lAt ns 50) b2).2
  have nd := p.nodup_iff.mpr (rgI_nodup n)
  refine ⟨?_, fun x hx => rgI_mem.mp (p.subset (List.mem_append_right _ hx)), (List.nodup_append.mp nd).2.1⟩
  unfold lWay
  rw [popS_len2]
  exact b1
def lAround (ns : List Int) (n : Nat) : List (List Int) := arS (lTable ns n n) (lWay ns n) (lAt ns 51 % 999) (lWay ns n).length
theorem lAround_spec (ns : List Int) {n : Nat} (hn : 2 ≤ n) (h8 : n ≤ 8) : GoodT (lAround ns n) n ∧ (lAround ns n).length = n ∧ IsRing (pairsOf (lAround ns n) (ownS n)) (lAround ns n).length (lWay ns n) := by
  have g := lTable_good ns (n := n) (many := n) (by omega) h8 (by omega)
  have hl : (lTable ns n n).length = n := by simp [lTable]
  have w := lWay_good ns hn
  have hx : 0 ≤ lAt ns 51 % 999 ∧ lAt ns 51 % 999 < 999 := by omega
  obtain ⟨q1, q2⟩ := arS_good g hl w hx _ (Nat.le_refl _)
  exact ⟨q1, q2, own_ring q1 q2 w (arS_done g hl w hx _ (Nat.le_refl _))⟩
/-- k07's table, things and shares -/
def k7c (ns : List Int) : Bool := decide (lAt ns 48 % 3 = 1) && decide ((1 : Int) < (nH ns : Int))
def k7T (ns : List Int) : List (List Int) := if k7c ns = true then lAround ns (nH ns) else lTable ns (nH ns) (nM ns)
def k7S (ns : List Int) : List (List Int) := if k7c ns = true then ownS (nH ns) else lShares ns (nH ns) (nM ns)
def k7m (ns : List Int) : Nat := if k7c ns = true then nH ns else nM ns
theorem k7_good (ns : List Int) : GoodT (k7T ns) (k7m ns) ∧ GoodS (k7S ns) (k7T ns).length (k7m ns) ∧ (k7T ns).length = nH ns := by
  have b1 := nH_bd ns
  unfold k7T k7S k7m
  by_cases h : k7c ns = true
  · rw [if_pos h, if_pos h, if_pos h]
    have h2 : 2 ≤ nH ns := by
      unfold k7c at h
      simp at h
      omega
    obtain ⟨q1, q2, _⟩ := lAround_spec ns h2 b1.2
    exact ⟨q1, by rw [q2]; exact ownS_good _, q2⟩
  · rw [if_neg h, if_neg h, if_neg h]
    have e : (lTable ns (nH ns) (nM ns)).length = nH ns := by simp [lTable]
    refine ⟨lTable_good ns b1.1 b1.2 (by have := nM_bd ns; omega), ?_, e⟩
    rw [e]
    exact lShares_good ns b1.1
end Th
namespace Th
open PySem L2 DL
theorem gx {t : List (List Int)} {n : Nat} (g : GoodT t n) (hl : t.length = n) {a b : Int} (ha : 0 ≤ a ∧ a < (n : Int)) (hb : 0 ≤ b ∧ b < (n : Int)) : inR t.length a ∧ inR (pyAt t a).length b ∧ inR (t.getD (pyIx t.length a) []).length b := by
  have h1 : inR t.length a := by rw [hl]; exact ⟨by omega, by omega⟩
  have h2 : inR (pyAt t a).length b := by rw [g.at h1]; exact ⟨by omega, by omega⟩
  refine ⟨h1, h2, ?_⟩
  rw [pyAt_ix] at h2
  exact h2
end Th
namespace Th
theorem dec_t {p : Prop} {i : Decidable p} (h : p) : @decide p i = true := by
  cases i with
  | isTrue _ => rfl
  | isFalse q => exact absurd h q
end Th

set_option Elab.async false
set_option linter.all false
set_option maxRecDepth 100000
/-! a ring turned -/
namespace Th
open PySem L2 DL
def exS (s : List (List Int)) (r : List Int) : Nat → List (List Int)
  | 0 => s
  | k + 1 => pySet (exS s r k) (pyAt r (k : Int)) (pyAt s (pyAt r (((k : Int) + 1) % (r.length : Int))))
def dueS (s : List (List Int)) (way : List Int) : Nat → List (List Int)
  | 0 => s
  | k + 1 => pySet (dueS s way k) (pyAt way ((k : Int) - 1)) (pyAt s (pyAt way (k : Int)))
def nxt (way : List Int) (h : Int) : Int := if h ∈ way then way.getD ((way.idxOf h + 1) % way.length) default else h
def turnS (s : List (List Int)) (way : List Int) (n : Nat) : List (List Int) := (List.range n).map fun (h : Nat) => pyAt s (nxt way (h : Int))
theorem ext_at {xs ys : List (List Int)} (h : xs.length = ys.length) (h2 : ∀ k : Nat, k < xs.length → pyAt xs (k : Int) = pyAt ys (k : Int)) : xs = ys := by
  refine List.ext_getElem h fun k h3 h4 => ?_
  have := h2 k h3
  rwa [pyAt_nat, pyAt_nat, getD_lt h3, getD_lt h4] at this
theorem foldS {s : List (List Int)} {n K : Nat} (hn : s.length = n) (F : Nat → List (List Int)) (a : Nat → Int) (f : Int → Int) (h0 : F 0 = s) (hs : ∀ k, k < K → F (k + 1) = pySet (F k) (a k) (pyAt s (f (a k)))) (ha : ∀ k, k < K → 0 ≤ a k ∧ a k < (n : Int)) :
    ∀ k, k ≤ K → (F k).length = n ∧ ∀ h : Int, 0 ≤ h → h < (n : Int) → ((∃ j, j < k ∧ a j = h) → pyAt (F k) h = pyAt s (f h)) ∧ ((¬ ∃ j, j < k ∧ a j = h) → pyAt (F k) h = pyAt s h) := by
  intro k
  induction k with
  | zero => intro _; rw [h0]; exact ⟨hn, fun h _ _ => ⟨fun ⟨j, hj, _⟩ => by omega, fun _ => rfl⟩⟩
  | succ k ih =>
    intro hk
    obtain ⟨l, q⟩ := ih (by omega)
    have hak := ha k (by omega)
    rw [hs k (by omega)]
    refine ⟨by simp [pySet, l], fun h h1 h2 => ?_⟩
    rw [pyAt_set hak.1 (by rw [l]; exact hak.2) h1]
    obtain ⟨q1, q2⟩ := q h h1 h2
    by_cases e : a k = h
    · rw [if_pos e]
      exact ⟨fun _ => by rw [e], fun z => absurd ⟨k, by omega, e⟩ z⟩
    · rw [if_neg e]
      refine ⟨fun ⟨j, hj, hj2⟩ => q1 ⟨j, ?_, hj2⟩, fun z => q2 fun ⟨j, hj, hj2⟩ => z ⟨j, by omega, hj2⟩⟩
      rcases Nat.lt_or_ge j k with y | y
      · exact y
      · have : j = k := by omega
        subst this
        exact absurd hj2 e
section
variable {way : List Int} {n : Nat} {s : List (List Int)}
theorem nxt_at (w : GoodW way n) {k : Nat} (hk : k < way.length) : nxt way (way.getD k default) = way.getD ((k + 1) % way.length) default := by
  unfold nxt
  have hm : way.getD k default ∈ way := getD_memA hk
  rw [if_pos hm]
  have hi := List.idxOf_lt_length_iff.mpr hm
  have e : way.idxOf (way.getD k default) = k := by
    have e1 : way[way.idxOf (way.getD k default)] = way[k] := by
      rw [List.getElem_idxOf hi, getD_lt hk]
    exact (List.getElem_inj w.nd).mp e1
  rw [e]
theorem nxt_mem (w : GoodW way n) {h : Int} (hh : h ∈ way) : nxt way h ∈ way := by
  unfold nxt
  rw [if_pos hh]
  exact getD_memA (Nat.mod_lt _ (by have := w.two; omega))
theorem nxt_bd (w : GoodW way n) {h : Int} (hh : 0 ≤ h ∧ h < (n : Int)) : 0 ≤ nxt way h ∧ nxt way h < (n : Int) := by
  by_cases e : h ∈ way
  · exact w.bd _ (nxt_mem w e)
  · unfold nxt; rw [if_neg e]; exact hh
theorem mod_inj {len i j : Nat} (hi : i < len) (hj : j < len) (h : (i + 1) % len = (j + 1) % len) : i = j := by
  rcases Nat.lt_or_ge (i + 1) len with a | a <;> rcases Nat.lt_or_ge (j + 1) len with b | b
  · rw [Nat.mod_eq_of_lt a, Nat.mod_eq_of_lt b] at h; omega
  · have : j + 1 = len := by omega
    rw [Nat.mod_eq_of_lt a, this, Nat.mod_self] at h; omega
  · have : i + 1 = len := by omega
    rw [Nat.mod_eq_of_lt b, this, Nat.mod_self] at h; omega
  · omega
theorem at_idx (h : Int) (hh : h ∈ way) : ∃ k, k < way.length ∧ way.getD k default = h := by
  obtain ⟨k, hk, e⟩ := List.mem_iff_getElem.mp hh
  exact ⟨k, hk, by rw [getD_lt hk, e]⟩
theorem nxt_inj (w : GoodW way n) {x y : Int} (h : nxt way x = nxt way y) : x = y := by
  by_cases ex : x ∈ way <;> by_cases ey : y ∈ way
  · obtain ⟨i, hi, rfl⟩ := at_idx x ex
    obtain ⟨j, hj, rfl⟩ := at_idx y ey
    rw [nxt_at w hi, nxt_at w hj] at h
    have l : 0 < way.length := by have := w.two; omega
    rw [getD_lt (Nat.mod_lt _ l), getD_lt (Nat.mod_lt _ l)] at h
    rw [mod_inj hi hj ((List.getElem_inj w.nd).mp h)]
  · have := nxt_mem w ex
    rw [h] at this
    unfold nxt at this
    rw [if_neg ey] at this
    exact absurd this ey
  · have := nxt_mem w ey
    rw [← h] at this
    unfold nxt at this
    rw [if_neg ex] at this
    exact absurd this ex
  · unfold nxt at h
    rwa [if_neg ex, if_neg ey] at h
theorem turnS_at {h : Int} (hh : 0 ≤ h ∧ h < (n : Int)) : pyAt (turnS s way n) h = pyAt s (nxt way h) := by
  obtain ⟨a, rfl⟩ : ∃ a : Nat, h = a := ⟨h.toNat, by omega⟩
  rw [pyAt_nat]
  unfold turnS
  rw [getD_map_range _ (by omega)]
theorem turn_of {K : Nat} (hn : s.length = n) (F : Nat → List (List Int)) (a : Nat → Int) (h0 : F 0 = s) (hs : ∀ k, k < K → F (k + 1) = pySet (F k) (a k) (pyAt s (nxt way (a k)))) (ha : ∀ k, k < K → 0 ≤ a k ∧ a k < (n : Int)) (hw : ∀ h, (∃ j, j < K ∧ a j = h) ↔ h ∈ way) : F K = turnS s way n := by
  obtain ⟨l, q⟩ := foldS hn F a (nxt way) h0 hs ha K (Nat.le_refl _)
  refine ext_at (by rw [l]; simp [turnS]) fun k hk => ?_
  rw [l] at hk
  rw [turnS_at ⟨by omega, by omega⟩]
  obtain ⟨q1, q2⟩ := q (k : Int) (by omega) (by omega)
  by_cases e : (k : Int) ∈ way
  · exact q1 ((hw _).mpr e)
  · rw [q2 fun z => e ((hw _).mp z)]
    unfold nxt
    rw [if_neg e]
theorem due_eq (w : GoodW way n) (hn : s.length = n) : dueS s way way.length = turnS s way n := by
  have l : 0 < way.length := by have := w.two; omega
  have two := w.two
  refine turn_of hn (dueS s way) (fun k => pyAt way ((k : Int) - 1)) rfl (fun k hk => ?_) (fun k hk => (way_bd w hk).1) fun h => ⟨fun ⟨j, hj, e⟩ => e ▸ pyAt_mem (way_in w hj).1, fun hh => ?_⟩
  · have e : nxt way (pyAt way ((k : Int) - 1)) = pyAt way (k : Int) := by
      rw [way_m1 w hk, nxt_at w (by split <;> omega), pyAt_nat]
      congr 1
      split
      · rename_i z; subst z; rw [show way.length - 1 + 1 = way.length by omega, Nat.mod_self]
      · rw [show k - 1 + 1 = k by omega, Nat.mod_eq_of_lt hk]
    show pySet _ _ _ = pySet _ _ (pyAt s (nxt way (pyAt way ((k : Int) - 1))))
    rw [e]
  · obtain ⟨i, hi, rfl⟩ := at_idx h hh
    refine ⟨(i + 1) % way.length, Nat.mod_lt _ l, ?_⟩
    show pyAt way ((((i + 1) % way.length : Nat) : Int) - 1) = _
    rw [way_m1 w (Nat.mod_lt _ l)]
    congr 1
    rcases Nat.lt_or_ge (i + 1) way.length with z | z
    · rw [Nat.mod_eq_of_lt z, if_neg (by omega)]; omega
    · have : i + 1 = way.length := by omega
      rw [this, Nat.mod_self, if_pos rfl]; omega
/-- the way told from one of its heirs on -/
def rotW (way : List Int) (st : Nat) : List Int := way.drop st ++ way.take st
theorem rot_at (h0 : 0 < way.length) {st k : Nat} (hs : st < way.length) (hk : k < way.length) : (rotW way st).getD k default = way.getD ((st + k) % way.length) default := by
  have hl : (way.drop st).length = way.length - st := by simp
  unfold rotW
  rcases Nat.lt_or_ge k (way.length - st) with z | z
  · rw [Nat.mod_eq_of_lt (by omega)]
    simp only [List.getD_eq_getElem?_getD]
    rw [List.getElem?_append_left (by omega), List.getElem?_drop]
  · have e : (st + k) % way.length = k - (way.length - st) := by
      rw [show st + k = (k - (way.length - st)) + way.length by omega, Nat.add_mod_right, Nat.mod_eq_of_lt (by omega)]
    rw [e]
    have z2 : ¬ k < way.length - st := by omega
    simp only [List.getD_eq_getElem?_getD]
    rw [List.getElem?_append_right (by omega), hl, List.getElem?_take_of_lt (by omega)]
theorem rot_len (st : Nat) : (rotW way st).length = way.length := by
  unfold rotW
  simp
  omega
theorem rot_perm (st : Nat) : (rotW way st).Perm way := by
  unfold rotW
  refine List.perm_append_comm.trans ?_
  rw [List.take_append_drop]
theorem rot_good (w : GoodW way n) (st : Nat) : GoodW (rotW way st) n := ⟨by rw [rot_len]; exact w.two, fun x hx => w.bd x ((rot_perm st).subset hx), (rot_perm st).nodup_iff.mpr w.nd⟩
theorem rot_next (w : GoodW way n) {st k : Nat} (hs : st < way.length) (hk : k < way.length) : pyAt (rotW way st) (((k : Int) + 1) % ((rotW way st).length : Int)) = nxt way (pyAt (rotW way st) (k : Int)) := by
  have l : 0 < way.length := by have := w.two; omega
  rw [rot_len, pyAt_nat, rot_at l hs hk, nxt_at w (Nat.mod_lt _ l)]
  have e : ((k : Int) + 1) % (way.length : Int) = (((k + 1) % way.length : Nat) : Int) := by rw [Int.natCast_emod]; rfl
  rw [e, pyAt_nat, rot_at l hs (Nat.mod_lt _ l)]
  congr 1
  rw [Nat.add_mod_mod, Nat.mod_add_mod]
  rfl
theorem ex_eq (w : GoodW way n) (hn : s.length = n) {st : Nat} (hs : st < way.length) : exS s (rotW way st) (rotW way st).length = turnS s way n := by
  refine turn_of hn (exS s (rotW way st)) (fun k => pyAt (rotW way st) (k : Int)) rfl (fun k hk => ?_) (fun k hk => (rot_good w st).bd _ (pyAt_mem ⟨by omega, by omega⟩)) fun h => ⟨fun ⟨j, hj, e⟩ => (rot_perm st).subset (e ▸ pyAt_mem ⟨by omega, by omega⟩), fun hh => ?_⟩
  · show pySet _ _ _ = pySet _ _ (pyAt s (nxt way (pyAt (rotW way st) (k : Int))))
    rw [← rot_next w hs (by rwa [rot_len] at hk)]
  · obtain ⟨i, hi, e⟩ := at_idx h ((rot_perm st).symm.subset hh)
    exact ⟨i, hi, by rw [pyAt_nat]; exact e⟩
theorem turn_perm (w : GoodW way n) (hn : s.length = n) : (turnS s way n).Perm s := by
  have e : s = ((List.range n).map fun (h : Nat) => (h : Int)).map fun h => pyAt s h := by
    refine ext_at (by simp [hn]) fun k hk => ?_
    rw [List.map_map]
    rw [pyAt_nat (List.map _ _), getD_map_range _ (by omega)]
    rfl
  have e2 : turnS s way n = (((List.range n).map fun (h : Nat) => (h : Int)).map fun h => nxt way h).map fun h => pyAt s h := by
    unfold turnS
    rw [List.map_map, List.map_map]
    rfl
  rw [e2]
  conv => rhs; rw [e]
  refine List.Perm.map _ ?_
  refine perm_of_nd ?_ (fun x hx => ?_) (by simp)
  · rw [List.nodup_iff_pairwise_ne, List.pairwise_map]
    have : ((List.range n).map fun (h : Nat) => (h : Int)).Nodup := rgI_nodup n
    exact (List.nodup_iff_pairwise_ne.mp this).imp fun h z => h (nxt_inj w z)
  · obtain ⟨y, hy, rfl⟩ := List.mem_map.mp hx
    have := rgI_mem.mp (show y ∈ rgI n from hy)
    exact rgI_mem.mpr (nxt_bd w this)
end
/-- how many envy, by who envies -/
theorem pRow_count {t s : List (List Int)} {n : Nat} (hn : s.length = n) (h : Nat) : (pRow t s h n).length = s.countP fun b => decide (summed (pyAt t (h : Int)) (pyAt s (h : Int)) < summed (pyAt t (h : Int)) b) := by
  unfold pRow feels
  rw [List.length_map]
  have e : s = (List.range n).map fun (o : Nat) => pyAt s (o : Int) := by
    refine ext_at (by simp [hn]) fun k hk => ?_
    rw [pyAt_nat (List.map _ _), getD_map_range _ (by omega)]
  have gen : ∀ q : List Int → Bool, s.countP q = ((List.range n).filter fun (o : Nat) => q (pyAt s (o : Int))).length := fun q => by
    conv => lhs; rw [e]
    rw [List.countP_map, List.countP_eq_length_filter]
    rfl
  rw [gen]
theorem pAll_lt {t s s' : List (List Int)} {n : Nat} : ∀ i, (∀ h, h < i → (pRow t s' h n).length ≤ (pRow t s h n).length) → (pAll t s' n i).length ≤ (pAll t s n i).length ∧ ((∃ h, h < i ∧ (pRow t s' h n).length < (pRow t s h n).length) → (pAll t s' n i).length < (pAll t s n i).length)
  | 0, _ => ⟨Nat.le_refl _, fun ⟨h, hh, _⟩ => by omega⟩
  | i + 1, hle => by
    obtain ⟨h1, h2⟩ := pAll_lt i fun h hh => hle h (by omega)
    have h3 := hle i (by omega)
    rw [pAll_succ, pAll_succ, List.length_append, List.length_append]
    refine ⟨by omega, fun ⟨h, hh, hlt⟩ => ?_⟩
    rcases Nat.lt_or_ge h i with z | z
    · have := h2 ⟨h, z, hlt⟩; omega
    · have : h = i := by omega
      subst this
      omega
theorem countP_lt {α : Type} {p q : α → Bool} {xs : List α} (h : ∀ x ∈ xs, p x = true → q x = true) {a : α} (ha : a ∈ xs) (h1 : p a = false) (h2 : q a = true) : xs.countP p < xs.countP q := by
  induction xs with
  | nil => cases ha
  | cons x xs ih =>
    have mono : xs.countP p ≤ xs.countP q := List.countP_mono_left fun y hy => h y (by simp [hy])
    rw [List.countP_cons, List.countP_cons]
    rcases List.mem_cons.mp ha with e | e
    · subst e
      rw [if_neg (by simp [h1]), if_pos h2]
      omega
    · have := ih (fun y hy => h y (by simp [hy])) e
      by_cases hx : p x = true
      · rw [if_pos hx, if_pos (h x (by simp) hx)]; omega
      · rw [if_neg hx]
        split <;> omega
/-- what a turn of a ring of envy does -/
theorem turn_less {t s : List (List Int)} {way : List Int} {n : Nat} (ht : t.length = n) (hn : s.length = n) (w : GoodW way n) (hf : ∀ h ∈ way, feels t s h (nxt way h) = true) : (pairsOf t (turnS s way n)).length < (pairsOf t s).length := by
  have tl : (turnS s way n).length = n := by simp [turnS]
  have two := w.two
  have cnt : ∀ h : Nat, h < n → (pRow t (turnS s way n) h n).length = s.countP fun b => decide (summed (pyAt t (h : Int)) (pyAt s (nxt way (h : Int))) < summed (pyAt t (h : Int)) b) := fun h hh => by
    rw [pRow_count tl, (turn_perm w hn).countP_eq, turnS_at ⟨by omega, by omega⟩]
  have le : ∀ h, h < n → (pRow t (turnS s way n) h n).length ≤ (pRow t s h n).length ∧ ((h : Int) ∈ way → (pRow t (turnS s way n) h n).length < (pRow t s h n).length) := fun h hh => by
    rw [cnt h hh, pRow_count hn]
    by_cases e : (h : Int) ∈ way
    · have hlt := of_decide_eq_true (hf _ e)
      have nb := nxt_bd w (h := (h : Int)) ⟨by omega, by omega⟩
      have := countP_lt (p := fun b => decide (summed (pyAt t (h : Int)) (pyAt s (nxt way (h : Int))) < summed (pyAt t (h : Int)) b)) (q := fun b => decide (summed (pyAt t (h : Int)) (pyAt s (h : Int)) < summed (pyAt t (h : Int)) b)) (xs := s) (fun x _ hx => by
        have := of_decide_eq_true hx
        exact decide_eq_true (by omega)) (a := pyAt s (nxt way (h : Int))) (pyAt_mem (by rw [hn]; exact ⟨by omega, by omega⟩)) (by simp) (decide_eq_true hlt)
      exact ⟨by omega, fun _ => this⟩
    · have en : nxt way (h : Int) = (h : Int) := by unfold nxt; rw [if_neg e]
      rw [en]
      exact ⟨Nat.le_refl _, fun z => absurd z e⟩
  unfold pairsOf
  rw [ht]
  refine (pAll_lt n fun h hh => (le h hh).1).2 ?_
  have hm : way.getD 0 default ∈ way := getD_memA (by omega)
  have hb := w.bd _ hm
  refine ⟨(way.getD 0 default).toNat, by omega, (le _ (by omega)).2 ?_⟩
  rw [Int.toNat_of_nonneg hb.1]
  exact hm
end Th
namespace Th
open PySem L2 DL
theorem add_good {s : List (List Int)} {n m j : Nat} (h : GoodS s n m) (hj : j < s.length) : GoodS (s.set j (s.getD j [] ++ [(m : Int)])) n (m + 1) := by
  have hm : s.getD j [] ∈ s := by simp [List.getD_eq_getElem?_getD, hj]
  refine ⟨by rw [List.length_set]; exact h.n, fun r hr x hx => ?_, fun r hr => ?_, ?_⟩
  · rcases List.mem_or_eq_of_mem_set hr with z | z
    · have := h.bd r z x hx; omega
    · rw [z] at hx
      rcases List.mem_append.mp hx with y | y
      · have := h.bd _ hm x y; omega
      · simp at y; omega
  · rcases List.mem_or_eq_of_mem_set hr with z | z
    · exact h.up r z
    · rw [z, List.pairwise_append]
      refine ⟨h.up _ hm, by simp, fun a ha b hb => ?_⟩
      simp at hb
      have := h.bd _ hm a ha
      omega
  · have p := flat_set (x := (m : Int)) hj
    rw [p.nodup_iff, List.nodup_append]
    refine ⟨h.nd, by simp, fun a ha b hb => ?_⟩
    simp at hb
    obtain ⟨r, hr, hx⟩ := List.mem_flatten.mp ha
    have := h.bd r hr a hx
    omega
theorem perm_good {s s' : List (List Int)} {n m : Nat} (p : s'.Perm s) (h : GoodS s n m) : GoodS s' n m :=
  ⟨by rw [p.length_eq]; exact h.n, fun r hr => h.bd r (p.subset hr), fun r hr => h.up r (p.subset hr), (p.flatten).nodup_iff.mpr h.nd⟩
def k8n (ns : List Int) : Nat := max 2 (nH ns)
def k8R (ns : List Int) : Nat → List (List Int)
  | 0 => lAround ns (k8n ns)
  | k + 1 => (k8R ns k).map fun r => r ++ [0]
def k8to (ns : List Int) (k : Nat) : Int := lMixed (lAt ns 47) k / 3 % (k8n ns : Int)
def k8H (ns : List Int) : Nat → List (List Int)
  | 0 => ownS (k8n ns)
  | k + 1 => (k8H ns k).set (pyIx (k8H ns k).length (k8to ns k)) ((k8H ns k).getD (pyIx (k8H ns k).length (k8to ns k)) [] ++ [(k8n ns : Int) + (k : Int)])
def k8K (ns : List Int) : Nat := (lAt ns 48 % 4).toNat
theorem k8K_eq (ns : List Int) : V.int (lAt ns 48 % 4) = V.int (k8K ns) ∧ k8K ns ≤ 3 := by
  unfold k8K
  exact ⟨congrArg V.int (by omega), by omega⟩
theorem k8n_bd (ns : List Int) : 2 ≤ k8n ns ∧ k8n ns ≤ 8 := by
  have := nH_bd ns
  unfold k8n
  omega
theorem k8n_eq (ns : List Int) : V.int (max 2 (lHeirs (lAt ns 0))) = V.int (k8n ns) := by
  have := lHeirs_bd (lAt ns 0)
  unfold k8n nH
  exact congrArg V.int (by omega)
theorem k8H_len (ns : List Int) : ∀ k, (k8H ns k).length = k8n ns
  | 0 => by simp [k8H, ownS]
  | k + 1 => by simp [k8H, k8H_len ns k]
theorem k8_in (ns : List Int) (k : Nat) : inR (k8H ns k).length (k8to ns k) := by
  rw [k8H_len]
  exact mod_inR (by have := k8n_bd ns; omega)
theorem k8R_len (ns : List Int) : ∀ k, (k8R ns k).length = k8n ns
  | 0 => (lAround_spec ns (k8n_bd ns).1 (k8n_bd ns).2).2.1
  | k + 1 => by simp [k8R, k8R_len ns k]
theorem k8R_good (ns : List Int) : ∀ k, k ≤ 3 → GoodT (k8R ns k) (k8n ns + k)
  | 0, _ => (lAround_spec ns (k8n_bd ns).1 (k8n_bd ns).2).1
  | k + 1, hk => by
    have ih := k8R_good ns k (by omega)
    have b := k8n_bd ns
    refine ⟨by rw [k8R_len]; omega, by rw [k8R_len]; omega, by omega, fun r hr => ?_, fun r hr x hx => ?_⟩
    · obtain ⟨q, hq, rfl⟩ := List.mem_map.mp hr
      rw [List.length_append, ih.len q hq]
      rfl
    · obtain ⟨q, hq, rfl⟩ := List.mem_map.mp hr
      rcases List.mem_append.mp hx with z | z
      · exact ih.wor q hq x z
      · simp at z; omega
theorem k8H_good (ns : List Int) : ∀ k, k ≤ 3 → GoodS (k8H ns k) (k8n ns) (k8n ns + k)
  | 0, _ => ownS_good _
  | k + 1, hk => by
    have := add_good (k8H_good ns k (by omega)) (ixN_pyIx (k8_in ns k)).2
    unfold k8H
    rw [show (((k8n ns + k : Nat) : Int)) = (k8n ns : Int) + (k : Int) by omega] at this
    exact this
theorem pyAt_app {row : List Int} {t : Int} (h : 0 ≤ t ∧ t < row.length) (z : Int) : pyAt (row ++ [z]) t = pyAt row t := by
  obtain ⟨a, rfl⟩ : ∃ a : Nat, t = a := ⟨t.toNat, by omega⟩
  rw [pyAt_nat, pyAt_nat]
  simp [List.getD_eq_getElem?_getD, List.getElem?_append, show a < row.length by omega]
theorem summed_app {row things : List Int} (h : ∀ x ∈ things, 0 ≤ x ∧ x < row.length) : summed (row ++ [0]) things = summed row things := by
  unfold summed
  rw [List.map_congr_left fun x hx => pyAt_app (h x hx) 0]
theorem summed_app2 {row things : List Int} (h : ∀ x ∈ things, 0 ≤ x ∧ x < row.length) : summed (row ++ [0]) (things ++ [(row.length : Int)]) = summed row things := by
  have e := summed_app h
  unfold summed at *
  rw [List.map_append, List.sum_append, e]
  have : pyAt (row ++ [0]) (row.length : Int) = 0 := by
    rw [pyAt_nat]
    simp [List.getD_eq_getElem?_getD]
  simp [this]
theorem pyAt_map {α β : Type} [Inhabited α] [Inhabited β] (f : α → β) {xs : List α} {x : Int} (h : 0 ≤ x ∧ x < xs.length) : pyAt (xs.map f) x = f (pyAt xs x) := by
  obtain ⟨a, rfl⟩ : ∃ a : Nat, x = a := ⟨x.toNat, by omega⟩
  rw [pyAt_nat, pyAt_nat, getD_lt (by simp; omega), getD_lt (by omega), List.getElem_map]
/-- the things put in later are worth nought -/
theorem k8_val (ns : List Int) : ∀ k, k ≤ 3 → ∀ x y : Int, 0 ≤ x ∧ x < (k8n ns : Int) → 0 ≤ y ∧ y < (k8n ns : Int) → summed (pyAt (k8R ns k) x) (pyAt (k8H ns k) y) = summed (pyAt (lAround ns (k8n ns)) x) (pyAt (ownS (k8n ns)) y)
  | 0, _, _, _, _, _ => rfl
  | k + 1, hk, x, y, hx, hy => by
    have ih := k8_val ns k (by omega) x y hx hy
    have g := k8R_good ns k (by omega)
    have gs := k8H_good ns k (by omega)
    have hxr : inR (k8R ns k).length x := by rw [k8R_len]; exact ⟨by omega, by omega⟩
    have hyr : inR (k8n ns) y := ⟨by omega, by omega⟩
    have rl := g.at hxr
    have bd : ∀ z ∈ pyAt (k8H ns k) y, 0 ≤ z ∧ z < ((pyAt (k8R ns k) x).length : Int) := by rw [rl]; exact gs.bd _ (gs.at hyr)
    have to : 0 ≤ k8to ns k ∧ k8to ns k < (k8n ns : Int) := mod_in (lMixed (lAt ns 47) k / 3) (n := k8n ns) (by have := k8n_bd ns; omega)
    show summed (pyAt ((k8R ns k).map fun r => r ++ [0]) x) (pyAt (k8H ns (k + 1)) y) = _
    rw [pyAt_map _ (by rw [k8R_len]; exact hx)]
    have e : k8H ns (k + 1) = pySet (k8H ns k) (k8to ns k) (pyAt (k8H ns k) (k8to ns k) ++ [(k8n ns : Int) + (k : Int)]) := by
      rw [pyAt_ix]; rfl
    rw [e, pyAt_set to.1 (by rw [k8H_len]; exact to.2) hy.1]
    split
    · rename_i z
      rw [z]
      rw [show (k8n ns : Int) + (k : Int) = (((pyAt (k8R ns k) x).length : Nat) : Int) by rw [rl]; omega, summed_app2 bd, ih]
    · rw [summed_app bd, ih]
theorem k8_feels (ns : List Int) {k : Nat} (hk : k ≤ 3) {x y : Int} (hx : 0 ≤ x ∧ x < (k8n ns : Int)) (hy : 0 ≤ y ∧ y < (k8n ns : Int)) : feels (k8R ns k) (k8H ns k) x y = feels (lAround ns (k8n ns)) (ownS (k8n ns)) x y := by
  unfold feels
  rw [k8_val ns k hk x y hx hy, k8_val ns k hk x x hx hx]
theorem ring_nxt {t s : List (List Int)} {way : List Int} {n : Nat} (w : GoodW way n) (r : IsRing (pairsOf t s) t.length way) {h : Int} (hh : h ∈ way) : feels t s h (nxt way h) = true := by
  have two := w.two
  obtain ⟨i, hi, rfl⟩ := at_idx h hh
  have l : 0 < way.length := by omega
  have g := (pair_in (r.go ((i + 1) % way.length) (Nat.mod_lt _ l))).2.2
  rw [nxt_at w hi]
  have e : pyAt way ((((i + 1) % way.length : Nat) : Int) - 1) = way.getD i default := by
    rw [way_m1 w (Nat.mod_lt _ l)]
    congr 1
    rcases Nat.lt_or_ge (i + 1) way.length with z | z
    · rw [Nat.mod_eq_of_lt z, if_neg (by omega)]; omega
    · have : i + 1 = way.length := by omega
      rw [this, Nat.mod_self, if_pos rfl]; omega
  rw [← e, ← pyAt_nat]
  exact g
theorem k8_nxt (ns : List Int) {k : Nat} (hk : k ≤ 3) {h : Int} (hh : h ∈ lWay ns (k8n ns)) : feels (k8R ns k) (k8H ns k) h (nxt (lWay ns (k8n ns)) h) = true := by
  have w := lWay_good ns (k8n_bd ns).1
  rw [k8_feels ns hk (w.bd _ hh) (nxt_bd w (w.bd _ hh))]
  exact ring_nxt w (lAround_spec ns (k8n_bd ns).1 (k8n_bd ns).2).2.2 hh
def k8s (ns : List Int) : Nat := (lAt ns 46 % ((lWay ns (k8n ns)).length : Int)).toNat
theorem k8s_eq (ns : List Int) : V.int (lAt ns 46 % ((lWay ns (k8n ns)).length : Int)) = V.int (k8s ns) ∧ k8s ns < (lWay ns (k8n ns)).length := by
  have w := lWay_good ns (k8n_bd ns).1
  have := mod_in (lAt ns 46) (n := (lWay ns (k8n ns)).length) (by have := w.two; omega)
  unfold k8s
  exact ⟨congrArg V.int (by omega), by omega⟩
theorem pySl_to {α : Type} (xs : List α) (k : Nat) : pySl xs none (some (k : Int)) = xs.take k := by
  unfold pySl
  have h1 : HT.sIx xs.length 0 none = 0 := HT.sIx_none _ _
  have h2 : HT.sIx xs.length xs.length (some (k : Int)) = min k xs.length := HT.sIx_nat _ _ k
  rw [h1, h2]
  rcases Nat.le_total k xs.length with h | h
  · rw [Nat.min_eq_left h]; simp
  · rw [Nat.min_eq_right h]; simp [List.take_of_length_le h]
theorem rot_eq (way : List Int) (st : Nat) : pySl way (some (st : Int)) none ++ pySl way none (some (st : Int)) = rotW way st := by rw [pySl_from, pySl_to]; rfl
theorem exS_len (s : List (List Int)) (r : List Int) : ∀ k, (exS s r k).length = s.length
  | 0 => rfl
  | k + 1 => by simp [exS, pySet, exS_len s r k]
theorem dueS_len (s : List (List Int)) (r : List Int) : ∀ k, (dueS s r k).length = s.length
  | 0 => rfl
  | k + 1 => by simp [dueS, pySet, dueS_len s r k]
/-- what a turned ring has to be -/
theorem rot_pairs {t s : List (List Int)} {way : List Int} {n : Nat} (w : GoodW way n) (ht : t.length = n) (hf : ∀ h ∈ way, feels t s h (nxt way h) = true) {st : Nat} (hs : st < way.length) : ∀ k : Nat, k < (rotW way st).length → (pyAt (rotW way st) (k : Int), pyAt (rotW way st) (((k : Int) + 1) % ((rotW way st).length : Int))) ∈ pairsOf t s := fun k hk => by
  rw [rot_next w hs (by rwa [rot_len] at hk)]
  have hm : pyAt (rotW way st) (k : Int) ∈ way := (rot_perm st).subset (pyAt_mem ⟨by omega, by omega⟩)
  have b1 := w.bd _ hm
  have b2 := nxt_bd w b1
  refine mem_pairsOf.mpr ⟨(pyAt (rotW way st) (k : Int)).toNat, (nxt way (pyAt (rotW way st) (k : Int))).toNat, ?_, by omega, by omega, ?_⟩
  · rw [Int.toNat_of_nonneg b1.1, Int.toNat_of_nonneg b2.1]
  · rw [Int.toNat_of_nonneg b1.1, Int.toNat_of_nonneg b2.1]
    exact hf _ hm
theorem turn_more {t s : List (List Int)} {way : List Int} {n : Nat} (w : GoodW way n) (hf : ∀ h ∈ way, feels t s h (nxt way h) = true) {h : Nat} (hh : h < n) :
    ((h : Int) ∈ way → 0 < summed (pyAt t (h : Int)) (pyAt (turnS s way n) (h : Int)) - summed (pyAt t (h : Int)) (pyAt s (h : Int))) ∧ ((h : Int) ∉ way → summed (pyAt t (h : Int)) (pyAt (turnS s way n) (h : Int)) - summed (pyAt t (h : Int)) (pyAt s (h : Int)) = 0) := by
  rw [turnS_at ⟨by omega, by omega⟩]
  refine ⟨fun e => ?_, fun e => ?_⟩
  · have := of_decide_eq_true (hf _ e)
    omega
  · unfold nxt
    rw [if_neg e]
    omega
end Th
namespace Th
open PySem L2 DL
theorem szS {s : List (List Int)} {n m : Nat} (h : GoodS s n m) (hm : m ≤ 4000) (j : Nat) : (s.getD j []).length < 16000000 := by
  by_cases hj : j < s.length
  · have := h.row (show s.getD j [] ∈ s by simp [List.getD_eq_getElem?_getD, hj])
    omega
  · rw [List.getD_eq_getElem?_getD, List.getElem?_eq_none (by omega)]
    simp
end Th

set_option Elab.async false
set_option linter.all false
set_option maxRecDepth 100000
/-! k09, k10, ..: rings turned till none is left, a thing given -/
namespace Th
open PySem L2 DL
def exR (t s : List (List Int)) : List (List Int) := exS s (ringR t s) (ringR t s).length
def stF (t : List (List Int)) : Nat → List (List Int) × List (List Int) → List (List Int) × List (List Int)
  | 0, k => k
  | f + 1, k => if leftOf (pairsOf t k.2) t.length = [] then k else stF t f (k.1 ++ [ringR t k.2], exR t k.2)
def stO (t s : List (List Int)) : List (List Int) × List (List Int) := stF t (pairsOf t s).length ([], s)
section
variable {t s : List (List Int)}
theorem ringR_good (h : leftOf (pairsOf t s) t.length ≠ []) : GoodW (ringR t s) t.length := ⟨(ringR_ring h).two, (ringR_ring h).bd, (ringR_ring h).nd⟩
theorem exR_turn (hn : s.length = t.length) (h : leftOf (pairsOf t s) t.length ≠ []) : exR t s = turnS s (ringR t s) t.length := by
  have w := ringR_good h
  have := ex_eq w hn (st := 0) (by have := w.two; omega)
  have e : rotW (ringR t s) 0 = ringR t s := by simp [rotW]
  rw [e] at this
  exact this
theorem exR_perm (hn : s.length = t.length) (h : leftOf (pairsOf t s) t.length ≠ []) : (exR t s).Perm s := by
  rw [exR_turn hn h]
  exact turn_perm (ringR_good h) hn
theorem exR_less (hn : s.length = t.length) (h : leftOf (pairsOf t s) t.length ≠ []) : (pairsOf t (exR t s)).length < (pairsOf t s).length := by
  rw [exR_turn hn h]
  exact turn_less rfl hn (ringR_good h) fun x hx => ring_nxt (ringR_good h) (ringR_ring h) hx
theorem no_pairs {ps : Ps} {m : Nat} (h : ps.length = 0) : leftOf ps m = [] := by
  cases q : leftOf ps m with
  | nil => rfl
  | cons x xs =>
    obtain ⟨y, _, hp⟩ := left_envied (ps := ps) (m := m) (x := x) (by rw [q]; simp)
    rw [List.eq_nil_of_length_eq_zero h] at hp
    cases hp
theorem stF_same : ∀ (f g : Nat) (k : List (List Int) × List (List Int)), k.2.length = t.length → (pairsOf t k.2).length ≤ f → (pairsOf t k.2).length ≤ g → stF t f k = stF t g k
  | 0, 0, _, _, _, _ => rfl
  | 0, g + 1, k, hn, h1, h2 => by
    unfold stF
    rw [if_pos (no_pairs (by omega))]
  | f + 1, 0, k, hn, h1, h2 => by
    conv => rhs; unfold stF
    unfold stF
    rw [if_pos (no_pairs (by omega))]
  | f + 1, g + 1, k, hn, h1, h2 => by
    unfold stF
    by_cases q : leftOf (pairsOf t k.2) t.length = []
    · rw [if_pos q, if_pos q]
    · rw [if_neg q, if_neg q]
      have l := exR_less hn q
      have p := (exR_perm hn q).length_eq
      exact stF_same f g (k.1 ++ [ringR t k.2], exR t k.2) (by show (exR t k.2).length = _; omega) (by show (pairsOf t (exR t k.2)).length ≤ _; omega) (by show (pairsOf t (exR t k.2)).length ≤ _; omega)
/-- the loop's word -/
structure StI (t s : List (List Int)) (k : List (List Int) × List (List Int)) : Prop where
  perm : k.2.Perm s
  run : ∀ f, (pairsOf t k.2).length ≤ f → stF t f k = stO t s
  all : ∀ P : List (List Int) → Prop, P s → (∀ u, u.Perm s → leftOf (pairsOf t u) t.length ≠ [] → P u → P (exR t u)) → P k.2
  rl : k.1.length + (pairsOf t k.2).length ≤ (pairsOf t s).length
theorem StI.start (hn : s.length = t.length) : StI t s ([], s) := ⟨.refl _, fun f h => stF_same _ _ _ hn h (Nat.le_refl _), fun P h _ => h, by simp⟩
theorem StI.next {k : List (List Int) × List (List Int)} (I : StI t s k) (hn : s.length = t.length) (h : leftOf (pairsOf t k.2) t.length ≠ []) : StI t s (k.1 ++ [ringR t k.2], exR t k.2) ∧ (pairsOf t (exR t k.2)).length < (pairsOf t k.2).length := by
  have hk : k.2.length = t.length := by rw [I.perm.length_eq]; exact hn
  have l := exR_less hk h
  refine ⟨⟨(exR_perm hk h).trans I.perm, fun f hf => ?_, fun P h0 hs => hs _ I.perm h (I.all P h0 hs), ?_⟩, l⟩
  · have p := (exR_perm hk h).length_eq
    rw [stF_same f (pairsOf t k.2).length (k.1 ++ [ringR t k.2], exR t k.2) (by show (exR t k.2).length = _; omega) hf (by show (pairsOf t (exR t k.2)).length ≤ _; omega), ← I.run ((pairsOf t k.2).length + 1) (by omega)]
    conv => rhs; unfold stF
    rw [if_neg h]
  · have := I.rl
    simp only [List.length_append, List.length_singleton]
    omega
theorem StI.done {k : List (List Int) × List (List Int)} (I : StI t s k) (h : leftOf (pairsOf t k.2) t.length = []) : k = stO t s := by
  rw [← I.run ((pairsOf t k.2).length + 1) (by omega)]
  unfold stF
  rw [if_pos h]
theorem stO_spec (hn : s.length = t.length) : StI t s (stO t s) ∧ leftOf (pairsOf t (stO t s).2) t.length = [] := by
  have go : ∀ (N : Nat) (k : List (List Int) × List (List Int)), (pairsOf t k.2).length ≤ N → StI t s k → StI t s (stO t s) ∧ leftOf (pairsOf t (stO t s).2) t.length = [] := by
    intro N
    induction N with
    | zero =>
      intro k hk I
      have z := no_pairs (m := t.length) (Nat.le_zero.mp hk)
      have e := I.done z
      exact ⟨e ▸ I, e ▸ z⟩
    | succ N ih =>
      intro k hk I
      by_cases z : leftOf (pairsOf t k.2) t.length = []
      · have e := I.done z
        exact ⟨e ▸ I, e ▸ z⟩
      · obtain ⟨I2, l⟩ := I.next hn z
        exact ih _ (by show (pairsOf t (exR t k.2)).length ≤ N; omega) I2
  exact go _ _ (Nat.le_refl _) (StI.start hn)
theorem st_perm (hn : s.length = t.length) : (stO t s).2.Perm s := (stO_spec hn).1.perm
theorem st_len (hn : s.length = t.length) : (stO t s).2.length = t.length := by rw [(st_perm hn).length_eq]; exact hn
theorem st_good {m : Nat} (hs : GoodS s t.length m) : GoodS (stO t s).2 t.length m := perm_good (st_perm hs.n) hs
/-! who gets a thing -/
def goesTo (t s : List (List Int)) : Int := pyAt (unenv (pairsOf t s) (rgI t.length)) 0
def putS (t s : List (List Int)) (x : Int) : List (List Int) := withThing (stO t s).2 (goesTo t (stO t s).2) x
theorem free_ne (hn : 1 ≤ t.length) (h : leftOf (pairsOf t s) t.length = []) : unenv (pairsOf t s) (rgI t.length) ≠ [] := fun z => by
  have e := (LnI.start (pairsOf t s) t.length).done z
  have e2 : (lineS (pairsOf t s) t.length).1 = rgI t.length := by rw [← e]
  have hm : (0 : Int) ∈ leftOf (pairsOf t s) t.length := mem_leftOf.mpr (by rw [e2]; exact rgI_mem.mpr ⟨by omega, by omega⟩)
  rw [h] at hm
  cases hm
theorem goes_spec (hn : 1 ≤ t.length) (h : leftOf (pairsOf t s) t.length = []) : (0 ≤ goesTo t s ∧ goesTo t s < (t.length : Int)) ∧ ∀ a : Int, 0 ≤ a ∧ a < (t.length : Int) → feels t s a (goesTo t s) = false := by
  have ne := free_ne hn h
  have hm : goesTo t s ∈ unenv (pairsOf t s) (rgI t.length) := by
    unfold goesTo
    rw [hd_pyAt]
    exact hd_mem ne
  obtain ⟨h1, h2⟩ := mem_unenv.mp hm
  have hb := rgI_mem.mp h1
  refine ⟨hb, fun a ha => ?_⟩
  cases q : feels t s a (goesTo t s) with
  | false => rfl
  | true =>
    refine absurd ?_ (h2 a (rgI_mem.mpr ha))
    refine mem_pairsOf.mpr ⟨a.toNat, (goesTo t s).toNat, ?_, by omega, by omega, ?_⟩
    · rw [Int.toNat_of_nonneg ha.1, Int.toNat_of_nonneg hb.1]
    · rw [Int.toNat_of_nonneg ha.1, Int.toNat_of_nonneg hb.1]
      exact q
theorem withThing_good {n m : Nat} {h x : Int} (hs : GoodS s n m) (hh : 0 ≤ h ∧ h < (n : Int)) (hx : 0 ≤ x ∧ x < (m : Int)) (hf : x ∉ s.flatten) : GoodS (withThing s h x) n m := by
  have hi : inR s.length h := by rw [hs.n]; exact ⟨by omega, hh.2⟩
  have p := withThing_perm (x := x) hi
  have nd : (withThing s h x).flatten.Nodup := p.nodup_iff.mpr (List.nodup_append.mpr ⟨hs.nd, by simp, fun a ha b hb => by
    rw [List.mem_singleton] at hb
    rw [hb]
    exact fun z => hf (z ▸ ha)⟩)
  refine ⟨by rw [withThing_len]; exact hs.n, fun r hr y hy => ?_, fun r hr => ?_, nd⟩
  · rcases List.mem_append.mp (p.subset (List.mem_flatten.mpr ⟨r, hr, hy⟩)) with z | z
    · obtain ⟨r', hr', hy'⟩ := List.mem_flatten.mp z
      exact hs.bd r' hr' y hy'
    · rw [List.mem_singleton] at z
      rw [z]; exact hx
  · have n1 : r.Nodup := nd.sublist (List.sublist_flatten_of_mem hr)
    have so : r.Pairwise (· ≤ ·) := by
      unfold withThing pySet at hr
      rcases List.mem_or_eq_of_mem_set hr with z | z
      · exact (hs.up r z).imp fun q => by omega
      · rw [z]; exact sortI_sorted _
    exact (so.and (List.nodup_iff_pairwise_ne.mp n1)).imp fun q => by omega
theorem put_perm (hn : s.length = t.length) (h1 : 1 ≤ t.length) (x : Int) : (putS t s x).flatten.Perm (s.flatten ++ [x]) := by
  have g := (goes_spec h1 (stO_spec hn).2).1
  exact (withThing_perm (x := x) (by rw [st_len hn]; exact ⟨by omega, g.2⟩)).trans ((st_perm hn).flatten.append_right _)
theorem put_good {m : Nat} (hs : GoodS s t.length m) (h1 : 1 ≤ t.length) {x : Int} (hx : 0 ≤ x ∧ x < (m : Int)) (hf : x ∉ s.flatten) : GoodS (putS t s x) t.length m :=
  withThing_good (st_good hs) (goes_spec h1 (stO_spec hs.n).2).1 hx fun z => hf ((st_perm hs.n).flatten.subset z)
theorem put_len (hn : s.length = t.length) (x : Int) : (putS t s x).length = t.length := by
  unfold putS
  rw [withThing_len]
  exact st_len hn
end
def dlS (t : List (List Int)) : Nat → List (List Int)
  | 0 => (List.range t.length).map fun _ => []
  | k + 1 => putS t (dlS t k) (k : Int)
end Th
namespace Th
open PySem L2 DL
section
variable {t s : List (List Int)}
theorem ring_b {k : List (List Int)} (h : (!isN (dOL (ringOf (pairsOf t k) t.length))) = true) : leftOf (pairsOf t k) t.length ≠ [] := by
  rw [ring_iff] at h
  simpa using h
theorem ring_e {k : List (List Int)} (h : (!isN (dOL (ringOf (pairsOf t k) t.length))) = false) : leftOf (pairsOf t k) t.length = [] := by
  rw [ring_iff] at h
  simpa using h
theorem aside_y {m : Nat} {x : Int} (hx : 0 ≤ x ∧ x < (m : Int)) (hf : x ∉ s.flatten) : ¬ (!isAmong (.int x) 0 ((m : Int) - 1) || (s.map fun r => decide (x ∈ r)).any id) = true := by
  rw [isAmong_int]
  simp only [Bool.or_eq_true, Bool.not_eq_true', Bool.and_eq_false_imp, decide_eq_true_eq, decide_eq_false_iff_not, not_or]
  refine ⟨fun z => z hx.1 (by omega), fun z => ?_⟩
  obtain ⟨b, hb, e⟩ := List.any_eq_true.mp z
  obtain ⟨r, hr, rfl⟩ := List.mem_map.mp hb
  exact hf (List.mem_flatten.mpr ⟨r, hr, by simpa using e⟩)
theorem dl_perm {m : Nat} (g : GoodT t m) : ∀ k, (dlS t k).flatten.Perm (rgI k) ∧ (dlS t k).length = t.length
  | 0 => by
    refine ⟨?_, by simp [dlS]⟩
    have : (dlS t 0).flatten = [] := by
      unfold dlS
      rw [List.flatten_eq_nil_iff]
      intro l hl
      obtain ⟨_, _, rfl⟩ := List.mem_map.mp hl
      rfl
    rw [this]
    exact .nil
  | k + 1 => by
    obtain ⟨h1, h2⟩ := dl_perm g k
    refine ⟨(put_perm h2 g.n1 (k : Int)).trans ?_, put_len h2 _⟩
    have : rgI (k + 1) = rgI k ++ [(k : Int)] := by unfold rgI; rw [List.range_succ, List.map_append]; rfl
    rw [this]
    exact h1.append_right _
theorem dl_aside {m : Nat} (g : GoodT t m) (k : Nat) : (k : Int) ∉ (dlS t k).flatten := fun z => by
  have := rgI_mem.mp ((dl_perm g k).1.subset z)
  omega
theorem dl_good {m : Nat} (g : GoodT t m) : ∀ k, k ≤ m → GoodS (dlS t k) t.length m
  | 0, _ => by
    refine ⟨(dl_perm g 0).2, fun r hr => ?_, fun r hr => ?_, (dl_perm g 0).1.nodup_iff.mpr (by simp [rgI])⟩
    all_goals
      obtain ⟨_, _, rfl⟩ := List.mem_map.mp hr
      simp
  | k + 1, h => put_good (dl_good g k (by omega)) g.n1 ⟨by omega, by omega⟩ (dl_aside g k)
end
end Th

set_option Elab.async false
set_option linter.all false
set_option maxRecDepth 100000
/-! k09, k10, ..: envy for one thing at most, through rings and givings -/
namespace Th
open PySem L2 DL
section
variable {t s : List (List Int)}
/-- nobody envies more than one thing's worth -/
def Fair (t s : List (List Int)) : Prop := ∀ a b : Nat, a < t.length → b < t.length → pyAt s (b : Int) ≠ [] → ∃ x ∈ pyAt s (b : Int), summed (pyAt t (a : Int)) (pyAt s (b : Int)) - pyAt (pyAt t (a : Int)) x ≤ summed (pyAt t (a : Int)) (pyAt s (a : Int))
theorem fair_borne {m : Nat} (g : GoodT t m) (hs : GoodS s t.length m) (F : Fair t s) : lBorne t s = true := by
  refine List.all_eq_true.mpr fun p hp => ?_
  obtain ⟨a, b, rfl, ha, hb, hf⟩ := mem_pairsOf.mp hp
  have hne : pyAt s (b : Int) ≠ [] := by
    have := feels_pos g hs (h := (a : Int)) (o := (b : Int)) ⟨by omega, by omega⟩ ⟨by omega, by omega⟩ hf
    exact List.length_pos_iff.mp this
  obtain ⟨x, hx, hle⟩ := F a b ha hb hne
  unfold lbOk
  have := minI_le (ns := (pyAt s (b : Int)).map fun x => summed (pyAt t (a : Int)) (pyAt s (b : Int)) - pyAt (pyAt t (a : Int)) x) (List.mem_map.mpr ⟨x, hx, rfl⟩)
  simp
  omega
theorem summed_add (row xs : List Int) (x : Int) : summed row (xs ++ [x]) = summed row xs + pyAt row x := by
  unfold summed
  rw [List.map_append, List.sum_append]
  simp
theorem borne_fair {m : Nat} (g : GoodT t m) (hs : GoodS s t.length m) (h : lBorne t s = true) : Fair t s := fun a b ha hb hne => by
  cases q : feels t s (a : Int) (b : Int) with
  | true =>
    have hp := List.all_eq_true.mp h _ (mem_pairsOf.mpr ⟨a, b, rfl, ha, hb, q⟩)
    unfold lbOk at hp
    have hm := minI_mem (ns := (pyAt s (b : Int)).map fun x => summed (pyAt t (a : Int)) (pyAt s (b : Int)) - pyAt (pyAt t (a : Int)) x) (by rw [List.length_map]; exact List.length_pos_iff.mpr hne)
    obtain ⟨x, hx, e⟩ := List.mem_map.mp hm
    refine ⟨x, hx, ?_⟩
    simp at hp
    omega
  | false =>
    have hlt := of_decide_eq_false q
    obtain ⟨x, hx⟩ := List.exists_mem_of_ne_nil _ hne
    have hr : inR (pyAt t (a : Int)).length x := gs_b g hs (h := (a : Int)) (o := (b : Int)) ⟨by omega, by omega⟩ ⟨by omega, by omega⟩ x hx
    have := g.nn (h := (a : Int)) ⟨by omega, by omega⟩ _ (pyAt_mem hr)
    exact ⟨x, hx, by omega⟩
theorem ex_own (hn : s.length = t.length) (h : leftOf (pairsOf t s) t.length ≠ []) {a : Nat} (ha : a < t.length) : summed (pyAt t (a : Int)) (pyAt s (a : Int)) ≤ summed (pyAt t (a : Int)) (pyAt (exR t s) (a : Int)) := by
  rw [exR_turn hn h]
  have := turn_more (s := s) (ringR_good h) (fun x hx => ring_nxt (ringR_good h) (ringR_ring h) hx) ha
  by_cases q : (a : Int) ∈ ringR t s
  · have := this.1 q
    omega
  · have := this.2 q
    omega
theorem fair_ex (hn : s.length = t.length) (h : leftOf (pairsOf t s) t.length ≠ []) (F : Fair t s) : Fair t (exR t s) := fun a b ha hb hne => by
  have own := ex_own hn h ha
  rw [exR_turn hn h] at own hne ⊢
  have w := ringR_good h
  have nb := nxt_bd w (h := (b : Int)) ⟨by omega, by omega⟩
  rw [turnS_at (h := (b : Int)) ⟨by omega, by omega⟩] at hne ⊢
  have e : nxt (ringR t s) (b : Int) = (((nxt (ringR t s) (b : Int)).toNat : Nat) : Int) := by omega
  rw [e] at hne ⊢
  obtain ⟨x, hx, hle⟩ := F a _ ha (by omega) hne
  exact ⟨x, hx, by omega⟩
theorem st_own (hn : s.length = t.length) {a : Nat} (ha : a < t.length) : summed (pyAt t (a : Int)) (pyAt s (a : Int)) ≤ summed (pyAt t (a : Int)) (pyAt (stO t s).2 (a : Int)) :=
  (stO_spec hn).1.all (fun u => summed (pyAt t (a : Int)) (pyAt s (a : Int)) ≤ summed (pyAt t (a : Int)) (pyAt u (a : Int))) (Int.le_refl _) fun u p h q => Int.le_trans q (ex_own (p.length_eq.trans hn) h ha)
theorem fair_st (hn : s.length = t.length) (F : Fair t s) : Fair t (stO t s).2 := (stO_spec hn).1.all (Fair t) F fun u p h q => fair_ex (p.length_eq.trans hn) h q
theorem with_at {h x : Int} {b : Nat} (h0 : 0 ≤ h) (h1 : h < s.length) : pyAt (withThing s h x) (b : Int) = if h = (b : Int) then sortI (pyAt s h ++ [x]) else pyAt s (b : Int) := by
  unfold withThing
  exact pyAt_set h0 h1 (by omega)
theorem with_own {m : Nat} {h x : Int} (g : GoodT t m) (hn : s.length = t.length) (hx : 0 ≤ x ∧ x < (m : Int)) (hh : 0 ≤ h ∧ h < (t.length : Int)) {a : Nat} (ha : a < t.length) : summed (pyAt t (a : Int)) (pyAt s (a : Int)) ≤ summed (pyAt t (a : Int)) (pyAt (withThing s h x) (a : Int)) := by
  rw [with_at hh.1 (by omega)]
  split
  · rename_i e
    rw [summed_perm (sortI_perm _), summed_add, e]
    have hl : (pyAt t (a : Int)).length = m := g.at ⟨by omega, by omega⟩
    have := g.nn (h := (a : Int)) ⟨by omega, by omega⟩ _ (pyAt_mem (xs := pyAt t (a : Int)) (i := x) ⟨by omega, by omega⟩)
    omega
  · exact Int.le_refl _
theorem fair_with {m : Nat} {h x : Int} (g : GoodT t m) (hn : s.length = t.length) (hx : 0 ≤ x ∧ x < (m : Int)) (hh : 0 ≤ h ∧ h < (t.length : Int)) (hu : ∀ a : Int, 0 ≤ a ∧ a < (t.length : Int) → feels t s a h = false) (F : Fair t s) : Fair t (withThing s h x) := fun a b ha hb hne => by
  have own := with_own g hn hx hh ha
  rw [with_at hh.1 (by omega)] at hne ⊢
  by_cases e : h = (b : Int)
  · rw [if_pos e]
    refine ⟨x, (sortI_perm _).mem_iff.mpr (by simp), ?_⟩
    rw [summed_perm (sortI_perm _), summed_add]
    have := of_decide_eq_false (hu (a : Int) ⟨by omega, by omega⟩)
    omega
  · rw [if_neg e] at hne ⊢
    obtain ⟨y, hy, hle⟩ := F a b ha hb hne
    exact ⟨y, hy, by omega⟩
theorem fair_put {m : Nat} {x : Int} (g : GoodT t m) (hn : s.length = t.length) (hx : 0 ≤ x ∧ x < (m : Int)) (F : Fair t s) : Fair t (putS t s x) := by
  have q := goes_spec g.n1 (stO_spec hn).2
  exact fair_with g (st_len hn) hx q.1 q.2 (fair_st hn F)
theorem put_own {m : Nat} {x : Int} (g : GoodT t m) (hn : s.length = t.length) (hx : 0 ≤ x ∧ x < (m : Int)) {a : Nat} (ha : a < t.length) : summed (pyAt t (a : Int)) (pyAt s (a : Int)) ≤ summed (pyAt t (a : Int)) (pyAt (putS t s x) (a : Int)) :=
  Int.le_trans (st_own hn ha) (with_own g (st_len hn) hx (goes_spec g.n1 (stO_spec hn).2).1 ha)
theorem dl_fair {m : Nat} (g : GoodT t m) : ∀ k, k ≤ m → Fair t (dlS t k)
  | 0, _ => fun a b ha hb hne => by
    have : pyAt (dlS t 0) (b : Int) = [] := by
      unfold dlS
      rw [pyAt_nat, getD_map_range _ hb]
    exact absurd this hne
  | k + 1, h => fair_put g (dl_perm g k).2 ⟨by omega, by omega⟩ (dl_fair g k (by omega))
/-! the law's own look for rings -/
def hrS (ps : Ps) (n : Nat) : Nat → List Int
  | 0 => rgI n
  | k + 1 => (hrS ps n k).filter fun h => decide (h ∈ seenBy ps (hrS ps n k))
theorem hr_sub (ps : Ps) (n : Nat) : ∀ k, ∀ x ∈ hrS ps n k, x ∈ rgI n
  | 0, x, h => h
  | k + 1, x, h => hr_sub ps n k x (List.mem_filter.mp h).1
theorem some_out {ps : Ps} {n : Nat} (hself : ∀ a, (a, a) ∉ ps) (h : leftOf ps n = []) {S : List Int} (hS : ∀ x ∈ S, x ∈ rgI n) : ∀ N, ∀ x ∈ S, (lineOf ps n).idxOf x ≤ N → ∃ y ∈ S, y ∉ seenBy ps S := by
  intro N
  induction N with
  | zero =>
    intro x hx hi
    refine ⟨x, hx, fun z => ?_⟩
    obtain ⟨b, hp, hb⟩ := mem_seenBy.mp z
    have := line_index hself hp (hS b hb) (line_full h (rgI_mem.mp (hS x hx)))
    omega
  | succ N ih =>
    intro x hx hi
    by_cases z : x ∈ seenBy ps S
    · obtain ⟨b, hp, hb⟩ := mem_seenBy.mp z
      have := line_index hself hp (hS b hb) (line_full h (rgI_mem.mp (hS x hx)))
      exact ih b hb (by omega)
    · exact ⟨x, hx, z⟩
theorem filter_lt {α : Type} {p : α → Bool} {xs : List α} {y : α} (hy : y ∈ xs) (hp : p y = false) : (xs.filter p).length < xs.length := by
  induction xs with
  | nil => cases hy
  | cons a as ih =>
    rw [List.filter_cons]
    rcases List.mem_cons.mp hy with e | e
    · subst e
      rw [hp, if_neg Bool.false_ne_true]
      have := List.length_filter_le p as
      rw [List.length_cons]
      omega
    · have := ih e
      split
      · rw [List.length_cons, List.length_cons]; omega
      · rw [List.length_cons]; omega
theorem hr_none {ps : Ps} {n : Nat} (hself : ∀ a, (a, a) ∉ ps) (h : leftOf ps n = []) : hrS ps n n = [] := by
  have go : ∀ k, (hrS ps n k).length ≤ n - k := by
    intro k
    induction k with
    | zero => show (rgI n).length ≤ n - 0; rw [rgI_len]; omega
    | succ k ih =>
      cases q : hrS ps n k with
      | nil => show ((hrS ps n k).filter _).length ≤ _; rw [q]; simp
      | cons x xs =>
        obtain ⟨y, hy, hn⟩ := some_out hself h (hr_sub ps n k) _ x (by rw [q]; simp) (Nat.le_refl _)
        have := filter_lt (p := fun h => decide (h ∈ seenBy ps (hrS ps n k))) hy (decide_eq_false hn)
        show ((hrS ps n k).filter fun h => decide (h ∈ seenBy ps (hrS ps n k))).length ≤ _
        omega
  have := go n
  exact List.eq_nil_of_length_eq_zero (by omega)
/-! the thing given last, taken away again -/
theorem with_out {n m : Nat} {h x : Int} (hs : GoodS s n m) (hh : 0 ≤ h ∧ h < (n : Int)) (hf : x ∉ s.flatten) : ((withThing s h x).map fun r => r.filter fun y => !decide (y = x)) = s := by
  have hn := hs.n
  have keep : ∀ r ∈ s, (r.filter fun y => !decide (y = x)) = r := fun r hr => by
    refine List.filter_eq_self.mpr fun y hy => ?_
    have : y ≠ x := fun e => hf (e ▸ List.mem_flatten.mpr ⟨r, hr, hy⟩)
    simp [this]
  refine ext_at (by rw [List.length_map, withThing_len]) fun k hk => ?_
  rw [List.length_map, withThing_len] at hk
  rw [pyAt_map (fun r : List Int => r.filter fun y => !decide (y = x)) (xs := withThing s h x) (x := (k : Int)) ⟨by omega, by rw [withThing_len]; omega⟩, with_at hh.1 (by omega)]
  have hm : pyAt s (k : Int) ∈ s := pyAt_mem ⟨by omega, by omega⟩
  split
  · rename_i e
    rw [e]
    have p1 : ((sortI (pyAt s (k : Int) ++ [x])).filter fun y => !decide (y = x)).Perm (pyAt s (k : Int)) := by
      refine ((sortI_perm _).filter _).trans ?_
      rw [List.filter_append, keep _ hm]
      simp
    exact (sortI_uniq p1 ((sortI_sorted _).filter _)).trans (sortI_uniq (.refl _) ((hs.up _ hm).imp fun q => by omega)).symm
  · exact keep _ hm
theorem free_eq (ps : Ps) {n : Nat} (hb : ∀ p ∈ ps, p.1 ∈ rgI n) : ((List.range n).filter fun (a : Nat) => !decide ((a : Int) ∈ ps.map fun p => p.2)).map (fun (a : Nat) => (a : Int)) = unenv ps (rgI n) := by
  unfold unenv rgI
  rw [List.filter_map]
  refine congrArg (List.map _) (List.filter_congr fun a ha => ?_)
  have e : seenBy ps ((List.range n).map fun (i : Nat) => (i : Int)) = ps.map fun p => p.2 := by
    unfold seenBy
    congr 1
    exact List.filter_eq_self.mpr fun p hp => decide_eq_true (hb p hp)
  show _ = !decide ((a : Int) ∈ seenBy ps _)
  rw [e]
end
end Th

set_option Elab.async false
set_option linter.all false
set_option maxRecDepth 100000
/-! the law's own search for all rings -/
namespace Th
open PySem L2 DL
section
variable {ps : Ps} {n : Nat}
def movBy (ps : Ps) (hs : List Int) : List Int := (ps.filter fun p => decide (p.2 ∈ hs)).map fun p => p.1
theorem mem_movBy {hs : List Int} {x : Int} : x ∈ movBy ps hs ↔ ∃ h, (x, h) ∈ ps ∧ h ∈ hs := by
  unfold movBy
  rw [List.mem_map]
  constructor
  · rintro ⟨p, hp, rfl⟩
    obtain ⟨h1, h2⟩ := List.mem_filter.mp hp
    exact ⟨p.2, h1, of_decide_eq_true h2⟩
  · rintro ⟨h, h1, h2⟩
    exact ⟨(x, h), List.mem_filter.mpr ⟨h1, decide_eq_true h2⟩, rfl⟩
def crS (ps : Ps) (n : Nat) : Nat → List Int
  | 0 => rgI n
  | k + 1 => (crS ps n k).filter fun h => decide (h ∈ seenBy ps (crS ps n k)) && decide (h ∈ movBy ps (crS ps n k))
theorem cr_sub (ps : Ps) (n : Nat) : ∀ k, ∀ x ∈ crS ps n k, x ∈ rgI n
  | 0, x, h => h
  | k + 1, x, h => cr_sub ps n k x (List.mem_filter.mp h).1
theorem cr_len (ps : Ps) (n : Nat) : ∀ k, (crS ps n k).length ≤ n
  | 0 => by show (rgI n).length ≤ n; rw [rgI_len]; exact Nat.le_refl _
  | k + 1 => Nat.le_trans (List.length_filter_le _ _) (cr_len ps n k)
/-- an edge of a ring, from its first end -/
theorem ring_edge {r : List Int} (h : IsRing ps n r) {k : Nat} (hk : k < r.length) : (r.getD k default, r.getD ((k + 1) % r.length) default) ∈ ps := by
  have w : GoodW r n := ⟨h.two, h.bd, h.nd⟩
  have l : 0 < r.length := by omega
  have := h.go ((k + 1) % r.length) (Nat.mod_lt _ l)
  rw [way_m1 w (Nat.mod_lt _ l), pyAt_nat] at this
  have e : (if (k + 1) % r.length = 0 then r.length - 1 else (k + 1) % r.length - 1) = k := by
    rcases Nat.lt_or_ge (k + 1) r.length with z | z
    · rw [Nat.mod_eq_of_lt z, if_neg (by omega)]; omega
    · have : k + 1 = r.length := by omega
      rw [this, Nat.mod_self, if_pos rfl]; omega
  rwa [e] at this
theorem ring_core {r : List Int} (h : IsRing ps n r) : ∀ k, ∀ x ∈ r, x ∈ crS ps n k
  | 0, x, hx => rgI_mem.mpr (h.bd x hx)
  | k + 1, x, hx => by
    have ih := ring_core h k
    obtain ⟨i, hi, rfl⟩ := at_idx x hx
    have l : 0 < r.length := by omega
    refine List.mem_filter.mpr ⟨ih _ hx, ?_⟩
    rw [Bool.and_eq_true, decide_eq_true_eq, decide_eq_true_eq]
    refine ⟨mem_seenBy.mpr ?_, mem_movBy.mpr ⟨_, ring_edge h hi, ih _ (getD_memA (Nat.mod_lt _ l))⟩⟩
    have := h.go i hi
    have w : GoodW r n := ⟨h.two, h.bd, h.nd⟩
    rw [pyAt_nat] at this
    exact ⟨_, this, ih _ (pyAt_mem (way_in w hi).1)⟩
def coreP (ps : Ps) (left : List Int) : Ps := ps.filter fun p => decide (p.1 ∈ left) && decide (p.2 ∈ left)
def extW (ps : Ps) (w : List Int) : List (List Int) := (ps.filter fun p => decide (p.1 = lastW w) && (decide (pyAt w 0 < p.2) && !decide (p.2 ∈ w))).map fun p => w ++ [p.2]
def cloW (ps : Ps) (w : List Int) : List (List Int) := (ps.filter fun p => decide (p.1 = lastW w) && decide (p.2 = pyAt w 0)).map fun _ => w
def rwN (ps : Ps) (k : List (List Int) × List (List Int)) : List (List Int) × List (List Int) := if k.1 = [] then k else (k.1.dropLast ++ extW ps (k.1.getLastD []), k.2 ++ cloW ps (k.1.getLastD []))
def rwS (ps : Ps) (left : List Int) : Nat → List (List Int) × List (List Int)
  | 0 => (left.map fun h => [h], [])
  | k + 1 => rwN ps (rwS ps left k)
def cps (ps : Ps) (n : Nat) : Ps := coreP ps (crS ps n n)
def rwT (ps : Ps) (n k : Nat) : List (List Int) × List (List Int) := rwS (cps ps n) (crS ps n n) k
def rgO (ps : Ps) (n : Nat) : Option (List (List Int)) := if (rwT ps n 59).1 = [] then some (rwT ps n 59).2 else none
theorem rw_stay {left : List Int} {k : Nat} (h : (rwS ps left k).1 = []) : ∀ j, rwS ps left (k + j) = rwS ps left k
  | 0 => rfl
  | j + 1 => by
    have ih := rw_stay h j
    show rwN ps (rwS ps left (k + j)) = _
    rw [ih]
    unfold rwN
    rw [if_pos h]
theorem rg_at {k : Nat} (hk : k ≤ 59) (h : (rwT ps n k).1 = []) : rgO ps n = some (rwT ps n k).2 := by
  have e := rw_stay h (59 - k)
  rw [show k + (59 - k) = 59 by omega] at e
  unfold rgO
  have e2 : rwT ps n 59 = rwT ps n k := e
  rw [e2, if_pos h]
/-- a way of envy -/
structure WOk (ps : Ps) (n : Nat) (w : List Int) : Prop where
  ne : 0 < w.length
  nd : w.Nodup
  bd : ∀ x ∈ w, x ∈ rgI n
  go : ∀ i, i + 1 < w.length → (w.getD i default, w.getD (i + 1) default) ∈ ps
theorem last_mem {α : Type} {l : List (List α)} (h : l ≠ []) : l.getLastD [] ∈ l := by
  cases l with
  | nil => exact absurd rfl h
  | cons a as => rw [List.getLastD_cons]; exact List.getLast_mem (List.cons_ne_nil _ _) |> fun z => by simpa [List.getLastD_eq_getLast?, List.getLast?_cons] using (by simpa [List.getLast_eq_getLastD] using z)
end
end Th
namespace Th
open PySem L2 DL
section
variable {ps : Ps} {n : Nat}
theorem coreP_sub {left : List Int} {p : Int × Int} (h : p ∈ coreP ps left) : p ∈ ps ∧ p.1 ∈ left ∧ p.2 ∈ left := by
  obtain ⟨h1, h2⟩ := List.mem_filter.mp h
  rw [Bool.and_eq_true, decide_eq_true_eq, decide_eq_true_eq] at h2
  exact ⟨h1, h2.1, h2.2⟩
theorem mem_ext {w v : List Int} (h : v ∈ extW ps w) : ∃ y, v = w ++ [y] ∧ (lastW w, y) ∈ ps ∧ pyAt w 0 < y ∧ y ∉ w := by
  obtain ⟨p, hp, rfl⟩ := List.mem_map.mp h
  obtain ⟨h1, h2⟩ := List.mem_filter.mp hp
  simp only [Bool.and_eq_true, decide_eq_true_eq, Bool.not_eq_true', decide_eq_false_iff_not] at h2
  refine ⟨p.2, rfl, ?_, h2.2.1, h2.2.2⟩
  rw [← h2.1]
  exact h1
theorem ext_mem {w : List Int} {y : Int} (h : (lastW w, y) ∈ ps) (h2 : pyAt w 0 < y) (h3 : y ∉ w) : w ++ [y] ∈ extW ps w :=
  List.mem_map.mpr ⟨(lastW w, y), List.mem_filter.mpr ⟨h, by simp [h2, h3]⟩, rfl⟩
theorem mem_clo {w v : List Int} (h : v ∈ cloW ps w) : v = w ∧ (lastW w, pyAt w 0) ∈ ps := by
  obtain ⟨p, hp, rfl⟩ := List.mem_map.mp h
  obtain ⟨h1, h2⟩ := List.mem_filter.mp hp
  simp only [Bool.and_eq_true, decide_eq_true_eq] at h2
  refine ⟨rfl, ?_⟩
  rw [← h2.1, ← h2.2]
  exact h1
theorem clo_mem {w : List Int} (h : (lastW w, pyAt w 0) ∈ ps) : w ∈ cloW ps w := List.mem_map.mpr ⟨(lastW w, pyAt w 0), List.mem_filter.mpr ⟨h, by simp⟩, rfl⟩
theorem WOk.ext {w : List Int} {y : Int} (W : WOk ps n w) (h : (lastW w, y) ∈ ps) (hy : y ∈ rgI n) (h3 : y ∉ w) : WOk ps n (w ++ [y]) := by
  refine ⟨by simp, List.nodup_append.mpr ⟨W.nd, by simp, fun a ha b hb => ?_⟩, fun x hx => ?_, fun i hi => ?_⟩
  · rw [List.mem_singleton] at hb
    rw [hb]
    exact fun z => h3 (z ▸ ha)
  · rcases List.mem_append.mp hx with z | z
    · exact W.bd x z
    · rw [List.mem_singleton] at z
      rw [z]; exact hy
  · rw [List.length_append, List.length_singleton] at hi
    have ne := W.ne
    rcases Nat.lt_or_ge (i + 1) w.length with z | z
    · have := W.go i z
      simp only [List.getD_eq_getElem?_getD] at this ⊢
      rw [List.getElem?_append_left (by omega), List.getElem?_append_left (by omega)]
      exact this
    · have e : i + 1 = w.length := by omega
      rw [lastW_eq ne] at h
      have e2 : w.length - 1 = i := by omega
      rw [e2] at h
      simp only [List.getD_eq_getElem?_getD] at h ⊢
      rw [List.getElem?_append_left (by omega), List.getElem?_append_right (by omega)]
      rw [show i + 1 - w.length = 0 by omega]
      exact h
theorem rw_ok : ∀ k, (∀ w ∈ (rwT ps n k).1, WOk ps n w) ∧ ∀ w ∈ (rwT ps n k).2, WOk ps n w ∧ (lastW w, pyAt w 0) ∈ ps
  | 0 => by
    refine ⟨fun w hw => ?_, fun w hw => by cases hw⟩
    obtain ⟨h, hh, rfl⟩ := List.mem_map.mp (show w ∈ (crS ps n n).map fun h => [h] from hw)
    refine ⟨by simp, by simp, fun x hx => ?_, fun i hi => by simp at hi⟩
    rw [List.mem_singleton] at hx
    rw [hx]
    exact cr_sub ps n n h hh
  | k + 1 => by
    obtain ⟨h1, h2⟩ := rw_ok k
    show (∀ w ∈ (rwN (cps ps n) (rwT ps n k)).1, WOk ps n w) ∧ ∀ w ∈ (rwN (cps ps n) (rwT ps n k)).2, WOk ps n w ∧ (lastW w, pyAt w 0) ∈ ps
    unfold rwN
    by_cases z : (rwT ps n k).1 = []
    · rw [if_pos z]
      exact ⟨h1, h2⟩
    · rw [if_neg z]
      have W := h1 _ (last_mem z)
      refine ⟨fun w hw => ?_, fun w hw => ?_⟩
      · rcases List.mem_append.mp hw with q | q
        · exact h1 w ((List.dropLast_sublist _).subset q)
        · obtain ⟨y, rfl, hp, _, hy⟩ := mem_ext q
          have c := coreP_sub hp
          exact W.ext c.1 (cr_sub ps n n _ c.2.2) hy
      · rcases List.mem_append.mp hw with q | q
        · exact h2 w q
        · obtain ⟨rfl, hp⟩ := mem_clo q
          exact ⟨W, (coreP_sub hp).1⟩
theorem WOk.ring {w : List Int} (W : WOk ps n w) (hself : ∀ a, (a, a) ∉ ps) (h : (lastW w, pyAt w 0) ∈ ps) : IsRing ps n w := by
  have ne := W.ne
  have two : 2 ≤ w.length := by
    rcases Nat.lt_or_ge w.length 2 with z | z
    · have e : w.length = 1 := by omega
      rw [lastW_eq ne, pyAt_0, e] at h
      exact absurd h (hself _)
    · exact z
  refine ⟨two, W.nd, fun x hx => rgI_mem.mp (W.bd x hx), fun k hk => ?_⟩
  by_cases z : k = 0
  · subst z
    exact h
  · have := W.go (k - 1) (by omega)
    rw [show k - 1 + 1 = k by omega] at this
    rw [pyAt_nat, show (k : Int) - 1 = ((k - 1 : Nat) : Int) by omega, pyAt_nat]
    exact this
theorem rings_sound (hself : ∀ a, (a, a) ∉ ps) {F : List (List Int)} (h : rgO ps n = some F) : ∀ w ∈ F, IsRing ps n w := fun w hw => by
  unfold rgO at h
  split at h
  · cases h
    have := (rw_ok 59).2 w hw
    exact this.1.ring hself this.2
  · cases h
/-- a ring from its least heir on -/
structure Cyc (ps : Ps) (left r : List Int) : Prop where
  ne : 0 < r.length
  nd : r.Nodup
  hd : pyAt r 0 ∈ left
  low : ∀ i, 0 < i → i < r.length → pyAt r 0 < r.getD i default
  go : ∀ i, i + 1 < r.length → (r.getD i default, r.getD (i + 1) default) ∈ ps
  cl : (lastW r, pyAt r 0) ∈ ps
theorem drop_last {α : Type} {l : List (List α)} (h : l ≠ []) : l = l.dropLast ++ [l.getLastD []] := by
  have e : l.getLastD [] = l.getLast h := by
    cases l with
    | nil => exact absurd rfl h
    | cons a as => rw [List.getLastD_cons, List.getLast_eq_getLastD]
  rw [e]
  exact (List.dropLast_concat_getLast h).symm
theorem pre_at {w r : List Int} (h : w <+: r) {i : Nat} (hi : i < w.length) : w.getD i default = r.getD i default := by
  obtain ⟨v, rfl⟩ := h
  simp only [List.getD_eq_getElem?_getD]
  rw [List.getElem?_append_left hi]
theorem rw_all {left r : List Int} (C : Cyc ps left r) : ∀ k, r ∈ (rwS ps left k).2 ∨ ∃ w ∈ (rwS ps left k).1, w <+: r ∧ 0 < w.length
  | 0 => by
    refine .inr ⟨[pyAt r 0], List.mem_map.mpr ⟨_, C.hd, rfl⟩, ?_, by simp⟩
    rw [pyAt_0]
    have ne := C.ne
    cases r with
    | nil => simp at ne
    | cons a as => exact ⟨as, rfl⟩
  | k + 1 => by
    show r ∈ (rwN ps (rwS ps left k)).2 ∨ ∃ w ∈ (rwN ps (rwS ps left k)).1, w <+: r ∧ 0 < w.length
    unfold rwN
    by_cases z : (rwS ps left k).1 = []
    · rw [if_pos z]
      exact rw_all C k
    · rw [if_neg z]
      rcases rw_all C k with h | ⟨w, hw, hp, h0⟩
      · exact .inl (List.mem_append_left _ h)
      · have e : (rwS ps left k).1 = (rwS ps left k).1.dropLast ++ [(rwS ps left k).1.getLastD []] := by
          exact drop_last z
        rw [e] at hw
        rcases List.mem_append.mp hw with q | q
        · exact .inr ⟨w, List.mem_append_left _ q, hp, h0⟩
        · rw [List.mem_singleton] at q
          rw [← q]
          have hl := hp.length_le
          have w0 : pyAt w 0 = pyAt r 0 := by rw [pyAt_0, pyAt_0]; exact pre_at hp h0
          rcases Nat.lt_or_ge w.length r.length with l | l
          · have hy := C.go (w.length - 1) (by omega)
            rw [show w.length - 1 + 1 = w.length by omega, ← pre_at hp (by omega), ← lastW_eq h0] at hy
            refine .inr ⟨w ++ [r.getD w.length default], List.mem_append_right _ (ext_mem hy ?_ ?_), ?_, by simp⟩
            · rw [w0]
              exact C.low _ h0 l
            · intro m
              obtain ⟨i, hi, e⟩ := at_idx _ m
              rw [pre_at hp hi, getD_lt (by omega), getD_lt l] at e
              have := (List.getElem_inj C.nd).mp e
              omega
            · obtain ⟨v, rfl⟩ := hp
              cases v with
              | nil => simp at l
              | cons a as =>
                refine ⟨as, ?_⟩
                simp [List.getD_eq_getElem?_getD]
          · have e2 : w = r := hp.eq_of_length (by omega)
            refine .inl (List.mem_append_right _ ?_)
            rw [e2]
            exact clo_mem C.cl
end
end Th

set_option Elab.async false
set_option linter.all false
set_option maxRecDepth 100000
/-! the law's own search through all ways of settling -/
namespace Th
open PySem L2 DL
section
variable {ps : Ps} {n : Nat} {t s : List (List Int)}
theorem ring_cyc {r : List Int} (h : IsRing ps n r) : ∃ st, st < r.length ∧ Cyc (cps ps n) (crS ps n n) (rotW r st) := by
  have two := h.two
  have l : 0 < r.length := by omega
  have hm := minI_mem l
  obtain ⟨st, hst, e⟩ := at_idx _ hm
  have nd := (rot_perm (way := r) st).nodup_iff.mpr h.nd
  have rl := rot_len (way := r) st
  have z0 : (rotW r st).getD 0 default = minI r := by rw [rot_at l hst l, Nat.add_zero, Nat.mod_eq_of_lt hst]; exact e
  have inC : ∀ {a b : Int}, (a, b) ∈ ps → a ∈ r → b ∈ r → (a, b) ∈ cps ps n := fun h1 h2 h3 => List.mem_filter.mpr ⟨h1, by simp [ring_core h n _ h2, ring_core h n _ h3]⟩
  have edge : ∀ i, i < r.length → (r.getD ((st + i) % r.length) default, r.getD ((st + i + 1) % r.length) default) ∈ cps ps n := fun i hi => by
    have := ring_edge h (Nat.mod_lt (st + i) l)
    rw [Nat.mod_add_mod] at this
    exact inC this (getD_memA (Nat.mod_lt _ l)) (getD_memA (Nat.mod_lt _ l))
  refine ⟨st, hst, by omega, nd, ?_, fun i h0 hi => ?_, fun i hi => ?_, ?_⟩
  · rw [pyAt_0, z0]
    exact ring_core h n _ hm
  · rw [pyAt_0, z0]
    have m2 : (rotW r st).getD i default ∈ r := (rot_perm st).subset (getD_memA hi)
    have le := minI_le m2
    have ne : minI r ≠ (rotW r st).getD i default := fun e => by
      rw [← z0, getD_lt (by omega), getD_lt hi] at e
      have := (List.getElem_inj nd).mp e
      omega
    omega
  · rw [rl] at hi
    rw [rot_at l hst (by omega), rot_at l hst hi]
    exact edge i (by omega)
  · rw [lastW_eq (by omega), pyAt_0, rl, rot_at l hst (by omega), rot_at l hst l]
    have := edge (r.length - 1) (by omega)
    rw [show st + (r.length - 1) + 1 = st + r.length by omega, Nat.add_mod_right] at this
    rw [Nat.add_zero]
    exact this
theorem rings_all {r : List Int} (h : IsRing ps n r) {F : List (List Int)} (hF : rgO ps n = some F) : ∃ st, st < r.length ∧ rotW r st ∈ F := by
  obtain ⟨st, hst, C⟩ := ring_cyc h
  refine ⟨st, hst, ?_⟩
  unfold rgO at hF
  split at hF
  · rename_i z
    cases hF
    rcases rw_all C 59 with q | ⟨w, hw, _⟩
    · exact q
    · have z' : (rwS (cps ps n) (crS ps n n) 59).1 = [] := z
      rw [z'] at hw
      cases hw
  · cases hF
theorem turn_rot {r : List Int} (w : GoodW r n) (hn : s.length = n) {st : Nat} (hs : st < r.length) : turnS s (rotW r st) n = turnS s r n := by
  have h1 := ex_eq w hn hs
  have two := w.two
  have h2 := ex_eq (rot_good w st) hn (st := 0) (by rw [rot_len]; omega)
  have e : rotW (rotW r st) 0 = rotW r st := by simp [rotW]
  rw [e] at h2
  exact h2.symm.trans h1
/-! all ways -/
def addS (s : List (List Int)) (n : Nat) (seen : List (List (List Int))) (ws : List (List Int)) : List (List (List Int)) := ws.foldl (fun acc w => if turnS s w n ∈ acc then acc else acc ++ [turnS s w n]) seen
theorem addS_old {ws : List (List Int)} : ∀ {seen : List (List (List Int))}, seen <+: addS s n seen ws := by
  induction ws with
  | nil => intro seen; exact List.prefix_refl _
  | cons w ws ih =>
    intro seen
    show seen <+: addS s n (if turnS s w n ∈ seen then seen else seen ++ [turnS s w n]) ws
    split
    · exact ih
    · exact (List.prefix_append _ _).trans ih
theorem addS_new {ws : List (List Int)} : ∀ {seen : List (List (List Int))}, ∀ w ∈ ws, turnS s w n ∈ addS s n seen ws := by
  induction ws with
  | nil => intro seen w hw; cases hw
  | cons v ws ih =>
    intro seen w hw
    show turnS s w n ∈ addS s n (if turnS s v n ∈ seen then seen else seen ++ [turnS s v n]) ws
    rcases List.mem_cons.mp hw with e | e
    · rw [e]
      refine addS_old.subset ?_
      split
      · assumption
      · simp
    · exact ih w e
theorem addS_all {ws : List (List Int)} {P : List (List Int) → Prop} : ∀ {seen : List (List (List Int))}, (∀ u ∈ seen, P u) → (∀ w ∈ ws, P (turnS s w n)) → ∀ u ∈ addS s n seen ws, P u := by
  induction ws with
  | nil => intro seen h _; exact h
  | cons v ws ih =>
    intro seen h h2
    show ∀ u ∈ addS s n (if turnS s v n ∈ seen then seen else seen ++ [turnS s v n]) ws, P u
    refine ih ?_ fun w hw => h2 w (by simp [hw])
    split
    · exact h
    · intro u hu
      rcases List.mem_append.mp hu with z | z
      · exact h u z
      · rw [List.mem_singleton] at z
        rw [z]
        exact h2 v (by simp)
structure Sd where
  seen : List (List (List Int))
  found : List (List (List Int))
  at_ : Nat
def sdU (k : Sd) : List (List Int) := k.seen.getD k.at_ []
def sdR (t : List (List Int)) (k : Sd) : Option (List (List Int)) := rgO (pairsOf t (sdU k)) t.length
def sdBad (t : List (List Int)) (k : Sd) : Bool := (sdR t k).isNone || decide ((12 : Int) < (k.seen.length : Int))
def sdN (t : List (List Int)) (k : Sd) : Sd := ⟨addS (sdU k) t.length k.seen ((sdR t k).getD []), if (sdR t k).getD [] = [] then k.found ++ [sdU k] else k.found, k.at_ + 1⟩
def sdF (t : List (List Int)) : Nat → Sd → Option (List (List (List Int)))
  | 0, _ => none
  | f + 1, k => if k.at_ < k.seen.length then (if sdBad t k = true then none else sdF t f (sdN t k)) else some k.found
def sdO (t s : List (List Int)) : Option (List (List (List Int))) := sdF t 14 ⟨[s], [], 0⟩
structure SdI (t s : List (List Int)) (k : Sd) : Prop where
  perm : ∀ u ∈ k.seen, u.Perm s
  mem : s ∈ k.seen
  clo : ∀ i, i < k.at_ → i < k.seen.length → (leftOf (pairsOf t (k.seen.getD i [])) t.length ≠ [] → exR t (k.seen.getD i []) ∈ k.seen) ∧ (leftOf (pairsOf t (k.seen.getD i [])) t.length = [] → k.seen.getD i [] ∈ k.found)
  fnd : ∀ u ∈ k.found, u.Perm s ∧ leftOf (pairsOf t u) t.length = []
theorem SdI.start : SdI t s ⟨[s], [], 0⟩ := ⟨fun u hu => by rw [List.mem_singleton] at hu; rw [hu], by simp, fun i h => absurd h (Nat.not_lt_zero i), fun u hu => by cases hu⟩
theorem SdI.next {k : Sd} (I : SdI t s k) (hn : s.length = t.length) (hk : k.at_ < k.seen.length) (hb : sdBad t k = false) : SdI t s (sdN t k) := by
  have hu : sdU k ∈ k.seen := getD_memA hk
  have pu := I.perm _ hu
  have un : (sdU k).length = t.length := pu.length_eq.trans hn
  unfold sdBad at hb
  rw [Bool.or_eq_false_iff] at hb
  obtain ⟨F, hF⟩ : ∃ F, sdR t k = some F := by
    cases q : sdR t k with
    | none => rw [q] at hb; cases hb.1
    | some F => exact ⟨F, rfl⟩
  have sound := rings_sound (pairs_self t (sdU k)) hF
  have good : ∀ w ∈ F, GoodW w t.length := fun w hw => ⟨(sound w hw).two, (sound w hw).bd, (sound w hw).nd⟩
  have nil_iff : F = [] ↔ leftOf (pairsOf t (sdU k)) t.length = [] := by
    constructor
    · intro e
      cases q : leftOf (pairsOf t (sdU k)) t.length with
      | nil => rfl
      | cons a as =>
        have ne : leftOf (pairsOf t (sdU k)) t.length ≠ [] := by rw [q]; simp
        obtain ⟨st, _, hm⟩ := rings_all (ringR_ring ne) hF
        rw [e] at hm
        cases hm
    · intro e
      cases F with
      | nil => rfl
      | cons w ws => exact absurd e (ring_left (sound w (by simp)))
  have old : k.seen <+: addS (sdU k) t.length k.seen F := addS_old
  have same : ∀ i, i < k.seen.length → (addS (sdU k) t.length k.seen F).getD i [] = k.seen.getD i [] := fun i hi => by
    obtain ⟨v, hv⟩ := old
    rw [← hv]
    simp only [List.getD_eq_getElem?_getD]
    rw [List.getElem?_append_left hi]
  unfold sdN
  rw [hF]
  simp only [Option.getD_some]
  refine ⟨addS_all I.perm fun w hw => (turn_perm (good w hw) un).trans pu, old.subset I.mem, fun i hi hl => ?_, fun u hu2 => ?_⟩
  · have hi2 : i < k.seen.length := by have : i < k.at_ + 1 := hi; omega
    show (leftOf (pairsOf t ((addS (sdU k) t.length k.seen F).getD i [])) t.length ≠ [] → exR t ((addS (sdU k) t.length k.seen F).getD i []) ∈ addS (sdU k) t.length k.seen F) ∧ (leftOf (pairsOf t ((addS (sdU k) t.length k.seen F).getD i [])) t.length = [] → (addS (sdU k) t.length k.seen F).getD i [] ∈ (if F = [] then k.found ++ [sdU k] else k.found))
    rw [same i hi2]
    rcases Nat.lt_or_ge i k.at_ with z | z
    · obtain ⟨c1, c2⟩ := I.clo i z hi2
      refine ⟨fun h => old.subset (c1 h), fun h => ?_⟩
      have := c2 h
      split
      · exact List.mem_append_left _ this
      · exact this
    · have e : i = k.at_ := by have : i < k.at_ + 1 := hi; omega
      have eu : k.seen.getD i [] = sdU k := by rw [e]; rfl
      rw [eu]
      refine ⟨fun h => ?_, fun h => ?_⟩
      · obtain ⟨st, hst, hm⟩ := rings_all (ringR_ring h) hF
        rw [exR_turn un h, ← turn_rot (ringR_good h) un hst]
        exact addS_new _ hm
      · rw [if_pos (nil_iff.mpr h)]
        simp
  · have hu3 : u ∈ (if F = [] then k.found ++ [sdU k] else k.found) := hu2
    split at hu3
    · rename_i e
      rcases List.mem_append.mp hu3 with z | z
      · exact I.fnd u z
      · rw [List.mem_singleton] at z
        rw [z]
        exact ⟨pu, nil_iff.mp e⟩
    · exact I.fnd u hu3
theorem SdI.done {k : Sd} (I : SdI t s k) (hn : s.length = t.length) (hk : k.seen.length ≤ k.at_) : (stO t s).2 ∈ k.found := by
  obtain ⟨J, hl⟩ := stO_spec hn
  have hm : (stO t s).2 ∈ k.seen := J.all (fun u => u ∈ k.seen) I.mem fun u _ h hu => by
    obtain ⟨i, hi, e⟩ := List.mem_iff_getElem.mp hu
    have e2 : k.seen.getD i [] = u := by rw [List.getD_eq_getElem?_getD, List.getElem?_eq_getElem hi]; exact e
    have := (I.clo i (by omega) hi).1
    rw [e2] at this
    exact this h
  obtain ⟨i, hi, e⟩ := List.mem_iff_getElem.mp hm
  have e2 : k.seen.getD i [] = (stO t s).2 := by rw [List.getD_eq_getElem?_getD, List.getElem?_eq_getElem hi]; exact e
  have := (I.clo i (by omega) hi).2
  rw [e2] at this
  exact this hl
theorem sd_ok (hn : s.length = t.length) {F : List (List (List Int))} (h : sdO t s = some F) : (stO t s).2 ∈ F ∧ ∀ u ∈ F, u.Perm s ∧ leftOf (pairsOf t u) t.length = [] := by
  have go : ∀ f k, SdI t s k → sdF t f k = some F → (stO t s).2 ∈ F ∧ ∀ u ∈ F, u.Perm s ∧ leftOf (pairsOf t u) t.length = [] := by
    intro f
    induction f with
    | zero => intro k _ h; cases h
    | succ f ih =>
      intro k I h
      unfold sdF at h
      split at h
      · rename_i hk
        split at h
        · cases h
        · rename_i hb
          exact ih _ (I.next hn hk (by simpa using hb)) h
      · cases h
        exact ⟨I.done hn (by omega), I.fnd⟩
  exact go _ _ SdI.start h
end
end Th

set_option Elab.async false
set_option linter.all false
set_option maxRecDepth 100000
set_option maxHeartbeats 2000000
/-! try: a call that is refused, except C as e: a suite that looks at e alone -/
namespace DL
open PySem L2
theorem takes_len {X : Cx} {W : WX} (tk : Takes X W) : Takes X (fun cls d σ H => σ.length = X.N.length → W cls d σ H) := fun u s' ⟨a, B, sI, pins, σ, H, cls, d, e, I, nb, up, sky, na, os, ag, w⟩ =>
  tk u s' ⟨a, B, sI, pins, σ, H, cls, d, e, I, nb, up, sky, na, os, ag, w I.len⟩
theorem call_isET {X : Cx} {a D : Addr} {oe : Obj} {pn : List (Addr × Obj)} (C : ExcC X.K D) (hz : Zc (.ref D) none oe) (hf : ∃ vs, oe.data = .fields vs) : CallR (X.suite a ((a, oe) :: pn)) (.builtin "isinstance")
    (fun xs H Q => ∃ (tp : Addr) (cs : List V) (us : List Value) (b : Bool), xs = [.ref a, .ref tp] ∧ H tp = some (.tup cs) ∧ Paired ClsV cs us ∧ PySem.W.kitAny X.K (.ref D) us = some b ∧ Q (.bl b) H) := by
  intro pins s σ H xs us Q I r h
  obtain ⟨tp, cs, ws, b, rfl, hT, k, e, q⟩ := h
  cases r with
  | cons rx rr =>
    cases rr with
    | cons rt rr =>
      cases rr
      cases rx
      cases rt
      obtain ⟨hget, _⟩ := I.pin (a, oe) (List.mem_append.mpr (.inl List.mem_cons_self))
      obtain ⟨vs, hv⟩ := hf
      have J : PySem.W.InstAt s.heap a oe D none := by
        obtain ⟨oc, od, oda, osl⟩ := oe
        obtain ⟨h1, h2⟩ := hz; dsimp only at h1 h2 hv; subst h1 h2 hv
        exact ⟨hget, rfl, rfl, trivial⟩
      obtain ⟨_, its, rv, o, h1, h2, n, h3⟩ := (show ObjOk X.prog X.w H s.heap tp (.tup cs) from I.hok tp _ hT)
      have e3 := ClsV.all k rv; subst e3
      obtain ⟨oc, od, dt, sl⟩ := o
      simp only at h2 h3; subst h2 h3
      exact PySem.W.kia_tup (PySem.W.handS_kitx_exc C.hg C.hk C.hs C.hd C.ha C.hn C.ht C.hm) I.kIn J h1 e (fun z => nomatch z) fun tk => ⟨.bl b, H, I.kept (t' := tk) fun _ _ z => z, rfl, q⟩
section
variable {X : Cx} {Γ : Gm} {ρ : List Sl} {pos p p2 np pos' cp : Pos} {E : En} {rest : List Stmt} {n x : Str} {i : Nat} {a : Addr} {oe : Obj} {pn : List (Addr × Obj)} {D : Addr} {c : V} {cv : Value} {b : Bool} {ea ec : Expr}
/-- isinstance(e, a class) in the suite -/
theorem dv_isE (C : ExcC X.K D) (hz : Zc (.ref D) none oe) (hf : ∃ vs, oe.data = .fields vs) (ha : DV (X.suite a ((a, oe) :: pn)) Γ ρ ea (.ref a)) (hc : DV (X.suite a ((a, oe) :: pn)) Γ ρ ec c) (hcv : ∀ u, RelV c u → u = cv) (hk : PySem.W.kitOne X.K (.ref D) cv = some b) (hm : X.mg "isinstance" = none)
    (hg : Gl (X.suite a ((a, oe) :: pn)) "isinstance" := by rfl) (he : starEach [ea, ec] X.env = (false, eval ea X.env) :: starEach [ec] X.env := by rfl) (he2 : starEach [ec] X.env = (false, eval ec X.env) :: starEach [] X.env := by rfl) (hpl : (backTo pos (starEach [ec] X.env)).any (·.1) = false := by rfl) :
    DV (X.suite a ((a, oe) :: pn)) Γ ρ (.Call (.Name "isinstance" p) [ea, ec] [] pos) (.bl b) :=
  cb2 (pe_callB (call_isE C hz hf) hg hm PyProof.Rows.boot_isinstance (pa_cons ha (pa_cons hc pa_nil he2) he) (by decide) (by decide) he hpl) fun σ G H G1 H1 G2 H2 v u Q S s1 e1 q1 s2 e2 q2 k =>
    ⟨c, cv, b, by rw [q1, q2], hcv, hk, k _ G2 H2 (Step.refl _ _) e2 rfl⟩
theorem ss_tryE {C : Addr} {cx : Value} {call : Expr} {b0 : Stmt} {suite : List Stmt} {epos : Pos} (i : Nat) (eg : Ex Γ.G Γ.H) (hN : X.N.Nodup) (hc : Names X x cx) (hmatch : PySem.W.exmOne X.K (.ref C) cx = some true)
    (hb : ∀ (pn : List (Addr × Obj)) (xe : Value → Shared → Prop), RX (X.tr pn xe) Γ C → DN (X.tr pn xe) Γ ρ call)
    (hsu : ∀ (a : Addr) (oe : Obj) (pn : List (Addr × Obj)), Zc (.ref C) none oe → (∃ vs, oe.data = .fields vs) → SS (X.suite a ((a, oe) :: pn)) Γ ((List.replicate X.N.length Sl.un).set i (.v (.ref a))) (b0 :: suite) { nx := fun _ => False, rt := E.rt })
    (hi : X.N[i]? = some n := by rfl) (hs : X.stack = X.env :: X.outer := by rfl) (hf : X.env.frame = some X.env.locals := by rfl) (hln : X.env.kindOf n = some .local := by rfl) (hsw : ∀ pn xe, swapsWith call none epos.line (X.tr pn xe).env = pure false := by intros; rfl) :
    SS X Γ ρ (.Try [.Expr call epos] [.ExceptHandler (some (.Name x np)) (some n) (b0 :: suite) pos'] [] [] pos :: rest) E := by
  let E' : En := { nx := fun _ => False, rt := E.rt }
  let ts : Addr → Value → Option Addr → TS := fun a cls d => fun D' σ H => (cls = .ref C ∧ d = none) ∧ tS Γ ((List.replicate X.N.length Sl.un).set i (.v (.ref a))) E' D' σ H
  let tb : WX → TS := fun W => fun D' σ H => (∀ (σ' : L2.St) (H2 : Hp), σ'.length = X.N.length → Ex Γ.H H2 → W (.ref C) none σ' H2) ∧ ∃ G, Sr Γ G H σ ρ
  have tk0 : Takes X (fun _ _ _ _ => False) := fun u s' ⟨_, _, _, _, _, _, _, _, _, _, _, _, _, _, _, _, w⟩ => w.elim
  have h1 : ∀ (W : WX) (pn : List (Addr × Obj)) (xe : Value → Shared → Prop), Takes (X.tr pn xe) W → PassesOwn (model X.prog X.w) X.A X.env xe → PSs (X.tr pn xe) [.Expr call epos] (tb W) := fun W pn xe tk hp => ⟨fun pins s σ H D' I ⟨hw, G, S⟩ => by
    have rx : RX (X.tr pn xe) Γ C := ⟨_, takes_len tk, fun σ' H2 e hl => hw σ' H2 hl e⟩
    have dn := hb pn xe rx
    have := ((pss_cons (ps_expr dn (hsw pn xe)) (pss_nil (X := X.tr pn xe))).run pins s σ H D' I ⟨G, S, fun v G2 H2 st ex q => q.elim⟩)
    exact this⟩
  have h2 : ∀ (a : Addr) (oe : Obj) (cls : Value) (d : Option Addr) (pn : List (Addr × Obj)), Zc cls d oe → (∃ vs, oe.data = .fields vs) → PSs (X.suite a ((a, oe) :: pn)) (b0 :: suite) (ts a cls d) := fun a oe cls d pn hz hf => ⟨fun pins s σ H D' I ⟨⟨e1, e2⟩, q⟩ => by
    subst e1 e2
    exact (hsu a oe pn hz hf).run pins s σ H D' I q⟩
  refine ss_cons (M := fun _ => False) ((ps_try_as hs hf hN hi hln hc tk0 h1 h2).weak fun D' σ H ⟨G, S, k⟩ => ?_) fun _ e => e.elim
  refine ⟨fun σ' H2 hl e => ⟨true, hmatch, fun _ a ha => ⟨⟨rfl, rfl⟩, Γ.G, ⟨⟨Ex.refl _, e, fun b u g _ => g⟩, eg.trans e, [], ?_, List.nodup_nil, fun _ z => by cases z⟩, ⟨fun _ _ _ _ z => z.elim, fun _ _ _ _ z => z.elim, fun _ _ _ _ z => z.elim, k.rt⟩⟩, fun z => by cases z⟩, G, S⟩
  exact (SlR.uns _ σ' hl).setN .v
end
end DL
namespace DL
open PySem L2
section
variable {X : Cx} {Γ : Gm} {ρ : List Sl} {pos p tpos : Pos} {a : Addr} {oe : Obj} {pn : List (Addr × Obj)} {D : Addr} {b : Bool} {ea : Expr} {es : List Expr} {kk : Nat} {cs : List V} {us : List Value}
/-- classes written out -/
theorem slR_vs {K : Fg} {I G H : Hp} : ∀ {vs cs : List V} {A : List Addr}, SlR K I G H (vs.map some) (cs.map Sl.v) A → vs = cs
  | [], [], _, .nil => rfl
  | v :: vs, c :: cs, _, .cons h r => by
    cases h with
    | v => rw [slR_vs r]
/-- isinstance(e, (classes)) in the suite -/
theorem dv_isET (C : ExcC X.K D) (hz : Zc (.ref D) none oe) (hf : ∃ vs, oe.data = .fields vs) (ha : DV (X.suite a ((a, oe) :: pn)) Γ ρ ea (.ref a)) (hc : DA (X.suite a ((a, oe) :: pn)) Γ ρ es (cs.map Sl.v)) (hp : Paired ClsV cs us) (hl : cs.length ≤ 1000) (hk : PySem.W.kitAny X.K (.ref D) us = some b) (hm : X.mg "isinstance" = none)
    (hg : Gl (X.suite a ((a, oe) :: pn)) "isinstance" := by rfl) (he : starEach [ea, .Tuple es kk tpos] X.env = (false, eval ea X.env) :: starEach [.Tuple es kk tpos] X.env := by rfl) (he2 : starEach [.Tuple es kk tpos] X.env = (false, eval (.Tuple es kk tpos) X.env) :: starEach [] X.env := by rfl) (hpl : (backTo pos (starEach [.Tuple es kk tpos] X.env)).any (·.1) = false := by rfl) :
    DV (X.suite a ((a, oe) :: pn)) Γ ρ (.Call (.Name "isinstance" p) [ea, .Tuple es kk tpos] [] pos) (.bl b) := by
  let pT : Hp → Hp → Hp → V → Prop := fun _ _ H2 v => ∃ t, v = .ref t ∧ H2 t = some (.tup cs)
  have ht : PE (X.suite a ((a, oe) :: pn)) (.Tuple es kk tpos) (tX Γ ρ pT) := (pe_tup hc).weak fun σ H Q ⟨G, S, k⟩ => ⟨G, S, fun vs G1 H1 A s1 e1 r nd f => by
    have ev := slR_vs r
    subst ev
    exact ⟨Nat.le_trans hl (by decide), fun q hq => k (.ref q) G1 _ (s1.trans (Step.laid hq)) (e1.trans (Ex.new hq)) ⟨q, rfl, upd_same⟩⟩⟩
  exact cb2 (pe_callB (call_isET C hz hf) hg hm PyProof.Rows.boot_isinstance (pa_cons ha (pa_cons ht pa_nil he2) he) (by decide) (by decide) he hpl) fun σ G H G1 H1 G2 H2 v u Q S s1 e1 q1 s2 e2 q2 k => by
    obtain ⟨t, rfl, ht⟩ := q2
    exact ⟨t, cs, us, b, by rw [q1], ht, hp, hk, k _ G2 H2 (Step.refl _ _) e2 rfl⟩
end
end DL

set_option Elab.async false
set_option linter.all false
set_option maxRecDepth 100000
set_option maxHeartbeats 2000000
/-! defs whose arguments are as good as frozen: their result is plain, or only looked at; texts joined -/
namespace DL
open PySem L2
def tz : Sl → Sl
  | .ro d => .sh d
  | s => s
theorem SlR.tz {K : Fg} {G H : Hp} (e : Ex G H) : ∀ {σ : L2.St} {ss : List Sl} {A : List Addr}, SlR K H G H σ ss A → ss.all argOk = true → SlR K H H H σ (ss.map DL.tz) []
  | _, _, _, .nil, _ => .nil
  | _, _, _, .cons h r, q => by
    rw [List.all_cons, Bool.and_eq_true] at q
    have r' := SlR.tz e r q.2
    cases h with
    | ow _ => cases q.1
    | ob _ _ _ => cases q.1
    | oa _ => cases q.1
    | rb z fr => exact .cons (A := []) (B := []) (.rb z fr) r'
    | un => exact .cons (A := []) (B := []) .un r'
    | v => exact .cons (A := []) (B := []) .v r'
    | sh z => exact .cons (A := []) (B := []) (.sh (Rep.mono e z)) r'
    | ro z => exact .cons (A := []) (B := []) (.sh z) r'
    | sc z => exact .cons (A := []) (B := []) (.sc z) r'
theorem rep_sc {G H : Hp} {v x : V} {d : D} (hd : dV d = some x) (r : Rep G v d) : Rep H v d := by
  cases r with
  | non => exact .non
  | bl b => exact .bl b
  | int i => exact .int i
  | str s => exact .str s
  | lst _ _ => cases hd
  | tup _ _ => cases hd
  | dct _ => cases hd
/-- what a def hands back is only looked at -/
def spC (K : Fg) (ss : List Sl) (d : D) : Sp := fun vs H Q E => ∃ G, Ex G H ∧ SlR K H G H (vs.map some) ss [] ∧ ∀ v H2, Ex H H2 → Rep H2 v d → Q v H2
section
variable {P : Program} {w : World} {K : Fg} {mg : Str → Option Value} {base : Heap}
theorem ok_defC {x qual : Str} {st : Stmt} {f : Addr} {fd : FuncData} {N ps : List Str} {k m : Nat} {ss : List Sl} {d : D} (F : Fun K x qual st f fd) (S : FnScope N ps (defScope st)) (hl : ss.length = ps.length) (hm : N.length - ps.length = m) (ha : ss.all argOk = true)
    (hbody : ∀ (cdv : Value) (A : Around) (outer : List Env) (s : Shared) (H : Hp) (E : XK), Room k (A.deeper (PyProof.Rows.envOfC qual (defScope st) s.heap.objs.size f cdv)) →
      XO (cxOf (L2.CX P w) P w K mg base N qual (defScope st) f cdv A outer s H E) →
      PassesOwn (model P w) (A.deeper (PyProof.Rows.envOfC qual (defScope st) s.heap.objs.size f cdv)) (PyProof.Rows.envOfC qual (defScope st) s.heap.objs.size f cdv) (cxOf (L2.CX P w) P w K mg base N qual (defScope st) f cdv A outer s H E).xe →
      SS (cxOf (L2.CX P w) P w K mg base N qual (defScope st) f cdv A outer s H E) ⟨K, H, H⟩ (ss.map DL.tz ++ List.replicate m .un) (defBody st) { nx := fun _ => False, rt := fun t _ => t.er = d }) :
    FnOk P w K mg base (L2.CX P w) (k + 1) f fd ps (spC K ss d) := by
  have len : ∀ vs H Q E, spC K ss d vs H Q E → vs.length = ps.length := fun vs H Q E ⟨G, _, r, _⟩ => by rw [slr_len r, hl]
  refine F.okX S len (fun cdv A outer s H vs Q E hr h => ?_)
  have hv := len _ _ _ _ h
  have xo : XO (cxOf (L2.CX P w) P w K mg base N qual (defScope st) f cdv A outer s H E) := ⟨rfl, S.nd, by have := hr.un; show (A.deeper (PyProof.Rows.envOfC qual (defScope st) s.heap.objs.size f cdv)).units + 65 < cLine; omega⟩
  have hp : PassesOwn (model P w) (A.deeper (PyProof.Rows.envOfC qual (defScope st) s.heap.objs.size f cdv)) (PyProof.Rows.envOfC qual (defScope st) s.heap.objs.size f cdv) (cxOf (L2.CX P w) P w K mg base N qual (defScope st) f cdv A outer s H E).xe := passes_of (X := cxOf (L2.CX P w) P w K mg base N qual (defScope st) f cdv A outer s H E) rfl
  obtain ⟨G, eg, r, kk⟩ := h
  refine ⟨_, hbody cdv A outer s H E hr xo hp, H, ⟨⟨Ex.refl _, Ex.refl _, fun _ _ e _ => e⟩, Ex.refl _, [], slr_start (SlR.tz eg r ha) (by rw [hv, hm]), List.nodup_nil, fun _ z => by cases z⟩, ?_⟩
  refine ⟨fun _ _ _ _ z => z.elim, fun _ _ _ _ z => z.elim, fun _ _ _ _ z => z.elim, fun t' _ _ v G' H' A' e st' ex o nd f' _ => ?_⟩
  cases e
  exact kk v H' st'.h (o.rep ex)
theorem ok_defZ {x qual : Str} {st : Stmt} {f : Addr} {fd : FuncData} {N ps : List Str} {k m : Nat} {ss : List Sl} {d : D} {u : V} (hd : dV d = some u) (F : Fun K x qual st f fd) (S : FnScope N ps (defScope st)) (hl : ss.length = ps.length) (hm : N.length - ps.length = m) (ha : ss.all argOk = true)
    (hbody : ∀ (cdv : Value) (A : Around) (outer : List Env) (s : Shared) (H : Hp) (E : XK), Room k (A.deeper (PyProof.Rows.envOfC qual (defScope st) s.heap.objs.size f cdv)) →
      XO (cxOf (L2.CX P w) P w K mg base N qual (defScope st) f cdv A outer s H E) →
      PassesOwn (model P w) (A.deeper (PyProof.Rows.envOfC qual (defScope st) s.heap.objs.size f cdv)) (PyProof.Rows.envOfC qual (defScope st) s.heap.objs.size f cdv) (cxOf (L2.CX P w) P w K mg base N qual (defScope st) f cdv A outer s H E).xe →
      SS (cxOf (L2.CX P w) P w K mg base N qual (defScope st) f cdv A outer s H E) ⟨K, H, H⟩ (ss.map DL.tz ++ List.replicate m .un) (defBody st) { nx := fun _ => False, rt := fun t _ => Oc.ret (.fz d) = .ret t }) :
    FnOk P w K mg base (L2.CX P w) (k + 1) f fd ps (sp1 K ss (.ret (.fz d))) := by
  have len : ∀ vs H Q E, sp1 K ss (.ret (.fz d)) vs H Q E → vs.length = ps.length := fun vs H Q E ⟨G, _, r, _⟩ => by rw [slr_len r, hl]
  refine F.okX S len (fun cdv A outer s H vs Q E hr h => ?_)
  have hv := len _ _ _ _ h
  have xo : XO (cxOf (L2.CX P w) P w K mg base N qual (defScope st) f cdv A outer s H E) := ⟨rfl, S.nd, by have := hr.un; show (A.deeper (PyProof.Rows.envOfC qual (defScope st) s.heap.objs.size f cdv)).units + 65 < cLine; omega⟩
  have hp : PassesOwn (model P w) (A.deeper (PyProof.Rows.envOfC qual (defScope st) s.heap.objs.size f cdv)) (PyProof.Rows.envOfC qual (defScope st) s.heap.objs.size f cdv) (cxOf (L2.CX P w) P w K mg base N qual (defScope st) f cdv A outer s H E).xe := passes_of (X := cxOf (L2.CX P w) P w K mg base N qual (defScope st) f cdv A outer s H E) rfl
  obtain ⟨G, eg, r, kk⟩ := h
  refine ⟨_, hbody cdv A outer s H E hr xo hp, H, ⟨⟨Ex.refl _, Ex.refl _, fun _ _ e _ => e⟩, Ex.refl _, [], slr_start (SlR.tz eg r ha) (by rw [hv, hm]), List.nodup_nil, fun _ z => by cases z⟩, ?_⟩
  refine ⟨fun _ _ _ _ z => z.elim, fun _ _ _ _ z => z.elim, fun _ _ _ _ z => z.elim, fun t' _ _ v G' H' A' e st' ex o nd f' _ => ?_⟩
  cases e
  cases o with
  | fz q => exact kk v G H' [] ⟨Ex.refl _, st'.h, fun _ _ g _ => g⟩ (eg.trans st'.h) (.fz (rep_sc hd q)) List.nodup_nil fun _ z => by cases z
end
section
variable {X : Cx} {Γ : Gm} {ρ : List Sl} {e o tg : Expr} {es : List Expr} {pos p apos : Pos} {κ : Kd} {d : D} {α : Type} {f : α → D} {k : Nat} {fa : Addr} {fd : FuncData} {ps : List Str} {ss : List Sl} {n : Str}
theorem de_callC (F : FnOk X.prog X.w X.K X.mg X.base (L2.CX X.prog X.w) k fa fd ps (spC X.K ss d)) (hr : Room k X.A) (hm : X.mg n = some (.ref fa)) (hk : PySem.W.keepIn X.K (.ref fa) = true) (hb : Binds X.K fd ps []) (hK : Γ.K = X.K) (ha : DA X Γ ρ (e :: es) ss) (hs : ss.all argOk = true := by rfl)
    (hg : Gl X n := by rfl) (hdb : (n == ("__debug__" : Str)) = false := by decide) (he : starEach (e :: es) X.env = (false, eval e X.env) :: starEach es X.env := by rfl) (hpl : (backTo pos (starEach es X.env)).any (·.1) = false := by rfl) :
    DE X Γ ρ (.Call (.Name n p) (e :: es) [] pos) .c d :=
  (pe_call F hr hg hm hk hb .nil (passL (X := X)) ha hdb he hpl).weak fun σ H Q ⟨G, S, kk⟩ => ⟨G, S, fun vs G2 H2 A s2 e2 r nd f => by
    show spC X.K ss d (vs ++ []) H2 _ _
    rw [List.append_nil]
    refine ⟨G2, e2, ?_, fun v H3 e3 q => kk v G2 H3 (s2.trans ⟨Ex.refl _, e3, fun _ _ g _ => g⟩) (e2.trans e3) q⟩
    rw [← hK]
    exact slR_arg r hs⟩
theorem dv_join {u : Str} {ws : List Str} (ho : DV X Γ ρ o (.str u)) (he : DE X Γ ρ e κ (dl PyData.str ws)) (hz : (ws.map (·.length)).sum + ws.length * u.length ≤ 16777216) (hs : starEach [e] X.env = [(false, eval e X.env)] := by rfl) (hbase : attributeBase o "join" X.env (eval o X.env) = eval o X.env := by rfl) (hline : (apos.endLine == pos.line) = true := by rfl) :
    DV X Γ ρ (.Call (.Attribute o "join" apos) [e] [] pos) (.str (Txt.join u ws)) :=
  (pe_join ho he hs hbase hline).weak fun σ H Q ⟨G, S, k⟩ => ⟨G, S, fun v G1 H1 s1 e1 (q1 : v = .str u) => ⟨⟨u, q1⟩, G1, S.more s1 e1, fun y G2 H2 s2 e2 q2 => by
    obtain ⟨a, xs, rfl, h, r⟩ := Rep.l (pK_c (S.more s1 e1) s2 e2 q2)
    have ev := r.strs
    subst ev
    exact ⟨u, a, ws, q1, rfl, .inl (SqL.of h), hz, k _ G2 H2 (s1.trans s2) e2 rfl⟩⟩⟩
/-- for i, x in enumerate(frozen) in a comprehension -/
theorem ic_enum [Inhabited α] {xs : List α} {elts : List Expr} {kk : Nat} {tpos : Pos} (h : DE X Γ ρ e .z (dl f xs)) (hm : X.mg "enumerate" = none) (hg : Gl X "enumerate" := by rfl) (hs1 : starEach [e] X.env = (false, eval e X.env) :: starEach [] X.env := by rfl) (hs : starEach [e] X.env = [(false, eval e X.env)] := by rfl) :
    DIc X Γ ρ (.Tuple elts kk tpos) (.Call (.Name "enumerate" p) [e] [] pos) (List.range xs.length) (fun i => .sh (.tuple [.int (i : Int), f (xs.getD i default)])) :=
  (pi_enum hg hm (pa_cons h pa_nil hs1) hs).weak fun σ H R ⟨G, S, k⟩ => ⟨G, S, fun v G1 H1 s1 e1 q => by
    obtain ⟨a, vs, rfl, hl, r⟩ := Rep.l q
    have ln := r.len
    rw [List.length_map] at ln
    refine ⟨a, vs, rfl, SqL.of (e1 _ _ hl), k _ G1 H1 s1 e1 ⟨fun i G' H' g1 g2 _ hi => ?_, fun i a' G' H' x H'' hx g1 g2 _ hy => ?_, fun i G' H' g1 g2 _ hi => ⟨vs, SqL.of (g2 _ _ (g1 _ _ hl)), by rw [List.length_range] at hi; omega⟩⟩⟩
    · rw [List.length_range] at hi
      exact ⟨vs, vs[i], SqL.of (g2 _ _ (g1 _ _ hl)), List.getElem?_eq_getElem (by omega)⟩
    · obtain ⟨T, y, rfl, hT, rfl, hv⟩ := hy
      obtain ⟨h1, h2⟩ := List.getElem?_eq_some_iff.mp hx
      rw [List.getElem_range] at h2
      subst h2
      rw [List.length_range] at h1
      obtain ⟨d, q1, q2⟩ := (Reps.mono g1 r).getV (hv vs (SqL.of (g2 _ _ (g1 _ _ hl))))
      have ed := map_at q1
      subst ed
      have gT : G' T = none := g2.none hT
      refine ⟨upd G' T (.tup [.int (i : Nat), y]), ⟨Ex.new gT, Ex.new hT, fun b u g3 g4 => ?_⟩, fun b u hb => ?_, .sh (.tup upd_same (.cons (.int _) (.cons (Rep.mono (Ex.new gT) q2) .nil)))⟩
      · rw [upd_ne (fun z => by rw [z, hT] at g4; cases g4)]
        exact g3
      · by_cases z : b = T
        · subst z
          rw [upd_same] at hb ⊢
          exact hb
        · rw [upd_ne z] at hb ⊢
          exact g2 _ _ hb⟩
end
end DL

set_option Elab.async false
set_option linter.all false
set_option maxRecDepth 100000
set_option maxHeartbeats 2000000
/-! frozen lists of all kinds of things: written out, joined, repeated, made tuples -/
namespace DL
open PySem L2
section
variable {X : Cx} {Γ : Gm} {ρ : List Sl} {a b : Expr} {es : List Expr} {pos p : Pos} {κ : Kd} {xs ys : List D} {k : Int} {ss : List Sl} {G H : Hp}
theorem frzNew {P : Hp → Hp → Hp → V → Prop} {q : Addr} {o : HO} {v : V} {H0 G1 H1 : Hp} {Q : VK} (e1 : Ex G1 H1) (hq : H1 q = none) (s0 : Step G H0 G1 H1) (k : ∀ v G2 H2, Step G H0 G2 H2 → Ex G2 H2 → P H0 G2 H2 v → Q v H2) (h : P H0 (upd G1 q o) (upd H1 q o) v) : Q v (upd H1 q o) := by
  refine k v (upd G1 q o) _ (s0.trans ⟨Ex.new (e1.none hq), Ex.new hq, fun b u g1 g2 => ?_⟩) (fun b u hb => ?_) h
  · rw [upd_ne (fun z => by rw [z, hq] at g2; cases g2)]
    exact g1
  · by_cases z : b = q
    · rw [z] at hb ⊢; rw [upd_same] at hb ⊢; exact hb
    · rw [upd_ne z] at hb ⊢; exact e1 _ _ hb
theorem de_lstZ (ha : DA X Γ ρ es ss) (hs : ss.all slFz = true := by rfl) (hl : ss.length ≤ 1000 := by simp) : DE X Γ ρ (.List es pos) .z (.list (ss.map slD)) :=
  (pe_lst ha).weak fun σ H Q ⟨G, S, k⟩ => ⟨G, S, fun vs G1 H1 A s1 e1 r nd f => by
    have r' := slR_reps r hs
    refine ⟨by rw [slr_len r]; exact Nat.le_trans hl (by decide), fun q hq => ?_⟩
    exact frzNew (P := fun _ G2 _ v => Rep G2 v (.list (ss.map slD))) e1 hq s1 k (.lst upd_same (Reps.mono (Ex.new (e1.none hq)) r'))⟩
theorem de_catZ (ha : DE X Γ ρ a .z (.list xs)) (hb : DE X Γ ρ b .z (.list ys)) (hl : xs.length + ys.length ≤ 16000000) : DE X Γ ρ (.BinOp a .Add b pos) .z (.list (xs ++ ys)) :=
  bin_weak (ta := tC .non) (tb := tC .non) (pe_op op_cat ha hb) fun σ G H G1 H1 G2 H2 v u Q S s1 e1 p1 s2 e2 p2 k => by
    obtain ⟨q1, vs, rfl, h1, r1⟩ := Rep.l (Rep.mono s2.g p1)
    obtain ⟨q2, us, rfl, h2, r2⟩ := Rep.l p2
    have l1 := r1.len
    have l2 := r2.len
    refine ⟨q1, q2, vs, us, rfl, rfl, e2 _ _ h1, e2 _ _ h2, by rw [l1, l2]; exact Nat.le_trans hl (by decide), fun q hq => ?_⟩
    exact frzNew (P := fun _ G2 _ v => Rep G2 v (.list (xs ++ ys))) e2 hq (Step.refl _ _) (fun v G3 H3 s3 e3 h3 => k v G3 H3 s3 e3 h3) (.lst upd_same (Reps.mono (Ex.new (e2.none hq)) (r1.app r2)))
theorem Reps.rep {H : Hp} {vs : List V} {ds : List D} (r : Reps H vs ds) : ∀ n : Nat, Reps H (List.replicate n vs).flatten (List.replicate n ds).flatten
  | 0 => .nil
  | n + 1 => by
    rw [List.replicate_succ, List.replicate_succ, List.flatten_cons, List.flatten_cons]
    exact r.app (Reps.rep r n)
theorem de_repZ (ha : DE X Γ ρ a .z (.list xs)) (hb : DV X Γ ρ b (.int k)) (hl : xs.length * k.toNat ≤ 16000000) (hk : -(2 ^ 63) ≤ k ∧ k < 2 ^ 63) : DE X Γ ρ (.BinOp a .Mult b pos) .z (.list (List.replicate k.toNat xs).flatten) :=
  bin_weak (ta := tC .non) (tb := tC .non) (pe_op op_rep ha hb) fun σ G H G1 H1 G2 H2 v u Q S s1 e1 p1 s2 e2 p2 kk => by
    obtain ⟨q1, vs, rfl, h1, r1⟩ := Rep.l (Rep.mono s2.g p1)
    have l1 := r1.len
    refine ⟨q1, k, vs, rfl, p2, e2 _ _ h1, hk.1, hk.2, by rw [l1]; exact Nat.le_trans hl (by decide), fun q hq => ?_⟩
    exact frzNew (P := fun _ G2 _ v => Rep G2 v (.list (List.replicate k.toNat xs).flatten)) e2 hq (Step.refl _ _) (fun v G3 H3 s3 e3 h3 => kk v G3 H3 s3 e3 h3) (.lst upd_same (Reps.mono (Ex.new (e2.none hq)) (r1.rep _)))
theorem de_tupleZ (ha : DE X Γ ρ a .z (.list xs)) (hm : X.mg "tuple" = none) (hg : Gl X "tuple" := by rfl) (he : starEach [a] X.env = (false, eval a X.env) :: starEach [] X.env := by rfl) : DE X Γ ρ (.Call (.Name "tuple" p) [a] [] pos) .z (.tuple xs) :=
  (pe_tupleOf hg hm ha he).weak fun σ H Q ⟨G, S, k⟩ => ⟨G, S, fun v G1 H1 s1 e1 q => by
    obtain ⟨a, vs, rfl, h, r⟩ := Rep.l q
    refine .inl ⟨a, _, rfl, SqL.of (e1 _ _ h), fun q hq => ?_⟩
    exact frzNew (P := fun _ G2 _ v => Rep G2 v (.tuple xs)) e1 hq s1 k (.tup upd_same (Reps.mono (Ex.new (e1.none hq)) r))⟩
end
end DL

set_option Elab.async false
set_option linter.all false
set_option maxRecDepth 100000
set_option maxHeartbeats 2000000
/-! small things: items of lists of data, slices by natural numbers -/
namespace DL
open PySem L2
theorem atI_gD {ds : List D} {i : Int} (h : 0 ≤ i ∧ i < ds.length) : atI ds i = some (ds.getD i.toNat .none) := by
  obtain ⟨j, rfl⟩ : ∃ j : Nat, i = j := ⟨i.toNat, by omega⟩
  have hj : j < ds.length := by omega
  exact atI_nat (by simp [List.getD_eq_getElem?_getD, hj])
theorem kc_of {K : Fg} {S C : Addr} {b : Bool} (h2 : PySem.W.isClsIn K C = true) (h3 : PySem.W.typeIn K (.ref C) = some (.type "type")) (h4 : PySem.W.subIn K (.ref S) (.ref C) = some b) : PySem.W.kitCls K (.ref S) (.ref C) = some b := by
  have e2 : ((PySem.W.clsIn K C).isSome && PySem.W.typeIn K (.ref C) == some (.type "type")) = true := by
    have h2' : (PySem.W.clsIn K C).isSome = true := h2
    rw [h2', h3] <;> rfl
  show (if ((PySem.W.clsIn K C).isSome && PySem.W.typeIn K (.ref C) == some (.type "type")) = true then PySem.W.subIn K (.ref S) (.ref C) else none) = some b
  rw [if_pos e2]
  exact h4
theorem exm_of {K : Fg} {S C : Addr} {b : Bool} (h1 : PySem.W.subIn K (.ref C) (.type "BaseException") = some true) (h2 : PySem.W.isClsIn K C = true) (h3 : PySem.W.typeIn K (.ref C) = some (.type "type")) (h4 : PySem.W.subIn K (.ref S) (.ref C) = some b) : PySem.W.exmOne K (.ref S) (.ref C) = some b := by
  have e1 : (PySem.W.subIn K (.ref C) (.type "BaseException") == some true) = true := by rw [h1] <;> rfl
  unfold PySem.W.exmOne
  rw [if_pos e1]
  exact kc_of h2 h3 h4
theorem kit_self {K : Fg} {S : Addr} : PySem.W.kitOne K (.ref S) (.ref S) = some true := if_pos (by simp)
theorem kit_not {K : Fg} {S C : Addr} (h0 : PySem.W.subIn K (.ref S) (.ref S) = some true) (h2 : PySem.W.isClsIn K C = true) (h3 : PySem.W.typeIn K (.ref C) = some (.type "type")) (h4 : PySem.W.subIn K (.ref S) (.ref C) = some false) : PySem.W.kitOne K (.ref S) (.ref C) = some false := by
  unfold PySem.W.kitOne
  by_cases h : ((Value.ref S) == (Value.ref C)) = true
  · have e : Value.ref S = Value.ref C := eq_of_beq h
    rw [← e, h0] at h4
    cases h4
  · rw [if_neg h]
    exact kc_of h2 h3 h4
theorem kit_tyOf {K : Fg} {S : Addr} {n : String} (hn : PySem.W.kitMeta n = true) (h4 : PySem.W.subIn K (.ref S) (.type n) = some true) : PySem.W.kitOne K (.ref S) (.type n) = some true := by
  unfold PySem.W.kitOne
  rw [if_neg (by simp)]
  show (if PySem.W.kitMeta n = true then PySem.W.subIn K (.ref S) (.type n) else none) = some true
  rw [if_pos hn]
  exact h4
theorem er_fz (d : D) : (OT.fz d).er = d := by unfold OT.er; rfl
theorem sl_from {α : Type} (xs : List α) {i : Int} (h : 0 ≤ i) : pySl xs (some i) none = xs.drop i.toNat := by
  obtain ⟨k, rfl⟩ : ∃ j : Nat, i = j := ⟨i.toNat, by omega⟩
  unfold pySl
  have h1 : HT.sIx xs.length 0 (some (k : Int)) = min k xs.length := HT.sIx_nat _ _ k
  have h2 : HT.sIx xs.length xs.length none = xs.length := HT.sIx_none _ _
  rw [h1, h2, Int.toNat_natCast]
  by_cases q : k ≤ xs.length
  · rw [Nat.min_eq_left q, List.take_of_length_le (by simp)]
  · rw [Nat.min_eq_right (by omega), List.drop_eq_nil_of_le (by omega : xs.length ≤ k)]
    simp
theorem sl_to {α : Type} (xs : List α) {i : Int} (h : 0 ≤ i) : pySl xs none (some i) = xs.take i.toNat := by
  obtain ⟨k, rfl⟩ : ∃ j : Nat, i = j := ⟨i.toNat, by omega⟩
  unfold pySl
  have h1 : HT.sIx xs.length 0 none = 0 := HT.sIx_none _ _
  have h2 : HT.sIx xs.length xs.length (some (k : Int)) = min k xs.length := HT.sIx_nat _ _ k
  rw [h1, h2, Int.toNat_natCast, List.drop_zero, Nat.sub_zero]
  by_cases q : k ≤ xs.length
  · rw [Nat.min_eq_left q]
  · rw [Nat.min_eq_right (by omega), List.take_of_length_le (by omega), List.take_of_length_le (by omega)]
theorem sl_len {α : Type} (xs : List α) (lo hi : Option Int) : (pySl xs lo hi).length ≤ xs.length := by
  unfold pySl
  rw [List.length_take, List.length_drop]
  omega
theorem sl_cut {α : Type} (xs : List α) {i : Int} (h : 0 ≤ i ∧ i < xs.length) (x : α) : pySl xs none (some i) ++ [x] ++ pySl xs (some (i + 1)) none = pySet xs i x := by
  rw [sl_to _ h.1, sl_from _ (by omega)]
  obtain ⟨k, rfl⟩ : ∃ j : Nat, i = j := ⟨i.toNat, by omega⟩
  have hk : k < xs.length := by omega
  have e : ((k : Int) + 1).toNat = k + 1 := by omega
  unfold pySet pyIx
  rw [if_pos (by omega), e, Int.toNat_natCast, List.append_assoc]
  exact (List.set_eq_take_append_cons_drop.trans (if_pos hk)).symm
end DL

set_option Elab.async false
set_option linter.all false
set_option maxRecDepth 100000
set_option maxHeartbeats 2000000
/-! texts: split, slices, signs, int(text), walks -/
namespace DL
open PySem L2
/-- a text of one sign -/
def sg (c : Nat) : Str := ⟨#[c]⟩
def sgAt (u : Str) (i : Int) : Str := sg (pyAt u.cps.toList i)
section
variable {X : Cx} {Γ : Gm} {ρ : List Sl} {e a b o tg : Expr} {pos p apos p2 : Pos} {κ : Kd} {u w : Str} {i : Int} {lo hi : Option Expr} {l m : Option Int} {c : Nat}
theorem do_split (ho : DV X Γ ρ o (.str u)) (he : DV X Γ ρ e (.str w)) (hw : (w.length == 0) = false := by decide) (hu : u.length + 2 ≤ sizeLine) (hs : starEach [e] X.env = [(false, eval e X.env)] := by rfl) (hbase : attributeBase o "split" X.env (eval o X.env) = eval o X.env := by rfl) (hline : (apos.endLine == pos.line) = true := by rfl) :
    DO X Γ ρ (.Call (.Attribute o "split" apos) [e] [] pos) (tl (tF PyData.str) (Txt.split u w)) :=
  (pe_split ho he hs hbase hline).weak fun σ H Q ⟨G, S, k⟩ => ⟨G, S, fun v G1 H1 s1 e1 (q1 : v = .str u) => ⟨⟨u, q1⟩, G1, S.more s1 e1, fun y G2 H2 s2 e2 (q2 : y = .str w) => by
    refine ⟨u, w, q1, by rw [q2], hw, hu, fun q hq => ?_⟩
    exact newF (ds := (Txt.split u w).map .str) e2 hq H (s1.trans s2).h (reps_strs _) (by rw [tF_map]; exact fun z G3 H3 s3 e3 h3 => k z G3 H3 ((s1.trans s2).trans s3) e3 h3)⟩⟩
theorem dv_slT (ha : DV X Γ ρ a (.str u)) (hl : DOx X Γ ρ lo l) (hu : DOx X Γ ρ hi m) (hz : u.length ≤ sizeLine) : DV X Γ ρ (.Subscript a (.Slice lo hi none p2) pos) (.str (cutS u l m)) :=
  slW (pe_slice sl_str ha hl hu) fun σ G H G1 H1 G2 H2 v Q S s1 e1 (p1 : v = .str u) s2 e2 k => ⟨u, p1, hz, k _ G2 H2 (Step.refl _ _) e2 rfl⟩
theorem dv_ixT (ha : DV X Γ ρ a (.str u)) (hb : DV X Γ ρ b (.int i)) (h : inR u.length i) (hz : u.length ≤ sizeLine) (hs : PlainIx b := by intro _ _; rfl) : DV X Γ ρ (.Subscript a b pos) (.str (sgAt u i)) :=
  bin_weak (ta := tC .non) (tb := tC .non) (pe_ix ix_str ha hb hs) fun σ G H G1 H1 G2 H2 v y Q S s1 e1 (p1 : v = .str u) s2 e2 (p2 : y = .int i) k => by
    have := atI_pyAt (f := fun x : Nat => x) (xs := u.cps.toList) (i := i) (by rw [← TL.len_tl u]; exact h)
    rw [List.map_id'] at this
    exact ⟨u, i, _, p1, p2, hz, this, k _ G2 H2 (Step.refl _ _) e2 rfl⟩
theorem dv_intT {n : Int} (ha : DV X Γ ρ a (.str u)) (hn : PySem.intText? u = some n) (hz : u.length ≤ 640) (hm : X.mg "int" = none) (hg : Gl X "int" := by rfl) (he : starEach [a] X.env = (false, eval a X.env) :: starEach [] X.env := by rfl) (hpl : (backTo pos (starEach [] X.env)).any (·.1) = false := by rfl) : DV X Γ ρ (.Call (.Name "int" p) [a] [] pos) (.int n) :=
  cb1 (pe_callTy call_int_str hg hm PyProof.Rows.boot_int (pa_cons ha pa_nil he) (by decide) (by decide) he hpl) fun σ G H G1 H1 v Q S s1 e1 qv k => ⟨u, n, by rw [qv], hn, hz, k _ G1 H1 (Step.refl _ _) e1 rfl⟩
theorem dv_inT (ha : DV X Γ ρ a (.str (sg c))) (hb : DV X Γ ρ b (.str w)) (hm : behindInMarks .In b = false := by rfl) : DV X Γ ρ (.Compare a [.In] [b] pos) (.bl (decide (c ∈ w.cps.toList))) := dv_cmpR op_in_sign ha hb hm fun _ _ q => ⟨c, w, rfl, rfl, q⟩
theorem dv_notInT (ha : DV X Γ ρ a (.str (sg c))) (hb : DV X Γ ρ b (.str w)) (hm : behindInMarks .NotIn b = false := by rfl) : DV X Γ ρ (.Compare a [.NotIn] [b] pos) (.bl (!decide (c ∈ w.cps.toList))) := dv_cmpR op_notIn_sign ha hb hm fun _ _ q => ⟨c, w, rfl, rfl, q⟩
theorem dt_inT (ha : DV X Γ ρ a (.str (sg c))) (hb : DV X Γ ρ b (.str w)) (hm : behindInMarks .In b = false := by rfl) : DT X Γ ρ (.Compare a [.In] [b] pos) (decide (c ∈ w.cps.toList)) := dt_cmpR op_in_sign ha hb hm fun _ _ q => ⟨c, w, rfl, rfl, q⟩
theorem dt_notInT (ha : DV X Γ ρ a (.str (sg c))) (hb : DV X Γ ρ b (.str w)) (hm : behindInMarks .NotIn b = false := by rfl) : DT X Γ ρ (.Compare a [.NotIn] [b] pos) (!decide (c ∈ w.cps.toList)) := dt_cmpR op_notIn_sign ha hb hm fun _ _ q => ⟨c, w, rfl, rfl, q⟩
theorem di_str (ha : DV X Γ ρ e (.str u)) : DI X Γ ρ tg e u.cps.toList.length (fun i => .v (.str (sg (u.cps.toList.getD i default)))) :=
  (pi_str ha).weak fun σ H R ⟨G, S, k⟩ => ⟨G, S, fun v G1 H1 s1 e1 (q : v = .str u) => by
    have hs : u.cps.size = u.cps.toList.length := by simp
    refine ⟨u, q, k _ G1 H1 s1 e1 ⟨fun i G' H' g1 g2 _ hi => ?_, fun i G' H' x H'' g1 g2 _ hi hy => ?_, fun i G' H' g1 g2 _ hi => ?_⟩⟩
    · show i < u.cps.size
      omega
    · obtain ⟨rfl, c, hc, rfl⟩ := hy
      refine ⟨G', Step.refl _ _, g2, ?_⟩
      have : u.cps.toList.getD i default = c := by
        rw [List.getD_eq_getElem?_getD, Array.getElem?_toList, hc]
        rfl
      rw [this]
      exact .v
    · show u.cps.size ≤ i
      omega⟩
theorem ic_str (ha : DV X Γ ρ e (.str u)) : DIc X Γ ρ tg e u.cps.toList (fun c => .v (.str (sg c))) :=
  (pi_str ha).weak fun σ H R ⟨G, S, k⟩ => ⟨G, S, fun v G1 H1 s1 e1 (q : v = .str u) => by
    have hs : u.cps.size = u.cps.toList.length := by simp
    refine ⟨u, q, k _ G1 H1 s1 e1 ⟨fun i G' H' g1 g2 _ hi => ?_, fun i a' G' H' x H'' hx g1 g2 _ hy => ?_, fun i G' H' g1 g2 _ hi => ?_⟩⟩
    · show i < u.cps.size
      omega
    · obtain ⟨rfl, c, hc, rfl⟩ := hy
      refine ⟨G', Step.refl _ _, g2, ?_⟩
      rw [Array.getElem?_toList, hc] at hx
      obtain rfl := Option.some.inj hx
      exact .v
    · show u.cps.size ≤ i
      omega⟩
theorem di_zS {xs : List Str} (h : DE X Γ ρ e .z (dl PyData.str xs)) : DI X Γ ρ tg e xs.length (fun i => .v (.str (xs.getD i default))) := by
  have := di_list (tg := tg) (it := fun i => .v (.str (xs.getD i default))) h fun i d hd => by rw [map_at hd]; exact .v rfl
  rwa [List.length_map] at this
theorem dv_ixL {xs : List Str} (ha : DE X Γ ρ a κ (dl PyData.str xs)) (hb : DV X Γ ρ b (.int i)) (h : inR xs.length i) (hs : PlainIx b := by intro _ _; rfl) : DV X Γ ρ (.Subscript a b pos) (.str (pyAt xs i)) := (de_ix ha hb h hs).str
end
end DL

set_option Elab.async false
set_option linter.all false
set_option maxRecDepth 100000
set_option maxHeartbeats 2000000
/-! for v in n: a statement that looks at v; v.append(e) -/
namespace DL
open PySem L2
theorem SlR.swap {K : Fg} {I G H : Hp} : ∀ {σ σ2 : L2.St} {ρ : List Sl} {A : List Addr}, SlR K I G H σ ρ A → σ2.length = σ.length → (∀ q : Nat, ρ[q]? ≠ some Sl.un → σ2[q]? = σ[q]?) → SlR K I G H σ2 ρ A
  | [], [], _, _, .nil, _, _ => .nil
  | o :: σ, o2 :: σ2, _, _, .cons (s := s) (ρ := ρ) h r, hl, hq => by
    have r' := SlR.swap (σ2 := σ2) r (by simpa using hl) fun q hne => by
      have := hq (q + 1) (by simpa using hne)
      simpa using this
    refine .cons ?_ r'
    by_cases e : s = .un
    · subst e
      cases h
      exact .un
    · have := hq 0 (by simpa using e)
      have e2 : o2 = o := by simpa using this
      rw [e2]
      exact h
def exV (o : Option V) : Sl := match o with | some v => .v v | none => .un
theorem SlR.exact {K : Fg} {I G H : Hp} : ∀ σ : L2.St, SlR K I G H σ (σ.map exV) []
  | [] => .nil
  | none :: σ => .cons (A := []) (B := []) .un (SlR.exact σ)
  | some v :: σ => .cons (A := []) (B := []) .v (SlR.exact σ)
section
variable {X : Cx} {Γ : Gm} {ρ : List Sl} {e : Expr} {pos p p' apos cpos : Pos} {E : En} {rest : List Stmt} {n : Str} {i : Nat} {α : Type} {f : α → D} {g : α → OT}
theorem de_roV {d : D} {w : V} (i : Nat) {n : Str} (h : ρ[i]? = some (.v w)) (r : Rep Γ.H w d) (hN : X.N[i]? = some n := by rfl) (hv : Vis X.env.scope n := by first | exact Or.inl rfl | exact Or.inr (Or.inl rfl) | exact Or.inr (Or.inr rfl)) (hd : (n == ("__debug__" : Str)) = false := by decide) (hcd : (n == ("__classdict__" : Str)) = false := by decide) : DE X Γ ρ (.Name n pos) .r d :=
  tX_imp (dv_var i h hN hv hd hcd) fun _ _ _ _ _ v _ _ _ (q : v = w) => by
    show Rep Γ.H v d
    rw [q]
    exact r
/-- a loop that says what it leaves, as one statement -/
theorem s1_for1 {m : Nat} {it : Nat → Sl} {tge : Expr} {body : List Stmt} (xo : XO X) (hp : PassesOwn (model X.prog X.w) X.A X.env X.xe) (j : Nat) (hi : DI X Γ ρ (.Name n p) tge m it) (u : Nat → List Sl → List Sl) (w0 : Wk ρ (u 0 ρ))
    (hs : ∀ i, i < m → SS X Γ ((u i ρ).set j (it i)) body { E with nx := fun ρ2 => Wk ρ2 (u (i + 1) ρ), ct := fun ρ2 => Wk ρ2 (u (i + 1) ρ), bk := fun _ => False })
    (hj : X.N[j]? = some n := by rfl) (hx : Loc X.env.scope n := by first | exact .inl rfl | exact .inr rfl) (hf : X.fn n = true ∨ X.env.scope.names.lookup n = some .local := by first | exact .inl rfl | exact .inr rfl)
    (hs2 : ∀ x, foldedSetIterable tge X.env x = pure x := by intro _; rfl) : S1 X Γ ρ (.For (.Name n p) tge body [] pos) { E with nx := fun ρ2 => Wk ρ2 (u m ρ) } := by
  have hbody : PSs X body (fun D σ H => ∃ i, i < m ∧ tS Γ ((u i ρ).set j (it i)) { E with nx := fun ρ2 => Wk ρ2 (u (i + 1) ρ), ct := fun ρ2 => Wk ρ2 (u (i + 1) ρ), bk := fun _ => False } D σ H) :=
    ⟨fun pins s σ H D I ⟨i, h1, q⟩ => (hs i h1).run pins s σ H D I q⟩
  refine (ps_for hp xo.calm hi (pg_name xo.nd hj hx hf) hbody hs2).weak fun D σ H ⟨G, S, k⟩ => ⟨G, S, fun J G1 H1 s1 e1 W => ?_⟩
  refine ⟨fun i μ σ H => μ = m - i ∧ i ≤ m ∧ ∃ G, Sr Γ G H σ (u i ρ) ∧ Ex G1 G, ⟨m, rfl, Nat.zero_le _, G1, (S.more s1 e1).wk w0, Ex.refl _⟩, ?_⟩
  rintro i μ σ' H' ⟨rfl, him, G', S', eg⟩
  by_cases hlt : i < m
  · refine .inr ⟨W.go i G' H' eg S'.sub S'.step.h hlt, fun σ2 H2 => ∃ G2, Sr Γ G2 H2 σ2 (u (i + 1) ρ) ∧ Ex G1 G2, fun σ2 H2 ⟨G2, S2, e2⟩ => ⟨m - (i + 1), by omega, rfl, hlt, G2, S2, e2⟩, fun x H'' hy => ?_⟩
    obtain ⟨G3, s3, e3, sl⟩ := W.yld i G' H' x H'' eg S'.sub S'.step.h hlt hy
    refine ⟨i, hlt, G3, (S'.more s3 e3).store (Step.refl _ _) (S'.more s3 e3).sub sl List.nodup_nil (fun _ z => by cases z), ⟨fun ρ2 σ2 G2 H2 h S2 x => ⟨G2, S2.wk h, (eg.trans s3.g).trans x⟩, fun _ _ _ _ h _ _ => h.elim, fun ρ2 σ2 G2 H2 h S2 x => ⟨G2, S2.wk h, (eg.trans s3.g).trans x⟩, k.rt⟩⟩
  · have e : i = m := by omega
    subst e
    exact .inl ⟨W.stop i G' H' eg S'.sub S'.step.h (Nat.le_refl _), k.nx _ σ' G' H' (Wk.refl _) S' (s1.g.trans eg)⟩
theorem ss_forPre (i j j2 : Nat) {m : Str} {pn pv : Pos} {pre : Stmt} {xss : List (List α)} {x : α} (eR : ∀ r : List α, (tl g r).er = dl f r) (xo : XO X) (hpo : PassesOwn (model X.prog X.w) X.A X.env X.xe) (h : ρ[i]? = some (.ow (tl (tl g) xss))) (hij : i ≠ j) (hj : j < ρ.length) (hj2 : j2 ≠ i ∧ j2 ≠ j ∧ j2 < ρ.length) (he : ∀ ρ', DO X Γ ρ' e (g x)) (hl : ∀ r ∈ xss, r.length < 16000000)
    (hpre : ∀ r ∈ xss, ∀ (Γ' : Gm) (ρ' : List Sl) (w : V), Γ'.K = Γ.K → ρ'.length = ρ.length → ρ'[j]? = some (.v w) → Rep Γ'.H w (dl f r) → S1 X Γ' ρ' pre { nx := fun ρ2 => Wk ρ2 (ρ'.set j2 .un), rt := fun _ _ => False })
    (hr : SS X Γ (((ρ.set j .un).set j2 .un).set i (.ow (tl (tl g) (xss.map (· ++ [x]))))) rest E)
    (hN : X.N[j]? = some n := by rfl) (hM : X.N[i]? = some m := by rfl) (hv : Vis X.env.scope n := by first | exact Or.inl rfl | exact Or.inr (Or.inl rfl) | exact Or.inr (Or.inr rfl)) (hd : (n == ("__debug__" : Str)) = false := by decide) (hcd : (n == ("__classdict__" : Str)) = false := by decide)
    (hv2 : Vis X.env.scope m := by first | exact Or.inl rfl | exact Or.inr (Or.inl rfl) | exact Or.inr (Or.inr rfl)) (hd2 : (m == ("__debug__" : Str)) = false := by decide) (hcd2 : (m == ("__classdict__" : Str)) = false := by decide)
    (hx : Loc X.env.scope n := by first | exact .inl rfl | exact .inr rfl) (hf : X.fn n = true ∨ X.env.scope.names.lookup n = some .local := by first | exact .inl rfl | exact .inr rfl)
    (hs2 : ∀ x, foldedSetIterable (.Name m pn) X.env x = pure x := by intro _; rfl)
    (hbase : attributeBase (.Name n p) "append" X.env (eval (.Name n p) X.env) = eval (.Name n p) X.env := by rfl)
    (hfew : ((backTo cpos (starEach [e] X.env)).all (fun x => !x.1) && (backToKw cpos (keywordEach [] X.env)).all (fun x => x.1.isSome) && decide (([e] : List Expr).length + ([] : List Keyword).length + (if ([] : List Keyword).isEmpty then 0 else 1) < 30)) = true := by rfl)
    (hline : (apos.endLine == cpos.line) = true := by rfl) (hs : starEach [e] X.env = (false, eval e X.env) :: starEach [] X.env := by rfl) (hplain : (backTo cpos (starEach [] X.env)).any (·.1) = false := by rfl)
    (hsw : swapsWith (.Call (.Attribute (.Name n p) "append" apos) [e] [] cpos) none pos.line X.env = pure false := by rfl) :
    SS X Γ ρ (.For (.Name n pv) (.Name m pn) [pre, .Expr (.Call (.Attribute (.Name n p) "append" apos) [e] [] cpos) pos] [] p' :: rest) E := by
  let up : Nat → List (List α) := fun k => (xss.take k).map (· ++ [x]) ++ xss.drop k
  let R : Nat → List Sl := fun k => ((ρ.set j .un).set j2 .un).set i (.ow (tl (tl g) (up k)))
  have upl : ∀ k, (up k).length = xss.length := fun k => by simp [up]; omega
  have hil : i < ρ.length := by
    obtain ⟨q, _⟩ := List.getElem?_eq_some_iff.mp h
    exact q
  have Rl : ∀ k, (R k).length = ρ.length := fun k => by simp [R]
  have ri : ∀ k, (R k)[i]? = some (.ow (tl (tl g) (up k))) := fun k => by simp [R, hil]
  have rj2 : ∀ k, (R k)[j2]? = some .un := fun k => by
    simp only [R]
    rw [List.getElem?_set_ne (Ne.symm hj2.1), List.getElem?_set_self (by simpa using hj2.2.2)]
  have upk : ∀ k (hk : k < xss.length), (up k).getD k [] = xss[k] := fun k hk => by
    simp [up, List.getD_eq_getElem?_getD, List.getElem?_append, Nat.min_eq_left (Nat.le_of_lt hk), hk]
  have ups : ∀ k (hk : k < xss.length), (up k).set k (xss[k] ++ [x]) = up (k + 1) := fun k hk => by
    have hlen : ((xss.take k).map (· ++ [x])).length = k := by simp; omega
    simp only [up]
    rw [List.set_append_right _ _ (by omega), hlen, Nat.sub_self, List.drop_eq_getElem_cons hk, List.set_cons_zero, List.take_add_one, List.getElem?_eq_getElem hk, List.map_append, List.append_assoc]
    rfl
  have hbody : PSs X [pre, .Expr (.Call (.Attribute (.Name n p) "append" apos) [e] [] cpos) pos] (fun D σ H => ∃ k, k < xss.length ∧ ∃ G, Sr Γ G H σ (R k) ∧ Al H σ j i [k] ∧ ∀ σ2 G2 H2, σ2[i]? = σ[i]? → Sr Γ G2 H2 σ2 (R (k + 1)) → Ex G G2 → D.nx σ2 H2) := by
    refine ⟨fun pins s σ H D I ⟨k, hk, G, S, al, ok⟩ => ?_⟩
    have hku : k < (up k).length := by rw [upl]; exact hk
    have Pk := ps_appA (X := X) (Γ := Γ) (ρ := R k) (p := p) (apos := apos) (cpos := cpos) (pos := pos) (n := n) (j := j) (he (R k)) (ri k) (at_one hku) (by rw [List.length_map, upk k hk]; exact Nat.lt_of_lt_of_le (hl _ (List.getElem_mem hk)) (by decide)) hN hv hd hcd hbase hfew hline hs hplain hsw
    have e1 : (R k).set i (.ow (OT.put [k] (tl (tl g) (up k)) (.cell (((up k).getD k []).map g ++ [g x])))) = R (k + 1) := by
      have e2 : ((up k).getD k []).map g ++ [g x] = ((up k).getD k [] ++ [x]).map g := by rw [List.map_append]; rfl
      rw [e2, put_one hku, upk k hk, ups k hk]
      simp [R]
    rw [e1] at Pk
    obtain ⟨v0, w, h0, hw0, hpv⟩ := al
    obtain ⟨A, SA⟩ := S.ad
    -- what the alias is
    have rw_ : Rep H w (dl f xss[k]) := by
      obtain ⟨a, rfl⟩ := S.ref (ri k) (at_one hku) h0 hpv
      obtain ⟨vs1, B1, q1, _, _, q4, _⟩ := SA.mut (ri k) (at_one hku) h0 hpv
      rw [upk k hk] at q4
      have := Rep.lst q1 (q4.reps S.sub)
      have e3 : PyData.list (OT.ers (xss[k].map g)) = dl f xss[k] := by
        have := eR xss[k]
        unfold tl OT.er at this
        exact this
      rw [e3] at this
      exact this
    have hσl : σ.length = ρ.length := by rw [S.len, Rl]
    have hjx : (σ.map exV)[j]? = some (.v w) := by rw [List.getElem?_map, hw0]; rfl
    have P1 := hpre xss[k] (List.getElem_mem hk) ⟨Γ.K, G, H⟩ (σ.map exV) w rfl (by rw [List.length_map, hσl]) hjx rw_
    have S' : Sr ⟨Γ.K, G, H⟩ G H σ (σ.map exV) := ⟨Step.refl _ _, S.sub, [], SlR.exact σ, List.nodup_nil, fun _ z => by cases z⟩
    have P1' : PS X pre (fun D' σ' H' => ∃ G0, Sr ⟨Γ.K, G, H⟩ G0 H' σ' (σ.map exV) ∧ ∀ ρ2 σ2 G2 H2, Wk ρ2 ((σ.map exV).set j2 .un) → Sr ⟨Γ.K, G, H⟩ G2 H2 σ2 ρ2 → Ex G0 G2 → D'.nx σ2 H2) :=
      P1.weak fun D' σ' H' ⟨G0, S0, q⟩ => ⟨G0, S0, ⟨fun ρ2 σ2 G2 H2 hw S2 ex => q ρ2 σ2 G2 H2 hw S2 ex, fun _ _ _ _ z => z.elim, fun _ _ _ _ z => z.elim, fun _ _ _ _ _ _ _ z => z.elim⟩⟩
    refine (pss_cons P1' (pss_cons Pk (pss_nil (X := X)))).run pins s σ H D I ⟨G, S', fun ρ2 σ2 G2 H2 hw S2 ex => ?_⟩
    have S3 := S2.wk hw
    have same : ∀ q : Nat, (R k)[q]? ≠ some Sl.un → σ2[q]? = σ[q]? := fun q hq => by
      by_cases hql : q < σ.length
      · have hq2 : q ≠ j2 := fun z => hq (by rw [z]; exact rj2 k)
        obtain ⟨o, ho⟩ : ∃ o, σ[q]? = some o := ⟨σ[q], by simp [hql]⟩
        cases o with
        | none =>
          have hql2 : q < (R k).length := by rw [Rl]; omega
          obtain ⟨sl, hsl⟩ := SA.sl.nth hql2
          obtain ⟨o', B', h1', h2', _⟩ := SA.sl.get hsl
          rw [ho] at h1'
          cases h1'
          cases h2'
          exact absurd hsl hq
        | some v =>
          have e4 : ((σ.map exV).set j2 .un)[q]? = some (.v v) := by rw [List.getElem?_set_ne (Ne.symm hq2), List.getElem?_map, ho]; rfl
          obtain ⟨o', B', h1', h2'⟩ := S3.slot e4
          cases h2'
          rw [h1', ho]
      · have l2 : σ2.length = σ.length := by rw [S3.len]; simp
        rw [List.getElem?_eq_none (by omega), List.getElem?_eq_none (by omega)]
    have l2 : σ2.length = σ.length := by rw [S3.len]; simp
    have st : Step G H G2 H2 := S3.step
    have S4 : Sr Γ G2 H2 σ2 (R k) := ⟨S.step.trans st, S3.sub, A, (SA.sl.more st).swap l2 same, SA.nd, SA.fr⟩
    have hi2 : σ2[i]? = σ[i]? := same i (by rw [ri]; intro z; cases z)
    refine ⟨G2, S4, ⟨v0, w, by rw [hi2]; exact h0, ?_, hpv.mono st.h⟩, fun G3 H3 S5 e5 => ok σ2 G3 H3 hi2 S5 (st.g.trans e5)⟩
    have e4 : ((σ.map exV).set j2 .un)[j]? = some (.v w) := by rw [List.getElem?_set_ne hj2.2.1]; exact hjx
    obtain ⟨o', B', h1', h2'⟩ := S3.slot e4
    cases h2'
    exact h1'
  refine ss_cons (M := fun ρ' => ρ' = R xss.length) ((ps_for hpo xo.calm (pi_list (pe_var hM hv2 hd2 hcd2)) (pg_name xo.nd hN hx hf) hbody hs2).weak fun D σ H ⟨G, S, k⟩ => ?_) fun ρ' e => by
    have e3 : up xss.length = xss.map (· ++ [x]) := by simp only [up, List.take_length, List.drop_length, List.append_nil]
    rw [e]
    simp only [R]
    rw [e3]
    exact hr
  obtain ⟨ob, B, h1, h2⟩ := S.slot h
  cases h2 with
  | @ow v0 _ _ q =>
    obtain ⟨a, rfl⟩ : ∃ a, v0 = .ref a := by
      unfold tl at q
      cases q with
      | cell hg hh r => exact ⟨_, rfl⟩
    have look : ∀ {k : Nat} {G' H' : Hp} {σ' : L2.St}, Sr Γ G' H' σ' (R k) → σ'[i]? = some (some (.ref a)) → ∃ vs, H' a = some (.lst vs) ∧ vs.length = xss.length := fun {k G' H' σ'} S' hσ => by
      obtain ⟨ob', B', h1', h2'⟩ := S'.slot (ri k)
      rw [hσ] at h1'
      cases h1'
      cases h2' with
      | ow q' =>
        unfold tl at q'
        cases q' with
        | cell hg hh r =>
          have := r.len
          rw [List.length_map, upl] at this
          exact ⟨_, hh, this⟩
    have wset : ∀ (ρ : List Sl) (j : Nat), Wk ρ (ρ.set j .un) := fun ρ => by
      induction ρ with
      | nil => intro j; exact .nil
      | cons s ρ ih =>
        intro j
        cases j with
        | zero => exact .un (Wk.refl _)
        | succ j => exact .same (ih j)
    have S0 : Sr Γ G H σ (R 0) := by
      have e0 : R 0 = (ρ.set j .un).set j2 .un := by
        have eu : up 0 = xss := by simp [up]
        simp only [R]
        rw [eu]
        refine List.ext_getElem? fun q => ?_
        by_cases hq : i = q
        · subst hq
          rw [List.getElem?_set_self (by simpa using hil), List.getElem?_set_ne hj2.1, List.getElem?_set_ne (Ne.symm hij), h]
        · rw [List.getElem?_set_ne hq]
      rw [e0]
      exact (S.wk (wset ρ j)).wk (wset _ j2)
    obtain ⟨vs0, hv0, ln0⟩ := look S0 h1
    refine ⟨_, h1, a, rfl, ⟨vs0, SqL.of hv0⟩, fun k μ σ H => μ = xss.length - k ∧ k ≤ xss.length ∧ σ[i]? = some (some (.ref a)) ∧ ∃ G1, Sr Γ G1 H σ (R k) ∧ Ex G G1, ⟨_, rfl, Nat.zero_le _, h1, G, S0, Ex.refl _⟩, ?_⟩
    rintro k' μ σ' H' ⟨rfl, him, hσ, G', S', eg⟩
    obtain ⟨vs, hvs, ln⟩ := look S' hσ
    by_cases hlt : k' < xss.length
    · refine .inr ⟨⟨vs, vs[k'], SqL.of hvs, List.getElem?_eq_getElem (by omega)⟩, fun σ2 H2 => σ2[i]? = some (some (.ref a)) ∧ ∃ G2, Sr Γ G2 H2 σ2 (R (k' + 1)) ∧ Ex G G2, fun σ2 H2 ⟨h3, G2, S2, e2⟩ => ⟨xss.length - (k' + 1), by omega, rfl, hlt, h3, G2, S2, e2⟩, fun x' H'' hy => ?_⟩
      obtain ⟨rfl, hx'⟩ := hy
      have hx2 := hx' vs (SqL.of hvs)
      have hji : j ≠ i := fun z => hij z.symm
      have eR : (R k').set j .un = R k' := by
        simp only [R]
        rw [List.set_comm _ _ hij, List.set_comm _ _ hj2.2.1, List.set_set]
      have S3 : Sr Γ G' H'' (σ'.set j (some x')) (R k') := eR ▸ S'.store (s := .un) (Step.refl _ _) S'.sub .un List.nodup_nil fun _ z => by cases z
      have hσ2 : (σ'.set j (some x'))[i]? = some (some (.ref a)) := by rw [List.getElem?_set_ne hji]; exact hσ
      refine ⟨k', hlt, G', S3, ⟨.ref a, x', hσ2, ?_, ⟨a, vs, x', rfl, hvs, hx2, rfl⟩⟩, fun σ2 G2 H2 hi2 S2 e2 => ⟨hi2.trans hσ2, G2, S2, eg.trans e2⟩⟩
      have hjl : j < σ'.length := by
        obtain ⟨A, r, _⟩ := S'.sl
        have := r.len
        rw [this]
        simpa [R] using hj
      rw [List.getElem?_set_self hjl]
    · have e : k' = xss.length := by omega
      subst e
      exact .inl ⟨⟨vs, SqL.of hvs, by omega⟩, k.nx _ _ _ _ rfl S' eg⟩
end
end DL
namespace DL
open PySem L2
theorem wk_setU : ∀ (ρ : List Sl) (j : Nat), Wk ρ (ρ.set j .un)
  | [], _ => .nil
  | _ :: ρ, 0 => .un (Wk.refl _)
  | _ :: ρ, j + 1 => .same (wk_setU ρ j)
theorem set_at {ρ ρ' : List Sl} {j : Nat} {s : Sl} (h : ρ'.length = ρ.length) (hj : j < ρ.length) : (ρ'.set j s)[j]? = some s := List.getElem?_set_self (by omega)
theorem inR_len {u : Str} {k : Nat} {i : Int} (h : u.length = k) (hi : 0 ≤ i ∧ i < k) : inR u.length i := by
  rw [h]
  exact ⟨by omega, hi.2⟩
section
variable {X : Cx} {Γ : Gm} {ρ : List Sl} {pos : Pos}
theorem de_dct : DE X Γ ρ (.Dict [] [] pos) .z (.dict []) :=
  pe_dnewK.weak fun σ H Q ⟨G, S, k⟩ => fun q hq => frzNew (P := fun _ G2 _ v => Rep G2 v (.dict [])) S.sub hq (Step.refl _ _) (fun v G2 H2 s e h => k v G2 H2 s e h) (.dct upd_same)
end
end DL
namespace DL
open PySem L2
/-- None or a list of lists of ints -/
def dOLL : Option (List (List Int)) → D
  | none => .none
  | some l => dLL l
def tOLL : Option (List (List Int)) → OT
  | none => .fz .none
  | some l => tLL l
instance : Er tOLL dOLL := ⟨fun x => by
  cases x with
  | none => unfold tOLL OT.er; rfl
  | some l => exact Er.er (g := tLL) (f := dLL) l⟩
end DL
namespace DL
open PySem L2
section
variable {X : Cx} {Γ : Gm} {ρ : List Sl} {a b : Expr} {pos : Pos} {κ κ' : Kd} {xs ys : List Str}
theorem lay_strs {xs : List Str} (h : ∀ x ∈ xs, PyData.strOk x = true) : PyData.canLay0 (dl PyData.str xs) = true := by
  unfold dl
  simp only [PyData.canLay0]
  induction xs with
  | nil => simp [PyData.canLayAll0]
  | cons x xs ih => simp [PyData.canLayAll0, PyData.canLay0, h x (by simp), ih fun y hy => h y (by simp [hy])]
theorem dep_strs (xs : List Str) : (dl PyData.str xs).depth ≤ 1 := by
  have := depAll (f := PyData.str) (n := 0) (fun x => by simp [PyData.depth]) xs
  unfold dl
  simp only [PyData.depth]
  omega
theorem eqv_strs (xs ys : List Str) : PyData.eqv (dl PyData.str xs) (dl PyData.str ys) = true ↔ xs = ys := by
  unfold dl
  simp only [PyData.eqv]
  exact eqvAll_iff (fun x y => by simp [PyData.eqv]) xs ys
theorem shp_strs {xs : List Str} (h : ∀ x ∈ xs, PyData.strOk x = true) : SeqAt.shaped (dl PyData.str xs) = true := by
  have := dep_strs xs
  simp only [SeqAt.shaped, lay_strs h, Bool.true_and, decide_eq_true_eq]
  omega
theorem dt_neL (hu : X.A.units + 64 < cLine) (ha : DE X Γ ρ a κ (dl PyData.str xs)) (hb : DE X Γ ρ b κ' (dl PyData.str ys)) (hx : ∀ x ∈ xs, PyData.strOk x = true) (hy : ∀ x ∈ ys, PyData.strOk x = true) : DT X Γ ρ (.Compare a [.NotEq] [b] pos) (!decide (xs = ys)) :=
  binT_weak (pt_cmpR (op_neD hu) ha hb (nomark _)) fun σ G H G1 H1 G2 H2 v u Q S s1 e1 p1 s2 e2 p2 k => by
    have q1 := Rep.mono s2.h (pK_c S s1 e1 p1)
    have q2 := pK_c (S.more s1 e1) s2 e2 p2
    refine ⟨_, _, rep_dp q1 (lay_strs hx), rep_dp q2 (lay_strs hy), shp_strs hx, shp_strs hy, k _ G2 H2 (Step.refl _ _) e2 ?_⟩
    congr 2
    rw [Bool.eq_iff_iff]
    simp [eqv_strs]
end
end DL

set_option Elab.async false
set_option linter.all false
set_option maxRecDepth 100000
set_option maxHeartbeats 2000000
/-! a def of one's own called within an except suite, with the exception: it looks at its class alone -/
namespace DL
open PySem L2 L2H
theorem call_isEP {X : Cx} {a D : Addr} {oe : Obj} (hp : (a, oe) ∈ X.pn) (C : ExcC X.K D) (hz : Zc (.ref D) none oe) (hf : ∃ vs, oe.data = .fields vs) : CallR X (.builtin "isinstance")
    (fun xs H Q => ∃ (tp : Addr) (cs : List V) (us : List Value) (b : Bool), xs = [.ref a, .ref tp] ∧ H tp = some (.tup cs) ∧ Paired ClsV cs us ∧ PySem.W.kitAny X.K (.ref D) us = some b ∧ Q (.bl b) H) := by
  intro pins s σ H xs us Q I r h
  obtain ⟨tp, cs, ws, b, rfl, hT, k, e, q⟩ := h
  cases r with
  | cons rx rr =>
    cases rr with
    | cons rt rr =>
      cases rr
      cases rx
      cases rt
      obtain ⟨hget, _⟩ := I.pin (a, oe) (List.mem_append.mpr (.inl hp))
      obtain ⟨vs, hv⟩ := hf
      have J : PySem.W.InstAt s.heap a oe D none := by
        obtain ⟨oc, od, oda, osl⟩ := oe
        obtain ⟨h1, h2⟩ := hz; dsimp only at h1 h2 hv; subst h1 h2 hv
        exact ⟨hget, rfl, rfl, trivial⟩
      obtain ⟨_, its, rv, o, h1, h2, n, h3⟩ := (show ObjOk X.prog X.w H s.heap tp (.tup cs) from I.hok tp _ hT)
      have e3 := ClsV.all k rv; subst e3
      obtain ⟨oc, od, dt, sl⟩ := o
      simp only at h2 h3; subst h2 h3
      exact PySem.W.kia_tup (PySem.W.handS_kitx_exc C.hg C.hk C.hs C.hd C.ha C.hn C.ht C.hm) I.kIn J h1 e (fun z => nomatch z) fun tk => ⟨.bl b, H, I.kept (t' := tk) fun _ _ z => z, rfl, q⟩
section
variable {X : Cx} {Γ : Gm} {ρ : List Sl} {pos p tpos : Pos} {a : Addr} {oe : Obj} {D : Addr} {b : Bool} {ea : Expr} {es : List Expr} {kk : Nat} {cs : List V} {us : List Value}
theorem dv_isEP (hp0 : (a, oe) ∈ X.pn) (C : ExcC X.K D) (hz : Zc (.ref D) none oe) (hf : ∃ vs, oe.data = .fields vs) (ha : DV X Γ ρ ea (.ref a)) (hc : DA X Γ ρ es (cs.map Sl.v)) (hp : Paired ClsV cs us) (hl : cs.length ≤ 1000) (hk : PySem.W.kitAny X.K (.ref D) us = some b) (hm : X.mg "isinstance" = none)
    (hg : Gl X "isinstance" := by rfl) (he : starEach [ea, .Tuple es kk tpos] X.env = (false, eval ea X.env) :: starEach [.Tuple es kk tpos] X.env := by rfl) (he2 : starEach [.Tuple es kk tpos] X.env = (false, eval (.Tuple es kk tpos) X.env) :: starEach [] X.env := by rfl) (hpl : (backTo pos (starEach [.Tuple es kk tpos] X.env)).any (·.1) = false := by rfl) :
    DV X Γ ρ (.Call (.Name "isinstance" p) [ea, .Tuple es kk tpos] [] pos) (.bl b) := by
  let pT : Hp → Hp → Hp → V → Prop := fun _ _ H2 v => ∃ t, v = .ref t ∧ H2 t = some (.tup cs)
  have ht : PE X (.Tuple es kk tpos) (tX Γ ρ pT) := (pe_tup hc).weak fun σ H Q ⟨G, S, k⟩ => ⟨G, S, fun vs G1 H1 A s1 e1 r nd f => by
    have ev := slR_vs r
    subst ev
    exact ⟨Nat.le_trans hl (by decide), fun q hq => k (.ref q) G1 _ (s1.trans (Step.laid hq)) (e1.trans (Ex.new hq)) ⟨q, rfl, upd_same⟩⟩⟩
  exact cb2 (pe_callB (call_isEP hp0 C hz hf) hg hm PyProof.Rows.boot_isinstance (pa_cons ha (pa_cons ht pa_nil he2) he) (by decide) (by decide) he hpl) fun σ G H G1 H1 G2 H2 v u Q S s1 e1 q1 s2 e2 q2 k => by
    obtain ⟨t, rfl, ht⟩ := q2
    exact ⟨t, cs, us, b, by rw [q1], ht, hp, hk, k _ G2 H2 (Step.refl _ _) e2 rfl⟩
end
/-- what such a def promises of the exception at p -/
structure FnE (P : Program) (w : World) (K : PySem.W.Frag) (mg : Str → Option Value) (base : Heap) (k : Nat) (f : Addr) (fd : FuncData) (ps : List Str) (p : Addr × Obj) (sp : Sp) : Prop where
  len : ∀ vs H Q E, sp vs H Q E → vs.length = ps.length
  run : ∀ (A : Around) (outer : List Env) (s : Shared) (H : Hp) (args : Args) (us : List Value) (vs : List V) (Q : VK) (E : XK), RoomH k A → PinOk outer H s p → Env0 P w K mg base A outer s H → BindsTo s fd args (ps.zip us) → Vals vs us → sp vs H Q E →
    codeAny (model P w) A (.call (.ref f) args) (CR (L2.CX P w) outer P w H s Q E) s
/-- the answer of a def that is given the exception alone -/
def spE (a : Addr) (x : V) : Sp := fun vs H Q _ => vs = [.ref a] ∧ ∀ H2, Ex H H2 → Q x H2
theorem ok_defE {x qual : Str} {st : Stmt} {f : Addr} {fd : FuncData} {n : Str} {k : Nat} {P : Program} {w : World} {K : Fg} {mg : Str → Option Value} {base : Heap} {a : Addr} {oe : Obj} {v : V} {u : V} (hv : dV (vD v) = some v) (F : L2.Fun K x qual st f fd) (S : FnScope [n] [n] (defScope st))
    (hbody : ∀ (cdv : Value) (A : Around) (outer : List Env) (s : Shared) (H : Hp) (E : XK), SS (cxH (L2.CX P w) P w K mg base [n] qual (defScope st) f cdv A outer s H E (a, oe)) ⟨K, H, H⟩ [.v (.ref a)] (defBody st) { nx := fun _ => False, rt := fun t _ => t = .fz (vD v) }) :
    FnE P w K mg base (k + 1) f fd [n] (a, oe) (spE a v) := by
  obtain ⟨oc, od, kV, doc, pm, an, cdv, ct, osl, rfl, lk, hcd⟩ := F.ex
  refine ⟨fun vs H Q E h => by rw [h.1]; rfl, fun A outer s H args us vs Q E hr hpin e0 hb r hsp => ?_⟩
  obtain ⟨hvs, kk⟩ := hsp
  subst hvs
  have KX : K.In s.heap := e0.mod.kin.keeps fun b o e => (e0.bs b o e).1
  have lim : s.heap.NoLimit := e0.mod.nolimit.keeps fun b o e => (e0.bs b o e).1
  have hkind : ∀ y ∈ [n].zip us, (defScope st).names.lookup y.1 = some .local ∨ ((defScope st).names.lookup y.1 = some .cell ∧ ((cellsFrom (s.heap.objs.size + 1) (defScope st).names []).lookup y.1).isSome = true) := fun ⟨n, v⟩ hy => by
    rcases S.par n (List.of_mem_zip hy).1 with q | q
    · exact .inl q
    · exact .inr ⟨q, PySem.W.cellsFrom_some _ _ _ (.inl q)⟩
  refine codeAny_call_function hr.depth (KX _ _ lk) rfl S.co S.gen rfl (PySem.W.codeRec_of KX hcd) (hb _ _ _ _ ?_)
  refine wpAny_newFunctionEnv_cells S.kind hkind fun env he s1 x => ?_
  subst he
  refine ⟨lim.keeps x.toInCall.keep, codeAny_func ?_⟩
  have I : Inv (cxH (L2.CX P w) P w K mg base [n] qual (defScope st) f cdv A outer s H E (a, oe)) [] (L2.start [n] [.ref a]) H s1 := inv_startH S hpin e0 rfl r x
  have S0 : Sr ⟨K, H, H⟩ H H (L2.start [n] [.ref a]) [.v (.ref a)] := ⟨Step.refl _ _, Ex.refl _, [], .cons (A := []) (B := []) .v .nil, List.nodup_nil, fun _ z => by cases z⟩
  refine wpAny_mono ((hbody cdv A outer s H E).run [] s1 (L2.start [n] [.ref a]) H { nx := fun _ H' => Q .non H', rt := Q } I ⟨H, S0, ⟨fun _ _ _ _ z => z.elim, fun _ _ _ _ z => z.elim, fun _ _ _ _ z => z.elim, fun t' _ _ v' G' H' A' e st' ex o nd f' _ => ?_⟩⟩) (fun fl s' hs => ?_) fun e s' hs => hs
  · subst e
    cases o with
    | fz q =>
      rw [rep_dV q hv]
      exact kk H' st'.h
  have fin : ∀ {σ' : L2.St} {H' : Hp} {v : V} {u : Value}, Inv (cxH (L2.CX P w) P w K mg base [n] qual (defScope st) f cdv A outer s H E (a, oe)) [] σ' H' s' → RelV v u → Q v H' → CE outer P w H s Q u s' :=
    fun {σ' H' v u} J rv q => ⟨v, H', J.os, J.bare, J.base, J.hok, rv, q⟩
  cases fl with
  | ret u =>
    obtain ⟨v, σ', H', J, rv, q⟩ := hs
    exact fin J rv q
  | next =>
    obtain ⟨σ', H', J, q⟩ := hs
    exact fin (v := V.non) (u := Value.none) J rfl q
  | brk =>
    obtain ⟨_, _, _, q⟩ := hs
    exact False.elim q
  | cont =>
    obtain ⟨_, _, _, q⟩ := hs
    exact False.elim q
section
variable {X : Cx} {Γ : Gm} {ρ : List Sl} {k : Nat} {f a : Addr} {oe : Obj} {fd : FuncData} {x n : Str} {v : V} {e : Expr} {q pos : Pos}
/-- the call -/
theorem dv_callE (F : FnE X.prog X.w X.K X.mg X.base k f fd [n] (a, oe) (spE a v)) (hp : (a, oe) ∈ X.pn) (hr : RoomH k X.A) (hm : X.mg x = some (.ref f)) (hk : PySem.W.keepIn X.K (.ref f) = true) (hb : Binds X.K fd [n] []) (he : DV X Γ ρ e (.ref a))
    (hg : Gl X x := by rfl) (hdb : (x == ("__debug__" : Str)) = false := by decide) (hs : starEach [e] X.env = (false, eval e X.env) :: starEach [] X.env := by rfl) (hpl : (backTo pos (starEach [] X.env)).any (·.1) = false := by rfl) : DV X Γ ρ (.Call (.Name x q) [e] [] pos) v := by
  refine ⟨fun pins s σ H Q I ⟨G, S, kk⟩ => ?_⟩
  refine wpAny_Call_Name_kw (ld_glob I hg hm ?_ hdb)
  refine PySem.W.callWith_K (h₀ := X.base) I.ok.mod.kin hk (thn ((pa_cons he pa_nil hs).run pos pins s σ H (fun vs H1 => vs = [.ref a] ∧ ∀ H3, Ex H1 H3 → Q v H3) I ⟨G, S, fun u G2 H2 s2 e2 (qu : u = .ref a) => ⟨by rw [qu], fun H3 e3 => kk v G2 H3 (s2.trans ⟨Ex.refl _, e3, fun _ _ g _ => g⟩) (e2.trans e3) rfl⟩⟩) fun us s1 ⟨vs, H1, I1, r, q1, q2⟩ => ⟨I1.kIn, ?_⟩) hs hpl
  have hl : us.length = [n].length := by rw [← r.length, q1]; rfl
  have b := hb s1 us I1.kIn (by rw [List.append_nil]; exact hl)
  rw [List.append_nil] at b
  have P1 := I1.pin (a, oe) (List.mem_append_left _ hp)
  have hpin : PinOk X.stack H1 s1 (a, oe) := ⟨P1.1, P1.2.1, fun hm => (List.mem_cons.mp (I1.stkSub a hm)).elim P1.2.2.1 P1.2.2.2.1, P1.2.2.2.2⟩
  refine wpAny_call (codeAny_mono (F.run X.A X.stack s1 H1 ⟨us, []⟩ us vs Q (fun _ _ _ => False) hr hpin I1.env0 b r ⟨q1, q2⟩) fun r s' hq => ?_)
  cases r with
  | error e' => exact passL (X := X) _ _ _ _ _ _ I1 hq
  | ok fl =>
    cases fl with
    | ret u => exact I1.after hq
    | next => exact False.elim hq
    | brk => exact False.elim hq
    | cont => exact False.elim hq
end
end DL

set_option Elab.async false
set_option linter.all false
set_option maxRecDepth 100000
set_option maxHeartbeats 2000000
/-! owned things handed over to a def that changes them -/
namespace DL
open PySem L2
section
variable {X : Cx} {Γ : Gm} {ρ ρ' : List Sl} {e a b c : Expr} {es : List Expr} {pos p p' q : Pos} {κ : Kd} {d : D} {x : V} {σ : L2.St} {G H G1 H1 G2 H2 : Hp} {E : En} {rest bd : List Stmt} {n y m : Str} {i j : Nat} {α : Type} {f : α → D} {g : α → OT}
theorem OwnTs.toF {B : List Addr} (e : Ex G (DL.frz G H B)) : ∀ {ts : List OT} {vs : List V} {A : List Addr}, (∀ b ∈ A, b ∈ B) → OwnTs G H ts vs A → OwnTs (DL.frz G H B) H ((OT.ers ts).map OT.fz) vs []
  | _, _, _, _, .nil => by unfold OT.ers; exact .nil
  | _, _, _, q, .cons h r => by
    unfold OT.ers
    exact .cons (A := []) (B := []) (.fz (OwnT.frz e (fun b hb => q b (List.mem_append_left _ hb)) h)) (OwnTs.toF e (fun b hb => q b (List.mem_append_right _ hb)) r)
/-- the items of an owned list are frozen, the list itself stays owned -/
theorem Sr.frzIn {ts : List OT} (S : Sr Γ G H σ ρ) (h : ρ[i]? = some (.ow (.cell ts))) : ∃ G2, Sr Γ G2 H σ (ρ.set i (.ow (.cell ((OT.ers ts).map OT.fz)))) ∧ Ex G G2 := by
  obtain ⟨A, r, nd, f⟩ := S.sl
  obtain ⟨o, A1, B, A2, h1, h2, rfl, h4⟩ := r.focus h
  cases h2 with
  | ow q =>
    rename_i v
    cases q with
    | @cell _ a vs C hg hh rr =>
      have gC : ∀ b ∈ C, G b = none := fun b hb => (rr.mem b hb).1
      have e1 : Ex G (DL.frz G H C) := frz_ex gC
      have ndd := nd
      simp only [List.nodup_append, List.mem_append, List.nodup_cons, List.mem_cons] at ndd
      have aC : a ∉ C := ndd.2.1.1.1
      have nB : ∀ b ∈ A1 ++ A2, b ∉ C := fun b hb hB => by
        rcases List.mem_append.mp hb with z | z
        · exact ndd.2.2 b z b (.inl (.inr hB)) rfl
        · exact ndd.2.1.2.2 b (.inr hB) b z rfl
      have st : Step Γ.G Γ.H (DL.frz G H C) H := ⟨S.step.g.trans e1, S.step.h, fun b u g1 g2 => by
        have nb : b ∉ C := fun z => by
          rw [f b (by simp [z])] at g2; cases g2
        rw [frz_out nb]
        exact S.step.f b u g1 g2⟩
      have e2 : σ.set i (some (V.ref a)) = σ := by
        obtain ⟨hi, e⟩ := List.getElem?_eq_some_iff.mp h1
        rw [← e]
        simp
      have own : OwnT (DL.frz G H C) H (.cell ((OT.ers ts).map OT.fz)) (.ref a) [a] := .cell (by rw [frz_out aC]; exact hg) hh (rr.toF e1 fun b hb => hb)
      have := h4 (DL.frz G H C) H (some (.ref a)) _ [a] e1 (fun b hb g => by rw [frz_out (nB b hb)]; exact g) (fun _ _ => rfl) (.ow own)
      rw [e2] at this
      refine ⟨DL.frz G H C, ⟨st, frz_sub S.sub, _, this, nd_swap nd (by simp) (fun b hb => ?_), fun x hx => f x ?_⟩, e1⟩
      · rw [List.mem_singleton.mp hb]
        intro z
        rcases List.mem_append.mp z with z | z
        · exact ndd.2.2 a z a (.inl (.inl rfl)) rfl
        · exact ndd.2.1.2.2 a (.inl rfl) a z rfl
      · simp only [List.mem_append, List.mem_singleton, List.mem_cons] at hx ⊢
        rcases hx with z | z | z
        · exact .inl z
        · exact .inr (.inl (.inl (by simpa using z)))
        · exact .inr (.inr z)
theorem ss_frzIn (i : Nat) [Er : Er g f] {xs : List α} (h : ρ[i]? = some (.ow (tl g xs))) (hr : SS X Γ (ρ.set i (.ow (tl (tF f) xs))) rest E) : SS X Γ ρ rest E := hr.weak fun D σ H ⟨G, S, k⟩ => by
  obtain ⟨G2, S2, e2⟩ := S.frzIn h
  have e3 : OT.cell ((OT.ers (xs.map g)).map OT.fz) = tl (tF f) xs := by
    rw [ers_map, List.map_map, List.map_map]
    unfold tl
    refine congrArg OT.cell (List.map_congr_left fun x _ => ?_)
    show OT.fz ((g x).er) = OT.fz (f x)
    rw [Er.er]
  rw [e3] at S2
  exact ⟨G2, S2, k.more e2⟩
/-- an item of an owned list of frozen things -/
theorem de_ixF [Inhabited α] (i : Nat) {k : Int} {xs : List α} (h : ρ[i]? = some (.ow (tl (tF f) xs))) (hb : DV X Γ ρ b (.int k)) (hk : inR xs.length k) (hN : X.N[i]? = some n := by rfl) (hv : Vis X.env.scope n := by first | exact Or.inl rfl | exact Or.inr (Or.inl rfl) | exact Or.inr (Or.inr rfl)) (hd : (n == ("__debug__" : Str)) = false := by decide) (hcd : (n == ("__classdict__" : Str)) = false := by decide) (hs : PlainIx b := by intro _ _; rfl) :
    DE X Γ ρ (.Subscript (.Name n p) b pos) .z (f (pyAt xs k)) := by
  let PA : Hp → Hp → Hp → V → Prop := fun _ G2 H2 v => ∃ A, OwnT G2 H2 (tl (tF f) xs) v A
  have ho : PE X (.Name n p) (tX Γ ρ PA) := var_weak (pe_var hN hv hd hcd) fun σ G H S => by
    obtain ⟨o, B, h1, h2⟩ := S.slot h
    cases h2 with
    | ow r => exact ⟨_, h1, _, r⟩
  exact bin_weak (ta := tC .non) (tb := tC .non) (pe_ix ix_list ho hb hs) fun σ G H G1 H1 G2 H2 v u Q S s1 e1 ⟨A, o⟩ s2 e2 (p2 : u = .int k) kk => by
    subst p2
    unfold tl at o
    cases o with
    | @cell _ a vs C hg hh rr =>
      have hl : vs.length = xs.length := by rw [rr.len, List.length_map]
      obtain ⟨w, hw⟩ : ∃ w, atI vs k = some w := by
        obtain ⟨h5, h6⟩ := ixN_pyIx hk
        have h7 : pyIx xs.length k < vs.length := by omega
        have h8 : ixN vs.length k = some (pyIx xs.length k) := by rw [hl]; exact h5
        refine ⟨vs[pyIx xs.length k], ?_⟩
        unfold atI
        rw [h8]
        simp [h7]
      refine ⟨a, vs, k, w, rfl, rfl, SqL.of (s2.h _ _ hh), hw, kk w G2 H2 (Step.refl _ _) e2 ?_⟩
      have hat : ∀ {ts : List OT} {vs : List V} {A : List Addr} {n : Nat} {w : V} {d : D}, OwnTs G1 H1 ts vs A → vs[n]? = some w → ts[n]? = some (.fz d) → Rep G1 w d := fun {ts vs A n w d} r h5 h6 => by
        obtain ⟨v', A1, B, A2, q1, q2, _⟩ := r.at h6
        rw [h5] at q1
        cases q1
        cases q2 with
        | fz z => exact z
      have h7 : vs[pyIx xs.length k]? = some w := by
        unfold atI at hw
        rw [hl, (ixN_pyIx hk).1] at hw
        exact hw
      have h8 : (xs.map (tF f))[pyIx xs.length k]? = some (.fz (f (pyAt xs k))) := by
        rw [List.getElem?_map, pyAt_ix]
        have := (ixN_pyIx hk).2
        simp [tF, List.getD_eq_getElem?_getD, this]
      exact (hat rr h7 h8).mono s2.g
/-! ### handing over -/
def subH (H : Hp) (A : List Addr) : Hp := fun b => if b ∈ A then none else H b
theorem subH_in {A : List Addr} (h : i ∈ A) : subH H A i = none := if_pos h
theorem subH_out {A : List Addr} (h : i ∉ A) : subH H A i = H i := if_neg h
theorem subH_ex {A : List Addr} : Ex (subH H A) H := fun b o hb => by
  unfold subH at hb
  split at hb
  · cases hb
  · exact hb
/-- a def that is given owned things, and whose answer is frozen then -/
def spW (K : Fg) (ss : List Sl) (d : D) : Sp := fun vs H Q E => ∃ G A, Ex G H ∧ SlR K (subH H A) G H (vs.map some) ss A ∧ A.Nodup ∧ ∀ v G2 H2, Step G (subH H A) G2 H2 → Ex G2 H2 → Rep G2 v d → Q v H2
end
section
variable {P : Program} {w : World} {K : Fg} {mg : Str → Option Value} {base : Heap}
theorem slr_startA {K : Fg} {I G H : Hp} {N : List Str} {vs : List V} {ss : List Sl} {m : Nat} {A : List Addr} (r : SlR K I G H (vs.map some) ss A) (h : N.length - vs.length = m) : SlR K I G H (L2.start N vs) (ss ++ List.replicate m .un) A := by
  have := r.app (SlR.uns (K := K) (I := I) (G := G) (H := H) m (List.replicate (N.length - vs.length) none) (by simp [h]))
  rw [List.append_nil] at this
  exact this
theorem ok_defW {x qual : Str} {st : Stmt} {f : Addr} {fd : FuncData} {N ps : List Str} {k m : Nat} {ss : List Sl} {d : D} (F : L2.Fun K x qual st f fd) (S : FnScope N ps (defScope st)) (hl : ss.length = ps.length) (hm : N.length - ps.length = m)
    (hbody : ∀ (cdv : Value) (A : Around) (outer : List Env) (s : Shared) (I G H : Hp) (E : XK), Room k (A.deeper (PyProof.Rows.envOfC qual (defScope st) s.heap.objs.size f cdv)) →
      XO (cxOf (L2.CX P w) P w K mg base N qual (defScope st) f cdv A outer s H E) →
      PassesOwn (model P w) (A.deeper (PyProof.Rows.envOfC qual (defScope st) s.heap.objs.size f cdv)) (PyProof.Rows.envOfC qual (defScope st) s.heap.objs.size f cdv) (cxOf (L2.CX P w) P w K mg base N qual (defScope st) f cdv A outer s H E).xe →
      SS (cxOf (L2.CX P w) P w K mg base N qual (defScope st) f cdv A outer s H E) ⟨K, G, I⟩ (ss ++ List.replicate m .un) (defBody st) { nx := fun _ => False, rt := fun t _ => t.er = d }) :
    FnOk P w K mg base (L2.CX P w) (k + 1) f fd ps (spW K ss d) := by
  have len : ∀ vs H Q E, spW K ss d vs H Q E → vs.length = ps.length := fun vs H Q E ⟨G, A, _, r, _⟩ => by rw [slr_len r, hl]
  refine F.okX S len (fun cdv A outer s H vs Q E hr h => ?_)
  have hv := len _ _ _ _ h
  have xo : XO (cxOf (L2.CX P w) P w K mg base N qual (defScope st) f cdv A outer s H E) := ⟨rfl, S.nd, by have := hr.un; show (A.deeper (PyProof.Rows.envOfC qual (defScope st) s.heap.objs.size f cdv)).units + 65 < cLine; omega⟩
  have hp : PassesOwn (model P w) (A.deeper (PyProof.Rows.envOfC qual (defScope st) s.heap.objs.size f cdv)) (PyProof.Rows.envOfC qual (defScope st) s.heap.objs.size f cdv) (cxOf (L2.CX P w) P w K mg base N qual (defScope st) f cdv A outer s H E).xe := passes_of (X := cxOf (L2.CX P w) P w K mg base N qual (defScope st) f cdv A outer s H E) rfl
  obtain ⟨G, B, eg, r, nd, kk⟩ := h
  refine ⟨_, hbody cdv A outer s (subH H B) G H E hr xo hp, G, ⟨⟨Ex.refl _, subH_ex, fun _ _ e _ => e⟩, eg, B, slr_startA r (by rw [hv, hm]), nd, fun b hb => subH_in hb⟩, ?_⟩
  refine ⟨fun _ _ _ _ z => z.elim, fun _ _ _ _ z => z.elim, fun _ _ _ _ z => z.elim, fun t' _ _ v G' H' A' e st' ex o nd' f' _ => ?_⟩
  obtain ⟨s1, e1, r1⟩ := freeze st' ex o f'
  rw [e] at r1
  exact kk v _ H' s1 e1 r1
end
section
variable {X : Cx} {Γ : Gm} {ρ ρ' : List Sl} {e a b c : Expr} {es : List Expr} {pos p p' q : Pos} {κ : Kd} {d : D} {x : V} {σ : L2.St} {G H G1 H1 G2 H2 : Hp} {E : En} {rest bd : List Stmt} {n y m : Str} {i j k : Nat} {t : OT}
/-- an expression that takes what names own: the slots behind it, and a frozen answer -/
def tM (Γ : Gm) (ρ ρ' : List Sl) (d : D) : TE := fun σ H Q => ∃ G, Sr Γ G H σ ρ ∧ ∀ v G2 H2, Ex G G2 → Sr Γ G2 H2 σ ρ' → Rep G2 v d → Q v H2
def DM (X : Cx) (Γ : Gm) (ρ ρ' : List Sl) (e : Expr) (d : D) : Prop := PE X e (tM Γ ρ ρ' d)
def isVs : Sl → Bool
  | .v _ => true
  | _ => false
theorem SlR.vs {K K' : Fg} {I I' G H G' H' : Hp} : ∀ {vs : List V} {ss : List Sl} {A : List Addr}, SlR K I G H (vs.map some) ss A → ss.all isVs = true → SlR K' I' G' H' (vs.map some) ss []
  | [], [], _, .nil, _ => .nil
  | v :: vs, s :: ss, _, .cons h r, q => by
    rw [List.all_cons, Bool.and_eq_true] at q
    have r' := SlR.vs (K' := K') (I' := I') (G' := G') (H' := H') r q.2
    cases h with
    | v => exact .cons (A := []) (B := []) .v r'
    | un => cases q.1
    | sh _ => cases q.1
    | ro _ => cases q.1
    | ow _ => cases q.1
    | sc _ => cases q.1
    | ob _ _ _ => cases q.1
    | oa _ => cases q.1
    | rb _ _ => cases q.1
theorem dm_call {fa : Addr} {fd : FuncData} {ps : List Str} {ss : List Sl} (i : Nat) (F : FnOk X.prog X.w X.K X.mg X.base (L2.CX X.prog X.w) k fa fd ps (spW X.K (.ow t :: ss) d)) (hr : Room k X.A) (hm : X.mg m = some (.ref fa)) (hk : PySem.W.keepIn X.K (.ref fa) = true) (hb : Binds X.K fd ps []) (h : ρ[i]? = some (.ow t)) (ha : DA X Γ ρ es ss) (hs : ss.all isVs = true := by rfl)
    (hg : Gl X m := by rfl) (hdb : (m == ("__debug__" : Str)) = false := by decide) (he : starEach (.Name n p :: es) X.env = (false, eval (.Name n p) X.env) :: starEach es X.env := by rfl) (hpl : (backTo pos (starEach es X.env)).any (·.1) = false := by rfl)
    (hN : X.N[i]? = some n := by rfl) (hv : Vis X.env.scope n := by first | exact Or.inl rfl | exact Or.inr (Or.inl rfl) | exact Or.inr (Or.inr rfl)) (hd : (n == ("__debug__" : Str)) = false := by decide) (hcd : (n == ("__classdict__" : Str)) = false := by decide) :
    DM X Γ ρ (ρ.set i .un) (.Call (.Name m q) (.Name n p :: es) [] pos) d :=
  (pe_call F hr hg hm hk hb .nil (passL (X := X)) (pa_cons (pe_var hN hv hd hcd) ha he) hdb he hpl).weak fun σ H Q ⟨G, S, kk⟩ => by
    obtain ⟨o, B0, h1, h2⟩ := S.slot h
    cases h2 with
    | @ow v0 _ _ _ =>
      refine ⟨v0, h1, G, S, fun vs G2 H2 A0 s2 e2 r nd f => ?_⟩
      show spW X.K (.ow t :: ss) d ((v0 :: vs) ++ []) H2 _ _
      rw [List.append_nil]
      obtain ⟨A, SA⟩ := S.ad
      have SA2 := SA.more s2 e2
      obtain ⟨v, B, A', q1, q2, q3, q4, q5, q6, q7⟩ := SA2.take h
      rw [h1] at q1
      cases q1
      refine ⟨G2, B, e2, ?_, q3, fun v' G3 H3 st e3 rp => ?_⟩
      · have := SlR.cons (SlS.ow (K := X.K) (I := subH H2 B) q2) (SlR.vs (K' := X.K) (I' := subH H2 B) (G' := G2) (H' := H2) r hs)
        rwa [List.append_nil] at this
      refine kk v' G3 H3 (s2.g.trans st.g) ?_ rp
      have eI : Ex Γ.H (subH H2 B) := fun b o hb => by
        have nb : b ∉ B := fun z => by rw [q6 b z] at hb; cases hb
        rw [subH_out nb]
        exact SA2.step.h _ _ hb
      refine ⟨⟨SA2.step.g.trans st.g, eI.trans st.h, fun b o g1 g2 => st.f b o (SA2.step.f b o g1 g2) (eI _ _ g2)⟩, e3, A', q4.sl.frame st.g (fun b hb g => ?_) (fun b hb => ?_), q4.nd, q4.fr⟩
      · obtain ⟨_, o, ho⟩ := q4.sl.mem b hb
        have nb : b ∉ B := fun z => (q5 b z).1 hb
        exact st.f b o g (by rw [subH_out nb]; exact ho)
      · obtain ⟨_, o, ho⟩ := q4.sl.mem b hb
        have nb : b ∉ B := fun z => (q5 b z).1 hb
        rw [ho]
        exact st.h _ _ (by rw [subH_out nb]; exact ho)
theorem DM.eq {d' : D} (h : DM X Γ ρ ρ' e d) (q : d = d') : DM X Γ ρ ρ' e d' := q ▸ h
/-- y = such an expression -/
theorem ss_setM (j : Nat) (hN : X.N.Nodup) (he : DM X Γ ρ ρ' e d) (hr : SS X Γ (ρ'.set j (.sh d)) rest E) (hi : X.N[j]? = some n := by rfl) (hx : Loc X.env.scope n := by first | exact .inl rfl | exact .inr rfl) (hs : swapsWith e (some (.Name n p')) pos.line X.env = pure false := by rfl) (hf : X.fn n = true ∨ X.env.scope.names.lookup n = some .local := by first | exact .inl rfl | exact .inr rfl) :
    SS X Γ ρ (.Assign [.Name n p'] e pos :: rest) E := ss_cons (M := fun ρ2 => ρ2 = ρ'.set j (.sh d)) ((ps_set hN hi hx he hs hf).weak fun D σ H ⟨G, S, k⟩ => ⟨G, S, fun v G2 H2 ex S2 r =>
    k.nx _ _ G2 H2 rfl (S2.store (Step.refl _ _) S2.sub (.sh r) List.nodup_nil fun _ z => by cases z) ex⟩) fun ρ2 e => e ▸ hr
/-- a test that takes what names own -/
def tTM (Γ : Gm) (ρ ρ' : List Sl) (b : Bool) : TT := fun σ H Q => ∃ G, Sr Γ G H σ ρ ∧ ∀ G2 H2, Ex G G2 → Sr Γ G2 H2 σ ρ' → Q b H2
def DTM (X : Cx) (Γ : Gm) (ρ ρ' : List Sl) (e : Expr) (b : Bool) : Prop := PT X e (tTM Γ ρ ρ' b)
theorem dtm_call {fa : Addr} {fd : FuncData} {ps : List Str} {e1 e2 : Expr} {bb : Bool} (F : FnOk X.prog X.w X.K X.mg X.base (L2.CX X.prog X.w) k fa fd ps (sp1 X.K [.v x, .ro d] (.ret (.fz (.bool bb))))) (hr : Room k X.A) (hm : X.mg m = some (.ref fa)) (hk : PySem.W.keepIn X.K (.ref fa) = true) (hb : Binds X.K fd ps []) (hK : Γ.K = X.K) (h1 : DV X Γ ρ e1 x) (h2 : DM X Γ ρ ρ' e2 d)
    (hg : Gl X m := by rfl) (hdb : (m == ("__debug__" : Str)) = false := by decide) (he : starEach [e1, e2] X.env = (false, eval e1 X.env) :: starEach [e2] X.env := by rfl) (he2 : starEach [e2] X.env = (false, eval e2 X.env) :: starEach [] X.env := by rfl) (hpl : (backTo pos (starEach [e2] X.env)).any (·.1) = false := by rfl)
    (het : ∀ whole, isTrue (.Call (.Name m q) [e1, e2] [] pos) X.env whole = (do let v ← whole; standAt pos; holding [v] (truthy v)) := by intro _; rfl) : DTM X Γ ρ ρ' (.Call (.Name m q) [e1, e2] [] pos) bb := by
  have := pt_val (pe_call F hr hg hm hk hb .nil (passL (X := X)) (pa_cons h1 (pa_cons h2 pa_nil he2) he) hdb he hpl) het
  refine this.weak fun σ H Q ⟨G, S, kk⟩ => ⟨G, S, fun v G1 H1 s1 e1 (q1 : v = x) => ⟨G1, S.more s1 e1, fun u G2 H2 ex S2 r => ?_⟩⟩
  show sp1 X.K [.v x, .ro d] (.ret (.fz (.bool bb))) ([v, u] ++ []) H2 _ E0
  rw [List.append_nil]
  refine ⟨G2, S2.sub, ?_, fun v3 G3 H3 A s3 e3 o nd f => ?_⟩
  · rw [q1]
    exact .cons (A := []) (B := []) .v (.cons (A := []) (B := []) (.ro (Rep.mono S2.sub r)) .nil)
  · cases o with
    | fz z =>
      cases z with
      | bl => exact ⟨bb, rfl, kk G3 H3 ((s1.g.trans ex).trans s3.g) (S2.more s3 e3)⟩
theorem dtm_not {bb : Bool} (h : DTM X Γ ρ ρ' a bb) : DTM X Γ ρ ρ' (.UnaryOp .Not a pos) (!bb) := (pt_not h).weak fun σ H Q ⟨G, S, k⟩ => ⟨G, S, fun G2 H2 ex S2 => k G2 H2 ex S2⟩
theorem ss_ifM {bb : Bool} (hc : DTM X Γ ρ ρ' c bb) (h1 : bb = true → SS X Γ ρ' bd { E with nx := fun _ => False }) (h2 : bb = false → SS X Γ ρ' rest E) : SS X Γ ρ (.If c bd [] pos :: rest) E := by
  refine ss_cons (M := fun ρ2 => ρ2 = ρ' ∧ bb = false) ?_ (fun ρ2 ⟨e, eq⟩ => e ▸ h2 eq)
  cases bb with
  | true => exact (ps_if hc (h1 rfl) pss_never).weak fun D σ H ⟨G, S, k⟩ => ⟨G, S, fun G2 H2 ex S2 => iteT ⟨G2, S2, ⟨fun _ _ _ _ z => z.elim, (k.more ex).bk, (k.more ex).ct, (k.more ex).rt⟩⟩⟩
  | false => exact (ps_if hc pss_never (ss_nil (E := { E with nx := fun ρ2 => ρ2 = ρ' ∧ false = false }) ⟨rfl, rfl⟩)).weak fun D σ H ⟨G, S, k⟩ => ⟨G, S, fun G2 H2 ex S2 => iteF ⟨G2, S2, k.more ex⟩⟩
end
end DL

set_option Elab.async false
set_option linter.all false
set_option maxRecDepth 100000
set_option maxHeartbeats 2000000
/-! in a tuple of ints; is True -/
namespace DL
open PySem L2
section
variable {X : Cx} {Γ : Gm} {ρ : List Sl} {a b : Expr} {pos : Pos} {κ κ' : Kd} {i : Int} {ys : List Int} {d : D} {q w : Bool}
theorem inV_ints (i : Int) : ∀ ys : List Int, inV (.int i) (ys.map V.int) = decide (i ∈ ys)
  | [] => by simp [inV]
  | y :: ys => by
    have ih := inV_ints i ys
    unfold inV at ih ⊢
    rw [List.map_cons, List.any_cons, ih]
    have e : eqV (V.int y) (V.int i) = decide (i = y) := by
      by_cases h : i = y
      · subst h; simp [eqV]
      · have : ¬ y = i := fun z => h z.symm
        simp [eqV, h, this]
    rw [e]
    simp
theorem flat_ints (ys : List Int) : (ys.map V.int).all flatV = true := by
  rw [List.all_eq_true]
  intro x hx
  obtain ⟨y, _, rfl⟩ := List.mem_map.mp hx
  rfl
theorem tup_ints {H : Hp} {v : V} (r : Rep H v (.tuple (ys.map dI))) : ∃ p, v = .ref p ∧ H p = some (.tup (ys.map V.int)) := by
  obtain ⟨p, vs, rfl, h, rr⟩ := r.t
  have := rr.ints
  subst this
  exact ⟨p, rfl, h⟩
theorem dv_inTup (ha : DV X Γ ρ a (.int i)) (hb : DE X Γ ρ b κ (.tuple (ys.map dI))) (hm : behindInMarks .In b = false := by rfl) : DV X Γ ρ (.Compare a [.In] [b] pos) (.bl (decide (i ∈ ys))) :=
  bin_weak (ta := tC .non) (tb := tC .non) (pe_cmpR op_in_seq ha hb hm) fun σ G H G1 H1 G2 H2 v u Q S s1 e1 p1 s2 e2 p2 k => by
    obtain ⟨p, rfl, h⟩ := tup_ints (pK_c (S.more s1 e1) s2 e2 p2)
    have p1' : v = .int i := p1
    refine ⟨p, _, rfl, .inr (SqT.of h), by rw [p1']; rfl, flat_ints ys, k _ G2 H2 (Step.refl _ _) e2 ?_⟩
    rw [p1', inV_ints]
    rfl
theorem dt_inTup (ha : DV X Γ ρ a (.int i)) (hb : DE X Γ ρ b κ (.tuple (ys.map dI))) (hm : behindInMarks .In b = false := by rfl) : DT X Γ ρ (.Compare a [.In] [b] pos) (decide (i ∈ ys)) :=
  binT_weak (pt_cmpR op_in_seq ha hb hm) fun σ G H G1 H1 G2 H2 v u Q S s1 e1 p1 s2 e2 p2 k => by
    obtain ⟨p, rfl, h⟩ := tup_ints (pK_c (S.more s1 e1) s2 e2 p2)
    have p1' : v = .int i := p1
    refine ⟨p, _, rfl, .inr (SqT.of h), by rw [p1']; rfl, flat_ints ys, k _ G2 H2 (Step.refl _ _) e2 ?_⟩
    rw [p1', inV_ints]
    rfl
theorem dv_isBl (ha : DV X Γ ρ a (.bl q)) (hb : DV X Γ ρ b (.bl w)) : DV X Γ ρ (.Compare a [.Is] [b] pos) (.bl (decide (q = w))) := dv_cmpR op_isBl ha hb (nomark _) (fun _ _ k => ⟨_, _, rfl, rfl, k⟩)
theorem dt_isBl (ha : DV X Γ ρ a (.bl q)) (hb : DV X Γ ρ b (.bl w)) : DT X Γ ρ (.Compare a [.Is] [b] pos) (decide (q = w)) := dt_cmpR op_isBl ha hb (nomark _) (fun _ _ k => ⟨_, _, rfl, rfl, k⟩)
end
theorem ss_toD {X : Cx} {Γ : Gm} {ρ : List Sl} {rest : List Stmt} {E : En} {α : Type} {f : α → D} {xs : List α} (i : Nat) (h : ρ[i]? = some (.ow (tl (tF f) xs))) (hr : SS X Γ (ρ.set i (.ow (tl (tF (id : D → D)) (xs.map f)))) rest E) : SS X Γ ρ rest E := by
  have e : tl (tF (id : D → D)) (xs.map f) = tl (tF f) xs := by
    unfold tl
    rw [List.map_map]
    rfl
  rw [e] at hr
  have e2 : ρ.set i (.ow (tl (tF f) xs)) = ρ := by
    obtain ⟨hi, e3⟩ := List.getElem?_eq_some_iff.mp h
    rw [← e3]
    simp
  rwa [e2] at hr
end DL

set_option Elab.async false
set_option linter.all false
set_option maxRecDepth 100000
set_option maxHeartbeats 2000000
/-! n = l.pop() of a list whose items are frozen; None or lists of lists of lists -/
namespace DL
open PySem L2
theorem OwnTs.fzsV {G H : Hp} {α : Type} {f : α → D} : ∀ {xs : List α} {vs : List V} {B : List Addr}, OwnTs G H (xs.map (tF f)) vs B → B = [] ∧ Reps G vs (xs.map f)
  | [], _, _, .nil => ⟨rfl, .nil⟩
  | x :: xs, _, _, .cons (A := A) (B := B) h r => by
    obtain ⟨e, q⟩ := OwnTs.fzsV (xs := xs) r
    subst e
    cases (show OwnT G H (.fz (f x)) _ A from h) with
    | fz z => exact ⟨rfl, .cons z q⟩
section
variable {X : Cx} {Γ : Gm} {ρ : List Sl} {o : Expr} {cpos apos : Pos} {α : Type} {f : α → D}
theorem dm_pop [Inhabited α] (i : Nat) {xs : List α} (ho : DPl X Γ ρ o i []) (h : ρ[i]? = some (.ow (tl (tF f) xs))) (hne : 0 < xs.length)
    (hbase : attributeBase o "pop" X.env (eval o X.env) = eval o X.env := by rfl) (hline : (apos.endLine == cpos.line) = true := by rfl) :
    DM X Γ ρ (ρ.set i (.ow (tl (tF f) xs.dropLast))) (.Call (.Attribute o "pop" apos) [] [] cpos) (f (xs.getLastD default)) :=
  (pe_bm0 PySem.F.plainAttrs_list PySem.F.slot_list_pop PySem.F.type_list_pop mt_pop ho hbase hline).weak fun σ H Q ⟨G, S, kk⟩ => ⟨G, S, fun v G1 H1 s1 e1 ⟨v0, h0, hv⟩ => by
    obtain ⟨A, SA⟩ := (S.more s1 e1).ad
    obtain ⟨a, rfl⟩ := (S.more s1 e1).ref (ts := xs.map (tF f)) h (at_nil _) h0 hv
    obtain ⟨vs, B, q1, q2, q3, q4, q5, q6, q7, q8⟩ := SA.mut (ts := xs.map (tF f)) h (at_nil _) h0 hv
    obtain ⟨eB, rp⟩ := q4.fzsV
    subst eB
    have ln := rp.len
    rw [List.length_map] at ln
    obtain ⟨y, hy, ry⟩ := rp.get (i := xs.length - 1) (d := f (xs.getLastD default)) (by
      rw [List.getElem?_map, List.getLastD_eq_getLast?, List.getLast?_eq_getElem?, List.getElem?_eq_getElem (by omega)]
      rfl)
    have dl : Reps G1 vs.dropLast (xs.dropLast.map f) := by
      rw [List.dropLast_eq_take, List.dropLast_eq_take, List.map_take, ln]
      exact rp.take _
    refine ⟨ty_list q1, a, vs, y, rfl, rfl, q1, by rw [ln]; exact hy, kk y G1 _ s1.g ?_ ry⟩
    have e : xs.dropLast.map (tF f) = (xs.dropLast.map f).map OT.fz := by rw [List.map_map]; rfl
    have := q8 (xs.dropLast.map (tF f)) vs.dropLast [] (by rw [e]; exact OwnTs.fzs dl) List.nodup_nil (by simp) (by simp) (by simp)
    exact this⟩
end
def dO3 : Option (List (List (List Int))) → D
  | none => .none
  | some xs => dl (dl (dl dI)) xs
end DL

set_option Elab.async false
set_option linter.all false
set_option maxRecDepth 100000
/-! the law's own search through all givings -/
namespace Th
open PySem L2 DL
def gvS (t u : List (List Int)) (x : Int) : List (List Int) := withThing u (goesTo t u) x
def fxG (t : List (List Int)) (x : Int) (acc us : List (List (List Int))) : List (List (List Int)) := us.foldl (fun acc u => if gvS t u x ∈ acc then acc else acc ++ [gvS t u x]) acc
def sdL (t u : List (List Int)) : List (List (List Int)) := (sdO t u).getD []
def fxI (t : List (List Int)) (x : Int) (acc states : List (List (List Int))) : List (List (List Int)) := states.foldl (fun acc one => fxG t x acc (sdL t one)) acc
def fxS (t h0 : List (List Int)) (things : List Int) : Nat → List (List (List Int))
  | 0 => [h0]
  | k + 1 => fxI t (things.getD k default) [] (fxS t h0 things k)
def fxOk (t h0 : List (List Int)) (things : List Int) (k : Nat) : Bool := (fxS t h0 things k).all (fun u => (sdO t u).isSome) && !decide ((4 : Int) < ((fxS t h0 things (k + 1)).length : Int))
def fxO (t h0 : List (List Int)) (things : List Int) : Option (List (List (List Int))) := if (List.range things.length).all (fxOk t h0 things) = true then some (fxS t h0 things things.length) else none
def putA (t h0 : List (List Int)) (things : List Int) (k : Nat) : List (List Int) := (things.take k).foldl (putS t) h0
section
variable {t h0 : List (List Int)} {things : List Int}
theorem fxG_old {x : Int} {us : List (List (List Int))} : ∀ {acc : List (List (List Int))}, ∀ u ∈ acc, u ∈ fxG t x acc us := by
  induction us with
  | nil => intro acc u h; exact h
  | cons v us ih =>
    intro acc u h
    show u ∈ fxG t x (if gvS t v x ∈ acc then acc else acc ++ [gvS t v x]) us
    refine ih u ?_
    split
    · exact h
    · exact List.mem_append_left _ h
theorem fxG_new {x : Int} {us : List (List (List Int))} : ∀ {acc : List (List (List Int))}, ∀ u ∈ us, gvS t u x ∈ fxG t x acc us := by
  induction us with
  | nil => intro acc u h; cases h
  | cons v us ih =>
    intro acc u h
    show gvS t u x ∈ fxG t x (if gvS t v x ∈ acc then acc else acc ++ [gvS t v x]) us
    rcases List.mem_cons.mp h with e | e
    · rw [e]
      refine fxG_old _ ?_
      split
      · assumption
      · simp
    · exact ih u e
theorem fxG_all {x : Int} {us : List (List (List Int))} {P : List (List Int) → Prop} : ∀ {acc : List (List (List Int))}, (∀ u ∈ acc, P u) → (∀ u ∈ us, P (gvS t u x)) → ∀ u ∈ fxG t x acc us, P u := by
  induction us with
  | nil => intro acc h _; exact h
  | cons v us ih =>
    intro acc h h2
    show ∀ u ∈ fxG t x (if gvS t v x ∈ acc then acc else acc ++ [gvS t v x]) us, P u
    refine ih ?_ fun w hw => h2 w (by simp [hw])
    split
    · exact h
    · intro u hu
      rcases List.mem_append.mp hu with z | z
      · exact h u z
      · rw [List.mem_singleton] at z
        rw [z]
        exact h2 v (by simp)
theorem fxI_old {x : Int} {ss : List (List (List Int))} : ∀ {acc : List (List (List Int))}, ∀ u ∈ acc, u ∈ fxI t x acc ss := by
  induction ss with
  | nil => intro acc u h; exact h
  | cons v us ih =>
    intro acc u h
    show u ∈ fxI t x (fxG t x acc (sdL t v)) us
    exact ih u (fxG_old u h)
theorem fxI_new {x : Int} {ss : List (List (List Int))} : ∀ {acc : List (List (List Int))}, ∀ one ∈ ss, ∀ u ∈ sdL t one, gvS t u x ∈ fxI t x acc ss := by
  induction ss with
  | nil => intro acc u h; cases h
  | cons v us ih =>
    intro acc one h u hu
    show gvS t u x ∈ fxI t x (fxG t x acc (sdL t v)) us
    rcases List.mem_cons.mp h with e | e
    · rw [e] at hu
      exact fxI_old _ (fxG_new u hu)
    · exact ih one e u hu
theorem fxI_all {x : Int} {ss : List (List (List Int))} {P : List (List Int) → Prop} : ∀ {acc : List (List (List Int))}, (∀ u ∈ acc, P u) → (∀ one ∈ ss, ∀ u ∈ sdL t one, P (gvS t u x)) → ∀ u ∈ fxI t x acc ss, P u := by
  induction ss with
  | nil => intro acc h _; exact h
  | cons v us ih =>
    intro acc h h2
    show ∀ u ∈ fxI t x (fxG t x acc (sdL t v)) us, P u
    exact ih (fxG_all h fun u hu => h2 v (by simp) u hu) fun one ho => h2 one (by simp [ho])
theorem sdL_spec {u : List (List Int)} (hn : u.length = t.length) : ∀ v ∈ sdL t u, v.Perm u ∧ leftOf (pairsOf t v) t.length = [] := fun v hv => by
  unfold sdL at hv
  cases q : sdO t u with
  | none => rw [q] at hv; cases hv
  | some F => rw [q] at hv; exact (sd_ok hn q).2 v hv
/-- what stands in the states -/
structure FxI (t h0 : List (List Int)) (m : Nat) (things : List Int) (k : Nat) (u : List (List Int)) : Prop where
  good : GoodS u t.length m
  fl : u.flatten.Perm (h0.flatten ++ things.take k)
theorem take_snoc {k : Nat} (hk : k < things.length) : things.take (k + 1) = things.take k ++ [things.getD k default] := by
  rw [List.take_add_one, List.getElem?_eq_getElem hk, getD_lt hk]
  rfl
theorem gv_fx {m k : Nat} {u : List (List Int)} (g : GoodT t m) (hx : ∀ x ∈ things, 0 ≤ x ∧ x < (m : Int)) (nd : (h0.flatten ++ things).Nodup) (hk : k < things.length) (I : FxI t h0 m things k u) (hl : leftOf (pairsOf t u) t.length = []) : FxI t h0 m things (k + 1) (gvS t u (things.getD k default)) := by
  have q := (goes_spec g.n1 hl).1
  have hm := getD_memA hk
  refine ⟨withThing_good I.good q (hx _ hm) fun z => ?_, ?_⟩
  · have := I.fl.subset z
    have e : things = things.take k ++ (things.getD k default :: things.drop (k + 1)) := by
      rw [getD_lt hk]
      simp
    rw [e] at nd
    rcases List.mem_append.mp this with z | z
    · exact (List.nodup_append.mp nd).2.2 _ z _ (by simp) rfl
    · have nd2 := (List.nodup_append.mp nd).2.1
      exact (List.nodup_append.mp nd2).2.2 _ z _ (by simp) rfl
  · have p := withThing_perm (s := u) (h := goesTo t u) (x := things.getD k default) (by rw [I.good.n]; exact ⟨by omega, q.2⟩)
    rw [take_snoc hk, ← List.append_assoc]
    exact p.trans (I.fl.append_right _)
theorem fx_all {m : Nat} (g : GoodT t m) (hs : GoodS h0 t.length m) (hx : ∀ x ∈ things, 0 ≤ x ∧ x < (m : Int)) (nd : (h0.flatten ++ things).Nodup) : ∀ k, k ≤ things.length → ∀ u ∈ fxS t h0 things k, FxI t h0 m things k u
  | 0, _, u, hu => by
    have : u ∈ [h0] := hu
    rw [List.mem_singleton] at this
    rw [this]
    exact ⟨hs, by simp⟩
  | k + 1, hk, u, hu => by
    have ih := fx_all g hs hx nd k (by omega)
    refine fxI_all (P := FxI t h0 m things (k + 1)) (acc := []) (fun u h => by cases h) (fun one ho v hv => ?_) u hu
    have J := ih one ho
    have w := sdL_spec J.good.n v hv
    exact gv_fx g hx nd (by omega) ⟨perm_good w.1 J.good, w.1.flatten.trans J.fl⟩ w.2
theorem fx_mem {m : Nat} (g : GoodT t m) (hs : GoodS h0 t.length m) (hx : ∀ x ∈ things, 0 ≤ x ∧ x < (m : Int)) (nd : (h0.flatten ++ things).Nodup) (hok : (List.range things.length).all (fxOk t h0 things) = true) : ∀ k, k ≤ things.length → putA t h0 things k ∈ fxS t h0 things k
  | 0, _ => by show h0 ∈ [h0]; simp
  | k + 1, hk => by
    have ih := fx_mem g hs hx nd hok k (by omega)
    have J := fx_all g hs hx nd k (by omega) _ ih
    have ok := List.all_eq_true.mp hok k (List.mem_range.mpr (by omega))
    unfold fxOk at ok
    rw [Bool.and_eq_true] at ok
    have o2 := List.all_eq_true.mp ok.1 _ ih
    have e : putA t h0 things (k + 1) = putS t (putA t h0 things k) (things.getD k default) := by
      unfold putA
      rw [take_snoc (by omega), List.foldl_append]
      rfl
    rw [e]
    refine fxI_new (acc := []) _ ih _ ?_
    unfold sdL
    cases q : sdO t (putA t h0 things k) with
    | none => rw [q] at o2; cases o2
    | some F => exact (sd_ok J.good.n q).1
theorem fx_ok {m : Nat} (g : GoodT t m) (hs : GoodS h0 t.length m) (hx : ∀ x ∈ things, 0 ≤ x ∧ x < (m : Int)) (nd : (h0.flatten ++ things).Nodup) {F : List (List (List Int))} (h : fxO t h0 things = some F) : putA t h0 things things.length ∈ F := by
  unfold fxO at h
  split at h
  · rename_i q
    cases h
    exact fx_mem g hs hx nd q _ (Nat.le_refl _)
  · cases h
theorem dl_putA (t : List (List Int)) (m : Nat) : ∀ k, k ≤ m → putA t (dlS t 0) (rgI m) k = dlS t k
  | 0, _ => by simp [putA]
  | k + 1, h => by
    have ih := dl_putA t m k (by omega)
    unfold putA at ih ⊢
    rw [take_snoc (by rw [rgI_len]; omega), List.foldl_append, ih]
    have : (rgI m).getD k default = (k : Int) := by unfold rgI; exact getD_map_range _ (by omega) _
    rw [this]
    rfl
end
end Th
namespace Th
open PySem L2 DL
theorem hr_len (ps : Ps) (n : Nat) : ∀ k, (hrS ps n k).length ≤ n
  | 0 => by show (rgI n).length ≤ n; rw [rgI_len]; exact Nat.le_refl _
  | k + 1 => Nat.le_trans (List.length_filter_le _ _) (hr_len ps n k)
theorem pairs_rg (t s : List (List Int)) : ∀ p ∈ pairsOf t s, p.1 ∈ rgI t.length := fun p hp => by
  obtain ⟨h, o, rfl, hh, _, _⟩ := mem_pairsOf.mp hp
  exact rgI_mem.mpr ⟨by omega, by omega⟩
end Th
namespace Th
open PySem L2 DL
theorem gv_in {t s : List (List Int)} {n m : Nat} {x : Int} (hs : GoodS s n m) (hh : 0 ≤ goesTo t s ∧ goesTo t s < (n : Int)) : x ∈ pyAt (gvS t s x) (goesTo t s) := by
  have hn := hs.n
  obtain ⟨k, hk⟩ : ∃ k : Nat, goesTo t s = (k : Int) := ⟨(goesTo t s).toNat, by omega⟩
  have := with_at (s := s) (h := goesTo t s) (x := x) (b := k) hh.1 (by omega)
  unfold gvS
  rw [← hk] at this
  rw [this, if_pos rfl]
  exact (sortI_perm _).mem_iff.mpr (by simp)
theorem pairs_64 {t s : List (List Int)} {m : Nat} (g : GoodT t m) : (pairsOf t s).length ≤ 64 := by
  have := pAll_len t s t.length t.length
  have n8 := g.n8
  have : t.length * t.length ≤ 8 * 8 := Nat.mul_le_mul n8 n8
  unfold pairsOf
  omega
theorem cps_len (ps : Ps) (n : Nat) : (cps ps n).length ≤ ps.length := List.length_filter_le _ _
theorem extW_len (ps : Ps) (w : List Int) : (extW ps w).length ≤ ps.length := by unfold extW; rw [List.length_map]; exact List.length_filter_le _ _
theorem cloW_len (ps : Ps) (w : List Int) : (cloW ps w).length ≤ ps.length := by unfold cloW; rw [List.length_map]; exact List.length_filter_le _ _
theorem rw_len (ps : Ps) (n : Nat) : ∀ k, (rwT ps n k).1.length ≤ n + k * ps.length ∧ (rwT ps n k).2.length ≤ k * ps.length
  | 0 => by
    refine ⟨?_, by show ([] : List (List Int)).length ≤ _; simp⟩
    show ((crS ps n n).map fun h => [h]).length ≤ _
    rw [List.length_map]
    have := cr_len ps n n
    omega
  | k + 1 => by
    obtain ⟨h1, h2⟩ := rw_len ps n k
    show (rwN (cps ps n) (rwT ps n k)).1.length ≤ _ ∧ (rwN (cps ps n) (rwT ps n k)).2.length ≤ _
    have c := cps_len ps n
    have e : (k + 1) * ps.length = k * ps.length + ps.length := Nat.succ_mul _ _
    unfold rwN
    split
    · exact ⟨by omega, by omega⟩
    · have e1 := extW_len (cps ps n) ((rwT ps n k).1.getLastD [])
      have e2 := cloW_len (cps ps n) ((rwT ps n k).1.getLastD [])
      simp only [List.length_append, List.length_dropLast]
      exact ⟨by omega, by omega⟩
def wyL (t s : List (List Int)) (i : Nat) : List Int := (rwT (pairsOf t s) t.length i).1.getLastD []
theorem wyL_ok {t s : List (List Int)} {i : Nat} (h : (rwT (pairsOf t s) t.length i).1 ≠ []) : 0 < (wyL t s i).length ∧ (wyL t s i).length ≤ t.length := by
  have W := (rw_ok (ps := pairsOf t s) (n := t.length) i).1 _ (last_mem h)
  refine ⟨W.ne, ?_⟩
  exact nodup_bd W.nd fun x hx => rgI_mem.mp (W.bd x hx)
theorem rw_step {ps : Ps} {n i : Nat} (h : (rwT ps n i).1 ≠ []) : rwT ps n (i + 1) = ((rwT ps n i).1.dropLast ++ extW (cps ps n) ((rwT ps n i).1.getLastD []), (rwT ps n i).2 ++ cloW (cps ps n) ((rwT ps n i).1.getLastD [])) := by
  show rwN (cps ps n) (rwT ps n i) = _
  unfold rwN
  rw [if_neg h]
theorem take_p {P : Ps} {j : Nat} (hj : j < P.length) : P.take (j + 1) = P.take j ++ [P.getD j default] := by
  rw [List.take_add_one, List.getElem?_eq_getElem hj, List.getD_eq_getElem?_getD, List.getElem?_eq_getElem hj]
  rfl
theorem ext_yes {P : Ps} {w : List Int} {j : Nat} (hj : j < P.length) (h : (decide ((P.getD j default).1 = lastW w) && (decide (pyAt w 0 < (P.getD j default).2) && !decide ((P.getD j default).2 ∈ w))) = true) (A : List (List Int)) :
    (A ++ extW (P.take j) w) ++ [w ++ [(P.getD j default).2]] = A ++ extW (P.take (j + 1)) w := by
  unfold extW
  rw [take_p hj, List.filter_append, List.map_append, List.filter_cons, if_pos h, List.append_assoc]
  rfl
theorem ext_no {P : Ps} {w : List Int} {j : Nat} (hj : j < P.length) (h : (decide ((P.getD j default).1 = lastW w) && (decide (pyAt w 0 < (P.getD j default).2) && !decide ((P.getD j default).2 ∈ w))) = false) (A : List (List Int)) :
    (A ++ extW (P.take j) w) = A ++ extW (P.take (j + 1)) w := by
  unfold extW
  rw [take_p hj, List.filter_append, List.map_append, List.filter_cons, if_neg (by rw [h]; exact Bool.false_ne_true)]
  simp
theorem clo_yes {P : Ps} {w : List Int} {j : Nat} (hj : j < P.length) (h : (decide ((P.getD j default).1 = lastW w) && decide ((P.getD j default).2 = pyAt w 0)) = true) (A : List (List Int)) :
    (A ++ cloW (P.take j) w) ++ [w] = A ++ cloW (P.take (j + 1)) w := by
  unfold cloW
  rw [take_p hj, List.filter_append, List.map_append, List.filter_cons, if_pos h, List.append_assoc]
  rfl
theorem clo_no {P : Ps} {w : List Int} {j : Nat} (hj : j < P.length) (h : (decide ((P.getD j default).1 = lastW w) && decide ((P.getD j default).2 = pyAt w 0)) = false) (A : List (List Int)) :
    (A ++ cloW (P.take j) w) = A ++ cloW (P.take (j + 1)) w := by
  unfold cloW
  rw [take_p hj, List.filter_append, List.map_append, List.filter_cons, if_neg (by rw [h]; exact Bool.false_ne_true)]
  simp
end Th
namespace Th
open PySem L2 DL
theorem isN_W (x : Option (List (List Int))) : isN (dOLL x) = x.isNone := by cases x <;> rfl
theorem sd_bad {t : List (List Int)} {k : Sd} {b : Bool} (h : (isN (dOLL (sdR t k)) || decide ((12 : Int) < (k.seen.length : Int))) = b) : sdBad t k = b := by
  unfold sdBad
  rw [← isN_W]
  exact h
theorem sd_none {t s : List (List Int)} {k : Sd} (ha : k.at_ ≤ 12) (hr : sdF t (14 - k.at_) k = sdO t s) (hk : k.at_ < k.seen.length) (hb : sdBad t k = true) : sdO t s = none := by
  rw [← hr, show 14 - k.at_ = (13 - k.at_) + 1 by omega]
  unfold sdF
  rw [if_pos hk, if_pos hb]
theorem sd_go {t s : List (List Int)} {k : Sd} (ha : k.at_ ≤ 12) (hr : sdF t (14 - k.at_) k = sdO t s) (hk : k.at_ < k.seen.length) (hb : sdBad t k = false) : sdF t (14 - (sdN t k).at_) (sdN t k) = sdO t s ∧ (sdN t k).at_ ≤ 12 := by
  have l12 : k.seen.length ≤ 12 := by
    unfold sdBad at hb
    rw [Bool.or_eq_false_iff] at hb
    have := of_decide_eq_false hb.2
    omega
  refine ⟨?_, by show k.at_ + 1 ≤ 12; omega⟩
  rw [← hr, show 14 - k.at_ = (13 - k.at_) + 1 by omega, show 14 - (sdN t k).at_ = 13 - k.at_ by show 14 - (k.at_ + 1) = _; omega]
  conv => rhs; unfold sdF
  rw [if_pos hk, if_neg (by rw [hb]; exact Bool.false_ne_true)]
theorem sd_end {t s : List (List Int)} {k : Sd} (ha : k.at_ ≤ 12) (hr : sdF t (14 - k.at_) k = sdO t s) (hk : ¬ k.at_ < k.seen.length) : sdO t s = some k.found := by
  rw [← hr, show 14 - k.at_ = (13 - k.at_) + 1 by omega]
  unfold sdF
  rw [if_neg hk]
theorem sd_get {t : List (List Int)} {k : Sd} (hb : sdBad t k = false) : dOLL (sdR t k) = dl (dl dI) ((sdR t k).getD []) := by
  unfold sdBad at hb
  rw [Bool.or_eq_false_iff] at hb
  cases q : sdR t k with
  | none => rw [q] at hb; cases hb.1
  | some F => rfl
theorem sd_12 {t : List (List Int)} {k : Sd} (hb : sdBad t k = false) : k.seen.length ≤ 12 := by
  unfold sdBad at hb
  rw [Bool.or_eq_false_iff] at hb
  have := of_decide_eq_false hb.2
  omega
theorem sd_ws {t : List (List Int)} {k : Sd} {m : Nat} (g : GoodT t m) : ((sdR t k).getD []).length ≤ 59 * 64 := by
  unfold sdR rgO
  split
  · have h := (rw_len (pairsOf t (sdU k)) t.length 59).2
    have p := pairs_64 g (s := sdU k)
    exact Nat.le_trans h (Nat.mul_le_mul_left 59 p)
  · exact Nat.zero_le _
theorem addS_len {s : List (List Int)} {n : Nat} {ws : List (List Int)} : ∀ {seen : List (List (List Int))}, (addS s n seen ws).length ≤ seen.length + ws.length := by
  induction ws with
  | nil => intro seen; exact Nat.le_refl _
  | cons w ws ih =>
    intro seen
    show (addS s n (if turnS s w n ∈ seen then seen else seen ++ [turnS s w n]) ws).length ≤ _
    refine Nat.le_trans ih ?_
    split
    · simp only [List.length_cons]; omega
    · simp only [List.length_append, List.length_cons, List.length_nil]; omega
theorem addS_at {t : List (List Int)} {k : Sd} {ws : List (List Int)} {n : Nat} (hk : k.at_ < k.seen.length) : pyAt (addS (sdU k) n k.seen ws) (k.at_ : Int) = sdU k := by
  rw [pyAt_nat]
  obtain ⟨v, hv⟩ := addS_old (s := sdU k) (n := n) (ws := ws) (seen := k.seen)
  rw [← hv]
  unfold sdU
  simp only [List.getD_eq_getElem?_getD]
  rw [List.getElem?_append_left hk]
  rfl
theorem addS_step {s : List (List Int)} {n i : Nat} {seen : List (List (List Int))} {F : List (List Int)} (hi : i < F.length) : addS s n seen (F.take (i + 1)) = if turnS s (F.getD i default) n ∈ addS s n seen (F.take i) then addS s n seen (F.take i) else addS s n seen (F.take i) ++ [turnS s (F.getD i default) n] := by
  have e : F.take (i + 1) = F.take i ++ [F.getD i default] := by
    rw [List.take_add_one, List.getElem?_eq_getElem hi, getD_lt hi]
    rfl
  rw [e]
  unfold addS
  rw [List.foldl_append]
  rfl
theorem addS_yes {s : List (List Int)} {n i : Nat} {seen : List (List (List Int))} {F : List (List Int)} (hi : i < F.length) (h : turnS s (F.getD i default) n ∉ addS s n seen (F.take i)) : addS s n seen (F.take i) ++ [turnS s (F.getD i default) n] = addS s n seen (F.take (i + 1)) := by
  rw [addS_step hi, if_neg h]
theorem addS_no {s : List (List Int)} {n i : Nat} {seen : List (List (List Int))} {F : List (List Int)} (hi : i < F.length) (h : turnS s (F.getD i default) n ∈ addS s n seen (F.take i)) : addS s n seen (F.take i) = addS s n seen (F.take (i + 1)) := by
  rw [addS_step hi, if_pos h]
end Th
namespace Th
open PySem L2 DL
theorem sd_good {t : List (List Int)} {k : Sd} (hb : sdBad t k = false) {w : List Int} (hw : w ∈ (sdR t k).getD []) : GoodW w t.length := by
  unfold sdBad at hb
  rw [Bool.or_eq_false_iff] at hb
  cases q : sdR t k with
  | none => rw [q] at hb; cases hb.1
  | some F =>
    rw [q] at hw
    have r := rings_sound (pairs_self t (sdU k)) q w hw
    exact ⟨r.two, r.bd, r.nd⟩
end Th
namespace Th
open PySem L2 DL
section
variable {t h0 : List (List Int)} {things : List Int}
theorem X_some {x : Option (List (List (List Int)))} (h : isN (dO3 x) = false) : x.isSome = true := by cases x with | none => cases h | some _ => rfl
theorem X_none {x : Option (List (List (List Int)))} (h : isN (dO3 x) = true) : x = none := by cases x with | none => rfl | some _ => cases h
theorem X_get {u : List (List Int)} (h : isN (dO3 (sdO t u)) = false) : dO3 (sdO t u) = dl (dl (dl dI)) (sdL t u) := by
  unfold sdL
  cases q : sdO t u with
  | none => rw [q] at h; cases h
  | some F => rfl
theorem fx_okk {i : Nat} (hJ : ∀ k, k < (fxS t h0 things i).length → (sdO t ((fxS t h0 things i).getD k default)).isSome = true) (h : decide ((4 : Int) < ((fxI t (things.getD i default) [] (fxS t h0 things i)).length : Int)) = false) : fxOk t h0 things i = true := by
  unfold fxOk
  rw [Bool.and_eq_true]
  refine ⟨List.all_eq_true.mpr fun u hu => ?_, ?_⟩
  · obtain ⟨k, hk, e⟩ := List.mem_iff_getElem.mp hu
    have := hJ k hk
    rw [getD_lt hk, e] at this
    exact this
  · show (!decide ((4 : Int) < ((fxI t (things.getD i default) [] (fxS t h0 things i)).length : Int))) = true
    rw [h]; rfl
theorem fx_bad1 {i : Nat} {one : List (List Int)} (hi : i < things.length) (ho : one ∈ fxS t h0 things i) (h : sdO t one = none) : fxO t h0 things = none := by
  unfold fxO
  rw [if_neg]
  intro q
  have := List.all_eq_true.mp q i (List.mem_range.mpr hi)
  unfold fxOk at this
  rw [Bool.and_eq_true] at this
  have := List.all_eq_true.mp this.1 one ho
  rw [h] at this
  cases this
theorem fx_bad2 {i : Nat} (hi : i < things.length) (h : decide ((4 : Int) < ((fxI t (things.getD i default) [] (fxS t h0 things i)).length : Int)) = true) : fxO t h0 things = none := by
  unfold fxO
  rw [if_neg]
  intro q
  have := List.all_eq_true.mp q i (List.mem_range.mpr hi)
  unfold fxOk at this
  rw [Bool.and_eq_true] at this
  have e : (!decide ((4 : Int) < ((fxI t (things.getD i default) [] (fxS t h0 things i)).length : Int))) = true := this.2
  rw [h] at e
  cases e
theorem take_g {α : Type} [Inhabited α] {xs : List α} {j : Nat} (hj : j < xs.length) : xs.take (j + 1) = xs.take j ++ [xs.getD j default] := by
  rw [List.take_add_one, List.getElem?_eq_getElem hj, getD_lt hj]
  rfl
theorem fxI_step {x : Int} {acc ss : List (List (List Int))} {j : Nat} (hj : j < ss.length) : fxI t x acc (ss.take (j + 1)) = fxG t x (fxI t x acc (ss.take j)) (sdL t (ss.getD j default)) := by
  rw [take_g hj]
  unfold fxI
  rw [List.foldl_append]
  rfl
theorem fxG_step {x : Int} {acc us : List (List (List Int))} {l : Nat} (hl : l < us.length) : fxG t x acc (us.take (l + 1)) = if gvS t (us.getD l default) x ∈ fxG t x acc (us.take l) then fxG t x acc (us.take l) else fxG t x acc (us.take l) ++ [gvS t (us.getD l default) x] := by
  rw [take_g hl]
  unfold fxG
  rw [List.foldl_append]
  rfl
theorem fxG_yes {x : Int} {acc us : List (List (List Int))} {l : Nat} (hl : l < us.length) (h : gvS t (us.getD l default) x ∉ fxG t x acc (us.take l)) : fxG t x acc (us.take l) ++ [gvS t (us.getD l default) x] = fxG t x acc (us.take (l + 1)) := by rw [fxG_step hl, if_neg h]
theorem fxG_no {x : Int} {acc us : List (List (List Int))} {l : Nat} (hl : l < us.length) (h : gvS t (us.getD l default) x ∈ fxG t x acc (us.take l)) : fxG t x acc (us.take l) = fxG t x acc (us.take (l + 1)) := by rw [fxG_step hl, if_pos h]
theorem sdF_len {F : List (List (List Int))} : ∀ f (k : Sd), sdF t f k = some F → F.length ≤ k.found.length + f
  | 0, k, h => by cases h
  | f + 1, k, h => by
    unfold sdF at h
    split at h
    · split at h
      · cases h
      · have := sdF_len f _ h
        have e : (sdN t k).found.length ≤ k.found.length + 1 := by
          show (if (sdR t k).getD [] = [] then k.found ++ [sdU k] else k.found).length ≤ _
          split
          · rw [List.length_append, List.length_singleton]; omega
          · omega
        omega
    · cases h
      omega
theorem sdL_len (u : List (List Int)) : (sdL t u).length ≤ 14 := by
  unfold sdL
  cases q : sdO t u with
  | none => exact Nat.zero_le _
  | some F =>
    have := sdF_len 14 _ q
    simpa using this
theorem fxG_len {x : Int} {us : List (List (List Int))} : ∀ {acc : List (List (List Int))}, (fxG t x acc us).length ≤ acc.length + us.length := by
  induction us with
  | nil => intro acc; exact Nat.le_refl _
  | cons u us ih =>
    intro acc
    show (fxG t x (if gvS t u x ∈ acc then acc else acc ++ [gvS t u x]) us).length ≤ _
    refine Nat.le_trans ih ?_
    split
    · simp only [List.length_cons]; omega
    · simp only [List.length_append, List.length_cons, List.length_nil]; omega
theorem fxI_len {x : Int} {ss : List (List (List Int))} : ∀ {acc : List (List (List Int))}, (fxI t x acc ss).length ≤ acc.length + 14 * ss.length := by
  induction ss with
  | nil => intro acc; exact Nat.le_refl _
  | cons u us ih =>
    intro acc
    show (fxI t x (fxG t x acc (sdL t u)) us).length ≤ _
    have h1 := fxG_len (t := t) (x := x) (acc := acc) (us := sdL t u)
    have h2 := sdL_len (t := t) u
    refine Nat.le_trans ih ?_
    rw [List.length_cons]
    omega
theorem fxS_len {i : Nat} (h : ∀ k, k < i → fxOk t h0 things k = true) : (fxS t h0 things i).length ≤ 4 := by
  cases i with
  | zero => show 1 ≤ 4; omega
  | succ k =>
    have := h k (by omega)
    unfold fxOk at this
    rw [Bool.and_eq_true] at this
    have e := this.2
    simp at e
    omega
end
end Th
namespace Th
open PySem L2 DL
theorem X_get2 {x : Option (List (List (List Int)))} (h : isN (dO3 x) = false) : dO3 x = dl (dl (dl dI)) (x.getD []) := by cases x with | none => cases h | some _ => rfl
theorem dl_last {t : List (List Int)} {m : Nat} (h : 0 < m) : dl (dl dI) (dlS t m) = dl (dl dI) (gvS t (stO t (dlS t (m - 1))).2 ((m : Int) - 1)) := by
  obtain ⟨k, rfl⟩ : ∃ k, m = k + 1 := ⟨m - 1, by omega⟩
  have e : (((k + 1 : Nat) : Int) - 1) = (k : Int) := by omega
  rw [e]
  rfl
theorem last_out {t : List (List Int)} {m : Nat} (g : GoodT t m) (h : 0 < m) : ((m : Int) - 1) ∉ (stO t (dlS t (m - 1))).2.flatten := fun z => by
  have := rgI_mem.mp ((dl_perm g (m - 1)).1.subset ((st_perm (dl_perm g (m - 1)).2).flatten.subset z))
  omega
theorem fl0 {t : List (List Int)} {m : Nat} (g : GoodT t m) : (dlS t 0).flatten = [] := List.eq_nil_of_length_eq_zero (by rw [(dl_perm g 0).1.length_eq]; rfl)
theorem fx_nd {t : List (List Int)} {m k : Nat} (g : GoodT t m) : ((dlS t 0).flatten ++ rgI k).Nodup := by
  rw [fl0 g]
  exact rgI_nodup k
theorem due_no {t : List (List Int)} {m : Nat} (g : GoodT t m) {i1 i2 : Decidable (dlS t m ∈ (fxO t (dlS t 0) (rgI m)).getD [])} : ¬ ((!isN (dO3 (fxO t (dlS t 0) (rgI m)))) && (!@decide _ i1 || !@decide _ i2)) = true := fun h => by
  rw [Bool.and_eq_true] at h
  cases q : fxO t (dlS t 0) (rgI m) with
  | none => have h1 := h.1; rw [q] at h1; cases h1
  | some F =>
    have hm := fx_ok g (dl_good g 0 (Nat.zero_le _)) (fun x hx => rgI_mem.mp hx) (fx_nd g) q
    rw [rgI_len, dl_putA t m m (Nat.le_refl _)] at hm
    have hm2 : dlS t m ∈ (fxO t (dlS t 0) (rgI m)).getD [] := by rw [q]; exact hm
    have h2 := h.2
    rw [dec_t hm2, dec_t hm2] at h2
    cases h2
end Th

set_option Elab.async false
set_option linter.all false
set_option maxRecDepth 100000
set_option maxHeartbeats 2000000
/-! a, b = a frozen pair -/
namespace DL
open PySem L2
section
variable {X : Cx} {Γ : Gm} {ρ : List Sl} {e : Expr} {pos p : Pos} {kk} {E : En} {rest : List Stmt} {α β : Type} {f : α → D} {f' : β → D} {n1 n2 : Str} {p1 p2 : Pos}
theorem ss_unp2 {q : α × β} (xo : XO X) (j1 j2 : Nat) (he : DE X Γ ρ e .z (d2 f f' q)) (hr : SS X Γ ((ρ.set j1 (.sh (f q.1))).set j2 (.sh (f' q.2))) rest E)
    (hj1 : X.N[j1]? = some n1 := by rfl) (hx1 : Loc X.env.scope n1 := by first | exact .inl rfl | exact .inr rfl) (hf1 : X.fn n1 = true ∨ X.env.scope.names.lookup n1 = some .local := by first | exact .inl rfl | exact .inr rfl)
    (hj2 : X.N[j2]? = some n2 := by rfl) (hx2 : Loc X.env.scope n2 := by first | exact .inl rfl | exact .inr rfl) (hf2 : X.fn n2 = true ∨ X.env.scope.names.lookup n2 = some .local := by first | exact .inl rfl | exact .inr rfl)
    (ha1 : (assignEach [.Name n1 p1, .Name n2 p2] X.env).map (·.2) = assign (.Name n1 p1) X.env :: (assignEach [.Name n2 p2] X.env).map (·.2) := by rfl) (ha2 : (assignEach [.Name n2 p2] X.env).map (·.2) = assign (.Name n2 p2) X.env :: (assignEach [] X.env).map (·.2) := by rfl)
    (hn : (assignEach [.Name n1 p1, .Name n2 p2] X.env).length = 2 := by rfl) (hst : (assignEach [.Name n1 p1, .Name n2 p2] X.env).findIdx? (·.1) = none := by rfl)
    (hs : swapsWithSole [.Tuple [.Name n1 p1, .Name n2 p2] kk p] e pos.line X.env = pure false := by rfl) (hw : swappedStores [.Tuple [.Name n1 p1, .Name n2 p2] kk p] e X.env = pure none := by rfl)
    (h1 : (assignEach [.Tuple [.Name n1 p1, .Name n2 p2] kk p] X.env).map (·.2) = [assign (.Tuple [.Name n1 p1, .Name n2 p2] kk p) X.env] := by rfl) :
    SS X Γ ρ (.Assign [.Tuple [.Name n1 p1, .Name n2 p2] kk p] e pos :: rest) E :=
  ss_cons (M := fun ρ2 => ρ2 = (ρ.set j1 (.sh (f q.1))).set j2 (.sh (f' q.2))) ((ps_asg he (pg_tup xo.calm (pgs_cons (pg_name xo.nd hj1 hx1 hf1) (pgs_cons (pg_name xo.nd hj2 hx2 hf2) pgs_nil ha2) ha1) hn hst) hs hw h1).weak fun D σ H ⟨G, S, k⟩ =>
    ⟨G, S, fun v G2 H2 s2 e2 r => by
      have r' : Rep G2 v (.tuple [f q.1, f' q.2]) := r
      cases r' with
      | @tup a xs _ ht r =>
        cases r with
        | cons r1 r =>
          cases r with
          | cons r2 r =>
            cases r
            have S2 := S.more s2 e2
            exact ⟨a, _, rfl, SqT.of (e2 _ _ ht), rfl, _, _, rfl, _, _, rfl, rfl, k.nx _ _ G2 H2 rfl ((S2.store (Step.refl _ _) S2.sub (.sh r1) List.nodup_nil fun _ z => by cases z).store (Step.refl _ _) S2.sub (.sh r2) List.nodup_nil fun _ z => by cases z) s2.g⟩⟩) fun ρ2 e => e ▸ hr
end
end DL

set_option Elab.async false
set_option linter.all false
set_option maxRecDepth 100000
set_option maxHeartbeats 2000000
/-! tuples that are data: len, list, a slice -/
namespace DL
open PySem L2
section
variable {X : Cx} {Γ : Gm} {ρ : List Sl} {a : Expr} {lo hi : Option Expr} {pos p p2 : Pos} {κ : Kd} {ds : List D} {l u : Option Int}
theorem dv_lenTup (ha : DE X Γ ρ a κ (.tuple ds)) (hm : X.mg "len" = none) (hg : Gl X "len" := by rfl) (he : starEach [a] X.env = (false, eval a X.env) :: starEach [] X.env := by rfl) (hpl : (backTo pos (starEach [] X.env)).any (·.1) = false := by rfl) : DV X Γ ρ (.Call (.Name "len" p) [a] [] pos) (.int (ds.length : Int)) :=
  cb1 (pe_callB call_len_seq hg hm boot_len (pa_cons ha pa_nil he) (by decide) (by decide) he hpl) fun σ G H G1 H1 v Q S s1 e1 q k => by
    obtain ⟨t, xs, ev, ht, r⟩ := (pK_c S s1 e1 q).t
    exact ⟨t, xs, by rw [ev], .inr (SqT.of ht), by rw [r.len]; exact k _ G1 H1 (Step.refl _ _) e1 rfl⟩
theorem do_listTup {ns : List Int} (ha : DE X Γ ρ a κ (.tuple (ns.map dI))) (hm : X.mg "list" = none) (hg : Gl X "list" := by rfl) (he : starEach [a] X.env = (false, eval a X.env) :: starEach [] X.env := by rfl) (hpl : (backTo pos (starEach [] X.env)).any (·.1) = false := by rfl) : DO X Γ ρ (.Call (.Name "list" p) [a] [] pos) (tl tI ns) :=
  cb1 (pe_callTy call_list_of hg hm PyProof.Rows.boot_list (pa_cons ha pa_nil he) (by decide) (by decide) he hpl) fun σ G H G1 H1 v Q S s1 e1 q k => by
    obtain ⟨t, xs, ev, ht, r⟩ := (pK_c S s1 e1 q).t
    have e := r.ints
    subst e
    exact ⟨t, _, by rw [ev], .inr (SqT.of ht), fun q hq => do_new e1 hq H s1.h k⟩
/-- a slice that is not the whole -/
theorem de_slTup (ha : DE X Γ ρ a .z (.tuple ds)) (hl : DOx X Γ ρ lo l) (hu : DOx X Γ ρ hi u) (hn : ¬ (HT.sIx ds.length 0 l = 0 ∧ HT.sIx ds.length ds.length u = ds.length)) : DE X Γ ρ (.Subscript a (.Slice lo hi none p2) pos) .z (.tuple (pySl ds l u)) :=
  slW (pe_slice sl_tup ha hl hu) fun σ G H G1 H1 G2 H2 v Q S s1 e1 p1 s2 e2 k => by
    obtain ⟨q1, vs, rfl, h1, r1⟩ := (Rep.mono s2.g p1).t
    refine ⟨q1, vs, rfl, SqT.of (e2 _ _ h1), by rw [r1.len]; exact hn, fun q hq => ?_⟩
    rw [cut_pySl]
    have r : Reps G2 (pySl vs l u) (pySl ds l u) := r1.sl
    exact frzNew (P := fun _ G3 _ w => Rep G3 w (.tuple (pySl ds l u))) e2 hq (Step.refl _ _) (fun w G3 H3 s3 e3 z => k w G3 H3 s3 e3 z) (.tup upd_same (Reps.mono (Ex.new (e2.none hq)) r))
end
section
variable {X : Cx} {Γ : Gm} {ρ : List Sl} {a b : Expr} {pos : Pos} {κ κ' : Kd} {d d' : D}
/-- != of two data, deep -/
theorem dt_neG (hu : X.A.units + 64 < cLine) (ha : DE X Γ ρ a κ d) (hb : DE X Γ ρ b κ' d') (l1 : PyData.canLay0 d = true) (l2 : PyData.canLay0 d' = true) (s1 : SeqAt.shaped d = true) (s2 : SeqAt.shaped d' = true) : DT X Γ ρ (.Compare a [.NotEq] [b] pos) (!PyData.eqv d d') :=
  binT_weak (pt_cmpR (op_neD hu) ha hb (nomark _)) fun σ G H G1 H1 G2 H2 v u Q S t1 e1 p1 t2 e2 p2 k => by
    have q1 := Rep.mono t2.h (pK_c S t1 e1 p1)
    have q2 := pK_c (S.more t1 e1) t2 e2 p2
    exact ⟨_, _, rep_dp q1 l1, rep_dp q2 l2, s1, s2, k _ G2 H2 (Step.refl _ _) e2 rfl⟩
end
end DL

set_option Elab.async false
set_option linter.all false
set_option maxRecDepth 100000
set_option maxHeartbeats 2000000
/-! sorted of a list of data (lists of ints), as one list -/
namespace L2
open PySem PySem.Spec PyProof.Rows
def rSortedD (K : PySem.W.Frag) : List V → Hp → VK → Prop := fun vs H Q => ∃ (a : Addr) (zs : List (V × PyData)), vs = [V.ref a] ∧ SqL K H a (zs.map Prod.fst) ∧ (∀ z ∈ zs, Dp K H z.1 z.2) ∧ PySem.W.AllAlike (zs.map Prod.snd) ∧ PySem.W.Sortable (zs.map Prod.snd) ∧ (∀ z ∈ zs, z.2.depth ≤ 60) ∧
  ∀ p, H p = none → Q (.ref p) (upd H p (.lst ((zs.mergeSort (PySem.W.dataLe false Prod.snd)).map Prod.fst)))
theorem each_vals : ∀ {zs : List (V × PyData)} {us : List Value}, Vals (zs.map Prod.fst) us → PySem.W.EachIs (fun v (z : V × PyData) => RelV z.1 v) us zs
  | [], _, h => by cases h; exact .nil
  | z :: zs, _, h => by
    cases h with
    | cons a b => exact .cons a (each_vals b)
theorem vals_each : ∀ {zs : List (V × PyData)} {us : List Value}, PySem.W.EachIs (fun v (z : V × PyData) => RelV z.1 v) us zs → Vals (zs.map Prod.fst) us
  | _, _, .nil => .nil
  | _, _, .cons a b => .cons a (vals_each b)
theorem cr_sortedD {X : Cx} (hu : X.A.units + 64 < cLine) : CallR X (.builtin "sorted") (rSortedD X.K) := by
  intro pins s σ H vs us Q I r h
  obtain ⟨a, zs, rfl, hs, hd, al, so, dp, q⟩ := h
  obtain ⟨its, rv, hl, hz⟩ := I.list hs
  rw [Vals.ref1 r]
  have e := each_vals rv
  have er : PySem.W.EachIs (fun v (z : V × PyData) => ∃ as, Reads s.heap v z.2 as) its zs := (PySem.W.each_mem e).mono fun v z ⟨r, hz⟩ => Dp.reads I z.2 z.1 v (hd z hz) r
  rw [List.length_map] at hz
  refine PySem.W.sorted_data (enc := Prod.snd) hl.isList e er al so hz (fun z hz => ?_) fun out h1 h2 => ?_
  · have := dp z hz
    omega
  · obtain ⟨ep, he'⟩ := PyProof.Rows.sortedAll_at s.heap its out.toArray
    have hlen : ((zs.mergeSort (PySem.W.dataLe false Prod.snd)).map Prod.fst).length ≤ sizeLine := by
      rw [List.length_map, List.length_mergeSort]
      exact hz
    exact ⟨.ref _, upd H (s.heap.objs.size + 1) (.lst ((zs.mergeSort (PySem.W.dataLe false Prod.snd)).map Prod.fst)), I.laid (t' := s.toks) (fun _ _ => PyProof.Rows.sortedAll_old) (Nat.le_succ _) ⟨hlen, out, ep, vals_each h2, he'⟩, rfl, q _ (I.hok.fresh (Nat.le_succ _))⟩
end L2
namespace DL
open PySem L2
def sortF {α : Type} (f : α → D) (xs : List α) : List α := xs.mergeSort (PySem.W.dataLe false f)
theorem Reps.zip {H : Hp} : ∀ {vs : List V} {ds : List D}, Reps H vs ds → ∀ z ∈ vs.zip ds, Rep H z.1 z.2
  | _, _, .nil, z, hz => by cases hz
  | _, _, .cons h r, z, hz => by
    rw [List.zip_cons_cons] at hz
    rcases List.mem_cons.mp hz with e | hz
    · subst e; exact h
    · exact Reps.zip r z hz
theorem reps_of {H : Hp} : ∀ {zs : List (V × D)}, (∀ z ∈ zs, Rep H z.1 z.2) → Reps H (zs.map Prod.fst) (zs.map Prod.snd)
  | [], _ => .nil
  | z :: zs, h => .cons (h z List.mem_cons_self) (reps_of fun y hy => h y (List.mem_cons_of_mem _ hy))
section
variable {X : Cx} {Γ : Gm} {ρ : List Sl} {a : Expr} {pos p : Pos} {κ : Kd} {α : Type} {f : α → D}
theorem do_sortedF {xs : List α} (xo : XO X) (ha : DE X Γ ρ a .z (dl f xs)) (al : ∀ x y, PySem.W.alike (f x) (f y) = true) (nn : ∀ x, f x ≠ .none ∧ ∀ ys, f x ≠ .tuple ys) (dp : ∀ x, (f x).depth ≤ 60) (lay : ∀ x, (f x).canLay0 = true) (hm : X.mg "sorted" = none) (hg : Gl X "sorted" := by rfl) (he : starEach [a] X.env = (false, eval a X.env) :: starEach [] X.env := by rfl) (hpl : (backTo pos (starEach [] X.env)).any (·.1) = false := by rfl) :
    DO X Γ ρ (.Call (.Name "sorted" p) [a] [] pos) (tl (tF f) (sortF f xs)) :=
  cb1 (pe_callB (cr_sortedD xo.hu64) hg hm PyProof.Rows.boot_sorted (pa_cons ha pa_nil he) (by decide) (by decide) he hpl) fun σ G H G1 H1 v Q S s1 e1 q k => by
    obtain ⟨a, vs, rfl, h, r⟩ := Rep.l q
    have ln := r.len
    have e1' : (vs.zip (xs.map f)).map Prod.fst = vs := List.map_fst_zip (by omega)
    have e2' : (vs.zip (xs.map f)).map Prod.snd = xs.map f := List.map_snd_zip (by omega)
    have hz : ∀ z ∈ vs.zip (xs.map f), Rep G1 z.1 z.2 ∧ ∃ x, z.2 = f x := fun z hz => by
      refine ⟨r.zip z hz, ?_⟩
      have : z.2 ∈ xs.map f := by rw [← e2']; exact List.mem_map.mpr ⟨z, hz, rfl⟩
      obtain ⟨x, _, e⟩ := List.mem_map.mp this
      exact ⟨x, e.symm⟩
    refine ⟨a, vs.zip (xs.map f), rfl, by rw [e1']; exact SqL.of (e1 _ _ h), fun z h9 => ?_, ?_, ?_, fun z h9 => ?_, fun q hq => ?_⟩
    · obtain ⟨rz, x, ex⟩ := hz z h9
      exact rep_dp (Rep.mono e1 rz) (by rw [ex]; exact lay x)
    · rw [e2']; exact PySem.W.AllAlike.of al
    · rw [e2']; exact PySem.W.Sortable.others nn
    · obtain ⟨rz, x, ex⟩ := hz z h9
      rw [ex]; exact dp x
    · have rr : Reps G1 (((vs.zip (xs.map f)).mergeSort (PySem.W.dataLe false Prod.snd)).map Prod.fst) (((vs.zip (xs.map f)).mergeSort (PySem.W.dataLe false Prod.snd)).map Prod.snd) := reps_of fun z hz9 => (hz z (List.mem_mergeSort.mp hz9)).1
      have e3 : ((vs.zip (xs.map f)).mergeSort (PySem.W.dataLe false Prod.snd)).map Prod.snd = (sortF f xs).map f := by
        rw [PySem.W.sort_maps (r := PySem.W.dataLe false (Prod.snd : V × D → D)) (s := PySem.W.dataLe false (id : D → D)) Prod.snd fun _ _ _ _ => rfl, e2']
        exact (PySem.W.sort_maps (r := PySem.W.dataLe false f) f fun _ _ _ _ => rfl).symm
      rw [e3] at rr
      exact newF e1 hq H s1.h rr (by rw [tF_map]; exact k)
end
theorem alike_L (x y : List Int) : PySem.W.alike (dl dI x) (dl dI y) = true := by
  show PySem.W.alike (.list _) (.list _) = true
  simp only [PySem.W.alike]
  exact PySem.W.alike_ints x y
section
variable {X : Cx} {Γ : Gm} {ρ : List Sl} {a : Expr} {pos p : Pos} {κ : Kd}
theorem do_sortedLL {xs : List (List Int)} (xo : XO X) (ha : DE X Γ ρ a .z (dl (dl dI) xs)) (hm : X.mg "sorted" = none) (hg : Gl X "sorted" := by rfl) (he : starEach [a] X.env = (false, eval a X.env) :: starEach [] X.env := by rfl) (hpl : (backTo pos (starEach [] X.env)).any (·.1) = false := by rfl) :
    DO X Γ ρ (.Call (.Name "sorted" p) [a] [] pos) (tl (tF (dl dI)) (sortF (dl dI) xs)) :=
  do_sortedF xo ha alike_L (fun x => ⟨(fun z => nomatch z), fun ys z => nomatch z⟩) (fun x => by
    have := depAll (f := dI) (n := 0) (fun _ => by simp [PyData.depth]) x
    show PyData.depth (.list (x.map dI)) ≤ 60
    simp only [PyData.depth]
    omega) (fun x => by
    show PyData.canLay0 (.list (x.map dI)) = true
    simp only [PyData.canLay0]
    exact layAll (fun _ => by simp [PyData.canLay0]) x) hm hg he hpl
end
theorem sorted_uniqR {α : Type} {le : α → α → Bool} (an : ∀ a b, le a b = true → le b a = true → a = b) : ∀ {xs ys : List α}, xs.Perm ys → xs.Pairwise (fun a b => le a b = true) → ys.Pairwise (fun a b => le a b = true) → xs = ys
  | [], ys, p, _, _ => (List.Perm.nil_eq p)
  | x :: xs, [], p, _, _ => absurd p.length_eq (by simp)
  | x :: xs, y :: ys, p, h1, h2 => by
    have e : x = y := by
      rcases List.mem_cons.mp (p.subset List.mem_cons_self) with e | hx
      · exact e
      · rcases List.mem_cons.mp (p.symm.subset (List.mem_cons_self (a := y) (l := ys))) with e | hy
        · exact e.symm
        · exact an _ _ ((List.pairwise_cons.mp h1).1 y hy) ((List.pairwise_cons.mp h2).1 x hx)
    subst e
    rw [sorted_uniqR an (List.Perm.cons_inv p) (List.pairwise_cons.mp h1).2 (List.pairwise_cons.mp h2).2]
theorem sortF_LL {xs ys : List (List Int)} (p : xs.Perm ys) : sortF (dl dI) xs = sortF (dl dI) ys := by
  have e : PySem.W.dataLe false (dl dI) = fun p q : List Int => decide (p ≤ q) := PySem.W.dataLe_rows (fun x : List Int => x)
  have tot := PySem.W.sortLe_total (PyProof.Rows.listOrd PyProof.Rows.itemOrd) false (fun b : List Int => PySem.W.keyToks (dl dI b))
  unfold sortF
  refine sorted_uniqR (le := PySem.W.dataLe false (dl dI)) (fun a b h1 h2 => ?_) ((List.mergeSort_perm _ _).trans (p.trans (List.mergeSort_perm _ _).symm)) (PySem.W.sort_pairwise tot _) (PySem.W.sort_pairwise tot _)
  rw [e] at h1 h2
  exact List.le_antisymm (of_decide_eq_true h1) (of_decide_eq_true h2)
/-! a def whose answer is owned and holds plain values alone: its arguments are as good as frozen -/
mutual
def scT : OT → Bool
  | .fz d => (dV d).isSome
  | .cell ts => scTs ts
def scTs : List OT → Bool
  | [] => true
  | t :: ts => scT t && scTs ts
end
theorem scTs_map {α : Type} {g : α → OT} (h : ∀ x, scT (g x) = true) : ∀ xs : List α, scTs (xs.map g) = true
  | [] => by simp [scTs]
  | x :: xs => by simp [scTs, h x, scTs_map h xs]
theorem scT_tl {α : Type} {g : α → OT} (h : ∀ x, scT (g x) = true) (xs : List α) : scT (tl g xs) = true := by
  unfold tl scT
  exact scTs_map h xs
theorem scT_I (i : Int) : scT (tI i) = true := by unfold tI scT; rfl
theorem scT_L (xs : List Int) : scT (tl tI xs) = true := scT_tl scT_I xs
theorem scT_LL (xs : List (List Int)) : scT (tl (tl tI) xs) = true := scT_tl scT_L xs
section
variable {G G2 H : Hp}
mutual
theorem OwnT.rebase : ∀ {t : OT} {v : V} {A : List Addr}, OwnT G H t v A → scT t = true → (∀ a ∈ A, G2 a = none) → OwnT G2 H t v A
  | _, _, _, .fz h, q, _ => by
    unfold scT at q
    obtain ⟨x, hx⟩ := Option.isSome_iff_exists.mp q
    exact .fz (rep_sc hx h)
  | _, _, _, .cell hg hh r, q, k => by
    unfold scT at q
    exact .cell (k _ List.mem_cons_self) hh (OwnTs.rebase r q fun b hb => k b (List.mem_cons_of_mem _ hb))
theorem OwnTs.rebase : ∀ {t : List OT} {v : List V} {A : List Addr}, OwnTs G H t v A → scTs t = true → (∀ a ∈ A, G2 a = none) → OwnTs G2 H t v A
  | _, _, _, .nil, _, _ => .nil
  | _, _, _, .cons h r, q, k => by
    unfold scTs at q
    rw [Bool.and_eq_true] at q
    exact .cons (OwnT.rebase h q.1 fun b hb => k b (List.mem_append_left _ hb)) (OwnTs.rebase r q.2 fun b hb => k b (List.mem_append_right _ hb))
end
end
section
variable {P : Program} {w : World} {K : Fg} {mg : Str → Option Value} {base : Heap}
theorem ok_defO {x qual : Str} {st : Stmt} {f : Addr} {fd : FuncData} {N ps : List Str} {k m : Nat} {ss : List Sl} {t : OT} (hsc : scT t = true) (F : Fun K x qual st f fd) (S : FnScope N ps (defScope st)) (hl : ss.length = ps.length) (hm : N.length - ps.length = m) (ha : ss.all argOk = true)
    (hbody : ∀ (cdv : Value) (A : Around) (outer : List Env) (s : Shared) (H : Hp) (E : XK), Room k (A.deeper (PyProof.Rows.envOfC qual (defScope st) s.heap.objs.size f cdv)) →
      XO (cxOf (L2.CX P w) P w K mg base N qual (defScope st) f cdv A outer s H E) →
      PassesOwn (model P w) (A.deeper (PyProof.Rows.envOfC qual (defScope st) s.heap.objs.size f cdv)) (PyProof.Rows.envOfC qual (defScope st) s.heap.objs.size f cdv) (cxOf (L2.CX P w) P w K mg base N qual (defScope st) f cdv A outer s H E).xe →
      SS (cxOf (L2.CX P w) P w K mg base N qual (defScope st) f cdv A outer s H E) ⟨K, H, H⟩ (ss.map DL.tz ++ List.replicate m .un) (defBody st) { nx := fun _ => False, rt := fun t' _ => Oc.ret t = .ret t' }) :
    FnOk P w K mg base (L2.CX P w) (k + 1) f fd ps (sp1 K ss (.ret t)) := by
  have len : ∀ vs H Q E, sp1 K ss (.ret t) vs H Q E → vs.length = ps.length := fun vs H Q E ⟨G, _, r, _⟩ => by rw [slr_len r, hl]
  refine F.okX S len (fun cdv A outer s H vs Q E hr h => ?_)
  have hv := len _ _ _ _ h
  have xo : XO (cxOf (L2.CX P w) P w K mg base N qual (defScope st) f cdv A outer s H E) := ⟨rfl, S.nd, by have := hr.un; show (A.deeper (PyProof.Rows.envOfC qual (defScope st) s.heap.objs.size f cdv)).units + 65 < cLine; omega⟩
  have hp : PassesOwn (model P w) (A.deeper (PyProof.Rows.envOfC qual (defScope st) s.heap.objs.size f cdv)) (PyProof.Rows.envOfC qual (defScope st) s.heap.objs.size f cdv) (cxOf (L2.CX P w) P w K mg base N qual (defScope st) f cdv A outer s H E).xe := passes_of (X := cxOf (L2.CX P w) P w K mg base N qual (defScope st) f cdv A outer s H E) rfl
  obtain ⟨G, eg, r, kk⟩ := h
  refine ⟨_, hbody cdv A outer s H E hr xo hp, H, ⟨⟨Ex.refl _, Ex.refl _, fun _ _ e _ => e⟩, Ex.refl _, [], slr_start (SlR.tz eg r ha) (by rw [hv, hm]), List.nodup_nil, fun _ z => by cases z⟩, ?_⟩
  refine ⟨fun _ _ _ _ z => z.elim, fun _ _ _ _ z => z.elim, fun _ _ _ _ z => z.elim, fun t' _ _ v G' H' A' e st' ex o nd f' _ => ?_⟩
  cases e
  exact kk v G H' A' ⟨Ex.refl _, st'.h, fun _ _ g _ => g⟩ (eg.trans st'.h) (o.rebase hsc fun a ha => eg.none (f' a ha)) nd f'
end
end DL

set_option Elab.async false
set_option linter.all false
set_option maxRecDepth 100000
set_option maxHeartbeats 2000000
/-! objects with fields; things lent to a def, which may change them -/
namespace DL
open PySem L2
/-! ### fields -/
theorem FRep.get {G : Hp} : ∀ {fv : List (Str × V)} {fs : List (Str × D)} {f : Str} {d : D}, FRep G fv fs → fs.lookup f = some d → ∃ v, fv.lookup f = some v ∧ Rep G v d
  | _, _, _, _, .nil, e => by cases e
  | _, _, f, d, .cons (f := g) (v := v) (d := d') h r, e => by
    rw [List.lookup_cons] at e
    rw [List.lookup_cons]
    cases q : f == g with
    | true =>
      rw [q] at e
      exact ⟨v, rfl, Option.some.inj e ▸ h⟩
    | false =>
      rw [q] at e
      exact FRep.get r e
theorem FRep.no {G : Hp} : ∀ {fv : List (Str × V)} {fs : List (Str × D)} {f : Str}, FRep G fv fs → fs.lookup f = none → fv.lookup f = none
  | _, _, _, .nil, _ => rfl
  | _, _, f, .cons (f := g) h r, e => by
    rw [List.lookup_cons] at e
    rw [List.lookup_cons]
    cases q : f == g with
    | true => rw [q] at e; cases e
    | false =>
      rw [q] at e
      exact FRep.no r e
theorem FRep.len {G : Hp} : ∀ {fv : List (Str × V)} {fs : List (Str × D)}, FRep G fv fs → fv.length = fs.length
  | _, _, .nil => rfl
  | _, _, .cons _ r => by simp [FRep.len r]
def putD (f : Str) (d : D) : List (Str × D) → List (Str × D)
  | [] => [(f, d)]
  | (k, x) :: r => if k = f then (k, d) :: r else (k, x) :: putD f d r
theorem FRep.put {G : Hp} {f : Str} {v : V} {d : D} (h : Rep G v d) : ∀ {fv : List (Str × V)} {fs : List (Str × D)}, FRep G fv fs → FRep G (putF f v fv) (putD f d fs)
  | _, _, .nil => .cons h .nil
  | _, _, .cons (f := g) (v := w) (fv := fv) h' r => by
    show FRep G (if g = f then (g, v) :: fv else (g, w) :: putF f v fv) (putD f d (_ :: _))
    unfold putD
    by_cases q : g = f
    · rw [if_pos q, if_pos q]; exact .cons h r
    · rw [if_neg q, if_neg q]; exact .cons h' (FRep.put h r)
/-! ### a slot told otherwise -/
section
variable {Γ : Gm} {G H G2 H2 : Hp} {σ : L2.St} {ρ : List Sl} {i : Nat} {s s' : Sl} {a C : Addr} {fs : List (Str × D)} {t : OT}
theorem set_self {α : Type} {xs : List α} {i : Nat} {x : α} (h : xs[i]? = some x) : xs.set i x = xs := by
  obtain ⟨hi, e⟩ := List.getElem?_eq_some_iff.mp h
  rw [← e]
  simp
theorem Sr.reslot (S : Sr Γ G H σ ρ) (h : ρ[i]? = some s) (q : ∀ o B, σ[i]? = some o → SlS Γ.K Γ.H G H o s B → SlS Γ.K Γ.H G H o s' B) : Sr Γ G H σ (ρ.set i s') := by
  obtain ⟨A, r, nd, f⟩ := S.sl
  obtain ⟨o, A1, B, A2, h1, h2, e, h4⟩ := r.focus h
  have := h4 G H o s' B (Ex.refl _) (fun _ _ g => g) (fun _ _ => rfl) (q o B h1 h2)
  rw [set_self h1] at this
  exact ⟨S.step, S.sub, _, this, e ▸ nd, fun b hb => f b (by rw [e]; exact hb)⟩
theorem Sr.unname (S : Sr Γ G H σ ρ) (h : ρ[i]? = some (.oa a t)) : Sr Γ G H σ (ρ.set i (.ow t)) := S.reslot h fun o B _ q => by
  cases q with
  | oa z => exact .ow z
theorem Sr.name (S : Sr Γ G H σ ρ) (h : ρ[i]? = some (.ow t)) (hσ : σ[i]? = some (some (.ref a))) : Sr Γ G H σ (ρ.set i (.oa a t)) := S.reslot h fun o B ho q => by
  rw [hσ] at ho
  cases ho
  cases q with
  | ow z => exact .oa z
/-- an object's fields are changed -/
theorem Sr.updOb (S : Sr Γ G H σ ρ) (h : ρ[i]? = some (.ob a C fs)) : ∃ dx fv, σ[i]? = some (some (.ref a)) ∧ H a = some (.ins C dx fv) ∧ FRep G fv fs ∧ G a = none ∧
    ∀ (fv' : List (Str × V)) (fs' : List (Str × D)), FRep G fv' fs' → Sr Γ G (upd H a (.ins C dx fv')) σ (ρ.set i (.ob a C fs')) := by
  obtain ⟨A, r, nd, f⟩ := S.sl
  obtain ⟨o, A1, B, A2, h1, h2, e, h4⟩ := r.focus h
  subst e
  cases h2 with
  | @ob _ dx _ fv _ hg hh fr =>
    have aΓ : Γ.H a = none := f a (by simp)
    obtain ⟨_, dB⟩ := nd_mid nd
    have aO : a ∉ A1 ++ A2 := dB a (List.mem_singleton.mpr rfl)
    refine ⟨dx, fv, h1, hh, fr, hg, fun fv' fs' fr' => ?_⟩
    have := h4 G (upd H a (.ins C dx fv')) (some (.ref a)) (.ob a C fs') [a] (Ex.refl _) (fun _ _ g => g) (fun b hb => upd_ne fun z => aO (z ▸ hb)) (.ob hg upd_same fr')
    rw [set_self h1] at this
    exact ⟨⟨S.step.g, S.step.h.mut aΓ, fun b u g1 g2 => S.step.f b u g1 g2⟩, S.sub.mut hg, _, this, nd, f⟩
inductive ObS : Sl → Addr → List (Str × D) → Prop
  | ob {a C : Addr} {fs : List (Str × D)} : ObS (.ob a C fs) C fs
  | rb {C : Addr} {fs : List (Str × D)} : ObS (.rb C fs) C fs
theorem Sr.obAt (S : Sr Γ G H σ ρ) (h : ρ[i]? = some s) (o : ObS s C fs) : ∃ a dx fv, σ[i]? = some (some (.ref a)) ∧ H a = some (.ins C dx fv) ∧ FRep H fv fs := by
  obtain ⟨x, B, h1, h2⟩ := S.slot h
  cases o with
  | ob =>
    cases h2 with
    | ob hg hh fr => exact ⟨_, _, _, h1, hh, fr.mono S.sub⟩
  | rb =>
    cases h2 with
    | rb hh fr => exact ⟨_, _, _, h1, S.step.h _ _ hh, fr.mono S.step.h⟩
end
/-! ### fields read and stored -/
section
variable {X : Cx} {Γ : Gm} {ρ : List Sl} {e : Expr} {pos p pos' : Pos} {d : D} {E : En} {rest : List Stmt} {n f : Str} {s : Sl} {a C : Addr} {fs : List (Str × D)} {t t' : OT} {σ : L2.St} {G H : Hp}
theorem de_obf (i : Nat) (h : ρ[i]? = some (.ob a C fs)) (c : Cls X.K C) (nf : NoAttr X.K C f) (hf : fs.lookup f = some d) (hN : X.N[i]? = some n := by rfl) (hv : Vis X.env.scope n := by first | exact Or.inl rfl | exact Or.inr (Or.inl rfl) | exact Or.inr (Or.inr rfl)) (hd : (n == ("__debug__" : Str)) = false := by decide) (hcd : (n == ("__classdict__" : Str)) = false := by decide)
    (hb : attributeBase (.Name n p) f X.env (eval (.Name n p) X.env) = eval (.Name n p) X.env := by rfl) : DE X Γ ρ (.Attribute (.Name n p) f pos) .z d :=
  (pe_fld (pe_var hN hv hd hcd) hb).weak fun σ H Q ⟨G, S, k⟩ => by
    obtain ⟨dx, fv, h1, hh, fr, _⟩ := S.updOb h
    obtain ⟨v, l, r⟩ := fr.get hf
    exact ⟨_, h1, a, C, dx, fv, v, rfl, hh, c, nf, l, k v G H (Step.refl _ _) S.sub r⟩
theorem de_rbf (i : Nat) (h : ρ[i]? = some (.rb C fs)) (c : Cls X.K C) (nf : NoAttr X.K C f) (hf : fs.lookup f = some d) (hN : X.N[i]? = some n := by rfl) (hv : Vis X.env.scope n := by first | exact Or.inl rfl | exact Or.inr (Or.inl rfl) | exact Or.inr (Or.inr rfl)) (hd : (n == ("__debug__" : Str)) = false := by decide) (hcd : (n == ("__classdict__" : Str)) = false := by decide)
    (hb : attributeBase (.Name n p) f X.env (eval (.Name n p) X.env) = eval (.Name n p) X.env := by rfl) : DE X Γ ρ (.Attribute (.Name n p) f pos) .r d :=
  (pe_fld (pe_var hN hv hd hcd) hb).weak fun σ H Q ⟨G, S, k⟩ => by
    obtain ⟨x, B, h1, h2⟩ := S.slot h
    cases h2 with
    | @rb a dx _ fv _ hh fr =>
      obtain ⟨v, l, r⟩ := fr.get hf
      exact ⟨_, h1, a, C, dx, fv, v, rfl, S.step.h _ _ hh, c, nf, l, k v G H (Step.refl _ _) S.sub r⟩
theorem ss_fld (i : Nat) (h : ρ[i]? = some (.ob a C fs)) (c : Cls X.K C) (nf : NoAttr X.K C f) (he : DE X Γ ρ e .z d) (hl : fs.length < 1000) (hr : SS X Γ (ρ.set i (.ob a C (putD f d fs))) rest E) (hN : X.N[i]? = some n := by rfl) (hv : Vis X.env.scope n := by first | exact Or.inl rfl | exact Or.inr (Or.inl rfl) | exact Or.inr (Or.inr rfl)) (hd : (n == ("__debug__" : Str)) = false := by decide) (hcd : (n == ("__classdict__" : Str)) = false := by decide)
    (hs : swapsWith e (some (.Attribute (.Name n p) f pos')) pos.line X.env = pure false := by rfl) : SS X Γ ρ (.Assign [.Attribute (.Name n p) f pos'] e pos :: rest) E :=
  ss_cons (M := fun ρ2 => ρ2 = ρ.set i (.ob a C (putD f d fs))) ((ps_fld (pe_var hN hv hd hcd) he hs).weak fun D σ H ⟨G, S, k⟩ => ⟨G, S, fun v G2 H2 st ex r => by
    obtain ⟨dx, fv, h1, hh, fr, _, up⟩ := (S.more st ex).updOb h
    exact ⟨.ref a, h1, a, C, dx, fv, rfl, hh, c, nf, by rw [fr.len]; exact hl, k.nx _ _ G2 _ rfl (up _ _ (FRep.put r fr)) st.g⟩⟩) fun ρ2 e => e ▸ hr
/-- a list that a name owns, by its place -/
theorem pss_all {α : Type} {ts : α → TS} {sts : List Stmt} (h : ∀ a, PSs X sts (ts a)) : PSs X sts (fun D σ H => ∃ a, ts a D σ H) := ⟨fun pins s σ H D I ⟨a, q⟩ => (h a).run pins s σ H D I q⟩
theorem ss_name (i : Nat) {ts : List OT} (h : ρ[i]? = some (.ow (.cell ts))) (hr : ∀ a, SS X Γ (ρ.set i (.oa a (.cell ts))) rest E) : SS X Γ ρ rest E := (pss_all hr).weak fun D σ H ⟨G, S, k⟩ => by
  obtain ⟨o, B, h1, h2⟩ := S.slot h
  cases h2 with
  | ow q =>
    cases q with
    | @cell _ a vs A hg hh r => exact ⟨a, G, S.name h h1, k⟩
theorem ss_unname (i : Nat) (h : ρ[i]? = some (.oa a t)) (hr : SS X Γ (ρ.set i (.ow t)) rest E) : SS X Γ ρ rest E := hr.weak fun D σ H ⟨G, S, k⟩ => ⟨G, S.unname h, k⟩
end
section
variable {X : Cx} {Γ : Gm} {ρ : List Sl} {e : Expr} {pos p cpos apos : Pos} {E : En} {rest : List Stmt} {n : Str} {a : Addr} {ts : List OT} {t' : OT}
theorem ss_appA (i : Nat) (h : ρ[i]? = some (.oa a (.cell ts))) (he : DO X Γ ρ e t') (hl : ts.length < sizeLine) (hr : SS X Γ (ρ.set i (.oa a (.cell (ts ++ [t'])))) rest E)
    (hN : X.N[i]? = some n := by rfl) (hv : Vis X.env.scope n := by first | exact Or.inl rfl | exact Or.inr (Or.inl rfl) | exact Or.inr (Or.inr rfl)) (hd : (n == ("__debug__" : Str)) = false := by decide) (hcd : (n == ("__classdict__" : Str)) = false := by decide)
    (hbase : attributeBase (.Name n p) "append" X.env (eval (.Name n p) X.env) = eval (.Name n p) X.env := by rfl)
    (hfew : ((backTo cpos (starEach [e] X.env)).all (fun x => !x.1) && (backToKw cpos (keywordEach [] X.env)).all (fun x => x.1.isSome) && decide (([e] : List Expr).length + ([] : List Keyword).length + (if ([] : List Keyword).isEmpty then 0 else 1) < 30)) = true := by rfl)
    (hline : (apos.endLine == cpos.line) = true := by rfl) (hs : starEach [e] X.env = (false, eval e X.env) :: starEach [] X.env := by rfl) (hplain : (backTo cpos (starEach [] X.env)).any (·.1) = false := by rfl)
    (hsw : swapsWith (.Call (.Attribute (.Name n p) "append" apos) [e] [] cpos) none pos.line X.env = pure false := by rfl) : SS X Γ ρ (.Expr (.Call (.Attribute (.Name n p) "append" apos) [e] [] cpos) pos :: rest) E :=
  ss_cons (M := fun ρ' => ρ' = ρ.set i (.oa a (.cell (ts ++ [t'])))) ((ps_expr (pe_bm PySem.F.plainAttrs_list PySem.F.slot_list_append PySem.F.type_list_append mt_append (pe_var hN hv hd hcd) (pa_cons he pa_nil hs) hbase hfew hline hs hplain) hsw).weak fun D σ H ⟨G, S, k⟩ => by
      obtain ⟨o, Bo, hσ, ho⟩ := S.slot h
      have hlt : i < ρ.length := (List.getElem?_eq_some_iff.mp h).1
      cases ho with
      | oa z =>
        clear z
        have S' := S.unname h
        have h' : (ρ.set i (.ow (.cell ts)))[i]? = some (.ow (.cell ts)) := by simp [hlt]
        have hp : OT.at [] (.cell ts) = some (.cell ts) := rfl
        have hv0 : PathV H [] (.ref a) (.ref a) := rfl
        obtain ⟨A, SA⟩ := S'.ad
        obtain ⟨vs1, B1, q1, _⟩ := SA.mut h' hp hσ hv0
        refine ⟨.ref a, hσ, ty_list q1, G, S, fun w G2 H2 s2 e2 ⟨C, oc, ndC, fC⟩ => ?_⟩
        have SA2 := SA.more s2 e2
        obtain ⟨vs, B, q1, q2, q3, q4, q5, q6, q7, q8⟩ := SA2.mut h' hp hσ (hv0.mono s2.h)
        have ln := q4.len
        refine ⟨a, vs, w, rfl, rfl, q1, by omega, ?_⟩
        have CA : ∀ b ∈ C, b ∉ A := fun b hb z => by
          obtain ⟨_, u, hu⟩ := SA.mem b z
          rw [fC b hb] at hu; cases hu
        have fin := q8 (ts ++ [t']) _ _ (q4.app (OwnTs.one oc)) (List.nodup_append.mpr ⟨q5, ndC, fun x hx y hy z => by subst z; exact CA x hy (q7 x hx)⟩) (fun z => by
          rcases List.mem_append.mp z with z | z
          · exact q6 z
          · exact CA a z q3) (fun b hb => by
          rcases List.mem_append.mp hb with z | z
          · exact .inl z
          · exact .inr (CA b z)) (fun b hb => by
          rcases List.mem_append.mp hb with z | z
          · exact SA2.fr b (q7 b z)
          · exact S.step.h.none (fC b z))
        have fin2 := fin.name (t := .cell (ts ++ [t'])) (by simp [hlt, OT.put]) hσ
        rw [List.set_set, List.set_set] at fin2
        exact k.nx _ _ G2 _ rfl fin2 s2.g) fun ρ' e => e ▸ hr
end
end DL

set_option Elab.async false
set_option linter.all false
set_option maxRecDepth 100000
set_option maxHeartbeats 2000000
/-! calls that are lent a name's own things; methods; objects made -/
namespace DL
open PySem L2
/-- an argument: lent out of a name, or only read -/
inductive Ag where
  | io (i : Nat)
  | pu (s : Sl)
  | roc (j : Nat) (d : D)
/-- what is only read, apart from all owned things -/
inductive PuS (Γ : Gm) (G : Hp) : V → Sl → Prop
  | v {x : V} : PuS Γ G x (.v x)
  | sh {x : V} {d : D} : Rep G x d → PuS Γ G x (.sh d)
  | roz {x : V} {d : D} : Rep G x d → PuS Γ G x (.ro d)
  | ror {x : V} {d : D} : Rep Γ.H x d → PuS Γ G x (.ro d)
  | rb {a dx C : Addr} {fv : List (Str × V)} {fs : List (Str × D)} : Γ.H a = some (.ins C dx fv) → FRep Γ.H fv fs → PuS Γ G (.ref a) (.rb C fs)
theorem PuS.sl {Γ : Gm} {K : Fg} {G H I2 : Hp} {v : V} {s : Sl} (e : Ex G I2) (e2 : Ex Γ.H I2) : PuS Γ G v s → SlS K I2 G H (some v) s []
  | .v => .v
  | .sh h => .sh h
  | .roz h => .ro (h.mono e)
  | .ror h => .ro (h.mono e2)
  | .rb h fr => .rb (e2 _ _ h) (fr.mono e2)
theorem PuS.more {Γ : Gm} {G G2 : Hp} {v : V} {s : Sl} (e : Ex G G2) : PuS Γ G v s → PuS Γ G2 v s
  | .v => .v
  | .sh h => .sh (h.mono e)
  | .roz h => .roz (h.mono e)
  | .ror h => .ror h
  | .rb h fr => .rb h fr
inductive AR (Γ : Gm) (σ : L2.St) (G : Hp) : List V → List Ag → Prop
  | nil : AR Γ σ G [] []
  | io {i : Nat} {v : V} {vs : List V} {as : List Ag} : σ[i]? = some (some v) → AR Γ σ G vs as → AR Γ σ G (v :: vs) (.io i :: as)
  | pu {s : Sl} {v : V} {vs : List V} {as : List Ag} : PuS Γ G v s → AR Γ σ G vs as → AR Γ σ G (v :: vs) (.pu s :: as)
  | roc {j : Nat} {d : D} {v : V} {vs : List V} {as : List Ag} : σ[j]? = some (some v) → AR Γ σ G vs as → AR Γ σ G (v :: vs) (.roc j d :: as)
def isOwn : Sl → Bool
  | .ow _ => true
  | .oa _ _ => true
  | .ob _ _ _ => true
  | .un => true
  | _ => false
theorem SlS.own {K K' : Fg} {I I' G H : Hp} {o : Option V} {s : Sl} {B : List Addr} (h : SlS K I G H o s B) (q : isOwn s = true) : SlS K' I' G H o s B := by
  cases h with
  | un => exact .un
  | v => cases q
  | sh _ => cases q
  | ro _ => cases q
  | ow z => exact .ow z
  | sc _ => cases q
  | ob a b c => exact .ob a b c
  | oa z => exact .oa z
  | rb _ _ => cases q
/-- what is lent is taken out of its name -/
inductive Opn : List Sl → List Ag → List Sl → List Sl → Prop
  | nil {ρ : List Sl} : Opn ρ [] [] ρ
  | io {ρ ρ' : List Sl} {i : Nat} {s : Sl} {as : List Ag} {ss : List Sl} : ρ[i]? = some s → isOwn s = true → Opn (ρ.set i .un) as ss ρ' → Opn ρ (.io i :: as) (s :: ss) ρ'
  | pu {ρ ρ' : List Sl} {s : Sl} {as : List Ag} {ss : List Sl} : Opn ρ as ss ρ' → Opn ρ (.pu s :: as) (s :: ss) ρ'
  | roc {ρ ρ' : List Sl} {j : Nat} {t : OT} {d : D} {as : List Ag} {ss : List Sl} : ρ'[j]? = some (.ow t) → t.er = d → Opn ρ as ss ρ' → Opn ρ (.roc j d :: as) (.ro d :: ss) ρ'
/-- and put back, as it is then -/
inductive Clo : List Sl → List Ag → List Sl → List Sl → Prop
  | nil {ρ : List Sl} : Clo ρ [] [] ρ
  | io {ρ ρ' : List Sl} {i : Nat} {s : Sl} {as : List Ag} {ss : List Sl} : ρ[i]? = some .un → isOwn s = true → Clo (ρ.set i s) as ss ρ' → Clo ρ (.io i :: as) (s :: ss) ρ'
  | pu {ρ ρ' : List Sl} {s s' : Sl} {as : List Ag} {ss : List Sl} : Clo ρ as ss ρ' → Clo ρ (.pu s :: as) (s' :: ss) ρ'
  | roc {ρ ρ' : List Sl} {j : Nat} {d : D} {s' : Sl} {as : List Ag} {ss : List Sl} : Clo ρ as ss ρ' → Clo ρ (.roc j d :: as) (s' :: ss) ρ'
theorem AR.opn {Γ : Gm} {K : Fg} {G H : Hp} {σ : L2.St} (eGH : Ex G H) : ∀ {as : List Ag} {vs : List V} {ss ρ ρ' : List Sl} {A : List Addr}, AR Γ σ G vs as → Opn ρ as ss ρ' → SlR Γ.K Γ.H G H σ ρ A → A.Nodup →
    ∃ B A', (∀ I2, Ex G I2 → Ex Γ.H I2 → (∀ b ∈ A', I2 b = H b) → SlR K I2 G H (vs.map some) ss B) ∧ SlR Γ.K Γ.H G H σ ρ' A' ∧ (B ++ A').Nodup ∧ ∀ a ∈ B ++ A', a ∈ A
  | _, _, _, _, _, A, .nil, .nil, r, nd => ⟨[], A, fun _ _ _ _ => .nil, r, nd, fun a h => h⟩
  | _, _, _, ρ, _, A, .io (i := i) (v := v) hv ar, .io (s := s) h1 h2 o, r, nd => by
    obtain ⟨x, A1, B0, A2, q1, q2, e, q4⟩ := r.focus h1
    subst e
    rw [hv] at q1
    cases q1
    have r2 := q4 G H (some v) .un [] (Ex.refl _) (fun _ _ g => g) (fun _ _ => rfl) .un
    rw [set_self hv, List.nil_append] at r2
    obtain ⟨nB0, dB0⟩ := nd_mid nd
    have nd2 : (A1 ++ A2).Nodup := nd.sublist (List.Sublist.append_left (List.sublist_append_right _ _) _)
    obtain ⟨B, A', w1, w2, w3, w4⟩ := AR.opn (K := K) eGH ar o r2 nd2
    refine ⟨B0 ++ B, A', fun I2 e1 e2 e3 => .cons (q2.own h2) (w1 I2 e1 e2 e3), w2, ?_, fun a ha => ?_⟩
    · rw [List.append_assoc]
      exact List.nodup_append.mpr ⟨nB0, w3, fun a ha b hb e => dB0 a ha (e ▸ w4 b hb)⟩
    · rw [List.append_assoc] at ha
      rcases List.mem_append.mp ha with z | z
      · simp [z]
      · have := w4 a z
        simp only [List.mem_append] at this ⊢
        rcases this with u | u
        · exact .inl u
        · exact .inr (.inr u)
  | _, _, _, _, _, A, .pu hp ar, .pu o, r, nd => by
    obtain ⟨B, A', w1, w2, w3, w4⟩ := AR.opn (K := K) eGH ar o r nd
    exact ⟨B, A', fun I2 e1 e2 e3 => .cons (A := []) (hp.sl e1 e2) (w1 I2 e1 e2 e3), w2, w3, w4⟩
  | _, _, _, _, _, A, .roc (v := v) hv ar, .roc hj he o, r, nd => by
    obtain ⟨B, A', w1, w2, w3, w4⟩ := AR.opn (K := K) eGH ar o r nd
    refine ⟨B, A', fun I2 e1 e2 e3 => .cons (A := []) ?_ (w1 I2 e1 e2 e3), w2, w3, w4⟩
    obtain ⟨x, B0, q1, q2, q3⟩ := w2.get hj
    rw [hv] at q1
    cases q1
    cases q2 with
    | ow z =>
      have z2 : OwnT G I2 _ v B0 := z.frame (Ex.refl _) (fun _ _ g => g) fun b hb => e3 b (q3 b hb)
      have := z2.rep e1
      rw [he] at this
      exact .ro this
theorem AR.clo {Γ : Gm} {K : Fg} {I G G1 H : Hp} {σ : L2.St} : ∀ {as : List Ag} {vs : List V} {ss ρ ρ' : List Sl} {A B : List Addr}, AR Γ σ G1 vs as → Clo ρ as ss ρ' → SlR Γ.K Γ.H G H σ ρ A → SlR K I G H (vs.map some) ss B → (B ++ A).Nodup →
    ∃ A', SlR Γ.K Γ.H G H σ ρ' A' ∧ A'.Nodup ∧ ∀ a ∈ A', a ∈ B ++ A
  | _, _, _, _, _, A, B, .nil, .nil, r, _, nd => ⟨A, r, (List.nodup_append.mp nd).2.1, fun a h => List.mem_append_right _ h⟩
  | _, _, _, ρ, _, A, _, .io (i := i) (v := v) hv ar, .io h1 h2 o, r, .cons (A := B0) (B := B1) hs rs, nd => by
    obtain ⟨x, A1, Z, A2, q1, q2, e, q4⟩ := r.focus h1
    subst e
    rw [hv] at q1
    cases q1
    cases q2
    have r2 := q4 G H (some v) _ B0 (Ex.refl _) (fun _ _ g => g) (fun _ _ => rfl) (hs.own h2)
    rw [set_self hv] at r2
    have nd2 : (B1 ++ (A1 ++ (B0 ++ A2))).Nodup := by
      have p : ((B0 ++ B1) ++ (A1 ++ ([] ++ A2))).Perm (B1 ++ (A1 ++ (B0 ++ A2))) := by
        simp only [List.nil_append, List.append_assoc]
        refine (List.perm_append_comm_assoc _ _ _).trans (List.Perm.append_left _ ?_)
        exact List.perm_append_comm_assoc _ _ _
      exact p.nodup_iff.mp nd
    obtain ⟨A', w1, w2, w3⟩ := AR.clo ar o r2 rs nd2
    refine ⟨A', w1, w2, fun a ha => ?_⟩
    have := w3 a ha
    simp only [List.mem_append, List.nil_append] at this ⊢
    rcases this with z | z | z | z
    · exact .inl (.inr z)
    · exact .inr (.inl z)
    · exact .inl (.inl z)
    · exact .inr (.inr z)
  | _, _, _, _, _, A, _, .roc _ ar, .roc o, r, .cons (A := B0) (B := B1) hs rs, nd => by
    have nd2 : (B1 ++ A).Nodup := nd.sublist (List.Sublist.append_right (List.sublist_append_right _ _) _)
    obtain ⟨A', w1, w2, w3⟩ := AR.clo ar o r rs nd2
    refine ⟨A', w1, w2, fun a ha => ?_⟩
    rcases List.mem_append.mp (w3 a ha) with z | z
    · simp [z]
    · simp [z]
  | _, _, _, _, _, A, _, .pu _ ar, .pu o, r, .cons (A := B0) (B := B1) hs rs, nd => by
    have nd2 : (B1 ++ A).Nodup := nd.sublist (List.Sublist.append_right (List.sublist_append_right _ _) _)
    obtain ⟨A', w1, w2, w3⟩ := AR.clo ar o r rs nd2
    refine ⟨A', w1, w2, fun a ha => ?_⟩
    rcases List.mem_append.mp (w3 a ha) with z | z
    · simp [z]
    · simp [z]
/-- what a def does that is lent things: ss the arguments, ss' what they are then, a frozen answer -/
def spM (K : Fg) (ss ss' : List Sl) (d : D) : Sp := fun vs H Q E => ∃ G A, Ex G H ∧ SlR K (subH H A) G H (vs.map some) ss A ∧ A.Nodup ∧ ∀ v G2 H2 B, Step G (subH H A) G2 H2 → Ex G2 H2 → SlR K (subH H A) G2 H2 (vs.map some) ss' B → B.Nodup → (∀ b ∈ B, subH H A b = none) → Rep G2 v d → Q v H2
/-- the same thing, as it is then -/
inductive Pin : List Sl → List Sl → Prop
  | nil : Pin [] []
  | un {s : Sl} {ss ss' : List Sl} : Pin ss ss' → Pin (s :: ss) (.un :: ss')
  | ob {a C C' : Addr} {fs fs' : List (Str × D)} {ss ss' : List Sl} : Pin ss ss' → Pin (.ob a C fs :: ss) (.ob a C' fs' :: ss')
  | oa {a : Addr} {t t' : OT} {ss ss' : List Sl} : Pin ss ss' → Pin (.oa a t :: ss) (.oa a t' :: ss')
theorem Pin.back {K K' : Fg} {I I' G G' H H' : Hp} : ∀ {ss ss' : List Sl} {vs : List V} {σ : L2.St} {A B : List Addr} {us : List Sl}, Pin ss ss' → SlR K I G H (vs.map some) ss A → SlR K' I' G' H' σ (ss' ++ us) B → ∃ B', SlR K' I' G' H' (vs.map some) ss' B' ∧ B'.Sublist B
  | _, _, [], _, _, B, _, .nil, _, _ => ⟨[], .nil, List.nil_sublist _⟩
  | _, _, [], _, _, B, _, .un _, r, _ => by cases r
  | _, _, [], _, _, B, _, .ob _, r, _ => by cases r
  | _, _, [], _, _, B, _, .oa _, r, _ => by cases r
  | _, _, v :: vs, _, _, _, _, .un p, .cons h r, .cons (A := B0) (B := B1) h' r' => by
    obtain ⟨B', q1, q2⟩ := Pin.back p r r'
    exact ⟨B', .cons (A := []) .un q1, q2.trans (List.sublist_append_right _ _)⟩
  | _, _, v :: vs, _, _, _, _, .ob p, .cons h r, .cons (A := B0) (B := B1) h' r' => by
    obtain ⟨B', q1, q2⟩ := Pin.back p r r'
    cases h with
    | ob a b c =>
      refine ⟨B0 ++ B', .cons ?_ q1, List.Sublist.append_left q2 _⟩
      cases h' with
      | ob a' b' c' => exact .ob a' b' c'
  | _, _, v :: vs, _, _, _, _, .oa p, .cons h r, .cons (A := B0) (B := B1) h' r' => by
    obtain ⟨B', q1, q2⟩ := Pin.back p r r'
    cases h with
    | oa z =>
      refine ⟨B0 ++ B', .cons ?_ q1, List.Sublist.append_left q2 _⟩
      cases h' with
      | oa z' => exact .oa z'
section
variable {P : Program} {w : World} {K : Fg} {mg : Str → Option Value} {base : Heap}
theorem ok_defM {x qual : Str} {st : Stmt} {f : Addr} {fd : FuncData} {N ps : List Str} {k m : Nat} {ss ss' : List Sl} {d : D} (F : L2.Fun K x qual st f fd) (S : FnScope N ps (defScope st)) (hl : ss.length = ps.length) (hm : N.length - ps.length = m) (hpin : Pin ss ss')
    (hbody : ∀ (cdv : Value) (A : Around) (outer : List Env) (s : Shared) (I G H : Hp) (E : XK), Room k (A.deeper (PyProof.Rows.envOfC qual (defScope st) s.heap.objs.size f cdv)) →
      XO (cxOf (L2.CX P w) P w K mg base N qual (defScope st) f cdv A outer s H E) →
      PassesOwn (model P w) (A.deeper (PyProof.Rows.envOfC qual (defScope st) s.heap.objs.size f cdv)) (PyProof.Rows.envOfC qual (defScope st) s.heap.objs.size f cdv) (cxOf (L2.CX P w) P w K mg base N qual (defScope st) f cdv A outer s H E).xe →
      SS (cxOf (L2.CX P w) P w K mg base N qual (defScope st) f cdv A outer s H E) ⟨K, G, I⟩ (ss ++ List.replicate m .un) (defBody st) { nx := fun ρ => d = .none ∧ Wk ρ (ss' ++ List.replicate m .un), rt := fun t ρ => t.er = d ∧ Wk ρ (ss' ++ List.replicate m .un) }) :
    FnOk P w K mg base (L2.CX P w) (k + 1) f fd ps (spM K ss ss' d) := by
  have len : ∀ vs H Q E, spM K ss ss' d vs H Q E → vs.length = ps.length := fun vs H Q E ⟨G, A, _, r, _⟩ => by rw [slr_len r, hl]
  refine F.okX S len (fun cdv A outer s H vs Q E hr h => ?_)
  have hv := len _ _ _ _ h
  have xo : XO (cxOf (L2.CX P w) P w K mg base N qual (defScope st) f cdv A outer s H E) := ⟨rfl, S.nd, by have := hr.un; show (A.deeper (PyProof.Rows.envOfC qual (defScope st) s.heap.objs.size f cdv)).units + 65 < cLine; omega⟩
  have hp : PassesOwn (model P w) (A.deeper (PyProof.Rows.envOfC qual (defScope st) s.heap.objs.size f cdv)) (PyProof.Rows.envOfC qual (defScope st) s.heap.objs.size f cdv) (cxOf (L2.CX P w) P w K mg base N qual (defScope st) f cdv A outer s H E).xe := passes_of (X := cxOf (L2.CX P w) P w K mg base N qual (defScope st) f cdv A outer s H E) rfl
  obtain ⟨G, B, eg, r, nd, kk⟩ := h
  refine ⟨_, hbody cdv A outer s (subH H B) G H E hr xo hp, G, ⟨⟨Ex.refl _, subH_ex, fun _ _ e _ => e⟩, eg, B, slr_startA r (by rw [hv, hm]), nd, fun b hb => subH_in hb⟩, ?_⟩
  refine ⟨fun ρ' σ' G' H' ⟨e, wk⟩ S' _ => ?_, fun _ _ _ _ z => z.elim, fun _ _ _ _ z => z.elim, fun t' ρ' σ' v G' H' A' ⟨e, wk⟩ st' ex o nd' f' ⟨B2, r2, nd2, f2⟩ => ?_⟩
  · obtain ⟨B2, r2, nd2, f2⟩ := S'.sl
    obtain ⟨B3, r3, q3⟩ := r2.wk wk
    obtain ⟨B4, r4, q4⟩ := hpin.back r r3
    have sb := q4.trans q3
    exact kk .non G' H' B4 S'.step S'.sub r4 (nd2.sublist sb) (fun b hb => f2 b (sb.subset hb)) (by rw [e]; exact .non)
  · obtain ⟨s1, e1, r1⟩ := freeze st' ex o f'
    rw [e] at r1
    have eA : ∀ b ∈ B2, b ∉ A' := fun b hb z => (List.nodup_append.mp nd2).2.2 b hb b z rfl
    have r2' : SlR K (subH H B) (DL.frz G' H' A') H' σ' ρ' B2 := r2.frame (frz_ex fun b hb => (o.mem b hb).1) (fun b hb g => by rw [frz_out (eA b hb)]; exact g) fun _ _ => rfl
    obtain ⟨B3, r3, q3⟩ := r2'.wk wk
    obtain ⟨B4, r4, q4⟩ := hpin.back r r3
    have sb := q4.trans q3
    exact kk v _ H' B4 s1 e1 r4 ((List.nodup_append.mp nd2).1.sublist sb) (fun b hb => f2 b (sb.subset hb)) r1
end
/-! ### arguments -/
section
variable {X : Cx} {Γ : Gm} {ρ ρ1 ρ' : List Sl} {e a b c : Expr} {es : List Expr} {pos p p' q apos : Pos} {κ : Kd} {d : D} {x : V} {σ : L2.St} {G H G1 H1 G2 H2 : Hp} {E : En} {rest bd : List Stmt} {n y m : Str} {i j k : Nat} {as : List Ag} {ss ss' : List Sl} {C oa fa : Addr} {fs : List (Str × D)} {s : Sl} {t : OT}
def tAM (Γ : Gm) (ρ : List Sl) (as : List Ag) : TA := fun σ H Q => ∃ G, Sr Γ G H σ ρ ∧ ∀ vs G2 H2, Step G H G2 H2 → Ex G2 H2 → AR Γ σ G2 vs as → Q vs H2
def DAM (X : Cx) (Γ : Gm) (ρ : List Sl) (es : List Expr) (as : List Ag) : Prop := PA X es (tAM Γ ρ as)
theorem dam_nil : DAM X Γ ρ [] [] := pa_nil.weak fun σ H Q ⟨G, S, k⟩ => k [] G H (Step.refl _ _) S.sub .nil
theorem dam_io (i : Nat) (h : ρ[i]? = some s) (ho : isOwn s = true) (hu : s ≠ .un) (hr : DAM X Γ ρ es as) (hs : starEach (.Name n p :: es) X.env = (false, eval (.Name n p) X.env) :: starEach es X.env := by rfl)
    (hN : X.N[i]? = some n := by rfl) (hv : Vis X.env.scope n := by first | exact Or.inl rfl | exact Or.inr (Or.inl rfl) | exact Or.inr (Or.inr rfl)) (hd : (n == ("__debug__" : Str)) = false := by decide) (hcd : (n == ("__classdict__" : Str)) = false := by decide) : DAM X Γ ρ (.Name n p :: es) (.io i :: as) :=
  (pa_cons (pe_var hN hv hd hcd) hr hs).weak fun σ H Q ⟨G, S, k⟩ => by
    obtain ⟨o, B, h1, h2⟩ := S.slot h
    have : ∃ v, o = some v := by
      cases h2 with
      | un => exact absurd rfl hu
      | v => exact ⟨_, rfl⟩
      | sh _ => exact ⟨_, rfl⟩
      | ro _ => exact ⟨_, rfl⟩
      | ow _ => exact ⟨_, rfl⟩
      | sc _ => exact ⟨_, rfl⟩
      | ob _ _ _ => exact ⟨_, rfl⟩
      | oa _ => exact ⟨_, rfl⟩
      | rb _ _ => exact ⟨_, rfl⟩
    obtain ⟨v, rfl⟩ := this
    exact ⟨v, h1, G, S, fun vs G2 H2 s2 e2 ar => k (v :: vs) G2 H2 s2 e2 (.io h1 ar)⟩
theorem dam_pu {P : Hp → Hp → Hp → V → Prop} (ha : PE X e (tX Γ ρ P)) (hp : ∀ (σ : L2.St) (G H G2 H2 : Hp) (v : V), Sr Γ G H σ ρ → Step G H G2 H2 → Ex G2 H2 → P H G2 H2 v → PuS Γ G2 v s) (hr : DAM X Γ ρ es as) (hs : starEach (e :: es) X.env = (false, eval e X.env) :: starEach es X.env) : DAM X Γ ρ (e :: es) (.pu s :: as) :=
  (pa_cons ha hr hs).weak fun σ H Q ⟨G, S, k⟩ => ⟨G, S, fun v G1 H1 s1 e1 p1 => ⟨G1, S.more s1 e1, fun vs G2 H2 s2 e2 ar => k (v :: vs) G2 H2 (s1.trans s2) e2 (.pu ((hp σ G H G1 H1 v S s1 e1 p1).more s2.g) ar)⟩⟩
theorem dam_v (ha : DV X Γ ρ e x) (hr : DAM X Γ ρ es as) (hs : starEach (e :: es) X.env = (false, eval e X.env) :: starEach es X.env := by rfl) : DAM X Γ ρ (e :: es) (.pu (.v x) :: as) := dam_pu ha (fun _ _ _ _ _ v _ _ _ (q : v = x) => by rw [q]; exact .v) hr hs
theorem dam_sh (ha : DE X Γ ρ e .z d) (hr : DAM X Γ ρ es as) (hs : starEach (e :: es) X.env = (false, eval e X.env) :: starEach es X.env := by rfl) : DAM X Γ ρ (e :: es) (.pu (.sh d) :: as) := dam_pu ha (fun _ _ _ _ _ v _ _ _ q => .sh q) hr hs
theorem dam_roz (ha : DE X Γ ρ e .z d) (hr : DAM X Γ ρ es as) (hs : starEach (e :: es) X.env = (false, eval e X.env) :: starEach es X.env := by rfl) : DAM X Γ ρ (e :: es) (.pu (.ro d) :: as) := dam_pu ha (fun _ _ _ _ _ v _ _ _ q => .roz q) hr hs
theorem dam_ror (ha : DE X Γ ρ e .r d) (hr : DAM X Γ ρ es as) (hs : starEach (e :: es) X.env = (false, eval e X.env) :: starEach es X.env := by rfl) : DAM X Γ ρ (e :: es) (.pu (.ro d) :: as) := dam_pu ha (fun _ _ _ _ _ v _ _ _ q => .ror q) hr hs
theorem dam_rb (i : Nat) (h : ρ[i]? = some (.rb C fs)) (hr : DAM X Γ ρ es as) (hs : starEach (.Name n p :: es) X.env = (false, eval (.Name n p) X.env) :: starEach es X.env := by rfl)
    (hN : X.N[i]? = some n := by rfl) (hv : Vis X.env.scope n := by first | exact Or.inl rfl | exact Or.inr (Or.inl rfl) | exact Or.inr (Or.inr rfl)) (hd : (n == ("__debug__" : Str)) = false := by decide) (hcd : (n == ("__classdict__" : Str)) = false := by decide) : DAM X Γ ρ (.Name n p :: es) (.pu (.rb C fs) :: as) :=
  dam_pu (P := fun _ _ _ v => ∃ a dx fv, v = .ref a ∧ Γ.H a = some (.ins C dx fv) ∧ FRep Γ.H fv fs) (var_weak (pe_var hN hv hd hcd) fun σ G H S => by
    obtain ⟨o, B, h1, h2⟩ := S.slot h
    cases h2 with
    | rb hh fr => exact ⟨_, h1, _, _, _, rfl, hh, fr⟩) (fun _ _ _ _ _ v _ _ _ ⟨a, dx, fv, e, hh, fr⟩ => by rw [e]; exact .rb hh fr) hr hs
theorem dam_roc (j : Nat) (h : ρ[j]? = some (.ow t)) (hr : DAM X Γ ρ es as) (hs : starEach (.Name n p :: es) X.env = (false, eval (.Name n p) X.env) :: starEach es X.env := by rfl)
    (hN : X.N[j]? = some n := by rfl) (hv : Vis X.env.scope n := by first | exact Or.inl rfl | exact Or.inr (Or.inl rfl) | exact Or.inr (Or.inr rfl)) (hd : (n == ("__debug__" : Str)) = false := by decide) (hcd : (n == ("__classdict__" : Str)) = false := by decide) : DAM X Γ ρ (.Name n p :: es) (.roc j d :: as) :=
  (pa_cons (pe_var hN hv hd hcd) hr hs).weak fun σ H Q ⟨G, S, k⟩ => by
    obtain ⟨o, B, h1, h2⟩ := S.slot h
    cases h2 with
    | ow z => exact ⟨_, h1, G, S, fun vs G2 H2 s2 e2 ar => k (_ :: vs) G2 H2 s2 e2 (.roc h1 ar)⟩
/-- behind a call that was lent things -/
theorem lent {K : Fg} {vs : List V} (hK : Γ.K = K) (S : Sr Γ G H σ ρ) (ar : AR Γ σ G vs as) (ho : Opn ρ as ss ρ1) (hc : Clo ρ1 as ss' ρ') {Q : VK} {E0 : XK} (kk : ∀ v G2 H2, Ex G G2 → Sr Γ G2 H2 σ ρ' → Rep G2 v d → Q v H2) : spM K ss ss' d vs H Q E0 := by
  subst hK
  obtain ⟨A, r, nd, fr⟩ := S.sl
  obtain ⟨B, A', w1, w2, w3, w4⟩ := ar.opn (K := Γ.K) S.sub ho r nd
  have ndB := (List.nodup_append.mp w3).1
  have hB : ∀ b ∈ B, G b = none ∧ Γ.H b = none := fun b hb => ⟨(r.mem b (w4 b (List.mem_append_left _ hb))).1, fr b (w4 b (List.mem_append_left _ hb))⟩
  have e1 : Ex G (subH H B) := fun b o hb => by
    have nb : b ∉ B := fun z => by rw [(hB b z).1] at hb; cases hb
    rw [subH_out nb]
    exact S.sub _ _ hb
  have e2 : Ex Γ.H (subH H B) := fun b o hb => by
    have nb : b ∉ B := fun z => by rw [(hB b z).2] at hb; cases hb
    rw [subH_out nb]
    exact S.step.h _ _ hb
  refine ⟨G, B, S.sub, w1 _ e1 e2 (fun b hb => subH_out fun z => (List.nodup_append.mp w3).2.2 b z b hb rfl), ndB, fun v G2 H2 B3 st ex rs nd3 f3 rp => ?_⟩
  have hA' : ∀ b ∈ A', ∃ o, subH H B b = some o ∧ H b = some o ∧ G b = none := fun b hb => by
    obtain ⟨g, o, ho⟩ := w2.mem b hb
    have nb : b ∉ B := fun z => (List.nodup_append.mp w3).2.2 b z b hb rfl
    exact ⟨o, by rw [subH_out nb]; exact ho, ho, g⟩
  have rA : SlR Γ.K Γ.H G2 H2 σ ρ1 A' := w2.frame st.g (fun b hb g => by
    obtain ⟨o, h1, _⟩ := hA' b hb
    exact st.f b o g h1) fun b hb => by
    obtain ⟨o, h1, h2, _⟩ := hA' b hb
    rw [h2]
    exact st.h _ _ h1
  have nd4 : (B3 ++ A').Nodup := List.nodup_append.mpr ⟨nd3, (List.nodup_append.mp w3).2.1, fun a ha b hb e => by
    obtain ⟨o, h1, _⟩ := hA' b hb
    rw [← e, f3 a ha] at h1
    cases h1⟩
  obtain ⟨A2, z1, z2, z3⟩ := ar.clo hc rA rs nd4
  refine kk v G2 H2 st.g ⟨⟨S.step.g.trans st.g, e2.trans st.h, fun b o g1 g2 => st.f b o (S.step.f b o g1 g2) (e2 _ _ g2)⟩, ex, A2, z1, z2, fun b hb => ?_⟩ rp
  rcases List.mem_append.mp (z3 b hb) with z | z
  · exact e2.none (f3 b z)
  · exact fr b (w4 b (List.mem_append_right _ z))
theorem AR.more (e : Ex G G2) {vs : List V} : AR Γ σ G vs as → AR Γ σ G2 vs as := fun h => by
  induction h with
  | nil => exact .nil
  | io h _ ih => exact .io h ih
  | pu h _ ih => exact .pu (h.more e) ih
  | roc h _ ih => exact .roc h ih
theorem dm_callM {fd : FuncData} {ps : List Str} (F : FnOk X.prog X.w X.K X.mg X.base (L2.CX X.prog X.w) k fa fd ps (spM X.K ss ss' d)) (hr : Room k X.A) (hm : X.mg m = some (.ref fa)) (hk : PySem.W.keepIn X.K (.ref fa) = true) (hb : Binds X.K fd ps []) (hK : Γ.K = X.K) (ha : DAM X Γ ρ (e :: es) as) (ho : Opn ρ as ss ρ1) (hc : Clo ρ1 as ss' ρ')
    (hg : Gl X m := by rfl) (hdb : (m == ("__debug__" : Str)) = false := by decide) (he : starEach (e :: es) X.env = (false, eval e X.env) :: starEach es X.env := by rfl) (hpl : (backTo pos (starEach es X.env)).any (·.1) = false := by rfl) :
    DM X Γ ρ ρ' (.Call (.Name m q) (e :: es) [] pos) d :=
  (pe_call F hr hg hm hk hb .nil (passL (X := X)) ha hdb he hpl).weak fun σ H Q ⟨G, S, kk⟩ => ⟨G, S, fun vs G2 H2 s2 e2 ar => by
    show spM X.K ss ss' d (vs ++ []) H2 _ _
    rw [List.append_nil]
    exact lent hK (S.more s2 e2) ar ho hc fun v G3 H3 e3 S3 rp => kk v G3 H3 (s2.g.trans e3) S3 rp⟩
/-! ### methods -/
theorem dm_meth {fd : FuncData} {ps : List Str} {pl : Sem Bool} (i : Nat) (h : ρ[i]? = some (.ob oa C fs)) (hl : fs.lookup m = none) (c : Cls X.K C) (hm : Meth X.K C m fa) (F : FnOk X.prog X.w X.K X.mg X.base (L2.CX X.prog X.w) k fa fd ps (spM X.K ss ss' d)) (hr : Room k X.A) (hb : Binds X.K fd ps []) (hK : Γ.K = X.K) (ha : DAM X Γ ρ (e :: es) as) (ho : Opn ρ (.io i :: as) ss ρ1) (hc : Clo ρ1 (.io i :: as) ss' ρ')
    (hst : starEach (e :: es) X.env = (false, eval e X.env) :: starEach es X.env := by rfl) (hpl : (backTo pos (starEach es X.env)).any (·.1) = false := by rfl)
    (ht : eval (.Call (.Attribute (.Name n p) m apos) (e :: es) [] pos) X.env = (do
      let ov ← eval (.Name n p) X.env
      standAt apos.atName
      let (f, first) ← holding [ov] (getMethod ov m pl)
      callWith pos f first (backTo pos (starEach (e :: es) X.env)) (backToKw pos (keywordEach [] X.env))) := by rfl)
    (hN : X.N[i]? = some n := by rfl) (hv : Vis X.env.scope n := by first | exact Or.inl rfl | exact Or.inr (Or.inl rfl) | exact Or.inr (Or.inr rfl)) (hd : (n == ("__debug__" : Str)) = false := by decide) (hcd : (n == ("__classdict__" : Str)) = false := by decide) :
    DM X Γ ρ ρ' (.Call (.Attribute (.Name n p) m apos) (e :: es) [] pos) d :=
  (pe_meth (pe_var hN hv hd hcd) c hm F hr hb .nil (passL (X := X)) ha hst hpl ht).weak fun σ H Q ⟨G, S, kk⟩ => by
    obtain ⟨dx, fv, h1, hh, fr, _⟩ := S.updOb h
    refine ⟨.ref oa, h1, oa, dx, fv, rfl, hh, fr.no hl, G, S, fun vs G2 H2 s2 e2 ar => ?_⟩
    show spM X.K ss ss' d (.ref oa :: (vs ++ [])) H2 _ _
    rw [List.append_nil]
    exact lent hK (S.more s2 e2) (.io h1 ar) ho hc fun v G3 H3 e3 S3 rp => kk v G3 H3 (s2.g.trans e3) S3 rp
theorem da_rb (i : Nat) (h : ρ[i]? = some s) (ho : ObS s C fs) (hr : DA X Γ ρ es ss) (hs : starEach (.Name n p :: es) X.env = (false, eval (.Name n p) X.env) :: starEach es X.env := by rfl)
    (hN : X.N[i]? = some n := by rfl) (hv : Vis X.env.scope n := by first | exact Or.inl rfl | exact Or.inr (Or.inl rfl) | exact Or.inr (Or.inr rfl)) (hd : (n == ("__debug__" : Str)) = false := by decide) (hcd : (n == ("__classdict__" : Str)) = false := by decide) : DA X Γ ρ (.Name n p :: es) (.rb C fs :: ss) :=
  da_cons (P := fun _ _ H2 v => ∃ a dx fv, v = .ref a ∧ H2 a = some (.ins C dx fv) ∧ FRep H2 fv fs) (var_weak (pe_var hN hv hd hcd) fun σ G H S => by
    obtain ⟨a, dx, fv, h1, hh, fr⟩ := S.obAt h ho
    exact ⟨_, h1, a, dx, fv, rfl, hh, fr⟩) (fun σ G H G2 H2 v S s ex ⟨a, dx, fv, ev, hh, fr⟩ => ⟨[], by rw [ev]; exact .rb hh fr, List.nodup_nil, fun _ z => by cases z⟩) hr hs
theorem do_meth {fd : FuncData} {ps : List Str} {pl : Sem Bool} (i : Nat) (h : ρ[i]? = some s) (hs : ObS s C fs) (hl : fs.lookup m = none) (c : Cls X.K C) (hm : Meth X.K C m fa) (F : FnOk X.prog X.w X.K X.mg X.base (L2.CX X.prog X.w) k fa fd ps (sp1 X.K [.rb C fs] (.ret t))) (hr : Room k X.A) (hb : Binds X.K fd ps [])
    (ht : eval (.Call (.Attribute (.Name n p) m apos) [] [] pos) X.env = (do
      let ov ← eval (.Name n p) X.env
      standAt apos.atName
      let (f, first) ← holding [ov] (getMethod ov m pl)
      callWith pos f first (backTo pos (starEach [] X.env)) (backToKw pos (keywordEach [] X.env))) := by rfl)
    (hN : X.N[i]? = some n := by rfl) (hv : Vis X.env.scope n := by first | exact Or.inl rfl | exact Or.inr (Or.inl rfl) | exact Or.inr (Or.inr rfl)) (hd : (n == ("__debug__" : Str)) = false := by decide) (hcd : (n == ("__classdict__" : Str)) = false := by decide) :
    DO X Γ ρ (.Call (.Attribute (.Name n p) m apos) [] [] pos) t :=
  (pe_meth0 (pe_var hN hv hd hcd) c hm F hr hb .nil (passL (X := X)) ht).weak fun σ H Q ⟨G, S, kk⟩ => by
    obtain ⟨a, dx, fv, h1, hh, fr⟩ := S.obAt h hs
    refine ⟨.ref a, h1, a, dx, fv, rfl, hh, fr.no hl, ?_⟩
    show sp1 X.K [.rb C fs] (.ret t) (.ref a :: ([] ++ [])) H Q E0
    exact ⟨G, S.sub, .cons (A := []) (B := []) (.rb hh fr) .nil, fun v G3 H3 B s3 e3 o n3 f3 => kk v G3 H3 s3 e3 ⟨B, o, n3, f3⟩⟩
theorem dn_meth {fd : FuncData} {ps : List Str} {pl : Sem Bool} {C' : Addr} (i : Nat) (hx : RX X Γ C') (h : ρ[i]? = some s) (hs : ObS s C fs) (hl : fs.lookup m = none) (c : Cls X.K C) (hm : Meth X.K C m fa) (F : FnOk X.prog X.w X.K X.mg X.base (L2.CX X.prog X.w) k fa fd ps (sp1 X.K (.rb C fs :: ss) (.exc C'))) (hr : Room k X.A) (hb : Binds X.K fd ps []) (hK : Γ.K = X.K) (ha : DA X Γ ρ (e :: es) ss) (hso : ss.all argOk = true := by rfl)
    (hst : starEach (e :: es) X.env = (false, eval e X.env) :: starEach es X.env := by rfl) (hpl : (backTo pos (starEach es X.env)).any (·.1) = false := by rfl)
    (ht : eval (.Call (.Attribute (.Name n p) m apos) (e :: es) [] pos) X.env = (do
      let ov ← eval (.Name n p) X.env
      standAt apos.atName
      let (f, first) ← holding [ov] (getMethod ov m pl)
      callWith pos f first (backTo pos (starEach (e :: es) X.env)) (backToKw pos (keywordEach [] X.env))) := by rfl)
    (hN : X.N[i]? = some n := by rfl) (hv : Vis X.env.scope n := by first | exact Or.inl rfl | exact Or.inr (Or.inl rfl) | exact Or.inr (Or.inr rfl)) (hd : (n == ("__debug__" : Str)) = false := by decide) (hcd : (n == ("__classdict__" : Str)) = false := by decide) :
    DN X Γ ρ (.Call (.Attribute (.Name n p) m apos) (e :: es) [] pos) := by
  obtain ⟨W, tk, hw⟩ := hx
  have hp : Passes (L2.CX X.prog X.w) X (fun cls d H => cls = .ref C' ∧ d = none ∧ Ex Γ.H H) := passes_call tk fun cls d σ H q => by
    obtain ⟨rfl, rfl, q⟩ := q
    exact hw σ H q
  exact (pe_meth (pe_var hN hv hd hcd) c hm F hr hb .nil hp ha hst hpl ht).weak fun σ H Q ⟨G, S, kk⟩ => by
    obtain ⟨a, dx, fv, h1, hh, fr⟩ := S.obAt h hs
    refine ⟨.ref a, h1, a, dx, fv, rfl, hh, fr.no hl, G, S, fun vs G2 H2 A s2 e2 r nd f => ?_⟩
    show sp1 X.K (.rb C fs :: ss) (.exc C') (.ref a :: (vs ++ [])) H2 _ _
    rw [List.append_nil]
    refine ⟨G2, e2, .cons (A := []) (B := []) (.rb (s2.h _ _ hh) (fr.mono s2.h)) ?_, fun H3 e3 => ⟨rfl, rfl, (S.step.h.trans s2.h).trans e3⟩⟩
    rw [← hK]
    exact slR_arg r hso
/-! ### objects made -/
def pB (C : Addr) (fs : List (Str × D)) : Hp → Hp → Hp → V → Prop := fun H G2 H2 v => ∃ a dx fv, v = .ref a ∧ H a = none ∧ G2 a = none ∧ H2 a = some (.ins C dx fv) ∧ FRep G2 fv fs
def DB (X : Cx) (Γ : Gm) (ρ : List Sl) (e : Expr) (C : Addr) (fs : List (Str × D)) : Prop := PE X e (tX Γ ρ (pB C fs))
theorem db_make {fd : FuncData} {ps : List Str} {us : List Sl} (M : Mk X.K C fa) (F : ∀ a, FnOk X.prog X.w X.K X.mg X.base (L2.CX X.prog X.w) k fa fd ps (spM X.K (.ob a C [] :: ss) (.ob a C fs :: us) .none)) (hr : Room (k + 1) X.A) (hm : X.mg y = some (.ref C)) (hb : Binds X.K fd ps []) (hK : Γ.K = X.K) (ha : DA X Γ ρ (e :: es) ss) (hs : ss.all isVs = true := by rfl)
    (hg : Gl X y := by rfl) (hdb : (y == ("__debug__" : Str)) = false := by decide) (he : starEach (e :: es) X.env = (false, eval e X.env) :: starEach es X.env := by rfl) (hpl : (backTo pos (starEach es X.env)).any (·.1) = false := by rfl) :
    DB X Γ ρ (.Call (.Name y p) (e :: es) [] pos) C fs := by
  have F' : FnOk X.prog X.w X.K X.mg X.base (L2.CX X.prog X.w) k fa fd ps (fun vs H Q E => ∃ a, spM X.K (.ob a C [] :: ss) (.ob a C fs :: us) .none vs H Q E) :=
    ⟨fun vs H Q E ⟨a, q⟩ => (F a).len vs H Q E q, fun A outer s H args us' vs Q E hr he hb hv ⟨a, hs⟩ => (F a).run A outer s H args us' vs Q E hr he hb hv hs⟩
  exact (pe_make M F' hr hg hm hb .nil (passL (X := X)) ha hdb he hpl).weak fun σ H Q ⟨G, S, kk⟩ => ⟨G, S, fun vs G2 H2 A s2 e2 r nd f x dx hx hdx hne => by
    refine ⟨x, ?_⟩
    show spM X.K (.ob x C [] :: ss) (.ob x C fs :: us) .none (.ref x :: (vs ++ [])) _ _ _
    rw [List.append_nil]
    let H3 := upd (upd H2 dx (.own x)) x (.ins C dx [])
    have eH : Ex H2 (subH H3 [x]) := fun b o hb => by
      have n1 : b ≠ x := fun z => by rw [z, hx] at hb; cases hb
      have n2 : b ≠ dx := fun z => by rw [z, hdx] at hb; cases hb
      rw [subH_out (by simpa using n1)]
      show upd (upd H2 dx (.own x)) x (.ins C dx []) b = some o
      rw [upd_ne n1, upd_ne n2]
      exact hb
    have gx : G2 x = none := e2.none hx
    refine ⟨G2, [x], (e2.trans eH).trans subH_ex, ?_, by simp, fun v G4 H4 B4 st ex rs nd4 f4 rp => ?_⟩
    · have := SlR.cons (K := X.K) (SlS.ob (K := X.K) (I := subH H3 [x]) (H := H3) gx upd_same .nil) (SlR.vs (K' := X.K) (I' := subH H3 [x]) (G' := G2) (H' := H3) r hs)
      rwa [List.append_nil] at this
    · cases rs with
      | cons h4 r4 =>
        cases h4 with
        | @ob _ dx' _ fv' _ hg' hh' fr' =>
          cases rp with
          | non => exact ⟨rfl, kk (.ref x) G4 H4 (s2.trans ⟨st.g, eH.trans st.h, fun b o g1 g2 => st.f b o g1 (eH _ _ g2)⟩) ex ⟨x, dx', fv', rfl, s2.h.none hx, hg', hh', fr'⟩⟩⟩
theorem ss_b (j : Nat) (hN : X.N.Nodup) (he : DB X Γ ρ e C fs) (hr : ∀ a, SS X Γ (ρ.set j (.ob a C fs)) rest E) (hi : X.N[j]? = some n := by rfl) (hx : Loc X.env.scope n := by first | exact .inl rfl | exact .inr rfl) (hs : swapsWith e (some (.Name n p')) pos.line X.env = pure false := by rfl) (hf : X.fn n = true ∨ X.env.scope.names.lookup n = some .local := by first | exact .inl rfl | exact .inr rfl) :
    SS X Γ ρ (.Assign [.Name n p'] e pos :: rest) E :=
  ss_cons (M := fun ρ2 => ∃ a, ρ2 = ρ.set j (.ob a C fs)) ((ps_set hN hi hx he hs hf).weak fun D σ H ⟨G, S, k⟩ => ⟨G, S, fun v G2 H2 st ex ⟨a, dx, fv, ev, h1, h2, h3, h4⟩ => by
    subst ev
    exact k.nx _ _ G2 H2 ⟨a, rfl⟩ (S.store st ex (.ob h2 h3 h4) (by simp) fun b hb => by rw [List.mem_singleton.mp hb]; exact h1) st.g⟩) fun ρ2 ⟨a, e⟩ => e ▸ hr a
/-! ### what such calls stand in -/
theorem DTM.eq {b b' : Bool} (h : DTM X Γ ρ ρ' a b) (q : b = b') : DTM X Γ ρ ρ' a b' := q ▸ h
theorem ss_exprM (he : DM X Γ ρ ρ' e d) (hr : SS X Γ ρ' rest E) (hs : swapsWith e none pos.line X.env = pure false := by rfl) : SS X Γ ρ (.Expr e pos :: rest) E :=
  ss_cons (M := fun ρ2 => ρ2 = ρ') ((ps_expr he hs).weak fun D σ H ⟨G, S, k⟩ => ⟨G, S, fun v G2 H2 ex S2 _ => k.nx _ _ G2 H2 rfl S2 ex⟩) fun ρ2 e => e ▸ hr
theorem ss_retM (he : DM X Γ ρ ρ' e d) (h : E.rt (.fz d) ρ') : SS X Γ ρ (.Return (some e) pos :: rest) E :=
  ss_cons (M := fun _ => False) ((ps_ret he).weak fun D σ H ⟨G, S, k⟩ => ⟨G, S, fun v G2 H2 ex S2 r => k.rt (.fz d) ρ' σ v G2 H2 [] h S2.step S2.sub (.fz r) List.nodup_nil (fun _ z => by cases z) (S2.rts (Step.refl _ _) List.nodup_nil fun _ z => by cases z)⟩) fun ρ' e => e.elim
theorem DE.dm (h : DE X Γ ρ e .z d) : DM X Γ ρ ρ e d := PE.weak h fun σ H Q ⟨G, S, k⟩ => ⟨G, S, fun v G2 H2 s2 e2 r => k v G2 H2 s2.g (S.more s2 e2) r⟩
theorem dm_bin {op : CmpOp} {r : R2} {z w x : V} (ho : OpR X (compareOp op) r) (ha : DM X Γ ρ ρ' a (vD x)) (hb : DV X Γ ρ' b z) (hx : dV (vD x) = some x) (hm : behindInMarks op b = false) (hr : ∀ (H : Hp) (Q : VK), Q w H → r x z H Q) (hw : vOk w = true) : DM X Γ ρ ρ' (.Compare a [op] [b] pos) (vD w) :=
  (pe_cmpR ho ha hb hm).weak fun σ H Q ⟨G, S, kk⟩ => ⟨G, S, fun v G1 H1 e1 S1 r1 => ⟨G1, S1, fun u G2 H2 s2 e2 (q2 : u = z) => by
    rw [rep_dV r1 hx, q2]
    exact hr _ _ (kk _ G2 H2 (e1.trans s2.g) (S1.more s2 e2) (vD_rep hw))⟩⟩
theorem dtm_bin {op : CmpOp} {r : R2} {z x : V} {bb : Bool} (ho : OpR X (compareOp op) r) (ha : DM X Γ ρ ρ' a (vD x)) (hb : DV X Γ ρ' b z) (hx : dV (vD x) = some x) (hm : behindInMarks op b = false) (hr : ∀ (H : Hp) (Q : VK), Q (.bl bb) H → r x z H Q) : DTM X Γ ρ ρ' (.Compare a [op] [b] pos) bb :=
  (pt_cmpR ho ha hb hm).weak fun σ H Q ⟨G, S, kk⟩ => ⟨G, S, fun v G1 H1 e1 S1 r1 => ⟨G1, S1, fun u G2 H2 s2 e2 (q2 : u = z) => by
    rw [rep_dV r1 hx, q2]
    exact hr _ _ ⟨bb, rfl, kk G2 H2 (e1.trans s2.g) (S1.more s2 e2)⟩⟩⟩
variable {i1 i2 : Int}
theorem dtm_ne (ha : DM X Γ ρ ρ' a (.int i1)) (hb : DV X Γ ρ' b (.int i2)) : DTM X Γ ρ ρ' (.Compare a [.NotEq] [b] pos) (!decide (i1 = i2)) := dtm_bin (x := .int i1) op_ne ha hb rfl (nomark _) fun _ _ q => ⟨rfl, by rw [dec_i]; exact q⟩
theorem dm_eq (ha : DM X Γ ρ ρ' a (.int i1)) (hb : DV X Γ ρ' b (.int i2)) : DM X Γ ρ ρ' (.Compare a [.Eq] [b] pos) (.bool (decide (i1 = i2))) := dm_bin (x := .int i1) (w := .bl (decide (i1 = i2))) op_eq ha hb rfl (nomark _) (fun _ _ q => ⟨rfl, by rw [dec_i]; exact q⟩) rfl
theorem dtm_notN (ha : DM X Γ ρ ρ' a .none) {j q} : DTM X Γ ρ ρ' (.Compare a [.IsNot] [.Constant .none j q] pos) false := dtm_bin (x := .non) (z := .non) op_notN ha dv_non rfl (nomark _) fun _ _ q => ⟨rfl, q⟩
theorem dm_isN (ha : DM X Γ ρ ρ' a .none) {j q} : DM X Γ ρ ρ' (.Compare a [.Is] [.Constant .none j q] pos) (.bool true) := dm_bin (x := .non) (z := .non) (w := .bl true) op_isN ha dv_non rfl (nomark _) (fun _ _ q => ⟨rfl, q⟩) rfl
theorem dm_one {op} (h : DM X Γ ρ ρ' a d) : DM X Γ ρ ρ' (.BoolOp op [a] pos) d := pe_one h
theorem dm_and {rs : List Expr} {ρ2 : List Sl} (ha : DM X Γ ρ ρ' a (.bool true)) (hb : DM X Γ ρ' ρ2 (.BoolOp .And (b :: rs) pos) d) : DM X Γ ρ ρ2 (.BoolOp .And (a :: b :: rs) pos) d :=
  (pe_and ha hb).weak fun σ H Q ⟨G, S, kk⟩ => ⟨G, S, fun v G1 H1 e1 S1 r1 => by
    cases r1 with
    | bl => exact ⟨true, rfl, by rw [if_pos rfl]; exact ⟨G1, S1, fun u G2 H2 e2 S2 r2 => kk u G2 H2 (e1.trans e2) S2 r2⟩⟩⟩
theorem dtm_or {rs : List Expr} {bb : Bool} (ha : DTM X Γ ρ ρ' a false) (hb : DW X Γ ρ' (.BoolOp .Or (b :: rs) pos) bb) : DTM X Γ ρ ρ' (.BoolOp .Or (a :: b :: rs) pos) bb :=
  (PW.pt (pw_or ha hb)).weak fun σ H Q ⟨G, S, kk⟩ => ⟨G, S, fun G1 H1 e1 S1 => iteF ⟨G1, S1, fun G2 H2 s2 e2 => kk G2 H2 (e1.trans s2.g) (S1.more s2 e2)⟩⟩
end
end DL

set_option Elab.async false
set_option linter.all false
set_option maxRecDepth 100000
/-! an estate: rows of worths and shares -/
namespace Th
open PySem L2 DL
def esF (t s : List (List Int)) : List (Str × D) := [("rows", dLL t), ("held", dLL s)]
theorem rh_b : (("rows" : Str) == ("rows" : Str)) = true ∧ (("held" : Str) == ("rows" : Str)) = false ∧ (("held" : Str) == ("held" : Str)) = true ∧ ("rows" : Str) ≠ ("held" : Str) := by decide +kernel
theorem lk_rows (t s : List (List Int)) : (esF t s).lookup ("rows" : Str) = some (dLL t) := by
  unfold esF
  rw [List.lookup_cons, rh_b.1]
theorem lk_held (t s : List (List Int)) : (esF t s).lookup ("held" : Str) = some (dLL s) := by
  unfold esF
  rw [List.lookup_cons, rh_b.2.1]
  show List.lookup _ _ = _
  rw [List.lookup_cons, rh_b.2.2.1]
theorem lk_no {m : Str} {t s : List (List Int)} (h1 : (m == ("rows" : Str)) = false) (h2 : (m == ("held" : Str)) = false) : (esF t s).lookup m = none := by
  unfold esF
  rw [List.lookup_cons, h1]
  show List.lookup _ _ = _
  rw [List.lookup_cons, h2]
  rfl
theorem es_rows (t s u : List (List Int)) : putD ("rows" : Str) (dLL u) (esF t s) = esF u s := by
  unfold esF
  rw [putD, if_pos rfl]
theorem es_held (t s u : List (List Int)) : putD ("held" : Str) (dLL u) (esF t s) = esF t u := by
  unfold esF
  rw [putD, if_neg rh_b.2.2.2, putD, if_pos rfl]
theorem es_new (t s : List (List Int)) : putD ("held" : Str) (dLL s) (putD ("rows" : Str) (dLL t) []) = esF t s := by
  unfold esF
  rw [putD, putD, if_neg rh_b.2.2.2, putD]
def emp (n : Nat) : List (List Int) := (List.range n).map fun _ => []
def addC (t : List (List Int)) (w : List Int) : List (List Int) := (List.range t.length).map fun (i : Nat) => t.getD i default ++ [pyAt w (i : Int)]
def cutH {α : Type} (xs : List α) (h : Int) : List α := pySl xs none (some h) ++ pySl xs (some (h + 1)) none
def goS (t s : List (List Int)) (h : Int) : List (List Int) := putA (cutH t h) (cutH s h) (pyAt s h) (pyAt s h).length
/-- what an estate is, m things having come -/
structure EsI (t s : List (List Int)) (m : Nat) : Prop where
  gt : GoodT t m
  gs : GoodS s t.length m
  all : s.flatten.Perm (rgI m)
theorem addC_len (t : List (List Int)) (w : List Int) : (addC t w).length = t.length := by simp [addC]
theorem addC_good {t : List (List Int)} {w : List Int} {m : Nat} (g : GoodT t m) (hm : m < 40) (hl : w.length = t.length) (hw : ∀ x ∈ w, 0 ≤ x ∧ x ≤ 1000000) : GoodT (addC t w) (m + 1) := by
  refine ⟨by rw [addC_len]; exact g.n1, by rw [addC_len]; exact g.n8, by omega, fun r hr => ?_, fun r hr x hx => ?_⟩
  · obtain ⟨i, hi, rfl⟩ := List.mem_map.mp hr
    rw [List.length_append, g.len _ (getD_memA (List.mem_range.mp hi))]
    rfl
  · obtain ⟨i, hi, rfl⟩ := List.mem_map.mp hr
    rcases List.mem_append.mp hx with z | z
    · exact g.wor _ (getD_memA (List.mem_range.mp hi)) x z
    · rw [List.mem_singleton] at z
      rw [z]
      exact hw _ (pyAt_mem (by have := List.mem_range.mp hi; exact ⟨by omega, by omega⟩))
theorem GoodS.wider {s : List (List Int)} {n m : Nat} (h : GoodS s n m) : GoodS s n (m + 1) := ⟨h.n, fun r hr x hx => by have := h.bd r hr x hx; omega, h.up, h.nd⟩
theorem rgI_succ (m : Nat) : rgI (m + 1) = rgI m ++ [(m : Int)] := by unfold rgI; rw [List.range_succ, List.map_append]; rfl
theorem EsI.new {t s : List (List Int)} {m : Nat} (I : EsI t s m) : (m : Int) ∉ s.flatten := fun z => by
  have := rgI_mem.mp (I.all.subset z)
  omega
theorem come_ok {t s : List (List Int)} {w : List Int} {m : Nat} (I : EsI t s m) (hm : m < 40) (hl : w.length = t.length) (hw : ∀ x ∈ w, 0 ≤ x ∧ x ≤ 1000000) : EsI (addC t w) (putS (addC t w) s (m : Int)) (m + 1) := by
  have g' := addC_good I.gt hm hl hw
  have s' : GoodS s (addC t w).length (m + 1) := by rw [addC_len]; exact I.gs.wider
  refine ⟨g', put_good s' g'.n1 ⟨by omega, by omega⟩ I.new, ?_⟩
  rw [rgI_succ]
  exact (put_perm s'.n g'.n1 _).trans (I.all.append_right _)
/-! an heir goes -/
theorem cut_eq {α : Type} (xs : List α) (h : Nat) (hh : h < xs.length) : cutH xs (h : Int) = xs.take h ++ xs.drop (h + 1) := by
  unfold cutH pySl
  have e1 : ((h : Int) + 1) = ((h + 1 : Nat) : Int) := by push_cast; rfl
  rw [e1, HT.sIx_nat, HT.sIx_nat, HT.sIx_none, HT.sIx_none, Nat.min_eq_left (by omega), Nat.min_eq_left (by omega), List.drop_zero, Nat.sub_zero]
  rw [List.take_of_length_le (l := xs.drop (h + 1)) (by rw [List.length_drop]; exact Nat.le_refl _)]
theorem cut_split {α : Type} [Inhabited α] (xs : List α) (h : Nat) (hh : h < xs.length) : xs = xs.take h ++ pyAt xs (h : Int) :: xs.drop (h + 1) := by
  rw [pyAt_nat]
  have e : xs.getD h default = xs[h] := by simp [List.getD_eq_getElem?_getD, hh]
  rw [e, ← List.drop_eq_getElem_cons hh, List.take_append_drop]
theorem cut_len {α : Type} {xs : List α} {h : Int} {n : Nat} (hn : xs.length = n) (hh : 0 ≤ h ∧ h < (n : Int)) : (cutH xs h).length = n - 1 := by
  obtain ⟨k, rfl⟩ : ∃ k : Nat, h = k := ⟨h.toNat, by omega⟩
  rw [cut_eq _ _ (by omega), List.length_append, List.length_take, List.length_drop]
  omega
theorem cut_mem {α : Type} {xs : List α} {h : Int} (hh : 0 ≤ h ∧ h < (xs.length : Int)) : ∀ x ∈ cutH xs h, x ∈ xs := fun x hx => by
  obtain ⟨k, rfl⟩ : ∃ k : Nat, h = k := ⟨h.toNat, by omega⟩
  rw [cut_eq _ _ (by omega)] at hx
  rcases List.mem_append.mp hx with z | z
  · exact List.mem_of_mem_take z
  · exact List.mem_of_mem_drop z
theorem cut_flat {s : List (List Int)} {h : Int} (hh : 0 ≤ h ∧ h < (s.length : Int)) : s.flatten.Perm ((cutH s h).flatten ++ pyAt s h) := by
  obtain ⟨k, rfl⟩ : ∃ k : Nat, h = k := ⟨h.toNat, by omega⟩
  rw [cut_eq _ _ (by omega)]
  conv => lhs; rw [cut_split s k (by omega)]
  simp only [List.flatten_append, List.flatten_cons, List.append_assoc]
  exact List.Perm.append_left _ List.perm_append_comm
theorem cut_good {t s : List (List Int)} {m : Nat} {h : Int} (g : GoodT t m) (hs : GoodS s t.length m) (h2 : 2 ≤ t.length) (hh : 0 ≤ h ∧ h < (t.length : Int)) : GoodT (cutH t h) m ∧ GoodS (cutH s h) (cutH t h).length m ∧ ((cutH s h).flatten ++ pyAt s h).Nodup := by
  have hh' : 0 ≤ h ∧ h < (s.length : Int) := by rw [hs.n]; exact hh
  have n1 := cut_len (xs := t) rfl hh
  have nd : ((cutH s h).flatten ++ pyAt s h).Nodup := (cut_flat hh').nodup_iff.mp hs.nd
  refine ⟨⟨by omega, by have := g.n8; omega, g.m40, fun r hr => g.len r (cut_mem hh r hr), fun r hr => g.wor r (cut_mem hh r hr)⟩, ⟨?_, fun r hr => hs.bd r (cut_mem hh' r hr), fun r hr => hs.up r (cut_mem hh' r hr), (List.nodup_append.mp nd).1⟩, nd⟩
  rw [n1]
  exact cut_len hs.n hh
theorem putA_succ (t h0 : List (List Int)) {things : List Int} {k : Nat} (hk : k < things.length) : putA t h0 things (k + 1) = putS t (putA t h0 things k) (things.getD k default) := by
  unfold putA
  rw [take_snoc hk, List.foldl_append]
  rfl
theorem putA_good {t h0 : List (List Int)} {things : List Int} {m : Nat} (g : GoodT t m) (hs : GoodS h0 t.length m) (hx : ∀ x ∈ things, 0 ≤ x ∧ x < (m : Int)) (nd : (h0.flatten ++ things).Nodup) : ∀ k, k ≤ things.length → GoodS (putA t h0 things k) t.length m ∧ (putA t h0 things k).flatten.Perm (h0.flatten ++ things.take k)
  | 0, _ => ⟨hs, by simp [putA]⟩
  | k + 1, hk => by
    obtain ⟨q1, q2⟩ := putA_good g hs hx nd k (by omega)
    have hin : things.getD k default ∉ (putA t h0 things k).flatten := fun z => by
      have := q2.subset z
      have e := take_snoc (things := things) (k := k) (by omega)
      have n2 : (h0.flatten ++ things.take (k + 1)).Nodup := nd.sublist (List.Sublist.append_left (List.take_sublist _ _) _)
      rw [e, ← List.append_assoc] at n2
      exact (List.nodup_append.mp n2).2.2 _ this _ (List.mem_singleton.mpr rfl) rfl
    rw [putA_succ t h0 (by omega)]
    refine ⟨put_good q1 g.n1 (hx _ (getD_memA (by omega))) hin, ?_⟩
    rw [take_snoc (by omega), ← List.append_assoc]
    exact (put_perm q1.n g.n1 _).trans (q2.append_right _)
theorem go_things {t s : List (List Int)} {m : Nat} {h : Int} (hs : GoodS s t.length m) (hh : 0 ≤ h ∧ h < (t.length : Int)) : ∀ x ∈ pyAt s h, 0 ≤ x ∧ x < (m : Int) := hs.bd _ (hs.at ⟨by omega, hh.2⟩)
theorem go_ok {t s : List (List Int)} {m : Nat} {h : Int} (I : EsI t s m) (h2 : 2 ≤ t.length) (hh : 0 ≤ h ∧ h < (t.length : Int)) : EsI (cutH t h) (goS t s h) m := by
  obtain ⟨g', s', nd⟩ := cut_good I.gt I.gs h2 hh
  obtain ⟨q1, q2⟩ := putA_good g' s' (go_things I.gs hh) nd _ (Nat.le_refl _)
  refine ⟨g', q1, q2.trans ?_⟩
  rw [List.take_length]
  exact (cut_flat (by rw [I.gs.n]; exact hh)).symm.trans I.all
/-! an heir joins -/
theorem join_good {t : List (List Int)} {w : List Int} {m : Nat} (g : GoodT t m) (h8 : t.length < 8) (hl : w.length = m) (hw : ∀ x ∈ w, 0 ≤ x ∧ x ≤ 1000000) : GoodT (t ++ [w]) m := by
  refine ⟨by rw [List.length_append]; have := g.n1; omega, by rw [List.length_append, List.length_singleton]; omega, g.m40, fun r hr => ?_, fun r hr => ?_⟩
  · rcases List.mem_append.mp hr with z | z
    · exact g.len r z
    · rw [List.mem_singleton.mp z]; exact hl
  · rcases List.mem_append.mp hr with z | z
    · exact g.wor r z
    · rw [List.mem_singleton.mp z]; exact hw
theorem join_ok {t s : List (List Int)} {w : List Int} {m : Nat} (I : EsI t s m) (h8 : t.length < 8) (hl : w.length = m) (hw : ∀ x ∈ w, 0 ≤ x ∧ x ≤ 1000000) : EsI (t ++ [w]) (dlS (t ++ [w]) m) m := by
  have g' := join_good I.gt h8 hl hw
  exact ⟨g', dl_good g' m (Nat.le_refl _), (dl_perm g' m).1⟩
theorem emp_len (n : Nat) : (emp n).length = n := by simp [emp]
theorem emp_flat (n : Nat) : (emp n).flatten = [] := by
  rw [List.flatten_eq_nil_iff]
  intro l hl
  obtain ⟨_, _, rfl⟩ := List.mem_map.mp hl
  rfl
theorem emp_ok {n : Nat} (h1 : 1 ≤ n) (h8 : n ≤ 8) : EsI (emp n) (emp n) 0 := by
  have z : ∀ r ∈ emp n, r = [] := fun r hr => by
    obtain ⟨_, _, rfl⟩ := List.mem_map.mp hr
    rfl
  exact ⟨⟨by rw [emp_len]; exact h1, by rw [emp_len]; exact h8, by omega, fun r hr => (by rw [z r hr]; rfl), fun r hr x hx => (by rw [z r hr] at hx; cases hx)⟩, ⟨rfl, fun r hr x hx => (by rw [z r hr] at hx; cases hx), fun r hr => (by rw [z r hr]; exact .nil), (by rw [emp_flat]; exact .nil)⟩, (by rw [emp_flat]; exact .nil)⟩
theorem isRow_ok {w : List Int} {n : Int} (hl : (w.length : Int) = n) (hw : ∀ x ∈ w, 0 ≤ x ∧ x ≤ 1000000) : isRow (dL w) n = true := by
  have hd : dsOf (dL w) = w.map dI := rfl
  unfold isRow
  have h1 : isList (dL w) = true := rfl
  rw [h1, hd, List.length_map, decide_eq_true hl, List.map_map]
  refine (all_true fun x hx => ?_)
  show isAmong (.int x) 0 1000000 = true
  rw [isAmong_int, Bool.and_eq_true]
  exact ⟨decide_eq_true (hw x hx).1, decide_eq_true (hw x hx).2⟩
end Th

set_option Elab.async false
set_option linter.all false
set_option maxRecDepth 100000
/-! k09: steps told -/
namespace Th
open PySem L2 DL
def ringD (r : List Int) : D := .tuple [.str "ring", .tuple (r.map dI)]
def giveD (x h : Int) : D := .tuple [.str "give", .int x, .int h]
def tellS (t s : List (List Int)) (x : Int) : List D := (stO t s).1.map ringD ++ [giveD x (goesTo t (stO t s).2)]
/-- the rings told, each turned in its turn -/
inductive Chain (t : List (List Int)) : List (List Int) → List (List Int) → List (List Int) → Prop
  | nil (s : List (List Int)) : Chain t s [] s
  | cons {s s' : List (List Int)} {rs : List (List Int)} : leftOf (pairsOf t s) t.length ≠ [] → Chain t (exR t s) rs s' → Chain t s (ringR t s :: rs) s'
theorem chain_stF {t : List (List Int)} : ∀ (f : Nat) (k : List (List Int) × List (List Int)), ∃ rs, (stF t f k).1 = k.1 ++ rs ∧ Chain t k.2 rs (stF t f k).2
  | 0, k => ⟨[], by simp [stF], .nil _⟩
  | f + 1, k => by
    unfold stF
    by_cases q : leftOf (pairsOf t k.2) t.length = []
    · rw [if_pos q]
      exact ⟨[], by simp, .nil _⟩
    · rw [if_neg q]
      obtain ⟨rs, h1, h2⟩ := chain_stF f (k.1 ++ [ringR t k.2], exR t k.2)
      exact ⟨ringR t k.2 :: rs, by rw [h1]; simp, .cons q h2⟩
theorem chain_st (t s : List (List Int)) : Chain t s (stO t s).1 (stO t s).2 := by
  obtain ⟨rs, h1, h2⟩ := chain_stF (pairsOf t s).length ([], s)
  have e : (stO t s).1 = rs := h1
  rw [e]
  exact h2
/-- the shares behind so many turned rings -/
def chS (t s : List (List Int)) : Nat → List (List Int)
  | 0 => s
  | k + 1 => exR t (chS t s k)
theorem chS_ex (t s : List (List Int)) : ∀ k, chS t (exR t s) k = chS t s (k + 1)
  | 0 => rfl
  | k + 1 => by
    show exR t (chS t (exR t s) k) = exR t (chS t s (k + 1))
    rw [chS_ex t s k]
theorem chain_at {t s s' : List (List Int)} {rs : List (List Int)} (c : Chain t s rs s') : (∀ k, k < rs.length → leftOf (pairsOf t (chS t s k)) t.length ≠ [] ∧ rs.getD k default = ringR t (chS t s k)) ∧ chS t s rs.length = s' := by
  induction c with
  | nil s => exact ⟨fun k h => absurd h (Nat.not_lt_zero _), rfl⟩
  | @cons s s' rs h c ih =>
    refine ⟨fun k hk => ?_, ?_⟩
    · cases k with
      | zero => exact ⟨h, rfl⟩
      | succ k =>
        have := ih.1 k (by simpa using hk)
        rw [chS_ex] at this
        exact ⟨this.1, by simpa using this.2⟩
    · rw [List.length_cons, ← chS_ex]
      exact ih.2
theorem ch_at (t s : List (List Int)) {k : Nat} (h : k < (stO t s).1.length) : leftOf (pairsOf t (chS t s k)) t.length ≠ [] ∧ (stO t s).1.getD k default = ringR t (chS t s k) := (chain_at (chain_st t s)).1 k h
theorem ch_end (t s : List (List Int)) : chS t s (stO t s).1.length = (stO t s).2 := (chain_at (chain_st t s)).2
theorem ch_perm {t s : List (List Int)} (hn : s.length = t.length) : ∀ k, k ≤ (stO t s).1.length → (chS t s k).Perm s
  | 0, _ => .refl _
  | k + 1, h => (exR_perm ((ch_perm hn k (by omega)).length_eq.trans hn) (ch_at t s (by omega)).1).trans (ch_perm hn k (by omega))
theorem ch_step {t s : List (List Int)} (hn : s.length = t.length) {k : Nat} (h : k < (stO t s).1.length) : turnS (chS t s k) (ringR t (chS t s k)) t.length = chS t s (k + 1) :=
  (exR_turn ((ch_perm hn k (by omega)).length_eq.trans hn) (ch_at t s h).1).symm
theorem tell_sl (t s : List (List Int)) (x : Int) : pySl (tellS t s x) none (some (-1)) = (stO t s).1.map ringD := by
  unfold pySl tellS HT.sIx
  simp
  rw [show (-1 + (((stO t s).1.length : Int) + 1)).toNat = ((stO t s).1.map ringD).length by rw [List.length_map]; omega]
  exact List.take_left
theorem tell_len (t s : List (List Int)) (x : Int) : (tellS t s x).length = (stO t s).1.length + 1 := by simp [tellS]
theorem tell_last (t s : List (List Int)) (x : Int) : pyAt (tellS t s x) (-1) = giveD x (goesTo t (stO t s).2) := by
  unfold pyAt tellS
  simp
  rw [show (-1 + (((stO t s).1.length : Int) + 1)).toNat = ((stO t s).1.map ringD).length by rw [List.length_map]; omega]
  simp
theorem map_getD {α β : Type} [Inhabited α] [Inhabited β] (f : α → β) {xs : List α} {i : Nat} (h : i < xs.length) : (xs.map f).getD i default = f (xs.getD i default) := by
  simp [List.getD_eq_getElem?_getD, h]
theorem pySl_one {α : Type} [Inhabited α] {xs : List α} (h : xs ≠ []) : pySl xs none (some 1) = [xs.getD 0 default] := by
  cases xs with
  | nil => exact absurd rfl h
  | cons x xs =>
    unfold pySl HT.sIx
    simp
theorem pairs_ok {t s : List (List Int)} {m : Nat} (g : GoodT t m) (hs : GoodS s t.length m) (h : leftOf (pairsOf t s) t.length ≠ []) {k : Nat} (hk : k < (ringR t s).length) : (pyAt (ringR t s) ((k : Int) - 1), pyAt (ringR t s) (k : Int)) ∈ pairsOf t s := (ringR_ring h).go k hk
/-- k09's table, things, shares -/
def k9M (ns : List Int) : Nat := if k7c ns = true then nH ns + 1 else 1 + nM ns
def k9X (ns : List Int) : Int := if k7c ns = true then (nH ns : Int) else lAt ns 53 % ((1 + nM ns : Nat) : Int)
def k9T (ns : List Int) : List (List Int) := if k7c ns = true then (lAround ns (nH ns)).map fun r => r ++ [lAt ns 52 % 1000001] else lTable ns (nH ns) (1 + nM ns)
def k9S (ns : List Int) : List (List Int) := if k7c ns = true then ownS (nH ns) else (lShares ns (nH ns) (1 + nM ns)).map fun r => r.filter fun y => !decide (y = k9X ns)
theorem filter_good {s : List (List Int)} {n m : Nat} (p : Int → Bool) (h : GoodS s n m) : GoodS (s.map fun r => r.filter p) n m := by
  have sub : ∀ xs : List (List Int), (xs.map fun r => r.filter p).flatten = xs.flatten.filter p := fun xs => by
    induction xs with
    | nil => rfl
    | cons x xs ih => rw [List.map_cons, List.flatten_cons, List.flatten_cons, List.filter_append, ih]
  refine ⟨by rw [List.length_map]; exact h.n, fun r hr x hx => ?_, fun r hr => ?_, by rw [sub]; exact h.nd.filter _⟩
  · obtain ⟨r', hr', rfl⟩ := List.mem_map.mp hr
    exact h.bd r' hr' x (List.mem_filter.mp hx).1
  · obtain ⟨r', hr', rfl⟩ := List.mem_map.mp hr
    exact (h.up r' hr').filter _
theorem k9_good (ns : List Int) : GoodT (k9T ns) (k9M ns) ∧ GoodS (k9S ns) (k9T ns).length (k9M ns) ∧ (k9T ns).length = nH ns ∧ (0 ≤ k9X ns ∧ k9X ns < (k9M ns : Int)) ∧ k9X ns ∉ (k9S ns).flatten := by
  have b1 := nH_bd ns
  have b2 := nM_bd ns
  by_cases h : k7c ns = true
  · have h2 : 2 ≤ nH ns := by
      have h0 := h
      unfold k7c at h0
      rw [Bool.and_eq_true] at h0
      have := of_decide_eq_true h0.2
      omega
    obtain ⟨q1, q2, _⟩ := lAround_spec ns h2 b1.2
    have eT : k9T ns = (lAround ns (nH ns)).map fun r => r ++ [lAt ns 52 % 1000001] := if_pos h
    have eS : k9S ns = ownS (nH ns) := if_pos h
    have eX : k9X ns = (nH ns : Int) := if_pos h
    have eM : k9M ns = nH ns + 1 := if_pos h
    have o := ownS_good (nH ns)
    rw [eT, eS, eX, eM]
    refine ⟨⟨?_, ?_, by omega, fun r hr => ?_, fun r hr x hx => ?_⟩, ⟨?_, fun r hr x hx => ?_, o.up, o.nd⟩, by rw [List.length_map]; exact q2, ⟨by omega, by omega⟩, fun z => ?_⟩
    · rw [List.length_map]; exact q1.n1
    · rw [List.length_map]; exact q1.n8
    · obtain ⟨r', hr', rfl⟩ := List.mem_map.mp hr
      rw [List.length_append, q1.len r' hr']
      rfl
    · obtain ⟨r', hr', rfl⟩ := List.mem_map.mp hr
      rcases List.mem_append.mp hx with z | z
      · exact q1.wor r' hr' x z
      · rw [List.mem_singleton] at z
        omega
    · rw [List.length_map, q2]; exact o.n
    · have := o.bd r hr x hx
      omega
    · obtain ⟨r, hr, hx⟩ := List.mem_flatten.mp z
      have := o.bd r hr _ hx
      omega
  · have eT : k9T ns = lTable ns (nH ns) (1 + nM ns) := if_neg h
    have eS : k9S ns = (lShares ns (nH ns) (1 + nM ns)).map fun r => r.filter fun y => !decide (y = k9X ns) := if_neg h
    have eX : k9X ns = lAt ns 53 % ((1 + nM ns : Nat) : Int) := if_neg h
    have eM : k9M ns = 1 + nM ns := if_neg h
    have e : (lTable ns (nH ns) (1 + nM ns)).length = nH ns := by simp [lTable]
    rw [eT, eM]
    refine ⟨lTable_good ns b1.1 b1.2 (by omega), by rw [e, eS]; exact filter_good _ (lShares_good ns b1.1), e, by rw [eX]; exact ⟨Int.emod_nonneg _ (by omega), Int.emod_lt_of_pos _ (by omega)⟩, fun z => ?_⟩
    rw [eS] at z
    obtain ⟨r, hr, hx⟩ := List.mem_flatten.mp z
    obtain ⟨r', _, rfl⟩ := List.mem_map.mp hr
    have := (List.mem_filter.mp hx).2
    simp at this
theorem put_sorted {t s : List (List Int)} {m : Nat} (g : GoodT t m) (hs : GoodS s t.length m) {x : Int} (hx : 0 ≤ x ∧ x < (m : Int)) (hf : x ∉ s.flatten) : ∀ r ∈ putS t s x, r = sortI r := fun r hr => up_sorted ((put_good hs g.n1 hx hf).up r hr)
theorem put_flat {t s : List (List Int)} {m : Nat} (g : GoodT t m) (hs : GoodS s t.length m) (x : Int) : sortI (putS t s x).flatten = sortI ([x] ++ s.flatten) :=
  (sortI_uniq (((sortI_perm _).trans ((put_perm hs.n g.n1 x).trans List.perm_append_comm))) (sortI_sorted _))
theorem due_in {t s : List (List Int)} {m : Nat} (g : GoodT t m) (hs : GoodS s t.length m) {x : Int} (hx : 0 ≤ x ∧ x < (m : Int)) (hf : x ∉ s.flatten) {F : List (List (List Int))} (h : fxO t s [x] = some F) : putS t s x ∈ F :=
  fx_ok g hs (fun y hy => by rw [List.mem_singleton.mp hy]; exact hx) (List.nodup_append.mpr ⟨hs.nd, by simp, fun a ha b hb => by
    rw [List.mem_singleton] at hb
    rw [hb]
    exact fun z => hf (z ▸ ha)⟩) h
theorem borne_put {t s : List (List Int)} {m : Nat} (g : GoodT t m) (hs : GoodS s t.length m) {x : Int} (hx : 0 ≤ x ∧ x < (m : Int)) (hf : x ∉ s.flatten) (h : lBorne t s = true) : lBorne t (putS t s x) = true :=
  fair_borne g (put_good hs g.n1 hx hf) (fair_put g hs.n hx (borne_fair g hs h))
theorem not_no {b : Bool} (h : (!b) = true) (h2 : b = true) : False := by rw [h2] at h; cases h
end Th

set_option Elab.async false
set_option linter.all false
set_option maxRecDepth 100000
/-! k15: heirs of one mind -/
namespace Th
open PySem L2 DL
def lWo (n : Int) : Int := pyAt [n / 4 % 1000001, 1000000 - n / 4 % 3, n / 4 % 7, n / 4 % 40] (n % 4)
theorem lWo_bd (n : Int) : 0 ≤ lWo n ∧ lWo n ≤ 1000000 := by
  unfold lWo
  have h : n % 4 = 0 ∨ n % 4 = 1 ∨ n % 4 = 2 ∨ n % 4 = 3 := by omega
  rcases h with h | h | h | h
  · rw [h]; show 0 ≤ n / 4 % 1000001 ∧ n / 4 % 1000001 ≤ 1000000; omega
  · rw [h]; show 0 ≤ 1000000 - n / 4 % 3 ∧ 1000000 - n / 4 % 3 ≤ 1000000; omega
  · rw [h]; show 0 ≤ n / 4 % 7 ∧ n / 4 % 7 ≤ 1000000; omega
  · rw [h]; show 0 ≤ n / 4 % 40 ∧ n / 4 % 40 ≤ 1000000; omega
def sumsL (r : List Int) (s : List (List Int)) : List Int := s.map fun q => summed r q
def toL (r : List Int) (s : List (List Int)) : Int := (((sumsL r s).idxOf (minI (sumsL r s)) : Nat) : Int)
def lPutK (r : List Int) (s : List (List Int)) (things : List Int) (k : Nat) : List (List Int) := (things.take k).foldl (fun u x => withThing u (toL r u) x) s
def lPut (r : List Int) (s : List (List Int)) (things : List Int) : List (List Int) := lPutK r s things things.length
theorem sums_len (r : List Int) (s : List (List Int)) : (sumsL r s).length = s.length := by simp [sumsL]
theorem toL_bd {r : List Int} {s : List (List Int)} (h : 0 < s.length) : 0 ≤ toL r s ∧ toL r s < (s.length : Int) := by
  have := List.idxOf_lt_length_iff.mpr (minI_mem (ns := sumsL r s) (by rw [sums_len]; exact h))
  rw [sums_len] at this
  unfold toL
  omega
theorem toL_min {r : List Int} {s : List (List Int)} (h : 0 < s.length) {b : Nat} (hb : b < s.length) : summed r (pyAt s (toL r s)) ≤ summed r (pyAt s (b : Int)) ∧ ((b : Int) < toL r s → summed r (pyAt s (toL r s)) < summed r (pyAt s (b : Int))) := by
  have hm := minI_mem (ns := sumsL r s) (by rw [sums_len]; exact h)
  have hl := List.idxOf_lt_length_iff.mpr hm
  have e1 : summed r (pyAt s (toL r s)) = minI (sumsL r s) := by
    have q : (sumsL r s)[(sumsL r s).idxOf (minI (sumsL r s))]'hl = minI (sumsL r s) := List.getElem_idxOf hl
    have hl2 := hl
    rw [sums_len] at hl2
    have at_ : ∀ j (hj : j < s.length), (sumsL r s)[j]'(by rw [sums_len]; exact hj) = summed r (s.getD j default) := fun j hj => by
      simp [sumsL, List.getD_eq_getElem?_getD, hj]
    rw [at_ _ hl2] at q
    unfold toL
    rw [pyAt_nat]
    exact q
  have e2 : (sumsL r s)[b]'(by rw [sums_len]; exact hb) = summed r (pyAt s (b : Int)) := by
    rw [pyAt_nat]
    simp [sumsL, List.getD_eq_getElem?_getD, hb]
  have le := minI_le (ns := sumsL r s) (y := summed r (pyAt s (b : Int))) (by rw [← e2]; exact List.getElem_mem _)
  rw [e1]
  refine ⟨le, fun hlt => ?_⟩
  have ne : summed r (pyAt s (b : Int)) ≠ minI (sumsL r s) := fun z => by
    have hlt' : b < (sumsL r s).idxOf (minI (sumsL r s)) := by unfold toL at hlt; omega
    have := List.not_of_lt_findIdx (p := (· == minI (sumsL r s))) (xs := sumsL r s) hlt'
    rw [e2, z] at this
    simp at this
  omega
section
variable {r : List Int} {s : List (List Int)} {n : Nat}
theorem rep_at {α : Type} [Inhabited α] {r : α} {a : Int} (ha : 0 ≤ a ∧ a < (n : Int)) : pyAt (List.replicate n r) a = r := by
  obtain ⟨k, rfl⟩ : ∃ k : Nat, a = k := ⟨a.toNat, by omega⟩
  rw [pyAt_nat]
  have : k < n := by omega
  simp [List.getD_eq_getElem?_getD, this]
theorem rep_feels {a b : Int} (ha : 0 ≤ a ∧ a < (n : Int)) : feels (List.replicate n r) s a b = decide (summed r (pyAt s a) < summed r (pyAt s b)) := by
  unfold feels
  rw [rep_at ha]
theorem rep_pair {p : Int × Int} (h : p ∈ pairsOf (List.replicate n r) s) : summed r (pyAt s p.1) < summed r (pyAt s p.2) := by
  obtain ⟨a, b, rfl, h1, h2, h3⟩ := mem_pairsOf.mp h
  rw [List.length_replicate] at h1
  rw [rep_feels ⟨by omega, by omega⟩] at h3
  exact of_decide_eq_true h3
theorem rep_noring : leftOf (pairsOf (List.replicate n r) s) (List.replicate n r).length = [] := by
  apply Classical.byContradiction
  intro h
  have R := ringR_ring h
  have two := R.two
  have up : ∀ k : Nat, k < (ringR (List.replicate n r) s).length → summed r (pyAt s ((ringR (List.replicate n r) s).getD 0 default)) ≤ summed r (pyAt s ((ringR (List.replicate n r) s).getD k default)) := by
    intro k
    induction k with
    | zero => intro _; exact Int.le_refl _
    | succ k ih =>
      intro hk
      have := rep_pair (ring_edge R (k := k) (by omega))
      rw [Nat.mod_eq_of_lt hk] at this
      exact Int.le_trans (ih (by omega)) (Int.le_of_lt this)
  have e := rep_pair (ring_edge R (k := (ringR (List.replicate n r) s).length - 1) (by omega))
  have l := up ((ringR (List.replicate n r) s).length - 1) (by omega)
  rw [show (ringR (List.replicate n r) s).length - 1 + 1 = (ringR (List.replicate n r) s).length by omega, Nat.mod_self] at e
  simp only at e
  omega
theorem rep_st (hn : s.length = n) : stO (List.replicate n r) s = ([], s) :=
  ((StI.start (t := List.replicate n r) (by rw [List.length_replicate]; exact hn)).done rep_noring).symm
theorem hd_least {xs : List Int} (up : xs.Pairwise (· < ·)) {x : Int} (hx : x ∈ xs) : pyAt xs 0 ≤ x := by
  cases xs with
  | nil => cases hx
  | cons y ys =>
    show y ≤ x
    rcases List.mem_cons.mp hx with e | h
    · omega
    · have := (List.pairwise_cons.mp up).1 x h
      omega
theorem rep_goes (hn : s.length = n) (h1 : 1 ≤ n) : goesTo (List.replicate n r) s = toL r s := by
  have hl : (List.replicate n r).length = n := List.length_replicate
  have tb := toL_bd (r := r) (s := s) (by omega)
  have g := goes_spec (t := List.replicate n r) (s := s) (by omega) rep_noring
  rw [hl] at g
  have mem : toL r s ∈ unenv (pairsOf (List.replicate n r) s) (rgI (List.replicate n r).length) := by
    rw [mem_unenv, hl]
    refine ⟨rgI_mem.mpr ⟨tb.1, by omega⟩, fun a ha hp => ?_⟩
    have hab := rgI_mem.mp ha
    have := rep_pair hp
    obtain ⟨k, rfl⟩ : ∃ k : Nat, a = k := ⟨a.toNat, by omega⟩
    have := (toL_min (r := r) (s := s) (by omega) (b := k) (by omega)).1
    simp only at *
    omega
  have le : goesTo (List.replicate n r) s ≤ toL r s := hd_least (((rgI_up _).imp fun q => by omega).sublist List.filter_sublist) mem
  obtain ⟨k, hk⟩ : ∃ k : Nat, goesTo (List.replicate n r) s = k := ⟨(goesTo (List.replicate n r) s).toNat, by omega⟩
  have f := g.2 (toL r s) ⟨tb.1, by omega⟩
  rw [rep_feels ⟨tb.1, by omega⟩, decide_eq_false_iff_not] at f
  have q := (toL_min (r := r) (s := s) (by omega) (b := k) (by omega)).2
  rw [← hk] at q
  rcases Int.lt_or_eq_of_le le with z | z
  · have := q z
    omega
  · exact z
theorem rep_put (hn : s.length = n) (h1 : 1 ≤ n) (x : Int) : putS (List.replicate n r) s x = withThing s (toL r s) x := by
  unfold putS
  rw [rep_st hn]
  show withThing s (goesTo _ s) x = _
  rw [rep_goes hn h1]
theorem lPutK_len (things : List Int) : ∀ k, (lPutK r s things k).length = s.length := by
  intro k
  unfold lPutK
  generalize things.take k = ts
  induction ts generalizing s with
  | nil => rfl
  | cons x xs ih =>
    rw [List.foldl_cons, ih, withThing_len]
theorem lPutK_succ {things : List Int} {k : Nat} (hk : k < things.length) : lPutK r s things (k + 1) = withThing (lPutK r s things k) (toL r (lPutK r s things k)) (things.getD k default) := by
  unfold lPutK
  rw [take_snoc hk, List.foldl_append]
  rfl
theorem rep_putA (hn : s.length = n) (h1 : 1 ≤ n) {things : List Int} : ∀ k, k ≤ things.length → putA (List.replicate n r) s things k = lPutK r s things k
  | 0, _ => rfl
  | k + 1, hk => by
    rw [putA_succ _ _ (by omega), lPutK_succ (by omega), rep_putA hn h1 k (by omega), rep_put (by rw [lPutK_len]; exact hn) h1]
theorem rep_addC {v : Int} : addC (List.replicate n r) (List.replicate n v) = List.replicate n (r ++ [v]) := by
  unfold addC
  rw [List.length_replicate]
  refine List.eq_replicate_iff.mpr ⟨by simp, fun x hx => ?_⟩
  obtain ⟨i, hi, rfl⟩ := List.mem_map.mp hx
  have := List.mem_range.mp hi
  rw [rep_at (r := v) (n := n) (a := (i : Int)) ⟨by omega, by omega⟩]
  simp [List.getD_eq_getElem?_getD, this]
theorem rep_cut {h : Int} (hh : 0 ≤ h ∧ h < (n : Int)) : cutH (List.replicate n r) h = List.replicate (n - 1) r := by
  refine List.eq_replicate_iff.mpr ⟨cut_len List.length_replicate hh, fun x hx => ?_⟩
  exact (List.mem_replicate.mp (cut_mem (by rw [List.length_replicate]; exact hh) x hx)).2
theorem rep_dl (h1 : 1 ≤ n) (m : Nat) : dlS (List.replicate n r) m = lPut r (emp n) (rgI m) := by
  have e : dlS (List.replicate n r) 0 = emp n := by unfold dlS emp; rw [List.length_replicate]
  rw [← dl_putA (List.replicate n r) m m (Nat.le_refl _), e, lPut, rgI_len]
  exact rep_putA (emp_len n) h1 m (by rw [rgI_len]; exact Nat.le_refl _)
theorem rep_go {h : Int} (hn : s.length = n) (hh : 0 ≤ h ∧ h < (n : Int)) (h2 : 2 ≤ n) : goS (List.replicate n r) s h = lPut r (cutH s h) (pyAt s h) := by
  unfold goS lPut
  rw [rep_cut hh]
  exact rep_putA (cut_len hn hh) (by omega) _ (Nat.le_refl _)
end
/-! deeds -/
def wK (c : Int) : Int := lWo (lMixed c 1 / 3)
def hK (c : Int) (n : Nat) : Int := lMixed c 1 / 3 % (n : Int)
def stepK (c : Int) (k : List Int × List (List Int)) : List Int × List (List Int) :=
  if (decide (c % 8 < 5) && decide ((k.1.length : Int) < 14)) = true then (k.1 ++ [wK c], lPut (k.1 ++ [wK c]) k.2 [(k.1.length : Int)])
  else if (decide (c % 8 < 7) && decide (1 < (k.2.length : Int))) = true then (k.1, lPut k.1 (cutH k.2 (hK c k.2.length)) (pyAt k.2 (hK c k.2.length)))
  else if decide ((k.2.length : Int) < 8) = true then (k.1, lPut k.1 (emp (k.2.length + 1)) (rgI k.1.length))
  else k
structure KI (k : List Int × List (List Int)) : Prop where
  es : EsI (List.replicate k.2.length k.1) k.2 k.1.length
  few : k.1.length ≤ 14
theorem KI.n1 {k : List Int × List (List Int)} (I : KI k) : 1 ≤ k.2.length ∧ k.2.length ≤ 8 := by
  have a := I.es.gt.n1
  have b := I.es.gt.n8
  rw [List.length_replicate] at a b
  exact ⟨a, b⟩
theorem wK_bd (c : Int) : 0 ≤ wK c ∧ wK c ≤ 1000000 := lWo_bd _
theorem hK_bd (c : Int) {n : Nat} (h : 1 ≤ n) : 0 ≤ hK c n ∧ hK c n < (n : Int) := ⟨Int.emod_nonneg _ (by omega), Int.emod_lt_of_pos _ (by omega)⟩
theorem rep_all {n : Nat} {v : Int} (hv : 0 ≤ v ∧ v ≤ 1000000) : ∀ x ∈ List.replicate n v, 0 ≤ x ∧ x ≤ 1000000 := fun x hx => by rw [(List.mem_replicate.mp hx).2]; exact hv
theorem lPut_one {r : List Int} {s : List (List Int)} {x : Int} : lPut r s [x] = withThing s (toL r s) x := rfl
theorem KI.row {k : List Int × List (List Int)} (I : KI k) : ∀ x ∈ k.1, 0 ≤ x ∧ x ≤ 1000000 := fun x hx => I.es.gt.wor k.1 (List.mem_replicate.mpr ⟨by have := I.n1; omega, rfl⟩) x hx
/-- what comes of the estate by a deed -/
theorem come_k {k : List Int × List (List Int)} (I : KI k) (h : (decide (k.1.length < 14)) = true) (c : Int) : addC (List.replicate k.2.length k.1) (List.replicate k.2.length (wK c)) = List.replicate (lPut (k.1 ++ [wK c]) k.2 [(k.1.length : Int)]).length (k.1 ++ [wK c]) ∧
    putS (addC (List.replicate k.2.length k.1) (List.replicate k.2.length (wK c))) k.2 (k.1.length : Int) = lPut (k.1 ++ [wK c]) k.2 [(k.1.length : Int)] ∧ KI (k.1 ++ [wK c], lPut (k.1 ++ [wK c]) k.2 [(k.1.length : Int)]) := by
  have l : (lPut (k.1 ++ [wK c]) k.2 [(k.1.length : Int)]).length = k.2.length := lPutK_len _ _
  have e1 : addC (List.replicate k.2.length k.1) (List.replicate k.2.length (wK c)) = List.replicate k.2.length (k.1 ++ [wK c]) := rep_addC
  have e2 : putS (List.replicate k.2.length (k.1 ++ [wK c])) k.2 (k.1.length : Int) = lPut (k.1 ++ [wK c]) k.2 [(k.1.length : Int)] := rep_put rfl I.n1.1 _
  have J := come_ok I.es (w := List.replicate k.2.length (wK c)) (by have := I.few; omega) (by rw [List.length_replicate, List.length_replicate]) (rep_all (wK_bd c))
  rw [e1, e2] at J
  refine ⟨by rw [l]; exact e1, by rw [e1]; exact e2, ⟨?_, ?_⟩⟩
  · show EsI (List.replicate (lPut (k.1 ++ [wK c]) k.2 [(k.1.length : Int)]).length (k.1 ++ [wK c])) _ (k.1 ++ [wK c]).length
    rw [l, List.length_append]
    exact J
  · show (k.1 ++ [wK c]).length ≤ 14
    have := of_decide_eq_true h
    rw [List.length_append, List.length_singleton]
    omega
theorem go_k {k : List Int × List (List Int)} (I : KI k) (h : 2 ≤ k.2.length) {x : Int} (hx : 0 ≤ x ∧ x < (k.2.length : Int)) : cutH (List.replicate k.2.length k.1) x = List.replicate (lPut k.1 (cutH k.2 x) (pyAt k.2 x)).length k.1 ∧
    goS (List.replicate k.2.length k.1) k.2 x = lPut k.1 (cutH k.2 x) (pyAt k.2 x) ∧ KI (k.1, lPut k.1 (cutH k.2 x) (pyAt k.2 x)) := by
  have l : (lPut k.1 (cutH k.2 x) (pyAt k.2 x)).length = k.2.length - 1 := (lPutK_len _ _).trans (cut_len rfl hx)
  have e1 := rep_cut (r := k.1) hx
  have e2 := rep_go (r := k.1) (s := k.2) rfl hx h
  have J := go_ok I.es (by rw [List.length_replicate]; exact h) (by rw [List.length_replicate]; exact hx)
  rw [e1, e2] at J
  refine ⟨by rw [l]; exact e1, e2, ⟨?_, I.few⟩⟩
  show EsI (List.replicate (lPut k.1 (cutH k.2 x) (pyAt k.2 x)).length k.1) _ _
  rw [l]
  exact J
theorem join_k {k : List Int × List (List Int)} (I : KI k) (h : k.2.length < 8) : List.replicate k.2.length k.1 ++ [k.1] = List.replicate (lPut k.1 (emp (k.2.length + 1)) (rgI k.1.length)).length k.1 ∧
    dlS (List.replicate k.2.length k.1 ++ [k.1]) k.1.length = lPut k.1 (emp (k.2.length + 1)) (rgI k.1.length) ∧ KI (k.1, lPut k.1 (emp (k.2.length + 1)) (rgI k.1.length)) := by
  have l : (lPut k.1 (emp (k.2.length + 1)) (rgI k.1.length)).length = k.2.length + 1 := (lPutK_len _ _).trans (emp_len _)
  have e1 : List.replicate k.2.length k.1 ++ [k.1] = List.replicate (k.2.length + 1) k.1 := by rw [List.replicate_succ']
  have e2 := rep_dl (r := k.1) (n := k.2.length + 1) (by omega) k.1.length
  have J := join_ok (w := k.1) I.es (by rw [List.length_replicate]; exact h) rfl I.row
  rw [e1, e2] at J
  refine ⟨by rw [l]; exact e1, by rw [e1]; exact e2, ⟨?_, I.few⟩⟩
  show EsI (List.replicate (lPut k.1 (emp (k.2.length + 1)) (rgI k.1.length)).length k.1) _ _
  rw [l]
  exact J
theorem stepK_ok {k : List Int × List (List Int)} (I : KI k) (c : Int) : KI (stepK c k) := by
  unfold stepK
  have n := I.n1
  by_cases h1 : (decide (c % 8 < 5) && decide ((k.1.length : Int) < 14)) = true
  · rw [if_pos h1]
    rw [Bool.and_eq_true] at h1
    exact (come_k I (decide_eq_true (by have := of_decide_eq_true h1.2; omega)) c).2.2
  · rw [if_neg h1]
    by_cases h2 : (decide (c % 8 < 7) && decide (1 < (k.2.length : Int))) = true
    · rw [if_pos h2]
      rw [Bool.and_eq_true] at h2
      exact (go_k I (by have := of_decide_eq_true h2.2; omega) (hK_bd c n.1)).2.2
    · rw [if_neg h2]
      by_cases h3 : decide ((k.2.length : Int) < 8) = true
      · rw [if_pos h3]
        exact (join_k I (by have := of_decide_eq_true h3; omega)).2.2
      · rw [if_neg h3]
        exact I
def k15H (ns : List Int) : Nat := (if lAt ns 0 / 4 % 8 = 1 then 1 + lAt ns 0 % 4 + 4 else 1 + lAt ns 0 % 4).toNat
theorem k15H_bd (ns : List Int) : 1 ≤ k15H ns ∧ k15H ns ≤ 8 := by unfold k15H; split <;> omega
def k15S (ns : List Int) (cells : List Int) : Nat → List Int × List (List Int)
  | 0 => ([], emp (k15H ns))
  | k + 1 => stepK (cells.getD k default) (k15S ns cells k)
theorem k15_ok (ns cells : List Int) : ∀ k, KI (k15S ns cells k)
  | 0 => by
    have b := k15H_bd ns
    refine ⟨?_, Nat.zero_le _⟩
    show EsI (List.replicate (emp (k15H ns)).length []) (emp (k15H ns)) 0
    have e : List.replicate (emp (k15H ns)).length [] = emp (k15H ns) := by
      rw [emp_len]
      unfold emp
      rw [List.map_const', List.length_range]
    rw [e]
    exact emp_ok b.1 b.2
  | k + 1 => stepK_ok (k15_ok ns cells k) _
theorem lPutK_good {r : List Int} {s : List (List Int)} {n m : Nat} {things : List Int} (g : GoodT (List.replicate n r) m) (hs : GoodS s n m) (hx : ∀ x ∈ things, 0 ≤ x ∧ x < (m : Int)) (nd : (s.flatten ++ things).Nodup) : ∀ k, k ≤ things.length → GoodS (lPutK r s things k) n m := fun k hk => by
  have n1 := g.n1
  rw [List.length_replicate] at n1
  have hs' : GoodS s (List.replicate n r).length m := by rw [List.length_replicate]; exact hs
  have := (putA_good g hs' hx nd k hk).1
  rw [rep_putA hs.n n1 k hk, List.length_replicate] at this
  exact this
section
variable {r : List Int} {s : List (List Int)}
theorem KI.gs (ki : KI (r, s)) : GoodS s s.length r.length := by
  have := ki.es.gs
  rw [List.length_replicate] at this
  exact this
theorem k15_p1 (ki : KI (r, s)) (hlt : r.length < 14) (c : Int) : ∀ k, k ≤ [(r.length : Int)].length → GoodS (lPutK (r ++ [wK c]) s [(r.length : Int)] k) s.length (r ++ [wK c]).length := by
  have ck := (come_k ki (decide_eq_true hlt) c).2.2.es.gt
  have l : (lPut (r ++ [wK c]) s [(r.length : Int)]).length = s.length := lPutK_len _ _
  have g : GoodT (List.replicate s.length (r ++ [wK c])) (r ++ [wK c]).length := by rw [← l]; exact ck
  refine lPutK_good g (by rw [List.length_append]; exact ki.gs.wider) (fun x hx => ?_) (List.nodup_append.mpr ⟨ki.gs.nd, by simp, fun a ha b hb => ?_⟩)
  · rw [List.mem_singleton.mp hx, List.length_append, List.length_singleton]
    omega
  · rw [List.mem_singleton.mp hb]
    exact fun z => ki.es.new (z ▸ ha)
theorem k15_p2 (ki : KI (r, s)) (h2 : 2 ≤ s.length) {x : Int} (hx : 0 ≤ x ∧ x < (s.length : Int)) : ∀ k, k ≤ (pyAt s x).length → GoodS (lPutK r (cutH s x) (pyAt s x) k) (cutH s x).length r.length := by
  have rl : (List.replicate s.length r).length = s.length := List.length_replicate
  obtain ⟨g, s', nd⟩ := cut_good ki.es.gt ki.es.gs (by rw [rl]; exact h2) (by rw [rl]; exact hx)
  have e : cutH (List.replicate s.length r) x = List.replicate (cutH s x).length r := by rw [rep_cut hx, cut_len rfl hx]
  rw [show cutH (List.replicate (r, s).2.length (r, s).1) x = _ from e] at g s'
  rw [List.length_replicate] at s'
  exact lPutK_good g s' (go_things ki.gs hx) nd
theorem emp_good (n m : Nat) : GoodS (emp n) n m := by
  have z : ∀ r ∈ emp n, r = [] := fun r hr => by
    obtain ⟨_, _, rfl⟩ := List.mem_map.mp hr
    rfl
  exact ⟨emp_len n, fun r hr x hx => (by rw [z r hr] at hx; cases hx), fun r hr => (by rw [z r hr]; exact .nil), (by rw [emp_flat]; exact .nil)⟩
theorem rep_all_good {n : Nat} (g : GoodT (List.replicate n r) r.length) : ∀ k, k ≤ (rgI r.length).length → GoodS (lPutK r (emp n) (rgI r.length) k) (emp n).length r.length := by
  rw [emp_len]
  exact lPutK_good g (emp_good _ _) (fun x hx => rgI_mem.mp hx) (by rw [emp_flat]; exact rgI_nodup _)
theorem k15_p3 (ki : KI (r, s)) (h8 : s.length < 8) : ∀ k, k ≤ (rgI r.length).length → GoodS (lPutK r (emp (s.length + 1)) (rgI r.length) k) (emp (s.length + 1)).length r.length := by
  refine rep_all_good ?_
  have ck := (join_k ki h8).2.2.es.gt
  have l : (lPut r (emp (s.length + 1)) (rgI r.length)).length = s.length + 1 := (lPutK_len _ _).trans (emp_len _)
  rw [← l]
  exact ck
theorem k15_p4 (ki : KI (r, s)) : ∀ k, k ≤ (rgI r.length).length → GoodS (lPutK r (emp s.length) (rgI r.length) k) (emp s.length).length r.length := rep_all_good ki.es.gt
theorem k15_ah (ki : KI (r, s)) (h : 1 ≤ r.length) : GoodS (s.map fun q => q.filter fun y => !decide (y = ((r.length : Int) - 1))) s.length r.length ∧ ((r.length : Int) - 1) ∉ (s.map fun q => q.filter fun y => !decide (y = ((r.length : Int) - 1))).flatten := by
  refine ⟨filter_good _ ki.gs, fun z => ?_⟩
  obtain ⟨q, hq, hx⟩ := List.mem_flatten.mp z
  obtain ⟨q', _, rfl⟩ := List.mem_map.mp hq
  have := (List.mem_filter.mp hx).2
  simp at this
theorem k15_p5 (ki : KI (r, s)) (h : 1 ≤ r.length) : ∀ k, k ≤ [((r.length : Int) - 1)].length → GoodS (lPutK r (s.map fun q => q.filter fun y => !decide (y = ((r.length : Int) - 1))) [((r.length : Int) - 1)] k) (s.map fun q => q.filter fun y => !decide (y = ((r.length : Int) - 1))).length r.length := by
  obtain ⟨a, b⟩ := k15_ah ki h
  rw [List.length_map]
  refine lPutK_good ki.es.gt a (fun x hx => ?_) (List.nodup_append.mpr ⟨a.nd, by simp, fun y hy z hz => ?_⟩)
  · rw [List.mem_singleton.mp hx]
    omega
  · rw [List.mem_singleton.mp hz]
    exact fun e => b (e ▸ hy)
theorem k15H_yes {ns : List Int} (h : decide (lAt ns 0 / 4 % 8 = 1) = true) : 1 + lAt ns 0 % 4 + 4 = ((k15H ns : Nat) : Int) := by
  unfold k15H
  rw [if_pos (of_decide_eq_true h)]
  omega
theorem k15H_no {ns : List Int} (h : decide (lAt ns 0 / 4 % 8 = 1) = false) : 1 + lAt ns 0 % 4 = ((k15H ns : Nat) : Int) := by
  unfold k15H
  rw [if_neg (of_decide_eq_false h)]
  omega
end
theorem k15_est0 (ns cs : List Int) : esF (emp (k15H ns)) (emp (k15H ns)) = esF (List.replicate (k15S ns cs 0).2.length (k15S ns cs 0).1) (k15S ns cs 0).2 := by
  have e : List.replicate (emp (k15H ns)).length [] = emp (k15H ns) := by
    rw [emp_len]
    unfold emp
    rw [List.map_const', List.length_range]
  show _ = esF (List.replicate (emp (k15H ns)).length []) (emp (k15H ns))
  rw [e]
end Th

set_option Elab.async false
set_option linter.all false
set_option maxRecDepth 100000
set_option maxHeartbeats 2000000
namespace Th
open PySem L2 DL
def top (i : Nat) : Stmt := PySem.Challenge.pw_thingdeal_k15_whole_heirs_of_one_mind.main.body.getD i (.Pass ⟨0, 0, 0, 0⟩)
abbrev s_is_among : Stmt := top 11
abbrev s_is_row : Stmt := top 12
abbrev s_is_table : Stmt := top 13
abbrev s_are_things : Stmt := top 14
abbrev s_are_shares : Stmt := top 15
abbrev s_need_table : Stmt := top 16
abbrev s_need_shares : Stmt := top 17
abbrev s_summed : Stmt := top 18
abbrev s_feels : Stmt := top 20
abbrev s_pairs_of : Stmt := top 21
abbrev s_unenvied : Stmt := top 23
abbrev s_line_of : Stmt := top 24
abbrev s_ring_of : Stmt := top 25
abbrev s_exchanged : Stmt := top 26
abbrev s_settled : Stmt := top 28
abbrev s_with_thing : Stmt := top 29
abbrev s_goes_to : Stmt := top 30
abbrev s_put : Stmt := top 31
abbrev s_need_aside : Stmt := top 32
abbrev s_steps : Stmt := top 33
abbrev s_awarded : Stmt := top 34
abbrev s_dealt_all : Stmt := top 36
abbrev s_dealt : Stmt := top 37
abbrev s_Estate_init : Stmt := inClass (top 39) 0
abbrev s_Estate_come : Stmt := inClass (top 39) 1
abbrev s_Estate_go : Stmt := inClass (top 39) 2
abbrev s_Estate_join : Stmt := inClass (top 39) 3
abbrev s_Estate_shares : Stmt := inClass (top 39) 4
abbrev s_Estate_table : Stmt := inClass (top 39) 5
abbrev s__law_at : Stmt := top 41
abbrev s__law_mixed : Stmt := top 42
abbrev s__law_sum : Stmt := top 43
abbrev s__law_copy : Stmt := top 44
abbrev s__law_worth : Stmt := top 45
abbrev s__law_to : Stmt := top 46
abbrev s__law_put : Stmt := top 47
abbrev s__law_moved : Stmt := top 48
abbrev s__law_told : Stmt := top 49
abbrev s__law_looked : Stmt := top 50
abbrev s_law : Stmt := top 51
structure Bt (mg : Str → Option Value) : Prop where
  all : mg "all" = none
  any : mg "any" = none
  bool : mg "bool" = none
  enumerate : mg "enumerate" = none
  int : mg "int" = none
  isinstance : mg "isinstance" = none
  len : mg "len" = none
  list : mg "list" = none
  min : mg "min" = none
  range : mg "range" = none
  reversed : mg "reversed" = none
  set : mg "set" = none
  sorted : mg "sorted" = none
  sum : mg "sum" = none
  tuple : mg "tuple" = none
structure Tx (K : Fg) (mg : Str → Option Value) where
  c_Estate : Addr
  g_Estate : mg "Estate" = some (.ref c_Estate)
  mk_Estate : PySem.W.makesIn K c_Estate = true
  kc_Estate : PySem.W.keepIn K (.ref c_Estate) = true
  cl_Estate : Cls K c_Estate
  nf_Estate_rows : NoAttr K c_Estate "rows"
  nf_Estate_held : NoAttr K c_Estate "held"
  a_is_among : Addr
  fd_is_among : FuncData
  F_is_among : Fun K "is_among" "is_among" s_is_among a_is_among fd_is_among
  g_is_among : mg "is_among" = some (.ref a_is_among)
  b_is_among : Binds K fd_is_among ["thing", "least", "most"] []
  a_is_row : Addr
  fd_is_row : FuncData
  F_is_row : Fun K "is_row" "is_row" s_is_row a_is_row fd_is_row
  g_is_row : mg "is_row" = some (.ref a_is_row)
  b_is_row : Binds K fd_is_row ["thing", "many"] []
  a_is_table : Addr
  fd_is_table : FuncData
  F_is_table : Fun K "is_table" "is_table" s_is_table a_is_table fd_is_table
  g_is_table : mg "is_table" = some (.ref a_is_table)
  b_is_table : Binds K fd_is_table ["thing"] []
  a_are_things : Addr
  fd_are_things : FuncData
  F_are_things : Fun K "are_things" "are_things" s_are_things a_are_things fd_are_things
  g_are_things : mg "are_things" = some (.ref a_are_things)
  b_are_things : Binds K fd_are_things ["thing", "many"] []
  a_are_shares : Addr
  fd_are_shares : FuncData
  F_are_shares : Fun K "are_shares" "are_shares" s_are_shares a_are_shares fd_are_shares
  g_are_shares : mg "are_shares" = some (.ref a_are_shares)
  b_are_shares : Binds K fd_are_shares ["thing", "heirs", "things"] []
  a_need_table : Addr
  fd_need_table : FuncData
  F_need_table : Fun K "need_table" "need_table" s_need_table a_need_table fd_need_table
  g_need_table : mg "need_table" = some (.ref a_need_table)
  b_need_table : Binds K fd_need_table ["table"] []
  a_need_shares : Addr
  fd_need_shares : FuncData
  F_need_shares : Fun K "need_shares" "need_shares" s_need_shares a_need_shares fd_need_shares
  g_need_shares : mg "need_shares" = some (.ref a_need_shares)
  b_need_shares : Binds K fd_need_shares ["table", "shares"] []
  a_summed : Addr
  fd_summed : FuncData
  F_summed : Fun K "summed" "summed" s_summed a_summed fd_summed
  g_summed : mg "summed" = some (.ref a_summed)
  b_summed : Binds K fd_summed ["row", "things"] []
  a_feels : Addr
  fd_feels : FuncData
  F_feels : Fun K "feels" "feels" s_feels a_feels fd_feels
  g_feels : mg "feels" = some (.ref a_feels)
  b_feels : Binds K fd_feels ["table", "shares", "heir", "other"] []
  a_pairs_of : Addr
  fd_pairs_of : FuncData
  F_pairs_of : Fun K "pairs_of" "pairs_of" s_pairs_of a_pairs_of fd_pairs_of
  g_pairs_of : mg "pairs_of" = some (.ref a_pairs_of)
  b_pairs_of : Binds K fd_pairs_of ["table", "shares"] []
  a_unenvied : Addr
  fd_unenvied : FuncData
  F_unenvied : Fun K "unenvied" "unenvied" s_unenvied a_unenvied fd_unenvied
  g_unenvied : mg "unenvied" = some (.ref a_unenvied)
  b_unenvied : Binds K fd_unenvied ["pairs", "heirs"] []
  a_line_of : Addr
  fd_line_of : FuncData
  F_line_of : Fun K "line_of" "line_of" s_line_of a_line_of fd_line_of
  g_line_of : mg "line_of" = some (.ref a_line_of)
  b_line_of : Binds K fd_line_of ["pairs", "many"] []
  a_ring_of : Addr
  fd_ring_of : FuncData
  F_ring_of : Fun K "ring_of" "ring_of" s_ring_of a_ring_of fd_ring_of
  g_ring_of : mg "ring_of" = some (.ref a_ring_of)
  b_ring_of : Binds K fd_ring_of ["pairs", "many"] []
  a_exchanged : Addr
  fd_exchanged : FuncData
  F_exchanged : Fun K "exchanged" "exchanged" s_exchanged a_exchanged fd_exchanged
  g_exchanged : mg "exchanged" = some (.ref a_exchanged)
  b_exchanged : Binds K fd_exchanged ["shares", "heirs"] []
  a_settled : Addr
  fd_settled : FuncData
  F_settled : Fun K "settled" "settled" s_settled a_settled fd_settled
  g_settled : mg "settled" = some (.ref a_settled)
  b_settled : Binds K fd_settled ["table", "shares"] []
  a_with_thing : Addr
  fd_with_thing : FuncData
  F_with_thing : Fun K "with_thing" "with_thing" s_with_thing a_with_thing fd_with_thing
  g_with_thing : mg "with_thing" = some (.ref a_with_thing)
  b_with_thing : Binds K fd_with_thing ["shares", "heir", "thing"] []
  a_goes_to : Addr
  fd_goes_to : FuncData
  F_goes_to : Fun K "goes_to" "goes_to" s_goes_to a_goes_to fd_goes_to
  g_goes_to : mg "goes_to" = some (.ref a_goes_to)
  b_goes_to : Binds K fd_goes_to ["table", "shares"] []
  a_put : Addr
  fd_put : FuncData
  F_put : Fun K "put" "put" s_put a_put fd_put
  g_put : mg "put" = some (.ref a_put)
  b_put : Binds K fd_put ["table", "shares", "thing"] []
  a_need_aside : Addr
  fd_need_aside : FuncData
  F_need_aside : Fun K "need_aside" "need_aside" s_need_aside a_need_aside fd_need_aside
  g_need_aside : mg "need_aside" = some (.ref a_need_aside)
  b_need_aside : Binds K fd_need_aside ["table", "shares", "thing"] []
  a_steps : Addr
  fd_steps : FuncData
  F_steps : Fun K "steps" "steps" s_steps a_steps fd_steps
  g_steps : mg "steps" = some (.ref a_steps)
  b_steps : Binds K fd_steps ["table", "shares", "thing"] []
  a_awarded : Addr
  fd_awarded : FuncData
  F_awarded : Fun K "awarded" "awarded" s_awarded a_awarded fd_awarded
  g_awarded : mg "awarded" = some (.ref a_awarded)
  b_awarded : Binds K fd_awarded ["table", "shares", "thing"] []
  a_dealt_all : Addr
  fd_dealt_all : FuncData
  F_dealt_all : Fun K "dealt_all" "dealt_all" s_dealt_all a_dealt_all fd_dealt_all
  g_dealt_all : mg "dealt_all" = some (.ref a_dealt_all)
  b_dealt_all : Binds K fd_dealt_all ["table"] []
  a_dealt : Addr
  fd_dealt : FuncData
  F_dealt : Fun K "dealt" "dealt" s_dealt a_dealt fd_dealt
  g_dealt : mg "dealt" = some (.ref a_dealt)
  b_dealt : Binds K fd_dealt ["table"] []
  a_Estate_init : Addr
  fd_Estate_init : FuncData
  F_Estate_init : Fun K "__init__" "Estate.__init__" s_Estate_init a_Estate_init fd_Estate_init
  at_Estate_init : PySem.W.findIn K (.ref c_Estate) "__init__" = some (some (.ref a_Estate_init))
  fn_Estate_init : PySem.W.isFn K (.ref a_Estate_init) = true
  b_Estate_init : Binds K fd_Estate_init ["self", "heirs"] []
  a_Estate_come : Addr
  fd_Estate_come : FuncData
  F_Estate_come : Fun K "come" "Estate.come" s_Estate_come a_Estate_come fd_Estate_come
  at_Estate_come : PySem.W.findIn K (.ref c_Estate) "come" = some (some (.ref a_Estate_come))
  fn_Estate_come : PySem.W.isFn K (.ref a_Estate_come) = true
  b_Estate_come : Binds K fd_Estate_come ["self", "worths"] []
  a_Estate_go : Addr
  fd_Estate_go : FuncData
  F_Estate_go : Fun K "go" "Estate.go" s_Estate_go a_Estate_go fd_Estate_go
  at_Estate_go : PySem.W.findIn K (.ref c_Estate) "go" = some (some (.ref a_Estate_go))
  fn_Estate_go : PySem.W.isFn K (.ref a_Estate_go) = true
  b_Estate_go : Binds K fd_Estate_go ["self", "heir"] []
  a_Estate_join : Addr
  fd_Estate_join : FuncData
  F_Estate_join : Fun K "join" "Estate.join" s_Estate_join a_Estate_join fd_Estate_join
  at_Estate_join : PySem.W.findIn K (.ref c_Estate) "join" = some (some (.ref a_Estate_join))
  fn_Estate_join : PySem.W.isFn K (.ref a_Estate_join) = true
  b_Estate_join : Binds K fd_Estate_join ["self", "worths"] []
  a_Estate_shares : Addr
  fd_Estate_shares : FuncData
  F_Estate_shares : Fun K "shares" "Estate.shares" s_Estate_shares a_Estate_shares fd_Estate_shares
  at_Estate_shares : PySem.W.findIn K (.ref c_Estate) "shares" = some (some (.ref a_Estate_shares))
  fn_Estate_shares : PySem.W.isFn K (.ref a_Estate_shares) = true
  b_Estate_shares : Binds K fd_Estate_shares ["self"] []
  a_Estate_table : Addr
  fd_Estate_table : FuncData
  F_Estate_table : Fun K "table" "Estate.table" s_Estate_table a_Estate_table fd_Estate_table
  at_Estate_table : PySem.W.findIn K (.ref c_Estate) "table" = some (some (.ref a_Estate_table))
  fn_Estate_table : PySem.W.isFn K (.ref a_Estate_table) = true
  b_Estate_table : Binds K fd_Estate_table ["self"] []
  a__law_at : Addr
  fd__law_at : FuncData
  F__law_at : Fun K "_law_at" "_law_at" s__law_at a__law_at fd__law_at
  g__law_at : mg "_law_at" = some (.ref a__law_at)
  b__law_at : Binds K fd__law_at ["_law_script", "_law_k"] []
  a__law_mixed : Addr
  fd__law_mixed : FuncData
  F__law_mixed : Fun K "_law_mixed" "_law_mixed" s__law_mixed a__law_mixed fd__law_mixed
  g__law_mixed : mg "_law_mixed" = some (.ref a__law_mixed)
  b__law_mixed : Binds K fd__law_mixed ["_law_cell", "_law_k"] []
  a__law_sum : Addr
  fd__law_sum : FuncData
  F__law_sum : Fun K "_law_sum" "_law_sum" s__law_sum a__law_sum fd__law_sum
  g__law_sum : mg "_law_sum" = some (.ref a__law_sum)
  b__law_sum : Binds K fd__law_sum ["_law_row", "_law_things"] []
  a__law_copy : Addr
  fd__law_copy : FuncData
  F__law_copy : Fun K "_law_copy" "_law_copy" s__law_copy a__law_copy fd__law_copy
  g__law_copy : mg "_law_copy" = some (.ref a__law_copy)
  b__law_copy : Binds K fd__law_copy ["_law_rows"] []
  a__law_worth : Addr
  fd__law_worth : FuncData
  F__law_worth : Fun K "_law_worth" "_law_worth" s__law_worth a__law_worth fd__law_worth
  g__law_worth : mg "_law_worth" = some (.ref a__law_worth)
  b__law_worth : Binds K fd__law_worth ["_law_number"] []
  a__law_to : Addr
  fd__law_to : FuncData
  F__law_to : Fun K "_law_to" "_law_to" s__law_to a__law_to fd__law_to
  g__law_to : mg "_law_to" = some (.ref a__law_to)
  b__law_to : Binds K fd__law_to ["_law_row", "_law_held"] []
  a__law_put : Addr
  fd__law_put : FuncData
  F__law_put : Fun K "_law_put" "_law_put" s__law_put a__law_put fd__law_put
  g__law_put : mg "_law_put" = some (.ref a__law_put)
  b__law_put : Binds K fd__law_put ["_law_row", "_law_held", "_law_things"] []
  a__law_moved : Addr
  fd__law_moved : FuncData
  F__law_moved : Fun K "_law_moved" "_law_moved" s__law_moved a__law_moved fd__law_moved
  g__law_moved : mg "_law_moved" = some (.ref a__law_moved)
  b__law_moved : Binds K fd__law_moved ["_law_estate", "_law_cell", "_law_row", "_law_held"] []
  a__law_told : Addr
  fd__law_told : FuncData
  F__law_told : Fun K "_law_told" "_law_told" s__law_told a__law_told fd__law_told
  g__law_told : mg "_law_told" = some (.ref a__law_told)
  b__law_told : Binds K fd__law_told ["_law_row", "_law_held"] []
  a__law_looked : Addr
  fd__law_looked : FuncData
  F__law_looked : Fun K "_law_looked" "_law_looked" s__law_looked a__law_looked fd__law_looked
  g__law_looked : mg "_law_looked" = some (.ref a__law_looked)
  b__law_looked : Binds K fd__law_looked ["_law_estate", "_law_row", "_law_held", "_law_way"] []
  a_law : Addr
  fd_law : FuncData
  F_law : Fun K "law" "law" s_law a_law fd_law
  g_law : mg "law" = some (.ref a_law)
  b_law : Binds K fd_law ["_law_script"] []
  k_MOST_HEIRS : Tok
  g_MOST_HEIRS : mg "MOST_HEIRS" = some (.int 8 k_MOST_HEIRS)
  k_MOST_THINGS : Tok
  g_MOST_THINGS : mg "MOST_THINGS" = some (.int 40 k_MOST_THINGS)
  k_MOST_WORTH : Tok
  g_MOST_WORTH : mg "MOST_WORTH" = some (.int 1000000 k_MOST_WORTH)
  c_BadTable : Addr
  g_BadTable : mg "BadTable" = some (.ref c_BadTable)
  x_BadTable : PySem.W.excIn K c_BadTable [.type "ValueError", .type "Exception", .type "BaseException", .type "object"] "ValueError.__new__" = true
  k_BadTable : PySem.W.keepIn K (.ref c_BadTable) = true
  b_BadTable : PySem.W.subIn K (.ref c_BadTable) (.type "BaseException") = some true
  t_BadTable : PySem.W.typeIn K (.ref c_BadTable) = some (.type "type")
  c_BadShares : Addr
  g_BadShares : mg "BadShares" = some (.ref c_BadShares)
  x_BadShares : PySem.W.excIn K c_BadShares [.type "ValueError", .type "Exception", .type "BaseException", .type "object"] "ValueError.__new__" = true
  k_BadShares : PySem.W.keepIn K (.ref c_BadShares) = true
  b_BadShares : PySem.W.subIn K (.ref c_BadShares) (.type "BaseException") = some true
  t_BadShares : PySem.W.typeIn K (.ref c_BadShares) = some (.type "type")
  c_BadThing : Addr
  g_BadThing : mg "BadThing" = some (.ref c_BadThing)
  x_BadThing : PySem.W.excIn K c_BadThing [.type "ValueError", .type "Exception", .type "BaseException", .type "object"] "ValueError.__new__" = true
  k_BadThing : PySem.W.keepIn K (.ref c_BadThing) = true
  b_BadThing : PySem.W.subIn K (.ref c_BadThing) (.type "BaseException") = some true
  t_BadThing : PySem.W.typeIn K (.ref c_BadThing) = some (.type "type")
  c_BadHeir : Addr
  g_BadHeir : mg "BadHeir" = some (.ref c_BadHeir)
  x_BadHeir : PySem.W.excIn K c_BadHeir [.type "ValueError", .type "Exception", .type "BaseException", .type "object"] "ValueError.__new__" = true
  k_BadHeir : PySem.W.keepIn K (.ref c_BadHeir) = true
  b_BadHeir : PySem.W.subIn K (.ref c_BadHeir) (.type "BaseException") = some true
  t_BadHeir : PySem.W.typeIn K (.ref c_BadHeir) = some (.type "type")
  c_Full : Addr
  g_Full : mg "Full" = some (.ref c_Full)
  x_Full : PySem.W.excIn K c_Full [.type "ValueError", .type "Exception", .type "BaseException", .type "object"] "ValueError.__new__" = true
  k_Full : PySem.W.keepIn K (.ref c_Full) = true
  b_Full : PySem.W.subIn K (.ref c_Full) (.type "BaseException") = some true
  t_Full : PySem.W.typeIn K (.ref c_Full) = some (.type "type")
  bt : Bt mg
theorem raise_Full {P : Program} {w : World} {K : Fg} {mg : Str → Option Value} {base : Heap} (T : Tx K mg) {N : List Str} {qual : Str} {sc : Scope} {f : Addr} {cd : Value} {A : Around} {outer : List Env} {s : Shared} {H : Hp} {E : XK} {Γ : Gm} {ρ : List Sl} {rs : List Stmt} {En : En} {pm : Str} {j : Nat} {p1 p2 p3 p4 : Pos}
    (hx : RX (cxOf (L2.CX P w) P w K mg base N qual sc f cd A outer s H E) Γ T.c_Full) (hg : Gl (cxOf (L2.CX P w) P w K mg base N qual sc f cd A outer s H E) "Full" := by rfl) : SS (cxOf (L2.CX P w) P w K mg base N qual sc f cd A outer s H E) Γ ρ (.Raise (some (.Call (.Name "Full" p1) [.Constant (.str pm) j p2] [] p3)) none p4 :: rs) En :=
  ss_raise rfl hx (pmk_own PySem.F.excBase_ValueError T.x_Full T.g_Full T.k_Full (raises_own T.b_Full T.t_Full) hg) fun σ H Q q => q
theorem raise_BadHeir {P : Program} {w : World} {K : Fg} {mg : Str → Option Value} {base : Heap} (T : Tx K mg) {N : List Str} {qual : Str} {sc : Scope} {f : Addr} {cd : Value} {A : Around} {outer : List Env} {s : Shared} {H : Hp} {E : XK} {Γ : Gm} {ρ : List Sl} {rs : List Stmt} {En : En} {pm : Str} {j : Nat} {p1 p2 p3 p4 : Pos}
    (hx : RX (cxOf (L2.CX P w) P w K mg base N qual sc f cd A outer s H E) Γ T.c_BadHeir) (hg : Gl (cxOf (L2.CX P w) P w K mg base N qual sc f cd A outer s H E) "BadHeir" := by rfl) : SS (cxOf (L2.CX P w) P w K mg base N qual sc f cd A outer s H E) Γ ρ (.Raise (some (.Call (.Name "BadHeir" p1) [.Constant (.str pm) j p2] [] p3)) none p4 :: rs) En :=
  ss_raise rfl hx (pmk_own PySem.F.excBase_ValueError T.x_BadHeir T.g_BadHeir T.k_BadHeir (raises_own T.b_BadHeir T.t_BadHeir) hg) fun σ H Q q => q
theorem raise_BadThing {P : Program} {w : World} {K : Fg} {mg : Str → Option Value} {base : Heap} (T : Tx K mg) {N : List Str} {qual : Str} {sc : Scope} {f : Addr} {cd : Value} {A : Around} {outer : List Env} {s : Shared} {H : Hp} {E : XK} {Γ : Gm} {ρ : List Sl} {rs : List Stmt} {En : En} {pm : Str} {j : Nat} {p1 p2 p3 p4 : Pos}
    (hx : RX (cxOf (L2.CX P w) P w K mg base N qual sc f cd A outer s H E) Γ T.c_BadThing) (hg : Gl (cxOf (L2.CX P w) P w K mg base N qual sc f cd A outer s H E) "BadThing" := by rfl) : SS (cxOf (L2.CX P w) P w K mg base N qual sc f cd A outer s H E) Γ ρ (.Raise (some (.Call (.Name "BadThing" p1) [.Constant (.str pm) j p2] [] p3)) none p4 :: rs) En :=
  ss_raise rfl hx (pmk_own PySem.F.excBase_ValueError T.x_BadThing T.g_BadThing T.k_BadThing (raises_own T.b_BadThing T.t_BadThing) hg) fun σ H Q q => q
theorem raise_BadShares {P : Program} {w : World} {K : Fg} {mg : Str → Option Value} {base : Heap} (T : Tx K mg) {N : List Str} {qual : Str} {sc : Scope} {f : Addr} {cd : Value} {A : Around} {outer : List Env} {s : Shared} {H : Hp} {E : XK} {Γ : Gm} {ρ : List Sl} {rs : List Stmt} {En : En} {pm : Str} {j : Nat} {p1 p2 p3 p4 : Pos}
    (hx : RX (cxOf (L2.CX P w) P w K mg base N qual sc f cd A outer s H E) Γ T.c_BadShares) (hg : Gl (cxOf (L2.CX P w) P w K mg base N qual sc f cd A outer s H E) "BadShares" := by rfl) : SS (cxOf (L2.CX P w) P w K mg base N qual sc f cd A outer s H E) Γ ρ (.Raise (some (.Call (.Name "BadShares" p1) [.Constant (.str pm) j p2] [] p3)) none p4 :: rs) En :=
  ss_raise rfl hx (pmk_own PySem.F.excBase_ValueError T.x_BadShares T.g_BadShares T.k_BadShares (raises_own T.b_BadShares T.t_BadShares) hg) fun σ H Q q => q
theorem raise_BadTable {P : Program} {w : World} {K : Fg} {mg : Str → Option Value} {base : Heap} (T : Tx K mg) {N : List Str} {qual : Str} {sc : Scope} {f : Addr} {cd : Value} {A : Around} {outer : List Env} {s : Shared} {H : Hp} {E : XK} {Γ : Gm} {ρ : List Sl} {rs : List Stmt} {En : En} {pm : Str} {j : Nat} {p1 p2 p3 p4 : Pos}
    (hx : RX (cxOf (L2.CX P w) P w K mg base N qual sc f cd A outer s H E) Γ T.c_BadTable) (hg : Gl (cxOf (L2.CX P w) P w K mg base N qual sc f cd A outer s H E) "BadTable" := by rfl) : SS (cxOf (L2.CX P w) P w K mg base N qual sc f cd A outer s H E) Γ ρ (.Raise (some (.Call (.Name "BadTable" p1) [.Constant (.str pm) j p2] [] p3)) none p4 :: rs) En :=
  ss_raise rfl hx (pmk_own PySem.F.excBase_ValueError T.x_BadTable T.g_BadTable T.k_BadTable (raises_own T.b_BadTable T.t_BadTable) hg) fun σ H Q q => q

theorem sc_is_among : FnScope ["thing", "least", "most"] ["thing", "least", "most"] (defScope s_is_among) := ⟨rfl, rfl, rfl, by decide +kernel, rfl, by decide +kernel, by decide +kernel⟩
theorem ok_is_among {P : Program} {w : World} {K : Fg} {mg : Str → Option Value} {base : Heap} (T : Tx K mg) (d : D) (lo hi : Int) :
    FnOk P w K mg base (L2.CX P w) 1 T.a_is_among T.fd_is_among ["thing", "least", "most"] (sp1 K [.ro d, .v (.int lo), .v (.int hi)] (.ret (.fz (.bool (isAmong d lo hi))))) := by
  refine ok_def (m := 0) T.F_is_among sc_is_among rfl rfl fun cdv A outer s G H E hr xo hp hx => ?_
  exact ss_retV (dv_and (dv_isi (de_ro 0 rfl) (kit_int d) T.bt.int PyProof.Rows.boot_int T.bt.isinstance) fun h1 => dv_and (dv_not (dv_isi (de_ro 0 rfl) (kit_bool d) T.bt.bool PyProof.Rows.boot_bool T.bt.isinstance)) fun h2 => dv_one
    (dv_leLe (dv_var 1 rfl) ((de_ro 0 rfl).val (dV_iOf h1 (by simpa using h2))) (dv_var 2 rfl))) rfl


theorem sc_is_row : FnScope ["thing", "many", "one"] ["thing", "many"] (defScope s_is_row) := ⟨rfl, rfl, rfl, by decide +kernel, rfl, by decide +kernel, by decide +kernel⟩
theorem ok_is_row {P : Program} {w : World} {K : Fg} {mg : Str → Option Value} {base : Heap} (T : Tx K mg) (d : D) (many : Int) (hz : (dsOf d).length ≤ 16000000) :
    FnOk P w K mg base (L2.CX P w) 2 T.a_is_row T.fd_is_row ["thing", "many"] (sp1 K [.ro d, .v (.int many)] (.ret (.fz (.bool (isRow d many))))) := by
  refine ok_def (m := 1) T.F_is_row sc_is_row rfl rfl fun cdv A outer s G H E hr xo hp hx => ?_
  exact ss_retV (dv_and (dv_isi (de_ro 0 rfl) (kit_list d) T.bt.list PyProof.Rows.boot_list T.bt.isinstance) fun h1 => dv_and (dv_eq (dv_lenD (DE.eq (de_ro 0 rfl) (d_dsOf h1)) T.bt.len) (dv_var 1 rfl)) fun h2 => dv_one
    (dv_all xo (DO.dat (do_lcM0 xo [("one", 2)] (g := tF PyData.bool) (ic_c (f := fun x => x) (fun a => .ro a) (DE.eq (de_ro 0 rfl) (d_dl h1)) (fun _ => .ro)) (blkOk_by (N := ["thing", "many", "one"]) (sc := defScope s_is_row) (by decide +kernel)) (fun _ _ _ _ _ => pg_name (i := 2) sc_is_row.nd rfl (Or.inl rfl)) (fun a _ => tgw_name _ 2 _) (by simp)
      (fun Γ' hK a ha s' H' C' cl' fp' xo => DV.oB (DO.vB (do_call (ok_is_among T _ _ _) (hr.mono (by decide)) T.g_is_among T.F_is_among.kp T.b_is_among hK (da_ro (de_ro 2 rfl) (da_v dv_int (da_v (dv_glob rfl T.g_MOST_WORTH ⟨_, rfl⟩) da_nil))))) ) hz)) T.bt.all)) rfl


theorem sc_is_table : FnScope ["thing", "row"] ["thing"] (defScope s_is_table) := ⟨rfl, rfl, rfl, by decide +kernel, rfl, by decide +kernel, by decide +kernel⟩
theorem ok_is_table {P : Program} {w : World} {K : Fg} {mg : Str → Option Value} {base : Heap} (T : Tx K mg) (d : D) (hz : (dsOf d).length ≤ 16000000) (hz2 : ∀ x ∈ dsOf d, (dsOf x).length ≤ 16000000) :
    FnOk P w K mg base (L2.CX P w) 3 T.a_is_table T.fd_is_table ["thing"] (sp1 K [.ro d] (.ret (.fz (.bool (isTable d))))) := by
  refine ok_def (m := 1) T.F_is_table sc_is_table rfl rfl fun cdv A outer s G H E hr xo hp hx => ?_
  have hat : ∀ {e : Expr} {κ : Kd} {p : Pos}, isList d = true → 1 ≤ ((dsOf d).length : Int) → atI (dsOf d) 0 = some (hdD d) := fun h1 h2 => by
    have : 0 < (dsOf d).length := by omega
    exact atI_nat (by simp [hdD, List.getD_eq_getElem?_getD, this])
  refine ss_ifL (DW.pt (dw_or (dt_not (dt_val (dv_isi (de_ro 0 rfl) (kit_list d) T.bt.list PyProof.Rows.boot_list T.bt.isinstance))) fun h1 => dw_or (dt_not ((dt_leLe dv_int (dv_lenD (DE.eq (de_ro 0 rfl) (d_dsOf (by simpa using h1))) T.bt.len) (dv_glob rfl T.g_MOST_HEIRS ⟨_, rfl⟩)))) fun h2 => dw_or1
    (dt_not (dt_val (dv_isi (de_at (DE.eq (de_ro 0 rfl) (d_dsOf (by simpa using h1))) dv_int (d := hdD d) (hat (e := .Constant .none 0 ⟨0, 0, 0, 0⟩) (κ := .z) (p := ⟨0, 0, 0, 0⟩) (by simpa using h1) (by simp only [Bool.not_eq_false', Bool.and_eq_true, decide_eq_true_eq] at h2; exact h2.1))) (kit_list _) T.bt.list PyProof.Rows.boot_list T.bt.isinstance))))) (fun h => ?_) (fun h => ?_)
  · exact ss_retV dv_bl (by unfold isTable; rw [if_pos h]; rfl)
  · have h' := h
    simp only [Bool.or_eq_false_iff, Bool.not_eq_false', Bool.and_eq_true, decide_eq_true_eq] at h
    obtain ⟨h1, ⟨h2, h3⟩, h4⟩ := h
    have hd := hat (e := .Constant .none 0 ⟨0, 0, 0, 0⟩) (κ := .z) (p := ⟨0, 0, 0, 0⟩) h1 h2
    exact ss_retV (dv_and (dv_le (dv_lenD (DE.eq (de_at (DE.eq (de_ro 0 rfl) (d_dsOf h1)) dv_int hd) (d_dsOf h4)) T.bt.len) (dv_glob rfl T.g_MOST_THINGS ⟨_, rfl⟩)) fun h5 => dv_one
      (dv_all xo (DO.dat (do_lcM0 xo [("row", 1)] (g := tF PyData.bool) (ic_c (f := fun x => x) (fun a => .ro a) (DE.eq (de_ro 0 rfl) (d_dl h1)) (fun _ => .ro)) (blkOk_by (N := ["thing", "row"]) (sc := defScope s_is_table) (by decide +kernel)) (fun _ _ _ _ _ => pg_name (i := 1) sc_is_table.nd rfl (Or.inl rfl)) (fun a _ => tgw_name _ 1 _) (by simp)
        (fun Γ' hK a ha s' H' C' cl' fp' xo => DV.oB (DO.vB (do_call (ok_is_row T _ _ (hz2 a ha)) (hr.mono (by decide)) T.g_is_row T.F_is_row.kp T.b_is_row hK (da_ro (de_ro 1 rfl) (da_v (dv_lenD (DE.eq (de_at (DE.eq (de_ro 0 rfl) (d_dsOf h1)) dv_int hd) (d_dsOf h4)) T.bt.len) da_nil))))) hz)) T.bt.all)) (by unfold isTable; rw [h']; rfl)


theorem sc_are_things : FnScope ["thing", "many", "one"] ["thing", "many"] (defScope s_are_things) := ⟨rfl, rfl, rfl, by decide +kernel, rfl, by decide +kernel, by decide +kernel⟩
theorem ok_are_things {P : Program} {w : World} {K : Fg} {mg : Str → Option Value} {base : Heap} (T : Tx K mg) (d : D) (many : Int) (hz : (dsOf d).length ≤ 4000) :
    FnOk P w K mg base (L2.CX P w) 2 T.a_are_things T.fd_are_things ["thing", "many"] (sp1 K [.ro d, .v (.int many)] (.ret (.fz (.bool (areThings d many))))) := by
  refine ok_def (m := 1) T.F_are_things sc_are_things rfl rfl fun cdv A outer s G H E hr xo hp hx => ?_
  refine ss_ifL (DW.pt (dw_or (dt_not (dt_val (dv_isi (de_ro 0 rfl) (kit_list d) T.bt.list PyProof.Rows.boot_list T.bt.isinstance))) fun h1 => dw_or1 (dt_not (dt_val
    (dv_all xo (DO.dat (do_lcM0 xo [("one", 2)] (g := tF PyData.bool) (ic_c (f := fun x => x) (fun a => .ro a) (DE.eq (de_ro 0 rfl) (d_dl (by simpa using h1))) (fun _ => .ro)) (blkOk_by (N := ["thing", "many", "one"]) (sc := defScope s_are_things) (by decide +kernel)) (fun _ _ _ _ _ => pg_name (i := 2) sc_are_things.nd rfl (Or.inl rfl)) (fun a _ => tgw_name _ 2 _) (by simp)
      (fun Γ' hK a ha s' H' C' cl' fp' xo => DV.oB (DO.vB (do_call (ok_is_among T _ _ _) (hr.mono (by decide)) T.g_is_among T.F_is_among.kp T.b_is_among hK (da_ro (de_ro 2 rfl) (da_v dv_int (da_v (dv_sub (dv_var 1 rfl) dv_int) da_nil)))))) (Nat.le_trans hz (by decide)))) T.bt.all))))) (fun h => ?_) (fun h => ?_)
  · exact ss_retV dv_bl (by unfold areThings; rw [if_pos h]; rfl)
  · have h' := h
    simp only [Bool.or_eq_false_iff, Bool.not_eq_false'] at h
    have hi := d_nums h.1 h.2
    have hl : (nums d).length ≤ 4000 := by unfold nums; rw [List.length_map]; exact hz
    exact ss_retV (dv_eq (dv_lenSet xo (DE.eq (de_ro 0 rfl) hi) hl T.bt.len T.bt.set) (dv_len (f := dI) (DE.eq (de_ro 0 rfl) hi) T.bt.len)) (by unfold areThings; rw [h']; rfl)


theorem sc_are_shares : FnScope ["thing", "heirs", "things", "told", "share"] ["thing", "heirs", "things"] (defScope s_are_shares) := ⟨rfl, rfl, rfl, by decide +kernel, rfl, by decide +kernel, by decide +kernel⟩
theorem ok_are_shares {P : Program} {w : World} {K : Fg} {mg : Str → Option Value} {base : Heap} (T : Tx K mg) (d : D) (heirs things : Int) (hz : (dsOf d).length ≤ 4000) (hz2 : ∀ x ∈ dsOf d, (dsOf x).length ≤ 4000) (hz3 : (told d).length ≤ 4000) :
    FnOk P w K mg base (L2.CX P w) 3 T.a_are_shares T.fd_are_shares ["thing", "heirs", "things"] (sp1 K [.ro d, .v (.int heirs), .v (.int things)] (.ret (.fz (.bool (areShares d heirs things))))) := by
  refine ok_def (m := 2) T.F_are_shares sc_are_shares rfl rfl fun cdv A outer s G H E hr xo hp hx => ?_
  refine ss_ifL (DW.pt (dw_or (dt_not (dt_val (dv_isi (de_ro 0 rfl) (kit_list d) T.bt.list PyProof.Rows.boot_list T.bt.isinstance))) fun h1 => dw_or1 ((dt_ne (dv_lenD (DE.eq (de_ro 0 rfl) (d_dsOf (by simpa using h1))) T.bt.len) (dv_var 1 rfl))))) (fun h => ?_) (fun h => ?_)
  · exact ss_retV dv_bl (by unfold areShares; rw [if_pos h]; rfl)
  have h' := h
  simp only [Bool.or_eq_false_iff, Bool.not_eq_false'] at h
  obtain ⟨h1, _⟩ := h
  refine ss_ifL (dt_not (dt_val (dv_all xo (DO.dat (do_lcM0 xo [("share", 4)] (g := tF PyData.bool) (ic_c (f := fun x => x) (fun a => .ro a) (DE.eq (de_ro 0 rfl) (d_dl h1)) (fun _ => .ro)) (blkOk_by (N := ["thing", "heirs", "things", "told", "share"]) (sc := defScope s_are_shares) (by decide +kernel)) (fun _ _ _ _ _ => pg_name (i := 4) sc_are_shares.nd rfl (Or.inl rfl)) (fun a _ => tgw_name _ 4 _) (by simp)
      (fun Γ' hK a ha s' H' C' cl' fp' xo => DV.oB (dv_and (DO.vB (do_call (ok_are_things T _ _ (hz2 a ha)) (hr.mono (by decide)) T.g_are_things T.F_are_things.kp T.b_are_things hK (da_ro (de_ro 4 rfl) (da_v (dv_var 2 rfl) da_nil)))) fun q => dv_one
        (dv_eqD (f := dL) xo.hu64 (DE.eq (de_ro 4 rfl) (areThings_d q).2.1) (DO.dat (do_sorted (DE.eq (de_ro 4 rfl) (areThings_d q).2.1) T.bt.sorted))))) (Nat.le_trans hz (by decide)))) T.bt.all))) (fun h => ?_) (fun h => ?_)
  · exact ss_retV dv_bl (by unfold areShares; rw [h', if_pos h]; rfl)
  have h'' := h
  simp only [Bool.not_eq_false'] at h
  have hs : ∀ i, i < (dsOf d).length → (dsOf d).getD i default = dL (nums ((dsOf d).getD i default)) := fun i hi => by
    have hm : (dsOf d).getD i default ∈ dsOf d := by simp [List.getD_eq_getElem?_getD, hi]
    have := List.all_eq_true.mp h _ (List.mem_map.mpr ⟨_, hm, rfl⟩)
    simp only [id, Bool.and_eq_true] at this
    exact (areThings_d this.1).2.1
  refine ss_o 3 xo.nd (do_nil tI) ?_
  refine ss_for1 xo hp 4 (di_r (f := fun x => x) (DE.eq (de_ro 0 rfl) (d_dl h1))) (fun i ρ => (ρ.set 3 (.ow (tl tI (((dsOf d).take i).map nums).flatten))).set 4 .un) (fun i => True) (.same (.same (.same (Wk.eq (by simp) (.un .nil))))) trivial (fun i hi _ => ?_) (fun _ => ?_)
  · have hle : (((dsOf d).take i).map nums).flatten.length + (nums ((dsOf d).getD i default)).length ≤ 4000 := by
      have e : ((dsOf d).take (i + 1)).map nums = ((dsOf d).take i).map nums ++ [nums ((dsOf d).getD i default)] := take_succ_map nums (dsOf d) hi
      have : (((dsOf d).take (i + 1)).map nums).flatten.length ≤ (told d).length := by
        unfold told
        have := List.take_append_drop (i + 1) (dsOf d)
        calc _ ≤ (((dsOf d).take (i + 1)).map nums).flatten.length + (((dsOf d).drop (i + 1)).map nums).flatten.length := Nat.le_add_right _ _
          _ = _ := by rw [← List.length_append, ← List.flatten_append, ← List.map_append, this]
      rw [e] at this
      simp only [List.flatten_append, List.length_append, List.flatten_cons, List.flatten_nil, List.append_nil] at this
      omega
    refine ss_o 3 xo.nd (do_catI (de_owT (g := tl tI) 3 rfl) (DE.eq (de_ro 4 rfl) (hs i hi)) (by omega)) ?_
    exact ss_nil ⟨.same (.same (.same (Wk.eq (by rw [take_succ_map nums (dsOf d) hi]; simp) (.un .nil)))), trivial⟩
  · refine ss_wk (ρ' := [.ro d, .v (.int heirs), .v (.int things), .ow (tl tI (told d)), .un]) (.same (.same (.same (Wk.eq (by rw [List.take_length]; rfl) (.un .nil))))) ?_
    exact ss_retV (dv_eq (dv_lenSet xo (de_owT (g := tl tI) 3 rfl) hz3 T.bt.len T.bt.set) (dv_len (f := dI) (de_owT (g := tl tI) 3 rfl) T.bt.len)) (by unfold areShares; rw [h', h'']; rfl)

theorem sc_need_table : FnScope ["table"] ["table"] (defScope s_need_table) := ⟨rfl, rfl, rfl, by decide +kernel, rfl, by decide +kernel, by decide +kernel⟩
theorem ok_need_table {P : Program} {w : World} {K : Fg} {mg : Str → Option Value} {base : Heap} (T : Tx K mg) (d : D) (hz : (dsOf d).length ≤ 16000000) (hz2 : ∀ x ∈ dsOf d, (dsOf x).length ≤ 16000000) :
    FnOk P w K mg base (L2.CX P w) 4 T.a_need_table T.fd_need_table ["table"] (sp1 K [.ro d] (if isTable d = true then .ret (.fz .none) else .exc T.c_BadTable)) := by
  refine ok_def (m := 0) T.F_need_table sc_need_table rfl rfl fun cdv0 A0 out0 s0 G0 H0 E0 hr xo hp hx => ?_
  refine ss_ifL (dt_not (dt_val (DO.vB (do_call (ok_is_table T _ (by /-need_table.1-/ first | assumption | omega | decide | (exact ⟨by omega, by omega⟩)) (by /-need_table.2-/ first | assumption | omega | decide | (exact ⟨by omega, by omega⟩))) (hr.mono (by decide)) T.g_is_table T.F_is_table.kp T.b_is_table (by exact rfl) (da_ro (de_ro 0 rfl) da_nil))))) (fun h1 => ?_) (fun h1 => ?_)
  ·
    exact raise_BadTable T (hx _ (by rw [if_neg]; simpa using h1))
  show SS _ _ [_] _ _
  exact ss_nil (by rw [if_pos]; simpa using h1)

theorem ok_need_table_y {P : Program} {w : World} {K : Fg} {mg : Str → Option Value} {base : Heap} (T : Tx K mg) (t : List (List Int)) {m : Nat} (h : GoodT t m) :
    FnOk P w K mg base (L2.CX P w) 4 T.a_need_table T.fd_need_table ["table"] (sp1 K [.ro (dLL t)] (.ret (.fz .none))) := by
  have := ok_need_table (P := P) (w := w) (base := base) T (dLL t) (by rw [dsOf_dLL, List.length_map]; have := h.n8; omega) (h.dsz)
  rwa [if_pos h.isTable] at this

theorem sc_need_shares : FnScope ["table", "shares"] ["table", "shares"] (defScope s_need_shares) := ⟨rfl, rfl, rfl, by decide +kernel, rfl, by decide +kernel, by decide +kernel⟩
theorem ok_need_shares {P : Program} {w : World} {K : Fg} {mg : Str → Option Value} {base : Heap} (T : Tx K mg) (t : List (List Int)) (d : D) {m : Nat} (h : GoodT t m) (hz : (dsOf d).length ≤ 4000) (hz2 : ∀ x ∈ dsOf d, (dsOf x).length ≤ 4000) (hz3 : (told d).length ≤ 4000) :
    FnOk P w K mg base (L2.CX P w) 5 T.a_need_shares T.fd_need_shares ["table", "shares"] (sp1 K [.ro ((dl (dl dI)) t), .ro d] (if areShares d t.length m = true then .ret (.fz .none) else .exc T.c_BadShares)) := by
  refine ok_def (m := 0) T.F_need_shares sc_need_shares rfl rfl fun cdv0 A0 out0 s0 G0 H0 E0 hr xo hp hx => ?_
  refine ss_expr (do_call (ok_need_table_y T _ (by /-need_shares.1-/ exact h)) (hr.mono (by decide)) T.g_need_table T.F_need_table.kp T.b_need_table (by exact rfl) (da_ro (de_ro 0 rfl) da_nil)) ?_
  show SS _ _ [_, _] _ _
  refine ss_ifL (dt_not (dt_val (DO.vB (do_call (ok_are_shares T _ _ _ (by /-need_shares.3-/ first | assumption | omega | decide | (exact ⟨by omega, by omega⟩)) (by /-need_shares.4-/ first | assumption | omega | decide | (exact ⟨by omega, by omega⟩)) (by /-need_shares.5-/ first | assumption | omega | decide | (exact ⟨by omega, by omega⟩))) (hr.mono (by decide)) T.g_are_shares T.F_are_shares.kp T.b_are_shares (by exact rfl) (da_ro (de_ro 1 rfl) (da_v (dv_len (f := (dl dI)) (de_ro 0 rfl) T.bt.len) (da_v (dv_len (f := dI) (de_ix (f := (dl dI)) (de_ro 0 rfl) dv_int (by /-need_shares.2-/ have := h.n1; exact ⟨by omega, by omega⟩)) T.bt.len) da_nil))))))) (fun h1 => ?_) (fun h1 => ?_)
  ·
    exact raise_BadShares T (hx _ (by rw [if_neg]; simpa [h.m0] using h1))
  show SS _ _ [_, _] _ _
  exact ss_nil (by rw [if_pos]; simpa [h.m0] using h1)

theorem ok_need_shares_y {P : Program} {w : World} {K : Fg} {mg : Str → Option Value} {base : Heap} (T : Tx K mg) (t s : List (List Int)) {m : Nat} (h : GoodT t m) (hs : GoodS s t.length m) :
    FnOk P w K mg base (L2.CX P w) 5 T.a_need_shares T.fd_need_shares ["table", "shares"] (sp1 K [.ro (dLL t), .ro (dLL s)] (.ret (.fz .none))) := by
  have := ok_need_shares (P := P) (w := w) (base := base) T t (dLL s) h (hs.z1 h) (hs.z2 h) (hs.z3 h)
  rwa [if_pos hs.areShares] at this

theorem sc_summed : FnScope ["row", "things", "thing"] ["row", "things"] (defScope s_summed) := ⟨rfl, rfl, rfl, by decide +kernel, rfl, by decide +kernel, by decide +kernel⟩
theorem ok_summed {P : Program} {w : World} {K : Fg} {mg : Str → Option Value} {base : Heap} (T : Tx K mg) (row things : List Int) (hb : ∀ t ∈ things, inR row.length t) (hl : things.length ≤ 16000000) :
    FnOk P w K mg base (L2.CX P w) 1 T.a_summed T.fd_summed ["row", "things"] (sp1 K [.ro ((dl dI) row), .ro ((dl dI) things)] (.ret (.fz (.int (summed row things))))) := by
  refine ok_def (m := 1) T.F_summed sc_summed rfl rfl fun cdv0 A0 out0 s0 G0 H0 E0 hr xo hp hx => ?_
  exact ss_retV (dv_sum xo (DO.dat (do_lcM0 xo [("thing", 2)] (g := tI)  (ic_c (f := dI) (fun a => .v (.int a)) (de_ro 1 rfl) (fun _ => .v rfl)) (blkOk_by (N := ["row", "things", "thing"]) (sc := defScope s_summed) (by decide +kernel)) (fun _ _ _ _ _ => pg_name (i := 2) sc_summed.nd rfl (Or.inl rfl)) (fun a _ => tgw_name _ 2 _) (by simp) (fun Γ' hK a ha s' H' C' cl' fp' xo => (DV.oI (dv_ix (de_ro 0 rfl) (dv_var 2 rfl) (by /-summed.1-/ exact hb _ ha)))) (by /-summed.2-/ exact hl))) T.bt.sum) (rfl)

theorem sc_feels : FnScope ["table", "shares", "heir", "other"] ["table", "shares", "heir", "other"] (defScope s_feels) := ⟨rfl, rfl, rfl, by decide +kernel, rfl, by decide +kernel, by decide +kernel⟩
theorem ok_feels {P : Program} {w : World} {K : Fg} {mg : Str → Option Value} {base : Heap} (T : Tx K mg) (t s : List (List Int)) (h o : Int) {m : Nat} (g : GoodT t m) (hs : GoodS s t.length m) (hh : inR t.length h) (ho : inR t.length o) :
    FnOk P w K mg base (L2.CX P w) 2 T.a_feels T.fd_feels ["table", "shares", "heir", "other"] (sp1 K [.ro ((dl (dl dI)) t), .ro ((dl (dl dI)) s), .v (.int h), .v (.int o)] (.ret (.fz (.bool (feels t s h o))))) := by
  refine ok_def (m := 0) T.F_feels sc_feels rfl rfl fun cdv0 A0 out0 s0 G0 H0 E0 hr xo hp hx => ?_
  exact ss_retV (dv_gt (DO.vI (do_call (ok_summed T _ _ (by /-feels.3-/ first | exact gs_b g hs hh ho | exact gs_b g hs hh hh) (by /-feels.4-/ first | exact Nat.le_trans (gs_l g hs ho) (by decide) | exact Nat.le_trans (gs_l g hs hh) (by decide))) (hr.mono (by decide)) T.g_summed T.F_summed.kp T.b_summed (by exact rfl) (da_ro (de_ix (f := (dl dI)) (de_ro 0 rfl) (dv_var 2 rfl) (by /-feels.1-/ first | exact hh | exact ho | (rw [hs.n]; exact ho) | (rw [hs.n]; exact hh))) (da_ro (de_ix (f := (dl dI)) (de_ro 1 rfl) (dv_var 3 rfl) (by /-feels.2-/ first | exact hh | exact ho | (rw [hs.n]; exact ho) | (rw [hs.n]; exact hh))) da_nil)))) (DO.vI (do_call (ok_summed T _ _ (by /-feels.7-/ first | exact gs_b g hs hh ho | exact gs_b g hs hh hh) (by /-feels.8-/ first | exact Nat.le_trans (gs_l g hs ho) (by decide) | exact Nat.le_trans (gs_l g hs hh) (by decide))) (hr.mono (by decide)) T.g_summed T.F_summed.kp T.b_summed (by exact rfl) (da_ro (de_ix (f := (dl dI)) (de_ro 0 rfl) (dv_var 2 rfl) (by /-feels.5-/ first | exact hh | exact ho | (rw [hs.n]; exact ho) | (rw [hs.n]; exact hh))) (da_ro (de_ix (f := (dl dI)) (de_ro 1 rfl) (dv_var 2 rfl) (by /-feels.6-/ first | exact hh | exact ho | (rw [hs.n]; exact ho) | (rw [hs.n]; exact hh))) da_nil))))) (rfl)

theorem sc_pairs_of : FnScope ["table", "shares", "found", "heir", "other"] ["table", "shares"] (defScope s_pairs_of) := ⟨rfl, rfl, rfl, by decide +kernel, rfl, by decide +kernel, by decide +kernel⟩
theorem ok_pairs_of {P : Program} {w : World} {K : Fg} {mg : Str → Option Value} {base : Heap} (T : Tx K mg) (t s : List (List Int)) {m : Nat} (g : GoodT t m) (hs : GoodS s t.length m) :
    FnOk P w K mg base (L2.CX P w) 3 T.a_pairs_of T.fd_pairs_of ["table", "shares"] (sp1 K [.ro ((dl (dl dI)) t), .ro ((dl (dl dI)) s)] (.ret ((tl (tF (d2 dI dI))) (pairsOf t s)))) := by
  refine ok_def (m := 3) T.F_pairs_of sc_pairs_of rfl rfl fun cdv0 A0 out0 s0 G0 H0 E0 hr xo hp hx => ?_
  refine ss_o 2 xo.nd (do_nil (tF (d2 dI dI))) ?_
  show SS _ _ [_, _, _, _, _] _ _
  refine ss_for1 xo hp 3 (di_rangeN (dv_len (f := (dl dI)) (de_ro 0 rfl) T.bt.len) (by /-pairs_of.1-/ have := g.n8; omega) T.bt.range) (fun i ρ => (((ρ).set 2 (.ow ((tl (tF (d2 dI dI))) (pAll t s t.length i)))).set 3 .un).set 4 .un) (fun i => True) (.same (.same (Wk.eq (by first | rfl | simp) (.un (.un (.nil)))))) (by first | trivial | simp) (fun i hi hI1 => ?_) (fun hI1 => ?_)
  ·
    show SS _ _ [_, _, _, _, _] _ _
    refine ss_for1 xo hp 4 (di_rangeN (dv_len (f := (dl dI)) (de_ro 0 rfl) T.bt.len) (by /-pairs_of.2-/ have := g.n8; omega) T.bt.range) (fun j ρ => ((ρ).set 2 (.ow ((tl (tF (d2 dI dI))) (pAll t s t.length i ++ pRow t s i j)))).set 4 .un) (fun j => True) (.same (.same (Wk.eq (by rw [pRow_0, List.append_nil]) (.same (.un (.nil)))))) (by first | trivial | simp) (fun j hj hI2 => ?_) (fun hI2 => ?_)
    ·
      show SS _ _ [_, _, _, _, _] _ _
      refine ss_if2 (dt_val (DO.vB (do_call (ok_feels T _ _ _ _ (by /-pairs_of.3-/ exact g) (by /-pairs_of.4-/ exact hs) (by /-pairs_of.5-/ exact ⟨by omega, by omega⟩) (by /-pairs_of.6-/ exact ⟨by omega, by omega⟩)) (hr.mono (by decide)) T.g_feels T.F_feels.kp T.b_feels (by exact rfl) (da_ro (de_ro 0 rfl) (da_ro (de_ro 1 rfl) (da_v (dv_var 3 rfl) (da_v (dv_var 4 rfl) da_nil))))))) (fun h1 => ?_) (fun h1 => ?_)
      ·
        refine ss_app0 (g := (tF (d2 dI dI))) 2 (dpl_var 2 rfl) (DE.oF (f := (d2 dI dI)) (DE.eq (d' := (d2 dI dI) (_, _)) (de_tup (da_v (dv_var 3 rfl) (da_v (dv_var 4 rfl) da_nil))) rfl)) rfl (by /-pairs_of.7-/ exact pr_sz g (by omega) (by omega)) ?_
        show SS _ _ [_, _, _, _, _] _ _
        refine ss_nil ?_
        show SS _ _ [_, _, _, _, _] _ _
        exact ss_nil ⟨.same (.same (Wk.eq (by first | rw [pRow_yes h1, List.append_assoc] | rw [pRow_no h1]) (.same (.un (.nil))))), by first | trivial | simp⟩
      ·
        refine ss_nil ?_
        show SS _ _ [_, _, _, _, _] _ _
        exact ss_nil ⟨.same (.same (Wk.eq (by first | rw [pRow_yes h1, List.append_assoc] | rw [pRow_no h1]) (.same (.un (.nil))))), by first | trivial | simp⟩
    show SS _ _ [_, _, _, _, _] _ _
    exact ss_nil ⟨.same (.same (Wk.eq (by rw [pAll_succ]) (.un (.un (.nil))))), by first | trivial | simp⟩
  show SS _ _ [_, _, _, _, _] _ _
  exact ss_retOw 2 rfl (rfl)

theorem sc_unenvied : FnScope ["pairs", "heirs", "seen", "heir", "other"] ["pairs", "heirs"] (defScope s_unenvied) := ⟨rfl, rfl, rfl, by decide +kernel, rfl, by decide +kernel, by decide +kernel⟩
theorem ok_unenvied {P : Program} {w : World} {K : Fg} {mg : Str → Option Value} {base : Heap} (T : Tx K mg) (ps : List (Int × Int)) (hs : List Int) (hl : ps.length ≤ 16000000) (hl2 : hs.length ≤ 16000000) :
    FnOk P w K mg base (L2.CX P w) 1 T.a_unenvied T.fd_unenvied ["pairs", "heirs"] (sp1 K [.ro ((dl (d2 dI dI)) ps), .ro ((dl dI) hs)] (.ret ((tl tI) (unenv ps hs)))) := by
  refine ok_def (m := 3) T.F_unenvied sc_unenvied rfl rfl fun cdv0 A0 out0 s0 G0 H0 E0 hr xo hp hx => ?_
  refine ss_o 2 xo.nd (do_lcM xo [("heir", 3), ("other", 4)] (g := tI)  (ic_c (f := (d2 dI dI)) (fun a => .ro ((d2 dI dI) a)) (de_ro 0 rfl) (fun _ => .ro)) (blkOk_by (N := ["pairs", "heirs", "seen", "heir", "other"]) (sc := defScope s_unenvied) (by decide +kernel)) (fun _ _ _ _ _ => pg_tup rfl (pgs_cons (pg_name (i := 3) sc_unenvied.nd rfl (Or.inl rfl)) (pgs_cons (pg_name (i := 4) sc_unenvied.nd rfl (Or.inl rfl)) pgs_nil))) (fun a _ => tgw_pairR _ 3 4 (.v rfl) (.v rfl)) (by simp) (fun Γ' hK a ha s' H' C' cl' fp' xo => dts_one (dt_in xo.hu (dv_var 3 rfl) (de_ro 1 rfl))) (fun Γ' hK a ha hf s' H' C' cl' fp' xo => (DV.oI (dv_var 4 rfl))) (by /-unenvied.1-/ first | exact hl | exact hl2)) ?_
  show SS _ _ [_, _, _, _, _] _ _
  exact ss_ret (do_lcM xo [("heir", 3)] (g := tI)  (ic_c (f := dI) (fun a => .v (.int a)) (de_ro 1 rfl) (fun _ => .v rfl)) (blkOk_by (N := ["pairs", "heirs", "seen", "heir", "other"]) (sc := defScope s_unenvied) (by decide +kernel)) (fun _ _ _ _ _ => pg_name (i := 3) sc_unenvied.nd rfl (Or.inl rfl)) (fun a _ => tgw_name _ 3 _) (by simp) (fun Γ' hK a ha s' H' C' cl' fp' xo => dts_one (dt_notIn xo.hu (dv_var 3 rfl) (de_roT (g := (tl tI)) 2 rfl))) (fun Γ' hK a ha hf s' H' C' cl' fp' xo => (DV.oI (dv_var 3 rfl))) (by /-unenvied.2-/ first | exact hl | exact hl2)) (by rw [List.map_id']; rfl)

theorem sc_line_of : FnScope ["pairs", "many", "left", "found", "free"] ["pairs", "many"] (defScope s_line_of) := ⟨rfl, rfl, rfl, by decide +kernel, rfl, by decide +kernel, by decide +kernel⟩
theorem ok_line_of {P : Program} {w : World} {K : Fg} {mg : Str → Option Value} {base : Heap} (T : Tx K mg) (ps : List (Int × Int)) (m : Nat) (hl : ps.length ≤ 16000000) (hm : m ≤ 8) :
    FnOk P w K mg base (L2.CX P w) 2 T.a_line_of T.fd_line_of ["pairs", "many"] (sp1 K [.ro ((dl (d2 dI dI)) ps), .v (.int ((m : Nat) : Int))] (.ret ((tl tI) (lineOf ps m)))) := by
  refine ok_def (m := 3) T.F_line_of sc_line_of rfl rfl fun cdv0 A0 out0 s0 G0 H0 E0 hr xo hp hx => ?_
  refine ss_o 2 xo.nd (do_listRgN xo (dv_var 1 rfl) (by /-line_of.1-/ omega) T.bt.list T.bt.range) ?_
  show SS _ _ [_, _, _, _, _] _ _
  refine ss_o 3 xo.nd (do_nil tI) ?_
  show SS _ _ [_, _, _, _, _] _ _
  refine ss_o 4 xo.nd (do_call (ok_unenvied T _ _ (by /-line_of.2-/ exact hl) (by /-line_of.3-/ first | (rw [rgI_len]; omega) | (have := nx.2.2; rw [← hd_pyAt] at this; omega))) (hr.mono (by decide)) T.g_unenvied T.F_unenvied.kp T.b_unenvied (by exact rfl) (da_ro (de_ro 0 rfl) (da_ro (de_owT (g := (tl tI)) 2 rfl) da_nil))) ?_
  show SS _ _ [_, _, _, _, _] _ _
  refine ss_while xo hp (fun k ρ => (((ρ).set 2 (.ow ((tl tI) (k.1)))).set 3 (.ow ((tl tI) (k.2)))).set 4 (.ow ((tl tI) (unenv ps k.1)))) (fun k => LnI ps m k) (fun k => k.1.length) (fun k => !decide (unenv ps k.1 = [])) ((rgI m, [])) (.same (.same (Wk.eq (by first | rfl | simp) (Wk.eq (by first | rfl | simp) (Wk.eq (by first | rfl | simp) (.nil)))))) (by exact LnI.start ps m) (fun k hI => ?_) (fun k hI hb => ?_) (fun k hI hb => ?_)
  ·
    show DT _ _ [_, _, _, _, _] _ _
    exact (dt_neD (f := (dl dI)) xo.hu64 (de_owT (g := (tl tI)) 4 rfl) (DO.dat (do_nil tI)))
  ·
    show SS _ _ [_, _, _, _, _] _ _
    have hne : unenv ps k.1 ≠ [] := by simpa using hb
    have nx := hI.next hne
    have hq0 := List.length_pos_iff.mpr hne
    have lz := hI.lens
    refine ss_app0 (g := tI) 3 (dpl_var 3 rfl) (DV.oI (dv_ix (de_owT (g := (tl tI)) 4 rfl) dv_int (by /-line_of.4-/ exact ⟨by omega, by omega⟩))) rfl (by /-line_of.5-/ omega) ?_
    show SS _ _ [_, _, _, _, _] _ _
    refine ss_rem 2 (dpl_var 2 rfl) (dv_ix (de_owT (g := (tl tI)) 4 rfl) dv_int (by /-line_of.6-/ exact ⟨by omega, by omega⟩)) rfl (by /-line_of.7-/ rw [hd_pyAt]; exact nx.1) ?_
    show SS _ _ [_, _, _, _, _] _ _
    refine ss_o 4 xo.nd (do_call (ok_unenvied T _ _ (by /-line_of.8-/ exact hl) (by /-line_of.9-/ first | (rw [rgI_len]; omega) | (have := nx.2.2; rw [← hd_pyAt] at this; omega))) (hr.mono (by decide)) T.g_unenvied T.F_unenvied.kp T.b_unenvied (by exact rfl) (da_ro (de_ro 0 rfl) (da_ro (de_owT (g := (tl tI)) 2 rfl) da_nil))) ?_
    show SS _ _ [_, _, _, _, _] _ _
    exact ss_nil ⟨(k.1.erase ((unenv ps k.1).getD 0 default), k.2 ++ [(unenv ps k.1).getD 0 default]), by exact nx.2.1, by exact nx.2.2, .same (.same (Wk.eq (by rw [hd_pyAt]) (Wk.eq (by rw [hd_pyAt]) (Wk.eq (by rw [hd_pyAt]) (.nil)))))⟩
  show SS _ _ [_, _, _, _, _] _ _
  exact ss_retOw 3 rfl (by rw [show k.2 = lineOf ps m from congrArg Prod.snd (hI.done (by simpa using hb))])

theorem sc_ring_of : FnScope ["pairs", "many", "done", "left", "way", "ahead", "heir", "other"] ["pairs", "many"] (defScope s_ring_of) := ⟨rfl, rfl, rfl, by decide +kernel, rfl, by decide +kernel, by decide +kernel⟩
theorem ok_ring_of {P : Program} {w : World} {K : Fg} {mg : Str → Option Value} {base : Heap} (T : Tx K mg) (ps : List (Int × Int)) (m : Nat) (hl : ps.length ≤ 16000000) (hm : m ≤ 8) :
    FnOk P w K mg base (L2.CX P w) 3 T.a_ring_of T.fd_ring_of ["pairs", "many"] (sp1 K [.ro ((dl (d2 dI dI)) ps), .v (.int ((m : Nat) : Int))] (.ret (tOL (ringOf ps m)))) := by
  refine ok_def (m := 6) T.F_ring_of sc_ring_of rfl rfl fun cdv0 A0 out0 s0 G0 H0 E0 hr xo hp hx => ?_
  refine ss_o 2 xo.nd (do_call (ok_line_of T _ _ (by /-ring_of.1-/ exact hl) (by /-ring_of.2-/ exact hm)) (hr.mono (by decide)) T.g_line_of T.F_line_of.kp T.b_line_of (by exact rfl) (da_ro (de_ro 0 rfl) (da_v (dv_var 1 rfl) da_nil))) ?_
  show SS _ _ [_, _, _, _, _, _, _, _] _ _
  refine ss_o 3 xo.nd (do_lcM xo [("heir", 6)] (g := tI)  (ic_rangeN (dv_var 1 rfl) (by /-ring_of.3-/ omega) T.bt.range) (blkOk_by (N := ["pairs", "many", "done", "left", "way", "ahead", "heir", "other"]) (sc := defScope s_ring_of) (by decide +kernel)) (fun _ _ _ _ _ => pg_name (i := 6) sc_ring_of.nd rfl (Or.inl rfl)) (fun a _ => tgw_name _ 6 _) (by simp) (fun Γ' hK a ha s' H' C' cl' fp' xo => dts_one (dt_notIn xo.hu (dv_var 6 rfl) (de_roT (g := (tl tI)) 2 rfl))) (fun Γ' hK a ha hf s' H' C' cl' fp' xo => (DV.oI (dv_var 6 rfl))) (by /-ring_of.4-/ first | exact hl | omega | (simp; omega))) ?_
  show SS _ _ [_, _, _, _, _, _, _, _] _ _
  refine ss_re (fun ρ => (ρ).set 3 (.ow ((tl tI) (leftOf ps m)))) (.same (.same (.same (Wk.eq (by exact congrArg Sl.ow (congrArg (tl tI) (left_eq ps m))) (.same (.same (.same (.same (.nil))))))))) ?_
  show SS _ _ [_, _, _, _, _, _, _, _] _ _
  refine ss_ifL (dt_eqD (f := (dl dI)) xo.hu64 (de_owT (g := (tl tI)) 3 rfl) (DO.dat (do_nil tI))) (fun h1 => ?_) (fun h1 => ?_)
  ·
    exact ss_retV dv_non (by unfold ringOf; rw [if_pos (of_decide_eq_true h1)]; rfl)
  have hne : leftOf ps m ≠ [] := of_decide_eq_false h1
  have hq0 := List.length_pos_iff.mpr hne
  show SS _ _ [_, _, _, _, _, _, _, _] _ _
  refine ss_o 4 xo.nd (DO.eq (t' := tl tI [_]) (do_lst (da_v (dv_ix (de_owT (g := (tl tI)) 3 rfl) dv_int (by /-ring_of.5-/ first | exact ⟨by omega, by omega⟩ | exact ⟨by have := hI.pos; omega, by have := hI.pos; omega⟩ | exact ah_in nx.1)) da_nil)) rfl) ?_
  show SS _ _ [_, _, _, _, _, _, _, _] _ _
  refine ss_while xo hp (fun k ρ => ((ρ).set 4 (.ow ((tl tI) (k)))).set 5 .un) (fun k => WyI ps m k) (fun k => m + 2 - k.length) (fun k => !decide (lastW k ∈ initW k)) ([(leftOf ps m).getD 0 default]) (.same (.same (.same (.same (Wk.eq (by rw [hd_pyAt]) (.un (.same (.same (.nil))))))))) (by exact WyI.start hne) (fun k hI => ?_) (fun k hI hb => ?_) (fun k hI hb => ?_)
  ·
    show DT _ _ [_, _, _, _, _, _, _, _] _ _
    exact (dt_notIn xo.hu (dv_ix (de_owT (g := (tl tI)) 4 rfl) (dv_neg dv_int) (by /-ring_of.6-/ first | exact ⟨by omega, by omega⟩ | exact ⟨by have := hI.pos; omega, by have := hI.pos; omega⟩ | exact ah_in nx.1)) (DO.dat (do_slI (de_owT (g := (tl tI)) 4 rfl) ox_none (ox_some (dv_neg dv_int)))))
  ·
    show SS _ _ [_, _, _, _, _, _, _, _] _ _
    have hnl : lastW k ∉ initW k := by simpa using hb
    have nx := hI.next hnl
    have ha0 := List.length_pos_iff.mpr nx.1
    have hk0 := hI.pos
    refine ss_lcM 5 xo [("heir", 6), ("other", 7)] (g := tI)  (ic_c (f := (d2 dI dI)) (fun a => .ro ((d2 dI dI) a)) (de_ro 0 rfl) (fun _ => .ro)) (blkOk_by (N := ["pairs", "many", "done", "left", "way", "ahead", "heir", "other"]) (sc := defScope s_ring_of) (by decide +kernel)) (fun _ _ _ _ _ => pg_tup rfl (pgs_cons (pg_name (i := 6) sc_ring_of.nd rfl (Or.inl rfl)) (pgs_cons (pg_name (i := 7) sc_ring_of.nd rfl (Or.inl rfl)) pgs_nil))) (fun a _ => tgw_pairR _ 6 7 (.v rfl) (.v rfl)) (by simp) (fun Γ' hK a ha s' H' C' cl' fp' xo => dts_one (DW.pt (dw_and (dt_eq (dv_var 7 rfl) (dv_ix (de_roT (g := (tl tI)) 4 rfl) (dv_neg dv_int) (by /-ring_of.7-/ first | exact ⟨by omega, by omega⟩ | exact ⟨by have := hI.pos; omega, by have := hI.pos; omega⟩ | exact ah_in nx.1))) (fun h2 => (dw_and1 (dt_in xo.hu (dv_var 6 rfl) (de_roT (g := (tl tI)) 3 rfl))))))) (fun Γ' hK a ha hf s' H' C' cl' fp' xo => (DV.oI (dv_var 6 rfl))) (by /-ring_of.8-/ first | exact hl | omega | (simp; omega)) ?_
    show SS _ _ [_, _, _, _, _, _, _, _] _ _
    refine ss_app0 (g := tI) 4 (dpl_var 4 rfl) (DV.oI (dv_ix (de_owT (g := (tl tI)) 5 rfl) dv_int (by /-ring_of.9-/ first | exact ⟨by omega, by omega⟩ | exact ⟨by have := hI.pos; omega, by have := hI.pos; omega⟩ | exact ah_in nx.1))) rfl (by /-ring_of.10-/ have := nx.2.2; omega) ?_
    show SS _ _ [_, _, _, _, _, _, _, _] _ _
    exact ss_nil ⟨k ++ [(aheadOf ps (leftOf ps m) (lastW k)).getD 0 default], by exact nx.2.1, by have := nx.2.2; simp; omega, .same (.same (.same (.same (Wk.eq (by rw [hd_pyAt]; rfl) (.un (.same (.same (.nil))))))))⟩
  have hk0 := hI.pos
  show SS _ _ [_, _, _, _, _, _, _, _] _ _
  exact ss_ret (do_lstRev xo (DO.dat (do_slI (de_owT (g := (tl tI)) 4 rfl) (ox_some (dv_add (dv_index (de_owT (g := (tl tI)) 4 rfl) (dv_ix (de_owT (g := (tl tI)) 4 rfl) (dv_neg dv_int) (by /-ring_of.11-/ first | exact ⟨by omega, by omega⟩ | exact ⟨by have := hI.pos; omega, by have := hI.pos; omega⟩ | exact ah_in nx.1)) (by /-ring_of.12-/ exact lastW_mem hk0)) dv_int)) ox_none)) T.bt.list T.bt.reversed) (by unfold ringOf; rw [if_neg hne, ← hI.done (by simpa using hb)]; rfl)

theorem sc_exchanged : FnScope ["shares", "heirs", "found", "place", "share"] ["shares", "heirs"] (defScope s_exchanged) := ⟨rfl, rfl, rfl, by decide +kernel, rfl, by decide +kernel, by decide +kernel⟩
theorem ok_exchanged {P : Program} {w : World} {K : Fg} {mg : Str → Option Value} {base : Heap} (T : Tx K mg) (s : List (List Int)) (r : List Int) (hb : ∀ x ∈ r, inR s.length x) (hz : s.length ≤ 4000) (hz2 : r.length ≤ 4000) :
    FnOk P w K mg base (L2.CX P w) 1 T.a_exchanged T.fd_exchanged ["shares", "heirs"] (sp1 K [.ro ((dl (dl dI)) s), .ro ((dl dI) r)] (.ret ((tl (tl tI)) (exS s r r.length)))) := by
  refine ok_def (m := 3) T.F_exchanged sc_exchanged rfl rfl fun cdv0 A0 out0 s0 G0 H0 E0 hr xo hp hx => ?_
  refine ss_lcM0 2 xo [("share", 4)] (g := (tl tI))  (ic_c (f := (dl dI)) (fun a => .ro ((dl dI) a)) (de_ro 0 rfl) (fun _ => .ro)) (blkOk_by (N := ["shares", "heirs", "found", "place", "share"]) (sc := defScope s_exchanged) (by decide +kernel)) (fun _ _ _ _ _ => pg_name (i := 4) sc_exchanged.nd rfl (Or.inl rfl)) (fun a _ => tgw_name _ 4 _) (by simp) (fun Γ' hK a ha s' H' C' cl' fp' xo => (do_listI (de_ro 4 rfl) T.bt.list)) (by /-exchanged.1-/ omega) ?_
  show SS _ _ [_, _, _, _, _] _ _
  refine ss_re (fun ρ => (ρ).set 2 (.ow ((tl (tl tI)) (s)))) (.same (.same (Wk.eq (by simp) (.same (.same (.nil)))))) ?_
  show SS _ _ [_, _, _, _, _] _ _
  refine ss_for1 xo hp 3 (di_rangeN (dv_len (f := dI) (de_ro 1 rfl) T.bt.len) (by /-exchanged.2-/ omega) T.bt.range) (fun i ρ => ((ρ).set 2 (.ow ((tl (tl tI)) (exS s r i)))).set 3 .un) (fun i => True) (.same (.same (Wk.eq (by rfl) (.un (.same (.nil)))))) (by first | trivial | simp) (fun i hi hI1 => ?_) (fun hI1 => ?_)
  ·
    show SS _ _ [_, _, _, _, _] _ _
    have hn : inR r.length (i : Int) := ⟨by omega, by omega⟩
    have hm : inR r.length (((i : Int) + 1) % (r.length : Int)) := mod_inR (by omega)
    refine ss_st0 (g := (tl tI)) 2 (dpl_var 2 rfl) (dv_ix (de_ro 1 rfl) (dv_var 3 rfl) (by /-exchanged.6-/ first | exact hn | exact hm | exact hb _ (pyAt_mem hm) | (rw [exS_len]; exact hb _ (pyAt_mem hn)))) (do_listI (de_ix (f := (dl dI)) (de_ro 0 rfl) (dv_ix (de_ro 1 rfl) (dv_mod (dv_add (dv_var 3 rfl) dv_int) (dv_len (f := dI) (de_ro 1 rfl) T.bt.len) (by /-exchanged.3-/ omega)) (by /-exchanged.4-/ first | exact hn | exact hm | exact hb _ (pyAt_mem hm) | (rw [exS_len]; exact hb _ (pyAt_mem hn)))) (by /-exchanged.5-/ first | exact hn | exact hm | exact hb _ (pyAt_mem hm) | (rw [exS_len]; exact hb _ (pyAt_mem hn)))) T.bt.list) rfl (by /-exchanged.7-/ first | exact hn | exact hm | exact hb _ (pyAt_mem hm) | (rw [exS_len]; exact hb _ (pyAt_mem hn))) ?_
    show SS _ _ [_, _, _, _, _] _ _
    exact ss_nil ⟨.same (.same (Wk.eq (by rfl) (.un (.same (.nil))))), by first | trivial | simp⟩
  show SS _ _ [_, _, _, _, _] _ _
  exact ss_retOw 2 rfl (rfl)

theorem sc_settled : FnScope ["table", "shares", "rings", "found", "heirs", "share"] ["table", "shares"] (defScope s_settled) := ⟨rfl, rfl, rfl, by decide +kernel, rfl, by decide +kernel, by decide +kernel⟩
theorem ok_settled {P : Program} {w : World} {K : Fg} {mg : Str → Option Value} {base : Heap} (T : Tx K mg) (t s : List (List Int)) {m : Nat} (g : GoodT t m) (hs : GoodS s t.length m) :
    FnOk P w K mg base (L2.CX P w) 4 T.a_settled T.fd_settled ["table", "shares"] (sp1 K [.ro ((dl (dl dI)) t), .ro ((dl (dl dI)) s)] (.ret (.fz ((d2 (dl (dl dI)) (dl (dl dI))) (stO t s))))) := by
  have n8 := g.n8; have hn := hs.n
  refine ok_def (m := 4) T.F_settled sc_settled rfl rfl fun cdv0 A0 out0 s0 G0 H0 E0 hr xo hp hx => ?_
  refine ss_o 2 xo.nd (do_nil (tl tI)) ?_
  show SS _ _ [_, _, _, _, _, _] _ _
  refine ss_lcM0 3 xo [("share", 5)] (g := (tl tI))  (ic_c (f := (dl dI)) (fun a => .ro ((dl dI) a)) (de_ro 1 rfl) (fun _ => .ro)) (blkOk_by (N := ["table", "shares", "rings", "found", "heirs", "share"]) (sc := defScope s_settled) (by decide +kernel)) (fun _ _ _ _ _ => pg_name (i := 5) sc_settled.nd rfl (Or.inl rfl)) (fun a _ => tgw_name _ 5 _) (by simp) (fun Γ' hK a ha s' H' C' cl' fp' xo => (do_listI (de_ro 5 rfl) T.bt.list)) (by /-settled.1-/ omega) ?_
  show SS _ _ [_, _, _, _, _, _] _ _
  refine ss_re (fun ρ => ((ρ).set 2 (.ow ((tl (tF (dl dI))) ([])))).set 3 (.ow ((tl (tl tI)) (s)))) (.same (.same (Wk.eq (by rfl) (Wk.eq (by simp) (.same (.same (.nil))))))) ?_
  show SS _ _ [_, _, _, _, _, _] _ _
  refine ss_o 4 xo.nd (do_call (ok_ring_of T _ _ (by /-settled.4-/ exact Nat.le_of_lt (pairs_len g)) (by /-settled.5-/ exact g.n8)) (hr.mono (by decide)) T.g_ring_of T.F_ring_of.kp T.b_ring_of (by exact rfl) (da_ro (DO.dat (do_call (ok_pairs_of T _ _ (by /-settled.2-/ exact g) (by /-settled.3-/ first | exact hs | exact gx9)) (hr.mono (by decide)) T.g_pairs_of T.F_pairs_of.kp T.b_pairs_of (by exact rfl) (da_ro (de_ro 0 rfl) (da_ro (de_owT (g := (tl (tl tI))) 3 rfl) da_nil)))) (da_v (dv_len (f := (dl dI)) (de_ro 0 rfl) T.bt.len) da_nil))) ?_
  show SS _ _ [_, _, _, _, _, _] _ _
  refine ss_while xo hp (fun k ρ => (((ρ).set 2 (.ow ((tl (tF (dl dI))) (k.1)))).set 3 (.ow ((tl (tl tI)) (k.2)))).set 4 (.ow (tOL (ringOf (pairsOf t k.2) t.length)))) (fun k => StI t s k) (fun k => (pairsOf t k.2).length) (fun k => !isN (dOL (ringOf (pairsOf t k.2) t.length))) (([], s)) (.same (.same (Wk.eq (by rfl) (Wk.eq (by rfl) (Wk.eq (by rfl) (.same (.nil))))))) (by exact StI.start hs.n) (fun k hI => ?_) (fun k hI hb => ?_) (fun k hI hb => ?_)
  ·
    show DT _ _ [_, _, _, _, _, _] _ _
    exact (dt_notN (de_owT (g := tOL) 4 rfl))
  ·
    show SS _ _ [_, _, _, _, _, _] _ _
    have hne : leftOf (pairsOf t k.2) t.length ≠ [] := ring_b hb
    have gk : GoodS k.2 t.length m := perm_good hI.perm hs
    have nx := hI.next hs.n hne
    have wy := ringR_good hne
    have gx9 : GoodS (exR t k.2) t.length m := perm_good nx.1.perm hs
    have kn := gk.n
    have rl := hI.rl
    have two := wy.two; have wl := nodup_bd wy.nd wy.bd
    have pl := pairs_len g (s := s)
    refine ss_re (fun ρ => (ρ).set 4 (.ow ((tl tI) (ringR t k.2)))) (.same (.same (.same (.same (Wk.eq (by rw [ringR_some hne]; rfl) (.same (.nil))))))) ?_
    show SS _ _ [_, _, _, _, _, _] _ _
    refine ss_frzT 4 (g := (tl tI)) rfl ?_
    show SS _ _ [_, _, _, _, _, _] _ _
    refine ss_app0 (g := (tF (dl dI))) 2 (dpl_var 2 rfl) (DE.oF (f := (dl dI)) (de_sh 4 rfl)) rfl (by /-settled.6-/ omega) ?_
    show SS _ _ [_, _, _, _, _, _] _ _
    refine ss_o 3 xo.nd (do_call (ok_exchanged T _ _ (by /-settled.7-/ exact fun x hx => by rw [kn]; have := wy.bd x hx; exact ⟨by omega, by omega⟩) (by /-settled.8-/ rw [kn]; omega) (by /-settled.9-/ omega)) (hr.mono (by decide)) T.g_exchanged T.F_exchanged.kp T.b_exchanged (by exact rfl) (da_ro (de_owT (g := (tl (tl tI))) 3 rfl) (da_ro (de_sh 4 rfl) da_nil))) ?_
    show SS _ _ [_, _, _, _, _, _] _ _
    refine ss_o 4 xo.nd (do_call (ok_ring_of T _ _ (by /-settled.12-/ exact Nat.le_of_lt (pairs_len g)) (by /-settled.13-/ exact g.n8)) (hr.mono (by decide)) T.g_ring_of T.F_ring_of.kp T.b_ring_of (by exact rfl) (da_ro (DO.dat (do_call (ok_pairs_of T _ _ (by /-settled.10-/ exact g) (by /-settled.11-/ first | exact hs | exact gx9)) (hr.mono (by decide)) T.g_pairs_of T.F_pairs_of.kp T.b_pairs_of (by exact rfl) (da_ro (de_ro 0 rfl) (da_ro (de_owT (g := (tl (tl tI))) 3 rfl) da_nil)))) (da_v (dv_len (f := (dl dI)) (de_ro 0 rfl) T.bt.len) da_nil))) ?_
    show SS _ _ [_, _, _, _, _, _] _ _
    exact ss_nil ⟨(k.1 ++ [ringR t k.2], exR t k.2), by exact nx.1, by exact nx.2, .same (.same (Wk.eq (by rfl) (Wk.eq (by rfl) (Wk.eq (by rfl) (.same (.nil))))))⟩
  show SS _ _ [_, _, _, _, _, _] _ _
  refine ss_frzT 2 (g := (tl (tF (dl dI)))) rfl ?_
  show SS _ _ [_, _, _, _, _, _] _ _
  refine ss_frzT 3 (g := (tl (tl tI))) rfl ?_
  show SS _ _ [_, _, _, _, _, _] _ _
  exact ss_retZ (DE.eq (d' := (d2 (dl (dl dI)) (dl (dl dI))) (_, _)) (de_tup (da_sh (de_sh 2 rfl) (da_sh (de_sh 3 rfl) da_nil))) rfl) (by rw [← hI.done (ring_e hb)])

theorem sc_with_thing : FnScope ["shares", "heir", "thing", "found", "share"] ["shares", "heir", "thing"] (defScope s_with_thing) := ⟨rfl, rfl, rfl, by decide +kernel, rfl, by decide +kernel, by decide +kernel⟩
theorem ok_with_thing {P : Program} {w : World} {K : Fg} {mg : Str → Option Value} {base : Heap} (T : Tx K mg) (s : List (List Int)) (h x : Int) (hh : inR s.length h) (hz : s.length ≤ 16000000) (hz2 : ∀ r ∈ s, r.length < 16000000) :
    FnOk P w K mg base (L2.CX P w) 1 T.a_with_thing T.fd_with_thing ["shares", "heir", "thing"] (sp1 K [.ro ((dl (dl dI)) s), .v (.int h), .v (.int x)] (.ret ((tl (tl tI)) (withThing s h x)))) := by
  refine ok_def (m := 2) T.F_with_thing sc_with_thing rfl rfl fun cdv0 A0 out0 s0 G0 H0 E0 hr xo hp hx => ?_
  refine ss_lcM0 3 xo [("share", 4)] (g := (tl tI))  (ic_c (f := (dl dI)) (fun a => .ro ((dl dI) a)) (de_ro 0 rfl) (fun _ => .ro)) (blkOk_by (N := ["shares", "heir", "thing", "found", "share"]) (sc := defScope s_with_thing) (by decide +kernel)) (fun _ _ _ _ _ => pg_name (i := 4) sc_with_thing.nd rfl (Or.inl rfl)) (fun a _ => tgw_name _ 4 _) (by simp) (fun Γ' hK a ha s' H' C' cl' fp' xo => (do_listI (de_ro 4 rfl) T.bt.list)) (by /-with_thing.1-/ exact hz) ?_
  show SS _ _ [_, _, _, _, _] _ _
  refine ss_re (fun ρ => (ρ).set 3 (.ow ((tl (tl tI)) (s)))) (.same (.same (.same (Wk.eq (by simp) (.same (.nil)))))) ?_
  show SS _ _ [_, _, _, _, _] _ _
  refine ss_st0 (g := (tl tI)) 3 (dpl_var 3 rfl) (dv_var 1 rfl) (do_sorted (DO.dat (do_catI (de_ix (f := (dl dI)) (de_owT (g := (tl (tl tI))) 3 rfl) (dv_var 1 rfl) (by /-with_thing.2-/ exact hh)) (DO.dat (DO.eq (t' := tl tI [_]) (do_lst (da_v (dv_var 2 rfl) da_nil)) rfl)) (by /-with_thing.3-/ have := hz2 _ (pyAt_mem hh); simp; omega))) T.bt.sorted) rfl (by /-with_thing.4-/ exact hh) ?_
  show SS _ _ [_, _, _, _, _] _ _
  exact ss_retOw 3 rfl (rfl)

theorem sc_goes_to : FnScope ["table", "shares"] ["table", "shares"] (defScope s_goes_to) := ⟨rfl, rfl, rfl, by decide +kernel, rfl, by decide +kernel, by decide +kernel⟩
theorem ok_goes_to {P : Program} {w : World} {K : Fg} {mg : Str → Option Value} {base : Heap} (T : Tx K mg) (t s : List (List Int)) {m : Nat} (g : GoodT t m) (hs : GoodS s t.length m) (hl : leftOf (pairsOf t s) t.length = []) :
    FnOk P w K mg base (L2.CX P w) 4 T.a_goes_to T.fd_goes_to ["table", "shares"] (sp1 K [.ro ((dl (dl dI)) t), .ro ((dl (dl dI)) s)] (.ret (.fz (.int (goesTo t s))))) := by
  have n1 := g.n1; have n8 := g.n8; have fp := List.length_pos_iff.mpr (free_ne g.n1 hl)
  refine ok_def (m := 0) T.F_goes_to sc_goes_to rfl rfl fun cdv0 A0 out0 s0 G0 H0 E0 hr xo hp hx => ?_
  exact ss_retV (dv_ix (DO.dat (do_call (ok_unenvied T _ _ (by /-goes_to.4-/ exact Nat.le_of_lt (pairs_len g)) (by /-goes_to.5-/ rw [rgI_len]; omega)) (hr.mono (by decide)) T.g_unenvied T.F_unenvied.kp T.b_unenvied (by exact rfl) (da_ro (DO.dat (do_call (ok_pairs_of T _ _ (by /-goes_to.1-/ exact g) (by /-goes_to.2-/ exact hs)) (hr.mono (by decide)) T.g_pairs_of T.F_pairs_of.kp T.b_pairs_of (by exact rfl) (da_ro (de_ro 0 rfl) (da_ro (de_ro 1 rfl) da_nil)))) (da_ro (DO.dat (do_listRgN xo (dv_len (f := (dl dI)) (de_ro 0 rfl) T.bt.len) (by /-goes_to.3-/ omega) T.bt.list T.bt.range)) da_nil)))) dv_int (by /-goes_to.6-/ exact ⟨by omega, by omega⟩)) (rfl)

theorem sc_put : FnScope ["table", "shares", "thing", "found"] ["table", "shares", "thing"] (defScope s_put) := ⟨rfl, rfl, rfl, by decide +kernel, rfl, by decide +kernel, by decide +kernel⟩
theorem ok_put {P : Program} {w : World} {K : Fg} {mg : Str → Option Value} {base : Heap} (T : Tx K mg) (t s : List (List Int)) (x : Int) {m : Nat} (g : GoodT t m) (hs : GoodS s t.length m) :
    FnOk P w K mg base (L2.CX P w) 5 T.a_put T.fd_put ["table", "shares", "thing"] (sp1 K [.ro ((dl (dl dI)) t), .ro ((dl (dl dI)) s), .v (.int x)] (.ret ((tl (tl tI)) (putS t s x)))) := by
  have n1 := g.n1; have n8 := g.n8; have m40 := g.m40; have gs9 := st_good hs; have sl9 := st_len hs.n; have gb := goes_spec g.n1 (stO_spec hs.n).2
  refine ok_def (m := 1) T.F_put sc_put rfl rfl fun cdv0 A0 out0 s0 G0 H0 E0 hr xo hp hx => ?_
  refine ss_z 3 xo.nd (de_ix1 (DO.fzv (do_call (ok_settled T _ _ (by /-put.1-/ exact g) (by /-put.2-/ exact hs)) (hr.mono (by decide)) T.g_settled T.F_settled.kp T.b_settled (by exact rfl) (da_ro (de_ro 0 rfl) (da_ro (de_ro 1 rfl) da_nil))))) ?_
  show SS _ _ [_, _, _, _] _ _
  exact ss_ret (do_call (ok_with_thing T _ _ _ (by /-put.6-/ rw [sl9]; exact ⟨by omega, gb.1.2⟩) (by /-put.7-/ omega) (by /-put.8-/ exact fun r hr => by have := gs9.row hr; omega)) (hr.mono (by decide)) T.g_with_thing T.F_with_thing.kp T.b_with_thing (by exact rfl) (da_ro (de_sh 3 rfl) (da_v (DO.vI (do_call (ok_goes_to T _ _ (by /-put.3-/ exact g) (by /-put.4-/ exact gs9) (by /-put.5-/ exact (stO_spec hs.n).2)) (hr.mono (by decide)) T.g_goes_to T.F_goes_to.kp T.b_goes_to (by exact rfl) (da_ro (de_ro 0 rfl) (da_ro (de_sh 3 rfl) da_nil)))) (da_v (dv_var 2 rfl) da_nil)))) (rfl)

theorem sc_need_aside : FnScope ["table", "shares", "thing", "share"] ["table", "shares", "thing"] (defScope s_need_aside) := ⟨rfl, rfl, rfl, by decide +kernel, rfl, by decide +kernel, by decide +kernel⟩
theorem ok_need_aside {P : Program} {w : World} {K : Fg} {mg : Str → Option Value} {base : Heap} (T : Tx K mg) (t s : List (List Int)) (x : Int) {m : Nat} (g : GoodT t m) (hs : GoodS s t.length m) (hx9 : 0 ≤ x ∧ x < (m : Int)) (hf : x ∉ s.flatten) :
    FnOk P w K mg base (L2.CX P w) 6 T.a_need_aside T.fd_need_aside ["table", "shares", "thing"] (sp1 K [.ro ((dl (dl dI)) t), .ro ((dl (dl dI)) s), .v (.int x)] (.ret (.fz .none))) := by
  have n1 := g.n1; have n8 := g.n8; have hn := hs.n
  refine ok_def (m := 1) T.F_need_aside sc_need_aside rfl rfl fun cdv0 A0 out0 s0 G0 H0 E0 hr xo hp hx => ?_
  refine ss_expr (do_call (ok_need_shares_y T _ _ (by /-need_aside.1-/ exact g) (by /-need_aside.2-/ exact hs)) (hr.mono (by decide)) T.g_need_shares T.F_need_shares.kp T.b_need_shares (by exact rfl) (da_ro (de_ro 0 rfl) (da_ro (de_ro 1 rfl) da_nil))) ?_
  show SS _ _ [_, _, _, _] _ _
  refine ss_ifL (DW.pt (dw_or (dt_not (dt_val (DO.vB (do_call (ok_is_among T _ _ _ ) (hr.mono (by decide)) T.g_is_among T.F_is_among.kp T.b_is_among (by exact rfl) (da_ro (DV.dat (dv_var 2 rfl)) (da_v dv_int (da_v (dv_sub (dv_len (f := dI) (de_ix (f := (dl dI)) (de_ro 0 rfl) dv_int (by /-need_aside.3-/ exact ⟨by omega, by omega⟩)) T.bt.len) dv_int) da_nil))))))) (fun h1 => (dw_or1 (dt_val (dv_any xo (DO.dat (do_lcM0 xo [("share", 3)] (g := (tF PyData.bool))  (ic_c (f := (dl dI)) (fun a => .ro ((dl dI) a)) (de_ro 1 rfl) (fun _ => .ro)) (blkOk_by (N := ["table", "shares", "thing", "share"]) (sc := defScope s_need_aside) (by decide +kernel)) (fun _ _ _ _ _ => pg_name (i := 3) sc_need_aside.nd rfl (Or.inl rfl)) (fun a _ => tgw_name _ 3 _) (by simp) (fun Γ' hK a ha s' H' C' cl' fp' xo => (DV.oB (dv_in xo.hu (dv_var 2 rfl) (de_ro 3 rfl)))) (by /-need_aside.4-/ omega))) T.bt.any)))))) (fun h2 => by exact absurd h2 (by rw [g.m0]; exact aside_y hx9 hf)) (fun h2 => ?_)
  show SS _ _ [_, _, _, _] _ _
  exact ss_nil (rfl)

theorem sc_steps : FnScope ["table", "shares", "thing", "rings", "found", "told", "heirs"] ["table", "shares", "thing"] (defScope s_steps) := ⟨rfl, rfl, rfl, by decide +kernel, rfl, by decide +kernel, by decide +kernel⟩
theorem ok_steps {P : Program} {w : World} {K : Fg} {mg : Str → Option Value} {base : Heap} (T : Tx K mg) (t s : List (List Int)) (x : Int) {m : Nat} (g : GoodT t m) (hs : GoodS s t.length m) (hx9 : 0 ≤ x ∧ x < (m : Int)) (hf : x ∉ s.flatten) :
    FnOk P w K mg base (L2.CX P w) 7 T.a_steps T.fd_steps ["table", "shares", "thing"] (sp1 K [.ro ((dl (dl dI)) t), .ro ((dl (dl dI)) s), .v (.int x)] (.ret ((tl (tF (id : D → D))) (tellS t s x)))) := by
  have n8 := g.n8; have gs9 := st_good hs; have sl9 := st_len hs.n; have rl9 := (stO_spec hs.n).1.rl; have pl := pairs_len g (s := s)
  refine ok_def (m := 4) T.F_steps sc_steps rfl rfl fun cdv0 A0 out0 s0 G0 H0 E0 hr xo hp hx => ?_
  refine ss_expr (do_call (ok_need_aside T _ _ _ (by /-steps.1-/ exact g) (by /-steps.2-/ exact hs) (by /-steps.3-/ exact hx9) (by /-steps.4-/ exact hf)) (hr.mono (by decide)) T.g_need_aside T.F_need_aside.kp T.b_need_aside (by exact rfl) (da_ro (de_ro 0 rfl) (da_ro (de_ro 1 rfl) (da_v (dv_var 2 rfl) da_nil)))) ?_
  show SS _ _ [_, _, _, _, _, _, _] _ _
  refine ss_unp2 (f := (dl (dl dI))) (f' := (dl (dl dI))) xo 3 4 (DO.fzv (do_call (ok_settled T _ _ (by /-steps.5-/ exact g) (by /-steps.6-/ exact hs)) (hr.mono (by decide)) T.g_settled T.F_settled.kp T.b_settled (by exact rfl) (da_ro (de_ro 0 rfl) (da_ro (de_ro 1 rfl) da_nil)))) ?_
  show SS _ _ [_, _, _, _, _, _, _] _ _
  refine ss_lcM0 5 xo [("heirs", 6)] (g := (tF (id : D → D)))  (ic_z (f := (dl dI)) (fun a => .sh ((dl dI) a)) (de_sh 3 rfl) (fun _ => .sh)) (blkOk_by (N := ["table", "shares", "thing", "rings", "found", "told", "heirs"]) (sc := defScope s_steps) (by decide +kernel)) (fun _ _ _ _ _ => pg_name (i := 6) sc_steps.nd rfl (Or.inl rfl)) (fun a _ => tgw_name _ 6 _) (by simp) (fun Γ' hK a ha s' H' C' cl' fp' xo => (DE.oF (f := (id : D → D)) (de_tup (da_v dv_str (da_sh (de_tupleZ (de_sh 6 rfl) T.bt.tuple) da_nil))))) (by /-steps.7-/ omega) ?_
  refine ss_frzT 5 (g := (tl (tF (id : D → D)))) rfl ?_
  show SS _ _ [_, _, _, _, _, _, _] _ _
  exact ss_ret (do_cat (f := (id : D → D)) (de_sh 5 rfl) (DO.dat (DO.eq (t' := tl (tF (id : D → D)) [_]) (do_lst (da_sh (de_tup (da_v dv_str (da_v (dv_var 2 rfl) (da_v (DO.vI (do_call (ok_goes_to T _ _ (by /-steps.8-/ exact g) (by /-steps.9-/ exact gs9) (by /-steps.10-/ exact (stO_spec hs.n).2)) (hr.mono (by decide)) T.g_goes_to T.F_goes_to.kp T.b_goes_to (by exact rfl) (da_ro (de_ro 0 rfl) (da_ro (de_sh 4 rfl) da_nil)))) da_nil)))) da_nil)) rfl)) (by /-steps.11-/ first | omega | (simp; omega))) (rfl)

theorem sc_awarded : FnScope ["table", "shares", "thing"] ["table", "shares", "thing"] (defScope s_awarded) := ⟨rfl, rfl, rfl, by decide +kernel, rfl, by decide +kernel, by decide +kernel⟩
theorem ok_awarded {P : Program} {w : World} {K : Fg} {mg : Str → Option Value} {base : Heap} (T : Tx K mg) (t s : List (List Int)) (x : Int) {m : Nat} (g : GoodT t m) (hs : GoodS s t.length m) (hx9 : 0 ≤ x ∧ x < (m : Int)) (hf : x ∉ s.flatten) :
    FnOk P w K mg base (L2.CX P w) 7 T.a_awarded T.fd_awarded ["table", "shares", "thing"] (sp1 K [.ro ((dl (dl dI)) t), .ro ((dl (dl dI)) s), .v (.int x)] (.ret ((tl (tl tI)) (putS t s x)))) := by
  refine ok_def (m := 0) T.F_awarded sc_awarded rfl rfl fun cdv0 A0 out0 s0 G0 H0 E0 hr xo hp hx => ?_
  refine ss_expr (do_call (ok_need_aside T _ _ _ (by /-awarded.1-/ exact g) (by /-awarded.2-/ exact hs) (by /-awarded.3-/ exact hx9) (by /-awarded.4-/ exact hf)) (hr.mono (by decide)) T.g_need_aside T.F_need_aside.kp T.b_need_aside (by exact rfl) (da_ro (de_ro 0 rfl) (da_ro (de_ro 1 rfl) (da_v (dv_var 2 rfl) da_nil)))) ?_
  show SS _ _ [_, _, _] _ _
  exact ss_ret (do_call (ok_put T _ _ _ (by /-awarded.5-/ exact g) (by /-awarded.6-/ exact hs)) (hr.mono (by decide)) T.g_put T.F_put.kp T.b_put (by exact rfl) (da_ro (de_ro 0 rfl) (da_ro (de_ro 1 rfl) (da_v (dv_var 2 rfl) da_nil)))) (rfl)

theorem sc_dealt_all : FnScope ["table", "shares", "thing", "row"] ["table"] (defScope s_dealt_all) := ⟨rfl, rfl, rfl, by decide +kernel, rfl, by decide +kernel, by decide +kernel⟩
theorem ok_dealt_all {P : Program} {w : World} {K : Fg} {mg : Str → Option Value} {base : Heap} (T : Tx K mg) (t : List (List Int)) {m : Nat} (g : GoodT t m) :
    FnOk P w K mg base (L2.CX P w) 6 T.a_dealt_all T.fd_dealt_all ["table"] (sp1 K [.ro ((dl (dl dI)) t)] (.ret ((tl (tl tI)) (dlS t m)))) := by
  have n1 := g.n1; have n8 := g.n8; have m40 := g.m40
  refine ok_def (m := 3) T.F_dealt_all sc_dealt_all rfl rfl fun cdv0 A0 out0 s0 G0 H0 E0 hr xo hp hx => ?_
  refine ss_lcM0 1 xo [("row", 3)] (g := (tl tI))  (ic_c (f := (dl dI)) (fun a => .ro ((dl dI) a)) (de_ro 0 rfl) (fun _ => .ro)) (blkOk_by (N := ["table", "shares", "thing", "row"]) (sc := defScope s_dealt_all) (by decide +kernel)) (fun _ _ _ _ _ => pg_name (i := 3) sc_dealt_all.nd rfl (Or.inl rfl)) (fun a _ => tgw_name _ 3 _) (by simp) (fun Γ' hK a ha s' H' C' cl' fp' xo => (do_nil tI)) (by /-dealt_all.1-/ omega) ?_
  show SS _ _ [_, _, _, _] _ _
  refine ss_for1 xo hp 2 (di_rangeN (dv_len (f := dI) (de_ix (f := (dl dI)) (de_ro 0 rfl) dv_int (by /-dealt_all.2-/ exact ⟨by omega, by omega⟩)) T.bt.len) (by /-dealt_all.3-/ rw [g.m0]; omega) T.bt.range) (fun i ρ => ((ρ).set 1 (.ow ((tl (tl tI)) (dlS t i)))).set 2 .un) (fun i => True) (.same (Wk.eq (by exact congrArg (fun x => Sl.ow (tl (tl tI) x)) (by unfold dlS; rw [List.map_const', List.map_const', List.length_range])) (.un (.same (.nil))))) (by first | trivial | simp) (fun i hi hI1 => ?_) (fun hI1 => ?_)
  ·
    show SS _ _ [_, _, _, _] _ _
    have him : i < m := by rw [g.m0] at hi; exact hi
    refine ss_o 1 xo.nd (do_call (ok_put T _ _ _ (by /-dealt_all.4-/ exact g) (by /-dealt_all.5-/ exact dl_good g i (by omega))) (hr.mono (by decide)) T.g_put T.F_put.kp T.b_put (by exact rfl) (da_ro (de_ro 0 rfl) (da_ro (de_owT (g := (tl (tl tI))) 1 rfl) (da_v (dv_var 2 rfl) da_nil)))) ?_
    show SS _ _ [_, _, _, _] _ _
    exact ss_nil ⟨.same (Wk.eq (by rfl) (.un (.same (.nil)))), by first | trivial | simp⟩
  show SS _ _ [_, _, _, _] _ _
  exact ss_retOw 1 rfl (by rw [g.m0])

theorem sc_dealt : FnScope ["table"] ["table"] (defScope s_dealt) := ⟨rfl, rfl, rfl, by decide +kernel, rfl, by decide +kernel, by decide +kernel⟩
theorem ok_dealt {P : Program} {w : World} {K : Fg} {mg : Str → Option Value} {base : Heap} (T : Tx K mg) (t : List (List Int)) {m : Nat} (g : GoodT t m) :
    FnOk P w K mg base (L2.CX P w) 7 T.a_dealt T.fd_dealt ["table"] (sp1 K [.ro ((dl (dl dI)) t)] (.ret ((tl (tl tI)) (dlS t m)))) := by
  refine ok_def (m := 0) T.F_dealt sc_dealt rfl rfl fun cdv0 A0 out0 s0 G0 H0 E0 hr xo hp hx => ?_
  refine ss_expr (do_call (ok_need_table_y T _ (by /-dealt.1-/ exact g)) (hr.mono (by decide)) T.g_need_table T.F_need_table.kp T.b_need_table (by exact rfl) (da_ro (de_ro 0 rfl) da_nil)) ?_
  show SS _ _ [_] _ _
  exact ss_ret (do_call (ok_dealt_all T _ (by /-dealt.2-/ exact g)) (hr.mono (by decide)) T.g_dealt_all T.F_dealt_all.kp T.b_dealt_all (by exact rfl) (da_ro (de_ro 0 rfl) da_nil)) (rfl)

theorem sc_Estate_init : FnScope ["self", "heirs", "heir"] ["self", "heirs"] (defScope s_Estate_init) := ⟨rfl, rfl, rfl, by decide +kernel, rfl, by decide +kernel, by decide +kernel⟩
theorem ok_Estate_init {P : Program} {w : World} {K : Fg} {mg : Str → Option Value} {base : Heap} (T : Tx K mg) (a0 : Addr) (n : Nat) (h19 : 1 ≤ n) (h89 : n ≤ 8) :
    FnOk P w K mg base (L2.CX P w) 2 T.a_Estate_init T.fd_Estate_init ["self", "heirs"] (spM K [.ob a0 T.c_Estate ([]), .v (.int ((n : Nat) : Int))] [.ob a0 T.c_Estate (esF (emp n) (emp n)), .un] .none) := by
  refine ok_defM (m := 1) T.F_Estate_init sc_Estate_init rfl rfl (.ob (.un (.nil))) fun cdv0 A0 out0 s0 I0 G0 H0 E0 hr xo hp => ?_
  show SS _ _ [_, _, _] _ _
  refine ss_ifL (dt_not (dt_val (DO.vB (do_call (ok_is_among T _ _ _ ) (hr.mono (by decide)) T.g_is_among T.F_is_among.kp T.b_is_among (by exact rfl) (da_ro (DV.dat (dv_var 1 rfl)) (da_v dv_int (da_v (dv_glob rfl T.g_MOST_HEIRS ⟨_, rfl⟩) da_nil))))))) (fun h1 => by exact absurd h1 (by show ¬ (!isAmong (.int _) _ _) = true; rw [isAmong_int]; simp; omega)) (fun h1 => ?_)
  show SS _ _ [_, _, _] _ _
  refine ss_fld 0 rfl T.cl_Estate T.nf_Estate_rows (DO.dat (do_lcM0 xo [("heir", 2)] (g := (tl tI))  (ic_rangeN (dv_var 1 rfl) (by /-Estate_init.1-/ omega) T.bt.range) (blkOk_by (N := ["self", "heirs", "heir"]) (sc := defScope s_Estate_init) (by decide +kernel)) (fun _ _ _ _ _ => pg_name (i := 2) sc_Estate_init.nd rfl (Or.inl rfl)) (fun a _ => tgw_name _ 2 _) (by simp) (fun Γ' hK a ha s' H' C' cl' fp' xo => (do_nil tI)) (by /-Estate_init.2-/ first | omega | (simp; omega)))) (by first | decide | (show 2 < 1000; decide) | (show 1 < 1000; decide)) ?_
  show SS _ _ [_, _, _] _ _
  refine ss_fld 0 rfl T.cl_Estate T.nf_Estate_held (DO.dat (do_lcM0 xo [("heir", 2)] (g := (tl tI))  (ic_rangeN (dv_var 1 rfl) (by /-Estate_init.3-/ omega) T.bt.range) (blkOk_by (N := ["self", "heirs", "heir"]) (sc := defScope s_Estate_init) (by decide +kernel)) (fun _ _ _ _ _ => pg_name (i := 2) sc_Estate_init.nd rfl (Or.inl rfl)) (fun a _ => tgw_name _ 2 _) (by simp) (fun Γ' hK a ha s' H' C' cl' fp' xo => (do_nil tI)) (by /-Estate_init.4-/ first | omega | (simp; omega)))) (by first | decide | (show 2 < 1000; decide) | (show 1 < 1000; decide)) ?_
  show SS _ _ [_, _, _] _ _
  exact ss_nil (⟨rfl, Wk.eq (by exact congrArg (Sl.ob a0 T.c_Estate) (es_new _ _)) (.un (.un (.nil)))⟩)

theorem sc_Estate_come : FnScope ["self", "worths", "thing", "heir", "row"] ["self", "worths"] (defScope s_Estate_come) := ⟨rfl, rfl, rfl, by decide +kernel, rfl, by decide +kernel, by decide +kernel⟩
theorem ok_Estate_come {P : Program} {w : World} {K : Fg} {mg : Str → Option Value} {base : Heap} (T : Tx K mg) (a0 : Addr) (t s : List (List Int)) (ws : List Int) {m : Nat} (es9 : EsI t s m) (hm9 : m < 40) (hl9 : ws.length = t.length) (hw9 : ∀ x ∈ ws, 0 ≤ x ∧ x ≤ 1000000) :
    FnOk P w K mg base (L2.CX P w) 6 T.a_Estate_come T.fd_Estate_come ["self", "worths"] (spM K [.ob a0 T.c_Estate (esF t s), .ro ((dl dI) ws)] [.ob a0 T.c_Estate (esF (addC t ws) (putS (addC t ws) s (m : Int))), .un] (.int (((m : Nat) : Int)))) := by
  have n1 := es9.gt.n1; have n8 := es9.gt.n8; have gc9 := addC_good es9.gt hm9 hl9 hw9; have sc9 : GoodS s (addC t ws).length (m + 1) := by rw [addC_len]; exact es9.gs.wider
  refine ok_defM (m := 3) T.F_Estate_come sc_Estate_come rfl rfl (.ob (.un (.nil))) fun cdv0 A0 out0 s0 I0 G0 H0 E0 hr xo hp => ?_
  show SS _ _ [_, _, _, _, _] _ _
  refine ss_ifL (dt_not (dt_val (DO.vB (do_call (ok_is_row T _ _ (by /-Estate_come.1-/ show (List.map _ _).length ≤ _; rw [List.length_map]; omega)) (hr.mono (by decide)) T.g_is_row T.F_is_row.kp T.b_is_row (by exact rfl) (da_ro (de_ro 1 rfl) (da_v (dv_len (f := (dl dI)) (de_obf 0 rfl T.cl_Estate T.nf_Estate_rows (lk_rows _ _)) T.bt.len) da_nil)))))) (fun h1 => by rw [isRow_ok (by omega) hw9] at h1; simp at h1) (fun h1 => ?_)
  show SS _ _ [_, _, _, _, _] _ _
  refine ss_v 2 xo.nd (DV.eq (y := .int ((m : Nat) : Int)) (dv_len (f := dI) (de_ix (f := (dl dI)) (de_obf 0 rfl T.cl_Estate T.nf_Estate_rows (lk_rows _ _)) dv_int (by /-Estate_come.2-/ first | exact ⟨by omega, by omega⟩ | (have := List.mem_range.mp ha; exact ⟨by omega, by omega⟩))) T.bt.len) (by /-Estate_come.3-/ exact congrArg (fun z : Nat => V.int (z : Int)) es9.gt.m0)) ?_
  show SS _ _ [_, _, _, _, _] _ _
  refine ss_ifL (dt_eq (dv_var 2 rfl) (dv_glob rfl T.g_MOST_THINGS ⟨_, rfl⟩)) (fun h2 => by have q9 := of_decide_eq_true h2; omega) (fun h2 => ?_)
  show SS _ _ [_, _, _, _, _] _ _
  refine ss_fld 0 rfl T.cl_Estate T.nf_Estate_rows (DO.dat (do_lcM0 xo [("heir", 3), ("row", 4)] (g := (tl tI))  (ic_enum (f := (dl dI)) (de_obf 0 rfl T.cl_Estate T.nf_Estate_rows (lk_rows _ _)) T.bt.enumerate) (blkOk_by (N := ["self", "worths", "thing", "heir", "row"]) (sc := defScope s_Estate_come) (by decide +kernel)) (fun _ _ _ _ _ => pg_tup rfl (pgs_cons (pg_name (i := 3) sc_Estate_come.nd rfl (Or.inl rfl)) (pgs_cons (pg_name (i := 4) sc_Estate_come.nd rfl (Or.inl rfl)) pgs_nil))) (fun a _ => tgw_pair _ 3 4 (.v rfl) .sh) (by simp) (fun Γ' hK a ha s' H' C' cl' fp' xo => (do_catI (de_sh 4 rfl) (DO.dat (DO.eq (t' := tl tI [_]) (do_lst (da_v (dv_ix (de_ro 1 rfl) (dv_var 3 rfl) (by /-Estate_come.4-/ first | exact ⟨by omega, by omega⟩ | (have := List.mem_range.mp ha; exact ⟨by omega, by omega⟩))) da_nil)) rfl)) (by /-Estate_come.5-/ have := es9.gt.len _ (getD_memA (List.mem_range.mp ha)); show _ + 1 ≤ _; omega))) (by /-Estate_come.6-/ rw [List.length_range]; omega))) (by first | decide | (show 2 < 1000; decide) | (show 1 < 1000; decide)) ?_
  show SS _ _ [_, _, _, _, _] _ _
  refine ss_re (fun ρ => (ρ).set 0 (.ob a0 T.c_Estate (esF (addC t ws) s))) (Wk.eq (by exact congrArg (Sl.ob a0 T.c_Estate) (es_rows _ _ _)) (.same (.same (.same (.same (.nil)))))) ?_
  show SS _ _ [_, _, _, _, _] _ _
  refine ss_fld 0 rfl T.cl_Estate T.nf_Estate_held (DO.dat (do_call (ok_put T _ _ _ (by /-Estate_come.7-/ exact gc9) (by /-Estate_come.8-/ exact sc9)) (hr.mono (by decide)) T.g_put T.F_put.kp T.b_put (by exact rfl) (da_ro (de_obf 0 rfl T.cl_Estate T.nf_Estate_rows (lk_rows _ _)) (da_ro (de_obf 0 rfl T.cl_Estate T.nf_Estate_held (lk_held _ _)) (da_v (dv_var 2 rfl) da_nil))))) (by first | decide | (show 2 < 1000; decide) | (show 1 < 1000; decide)) ?_
  show SS _ _ [_, _, _, _, _] _ _
  exact ss_retV (dv_var 2 rfl) (⟨rfl, Wk.eq (by exact congrArg (Sl.ob a0 T.c_Estate) (es_held _ _ _)) (.un (.un (.un (.un (.nil)))))⟩)

theorem sc_Estate_go : FnScope ["self", "heir", "things", "thing"] ["self", "heir"] (defScope s_Estate_go) := ⟨rfl, rfl, rfl, by decide +kernel, rfl, by decide +kernel, by decide +kernel⟩
theorem ok_Estate_go {P : Program} {w : World} {K : Fg} {mg : Str → Option Value} {base : Heap} (T : Tx K mg) (a0 : Addr) (t s : List (List Int)) (h : Int) {m : Nat} (es9 : EsI t s m) (h29 : 2 ≤ t.length) (hh9 : 0 ≤ h ∧ h < (t.length : Int)) :
    FnOk P w K mg base (L2.CX P w) 6 T.a_Estate_go T.fd_Estate_go ["self", "heir"] (spM K [.ob a0 T.c_Estate (esF t s), .v (.int h)] [.ob a0 T.c_Estate (esF (cutH t h) (goS t s h)), .un] .none) := by
  have n8 := es9.gt.n8; have sn := es9.gs.n; obtain ⟨gc9, sc9, nd9⟩ := cut_good es9.gt es9.gs h29 hh9; have pa9 := putA_good gc9 sc9 (go_things es9.gs hh9) nd9
  refine ok_defM (m := 2) T.F_Estate_go sc_Estate_go rfl rfl (.ob (.un (.nil))) fun cdv0 A0 out0 s0 I0 G0 H0 E0 hr xo hp => ?_
  show SS _ _ [_, _, _, _] _ _
  refine ss_ifL (DW.pt (dw_or (dt_not (dt_val (DO.vB (do_call (ok_is_among T _ _ _ ) (hr.mono (by decide)) T.g_is_among T.F_is_among.kp T.b_is_among (by exact rfl) (da_ro (DV.dat (dv_var 1 rfl)) (da_v dv_int (da_v (dv_sub (dv_len (f := (dl dI)) (de_obf 0 rfl T.cl_Estate T.nf_Estate_rows (lk_rows _ _)) T.bt.len) dv_int) da_nil))))))) (fun h1 => (dw_or1 (dt_eq (dv_len (f := (dl dI)) (de_obf 0 rfl T.cl_Estate T.nf_Estate_rows (lk_rows _ _)) T.bt.len) dv_int))))) (fun h2 => by exact absurd h2 (by show ¬ (!isAmong (.int _) _ _ || _) = true; rw [isAmong_int]; simp; omega)) (fun h2 => ?_)
  show SS _ _ [_, _, _, _] _ _
  refine ss_z 2 xo.nd (de_ix (f := (dl dI)) (de_obf 0 rfl T.cl_Estate T.nf_Estate_held (lk_held _ _)) (dv_var 1 rfl) (by /-Estate_go.1-/ exact ⟨by omega, by omega⟩)) ?_
  show SS _ _ [_, _, _, _] _ _
  refine ss_fld 0 rfl T.cl_Estate T.nf_Estate_rows (DO.dat (do_cat (f := (dl dI)) (DO.dat (do_sl (f := (dl dI)) (de_obf 0 rfl T.cl_Estate T.nf_Estate_rows (lk_rows _ _)) ox_none (ox_some (dv_var 1 rfl)))) (DO.dat (do_sl (f := (dl dI)) (de_obf 0 rfl T.cl_Estate T.nf_Estate_rows (lk_rows _ _)) (ox_some (dv_add (dv_var 1 rfl) dv_int)) ox_none)) (by /-Estate_go.2-/ first | (rw [← List.length_append]; show (cutH t h).length ≤ _; rw [cut_len rfl hh9]; omega) | (rw [← List.length_append]; show (cutH s h).length ≤ _; rw [cut_len sn hh9]; omega)))) (by first | decide | (show 2 < 1000; decide) | (show 1 < 1000; decide)) ?_
  show SS _ _ [_, _, _, _] _ _
  refine ss_re (fun ρ => (ρ).set 0 (.ob a0 T.c_Estate (esF (cutH t h) s))) (Wk.eq (by exact congrArg (Sl.ob a0 T.c_Estate) (es_rows _ _ _)) (.same (.same (.same (.nil))))) ?_
  show SS _ _ [_, _, _, _] _ _
  refine ss_fld 0 rfl T.cl_Estate T.nf_Estate_held (DO.dat (do_cat (f := (dl dI)) (DO.dat (do_sl (f := (dl dI)) (de_obf 0 rfl T.cl_Estate T.nf_Estate_held (lk_held _ _)) ox_none (ox_some (dv_var 1 rfl)))) (DO.dat (do_sl (f := (dl dI)) (de_obf 0 rfl T.cl_Estate T.nf_Estate_held (lk_held _ _)) (ox_some (dv_add (dv_var 1 rfl) dv_int)) ox_none)) (by /-Estate_go.3-/ first | (rw [← List.length_append]; show (cutH t h).length ≤ _; rw [cut_len rfl hh9]; omega) | (rw [← List.length_append]; show (cutH s h).length ≤ _; rw [cut_len sn hh9]; omega)))) (by first | decide | (show 2 < 1000; decide) | (show 1 < 1000; decide)) ?_
  show SS _ _ [_, _, _, _] _ _
  refine ss_re (fun ρ => (ρ).set 0 (.ob a0 T.c_Estate (esF (cutH t h) (cutH s h)))) (Wk.eq (by exact congrArg (Sl.ob a0 T.c_Estate) (es_held _ _ _)) (.same (.same (.same (.nil))))) ?_
  show SS _ _ [_, _, _, _] _ _
  refine ss_for1 xo hp 3 (di_zI (de_sh 2 rfl)) (fun i ρ => ((ρ).set 0 (.ob a0 T.c_Estate (esF (cutH t h) (putA (cutH t h) (cutH s h) (pyAt s h) i)))).set 3 .un) (fun i => True) (Wk.eq (by rfl) (.same (.same (.un (.nil))))) (by first | trivial | simp) (fun i hi hI1 => ?_) (fun hI1 => ?_)
  ·
    show SS _ _ [_, _, _, _] _ _
    have pi9 := (pa9 i (by omega)).1
    refine ss_fld 0 rfl T.cl_Estate T.nf_Estate_held (DO.dat (do_call (ok_put T _ _ _ (by /-Estate_go.4-/ exact gc9) (by /-Estate_go.5-/ exact pi9)) (hr.mono (by decide)) T.g_put T.F_put.kp T.b_put (by exact rfl) (da_ro (de_obf 0 rfl T.cl_Estate T.nf_Estate_rows (lk_rows _ _)) (da_ro (de_obf 0 rfl T.cl_Estate T.nf_Estate_held (lk_held _ _)) (da_v (dv_var 3 rfl) da_nil))))) (by first | decide | (show 2 < 1000; decide) | (show 1 < 1000; decide)) ?_
    show SS _ _ [_, _, _, _] _ _
    exact ss_nil ⟨Wk.eq (by exact congrArg (Sl.ob a0 T.c_Estate) ((es_held _ _ _).trans (by rw [putA_succ _ _ hi]))) (.same (.same (.un (.nil)))), by first | trivial | simp⟩
  show SS _ _ [_, _, _, _] _ _
  exact ss_nil (⟨rfl, Wk.eq (by rfl) (.un (.un (.un (.nil))))⟩)

theorem sc_Estate_join : FnScope ["self", "worths"] ["self", "worths"] (defScope s_Estate_join) := ⟨rfl, rfl, rfl, by decide +kernel, rfl, by decide +kernel, by decide +kernel⟩
theorem ok_Estate_join {P : Program} {w : World} {K : Fg} {mg : Str → Option Value} {base : Heap} (T : Tx K mg) (a0 : Addr) (t s : List (List Int)) (ws : List Int) {m : Nat} (es9 : EsI t s m) (h89 : t.length < 8) (hl9 : ws.length = m) (hw9 : ∀ x ∈ ws, 0 ≤ x ∧ x ≤ 1000000) :
    FnOk P w K mg base (L2.CX P w) 7 T.a_Estate_join T.fd_Estate_join ["self", "worths"] (spM K [.ob a0 T.c_Estate (esF t s), .ro ((dl dI) ws)] [.ob a0 T.c_Estate (esF (t ++ [ws]) (dlS (t ++ [ws]) m)), .un] (.int (((t.length : Nat) : Int)))) := by
  have n1 := es9.gt.n1; have m0 := es9.gt.m0; have m40 := es9.gt.m40; have gj9 := join_good es9.gt h89 hl9 hw9
  refine ok_defM (m := 0) T.F_Estate_join sc_Estate_join rfl rfl (.ob (.un (.nil))) fun cdv0 A0 out0 s0 I0 G0 H0 E0 hr xo hp => ?_
  show SS _ _ [_, _] _ _
  refine ss_ifL (dt_not (dt_val (DO.vB (do_call (ok_is_row T _ _ (by /-Estate_join.2-/ show (List.map _ _).length ≤ _; rw [List.length_map]; omega)) (hr.mono (by decide)) T.g_is_row T.F_is_row.kp T.b_is_row (by exact rfl) (da_ro (de_ro 1 rfl) (da_v (dv_len (f := dI) (de_ix (f := (dl dI)) (de_obf 0 rfl T.cl_Estate T.nf_Estate_rows (lk_rows _ _)) dv_int (by /-Estate_join.1-/ exact ⟨by omega, by omega⟩)) T.bt.len) da_nil)))))) (fun h1 => by rw [isRow_ok (by omega) hw9] at h1; simp at h1) (fun h1 => ?_)
  show SS _ _ [_, _] _ _
  refine ss_ifL (dt_eq (dv_len (f := (dl dI)) (de_obf 0 rfl T.cl_Estate T.nf_Estate_rows (lk_rows _ _)) T.bt.len) (dv_glob rfl T.g_MOST_HEIRS ⟨_, rfl⟩)) (fun h2 => by have q9 := of_decide_eq_true h2; omega) (fun h2 => ?_)
  show SS _ _ [_, _] _ _
  refine ss_fld 0 rfl T.cl_Estate T.nf_Estate_rows (DO.dat (do_cat (f := (dl dI)) (de_obf 0 rfl T.cl_Estate T.nf_Estate_rows (lk_rows _ _)) (DO.dat (DO.eq (t' := tl (tl tI) [_]) (do_lst (da_ow (do_listI (de_ro 1 rfl) T.bt.list) da_nil)) rfl)) (by /-Estate_join.3-/ simp; omega))) (by first | decide | (show 2 < 1000; decide) | (show 1 < 1000; decide)) ?_
  show SS _ _ [_, _] _ _
  refine ss_re (fun ρ => (ρ).set 0 (.ob a0 T.c_Estate (esF (t ++ [ws]) s))) (Wk.eq (by exact congrArg (Sl.ob a0 T.c_Estate) (es_rows _ _ _)) (.same (.nil))) ?_
  show SS _ _ [_, _] _ _
  refine ss_fld 0 rfl T.cl_Estate T.nf_Estate_held (DO.dat (do_call (ok_dealt_all T _ (by /-Estate_join.4-/ exact gj9)) (hr.mono (by decide)) T.g_dealt_all T.F_dealt_all.kp T.b_dealt_all (by exact rfl) (da_ro (de_obf 0 rfl T.cl_Estate T.nf_Estate_rows (lk_rows _ _)) da_nil))) (by first | decide | (show 2 < 1000; decide) | (show 1 < 1000; decide)) ?_
  show SS _ _ [_, _] _ _
  exact ss_retV (dv_sub (dv_len (f := (dl dI)) (de_obf 0 rfl T.cl_Estate T.nf_Estate_rows (lk_rows _ _)) T.bt.len) dv_int) (⟨congrArg PyData.int (by rw [List.length_append, List.length_singleton]; omega), Wk.eq (by exact congrArg (Sl.ob a0 T.c_Estate) (es_held _ _ _)) (.un (.nil))⟩)

theorem sc_Estate_shares : FnScope ["self", "share"] ["self"] (defScope s_Estate_shares) := ⟨rfl, rfl, rfl, by decide +kernel, rfl, by decide +kernel, by decide +kernel⟩
theorem ok_Estate_shares {P : Program} {w : World} {K : Fg} {mg : Str → Option Value} {base : Heap} (T : Tx K mg) (t s : List (List Int)) (hz9 : s.length ≤ 4000) :
    FnOk P w K mg base (L2.CX P w) 1 T.a_Estate_shares T.fd_Estate_shares ["self"] (sp1 K [.rb T.c_Estate (esF t s)] (.ret ((tl (tl tI)) (s)))) := by
  refine ok_def (m := 1) T.F_Estate_shares sc_Estate_shares rfl rfl fun cdv0 A0 out0 s0 G0 H0 E0 hr xo hp hx => ?_
  exact ss_ret (do_lcM0 xo [("share", 1)] (g := (tl tI))  (ic_c (f := (dl dI)) (fun a => .ro ((dl dI) a)) (de_rbf 0 rfl T.cl_Estate T.nf_Estate_held (lk_held _ _)) (fun _ => .ro)) (blkOk_by (N := ["self", "share"]) (sc := defScope s_Estate_shares) (by decide +kernel)) (fun _ _ _ _ _ => pg_name (i := 1) sc_Estate_shares.nd rfl (Or.inl rfl)) (fun a _ => tgw_name _ 1 _) (by simp) (fun Γ' hK a ha s' H' C' cl' fp' xo => (do_listI (de_ro 1 rfl) T.bt.list)) (by /-Estate_shares.1-/ omega)) (by simp)

theorem sc_Estate_table : FnScope ["self", "row"] ["self"] (defScope s_Estate_table) := ⟨rfl, rfl, rfl, by decide +kernel, rfl, by decide +kernel, by decide +kernel⟩
theorem ok_Estate_table {P : Program} {w : World} {K : Fg} {mg : Str → Option Value} {base : Heap} (T : Tx K mg) (t s : List (List Int)) (hz9 : t.length ≤ 4000) :
    FnOk P w K mg base (L2.CX P w) 1 T.a_Estate_table T.fd_Estate_table ["self"] (sp1 K [.rb T.c_Estate (esF t s)] (.ret ((tl (tl tI)) (t)))) := by
  refine ok_def (m := 1) T.F_Estate_table sc_Estate_table rfl rfl fun cdv0 A0 out0 s0 G0 H0 E0 hr xo hp hx => ?_
  exact ss_ret (do_lcM0 xo [("row", 1)] (g := (tl tI))  (ic_c (f := (dl dI)) (fun a => .ro ((dl dI) a)) (de_rbf 0 rfl T.cl_Estate T.nf_Estate_rows (lk_rows _ _)) (fun _ => .ro)) (blkOk_by (N := ["self", "row"]) (sc := defScope s_Estate_table) (by decide +kernel)) (fun _ _ _ _ _ => pg_name (i := 1) sc_Estate_table.nd rfl (Or.inl rfl)) (fun a _ => tgw_name _ 1 _) (by simp) (fun Γ' hK a ha s' H' C' cl' fp' xo => (do_listI (de_ro 1 rfl) T.bt.list)) (by /-Estate_table.1-/ omega)) (by simp)

end Th

set_option Elab.async false
set_option linter.all false
set_option maxRecDepth 100000
set_option maxHeartbeats 2000000
namespace Th
open PySem L2 DL
theorem sc__law_at : FnScope ["_law_script", "_law_k"] ["_law_script", "_law_k"] (defScope s__law_at) := ⟨rfl, rfl, rfl, by decide +kernel, rfl, by decide +kernel, by decide +kernel⟩
theorem ok__law_at {P : Program} {w : World} {K : Fg} {mg : Str → Option Value} {base : Heap} (T : Tx K mg) (ns : List Int) (k : Int) (hk : 0 ≤ k) :
    FnOk P w K mg base (L2.CX P w) 1 T.a__law_at T.fd__law_at ["_law_script", "_law_k"] (sp1 K [.sc ns, .v (.int k)] (.ret (.fz (.int (lAt ns k))))) := by
  refine ok_def (m := 0) T.F__law_at sc__law_at rfl rfl fun cdv0 A0 out0 s0 G0 H0 E0 hr xo hp hx => ?_
  refine ss_ifL (dt_lt (dv_var 1 rfl) (dv_lenS rfl (ds_var 0 rfl) T.bt.len)) (fun h1 => ?_) (fun h1 => ?_)
  ·
    exact ss_retV (dv_ixS rfl (ds_var 0 rfl) (dv_var 1 rfl) (by /-_law_at.1-/ exact ⟨by omega, of_decide_eq_true h1⟩)) (by unfold lAt; rw [if_pos (of_decide_eq_true h1)]; rfl)
  show SS _ _ [_, _] _ _
  exact ss_retV dv_int (by unfold lAt; rw [if_neg (of_decide_eq_false h1)]; rfl)

theorem sc__law_mixed : FnScope ["_law_cell", "_law_k"] ["_law_cell", "_law_k"] (defScope s__law_mixed) := ⟨rfl, rfl, rfl, by decide +kernel, rfl, by decide +kernel, by decide +kernel⟩
theorem ok__law_mixed {P : Program} {w : World} {K : Fg} {mg : Str → Option Value} {base : Heap} (T : Tx K mg) (c k : Int)  :
    FnOk P w K mg base (L2.CX P w) 1 T.a__law_mixed T.fd__law_mixed ["_law_cell", "_law_k"] (sp1 K [.v (.int c), .v (.int k)] (.ret (.fz (.int (lMixed c k))))) := by
  refine ok_def (m := 0) T.F__law_mixed sc__law_mixed rfl rfl fun cdv0 A0 out0 s0 G0 H0 E0 hr xo hp hx => ?_
  exact ss_retV (dv_mod (dv_mul (dv_add (dv_add (dv_var 0 rfl) (dv_mul dv_int (dv_var 1 rfl) (.inl ⟨by decide, by decide⟩))) dv_int) dv_int (.inr ⟨by decide, by decide⟩)) dv_int (by decide)) (rfl)

theorem sc__law_sum : FnScope ["_law_row", "_law_things", "_law_found", "_law_thing"] ["_law_row", "_law_things"] (defScope s__law_sum) := ⟨rfl, rfl, rfl, by decide +kernel, rfl, by decide +kernel, by decide +kernel⟩
theorem ok__law_sum {P : Program} {w : World} {K : Fg} {mg : Str → Option Value} {base : Heap} (T : Tx K mg) (row things : List Int) (hb : ∀ t ∈ things, inR row.length t) :
    FnOk P w K mg base (L2.CX P w) 1 T.a__law_sum T.fd__law_sum ["_law_row", "_law_things"] (sp1 K [.ro ((dl dI) row), .ro ((dl dI) things)] (.ret (.fz (.int (summed row things))))) := by
  refine ok_def (m := 2) T.F__law_sum sc__law_sum rfl rfl fun cdv0 A0 out0 s0 G0 H0 E0 hr xo hp hx => ?_
  refine ss_v 2 xo.nd dv_int ?_
  show SS _ _ [_, _, _, _] _ _
  refine ss_for1 xo hp 3 (di_rI (de_ro 1 rfl)) (fun i ρ => ((ρ).set 2 (.v (.int (summed row (things.take i))))).set 3 .un) (fun i => True) (.same (.same (Wk.eq (by first | rfl | simp) (.un (.nil))))) (by first | trivial | simp) (fun i hi hI1 => ?_) (fun hI1 => ?_)
  ·
    show SS _ _ [_, _, _, _] _ _
    refine ss_v 2 xo.nd (dv_add (dv_var 2 rfl) (dv_ix (de_ro 0 rfl) (dv_var 3 rfl) (by /-_law_sum.1-/ exact hb _ (getD_mem hi)))) ?_
    show SS _ _ [_, _, _, _] _ _
    exact ss_nil ⟨.same (.same (Wk.eq (by rw [summed_take hi]) (.un (.nil)))), by first | trivial | simp⟩
  show SS _ _ [_, _, _, _] _ _
  exact ss_retV (dv_var 2 rfl) (by rw [List.take_length]; rfl)

theorem sc__law_copy : FnScope ["_law_rows", "_law_row"] ["_law_rows"] (defScope s__law_copy) := ⟨rfl, rfl, rfl, by decide +kernel, rfl, by decide +kernel, by decide +kernel⟩
theorem ok__law_copy {P : Program} {w : World} {K : Fg} {mg : Str → Option Value} {base : Heap} (T : Tx K mg) (rows : List (List Int)) (hz : rows.length ≤ 16000000) :
    FnOk P w K mg base (L2.CX P w) 1 T.a__law_copy T.fd__law_copy ["_law_rows"] (sp1 K [.ro ((dl (dl dI)) rows)] (.ret ((tl (tl tI)) (rows)))) := by
  refine ok_def (m := 1) T.F__law_copy sc__law_copy rfl rfl fun cdv0 A0 out0 s0 G0 H0 E0 hr xo hp hx => ?_
  exact ss_ret (do_lcM0 xo [("_law_row", 1)] (g := (tl tI))  (ic_c (f := (dl dI)) (fun a => .ro ((dl dI) a)) (de_ro 0 rfl) (fun _ => .ro)) (blkOk_by (N := ["_law_rows", "_law_row"]) (sc := defScope s__law_copy) (by decide +kernel)) (fun _ _ _ _ _ => pg_name (i := 1) sc__law_copy.nd rfl (Or.inl rfl)) (fun a _ => tgw_name _ 1 _) (by simp) (fun Γ' hK a ha s' H' C' cl' fp' xo => (do_listI (de_ro 1 rfl) T.bt.list)) (by /-_law_copy.1-/ first | assumption | omega | decide | (exact ⟨by omega, by omega⟩))) (by simp)

theorem sc__law_worth : FnScope ["_law_number"] ["_law_number"] (defScope s__law_worth) := ⟨rfl, rfl, rfl, by decide +kernel, rfl, by decide +kernel, by decide +kernel⟩
theorem ok__law_worth {P : Program} {w : World} {K : Fg} {mg : Str → Option Value} {base : Heap} (T : Tx K mg) (n : Int)  :
    FnOk P w K mg base (L2.CX P w) 1 T.a__law_worth T.fd__law_worth ["_law_number"] (sp1 K [.v (.int n)] (.ret (.fz (.int (lWo n))))) := by
  refine ok_def (m := 0) T.F__law_worth sc__law_worth rfl rfl fun cdv0 A0 out0 s0 G0 H0 E0 hr xo hp hx => ?_
  exact ss_retV (dv_ix (DO.dat (DO.eq (t' := tl tI [_, _, _, _]) (do_lst (da_v (dv_mod (dv_fdiv (dv_var 0 rfl) dv_int ⟨by decide, by decide⟩) dv_int (by decide)) (da_v (dv_sub dv_int (dv_mod (dv_fdiv (dv_var 0 rfl) dv_int ⟨by decide, by decide⟩) dv_int (by decide))) (da_v (dv_mod (dv_fdiv (dv_var 0 rfl) dv_int ⟨by decide, by decide⟩) dv_int (by decide)) (da_v (dv_mod (dv_fdiv (dv_var 0 rfl) dv_int ⟨by decide, by decide⟩) dv_int (by decide)) da_nil))))) rfl)) (dv_mod (dv_var 0 rfl) dv_int (by decide)) (by /-_law_worth.1-/ exact ⟨by simp; omega, by simp; omega⟩)) (rfl)

theorem sc__law_to : FnScope ["_law_row", "_law_held", "_law_sums", "_law_share"] ["_law_row", "_law_held"] (defScope s__law_to) := ⟨rfl, rfl, rfl, by decide +kernel, rfl, by decide +kernel, by decide +kernel⟩
theorem ok__law_to {P : Program} {w : World} {K : Fg} {mg : Str → Option Value} {base : Heap} (T : Tx K mg) (r : List Int) (s : List (List Int)) (h09 : 0 < s.length) (hz9 : s.length ≤ 4000) (hb9 : ∀ q ∈ s, ∀ x ∈ q, inR r.length x) :
    FnOk P w K mg base (L2.CX P w) 2 T.a__law_to T.fd__law_to ["_law_row", "_law_held"] (sp1 K [.ro ((dl dI) r), .ro ((dl (dl dI)) s)] (.ret (.fz (.int (toL r s))))) := by
  have hp9 : 0 < (sumsL r s).length := by rw [sums_len]; exact h09
  refine ok_def (m := 2) T.F__law_to sc__law_to rfl rfl fun cdv0 A0 out0 s0 G0 H0 E0 hr xo hp hx => ?_
  refine ss_lcM0 2 xo [("_law_share", 3)] (g := tI)  (ic_c (f := (dl dI)) (fun a => .ro ((dl dI) a)) (de_ro 1 rfl) (fun _ => .ro)) (blkOk_by (N := ["_law_row", "_law_held", "_law_sums", "_law_share"]) (sc := defScope s__law_to) (by decide +kernel)) (fun _ _ _ _ _ => pg_name (i := 3) sc__law_to.nd rfl (Or.inl rfl)) (fun a _ => tgw_name _ 3 _) (by simp) (fun Γ' hK a ha s' H' C' cl' fp' xo => (DV.oI (DO.vI (do_call (ok__law_sum T _ _ (by /-_law_to.1-/ exact hb9 _ ha)) (hr.mono (by decide)) T.g__law_sum T.F__law_sum.kp T.b__law_sum (by exact hK) (da_ro (de_ro 0 rfl) (da_ro (de_ro 3 rfl) da_nil)))))) (by /-_law_to.2-/ omega) ?_
  show SS _ _ [_, _, _, _] _ _
  refine ss_re (fun ρ => (ρ).set 2 (.ow ((tl tI) (sumsL r s)))) (.same (.same (Wk.eq (by rfl) (.same (.nil))))) ?_
  show SS _ _ [_, _, _, _] _ _
  exact ss_retV (dv_index (de_owT (g := (tl tI)) 2 rfl) (dv_min xo (de_owT (g := (tl tI)) 2 rfl) (by /-_law_to.3-/ exact hp9) T.bt.min) (by /-_law_to.4-/ exact minI_mem hp9)) (rfl)

theorem sc__law_put : FnScope ["_law_row", "_law_held", "_law_things", "_law_thing", "_law_heir"] ["_law_row", "_law_held", "_law_things"] (defScope s__law_put) := ⟨rfl, rfl, rfl, by decide +kernel, rfl, by decide +kernel, by decide +kernel⟩
theorem ok__law_put {P : Program} {w : World} {K : Fg} {mg : Str → Option Value} {base : Heap} (T : Tx K mg) (r : List Int) (s : List (List Int)) (things : List Int) (h19 : 1 ≤ s.length ∧ s.length ≤ 8) (h49 : r.length ≤ 40) (gp9 : ∀ k, k ≤ things.length → GoodS (lPutK r s things k) s.length r.length) :
    FnOk P w K mg base (L2.CX P w) 3 T.a__law_put T.fd__law_put ["_law_row", "_law_held", "_law_things"] (sp1 K [.ro ((dl dI) r), .ro ((dl (dl dI)) s), .ro ((dl dI) things)] (.ret ((tl (tl tI)) (lPut r s things)))) := by
  refine ok_def (m := 2) T.F__law_put sc__law_put rfl rfl fun cdv0 A0 out0 s0 G0 H0 E0 hr xo hp hx => ?_
  refine ss_o 1 xo.nd (do_call (ok__law_copy T _ (by /-_law_put.1-/ omega)) (hr.mono (by decide)) T.g__law_copy T.F__law_copy.kp T.b__law_copy (by exact rfl) (da_ro (de_ro 1 rfl) da_nil)) ?_
  show SS _ _ [_, _, _, _, _] _ _
  refine ss_for1 xo hp 3 (di_rI (de_ro 2 rfl)) (fun i ρ => (((ρ).set 1 (.ow ((tl (tl tI)) (lPutK r s things i)))).set 3 .un).set 4 .un) (fun i => True) (.same (Wk.eq (by rfl) (.same (.un (.un (.nil)))))) (by first | trivial | simp) (fun i hi hI1 => ?_) (fun hI1 => ?_)
  ·
    show SS _ _ [_, _, _, _, _] _ _
    have ln9 := lPutK_len (r := r) (s := s) things i
    have gi9 := gp9 i (by omega)
    have tb9 := toL_bd (r := r) (s := lPutK r s things i) (by omega)
    refine ss_v 4 xo.nd (DO.vI (do_call (ok__law_to T _ _ (by /-_law_put.2-/ omega) (by /-_law_put.3-/ omega) (by /-_law_put.4-/ exact fun q hq x hx => by have := gi9.bd q hq x hx; exact ⟨by omega, this.2⟩)) (hr.mono (by decide)) T.g__law_to T.F__law_to.kp T.b__law_to (by exact rfl) (da_ro (de_ro 0 rfl) (da_ro (de_owT (g := (tl (tl tI))) 1 rfl) da_nil)))) ?_
    show SS _ _ [_, _, _, _, _] _ _
    refine ss_st0 (g := (tl tI)) 1 (dpl_var 1 rfl) (dv_var 4 rfl) (do_sorted (DO.dat (do_catI (de_ix (f := (dl dI)) (de_owT (g := (tl (tl tI))) 1 rfl) (dv_var 4 rfl) (by /-_law_put.5-/ exact ⟨by omega, tb9.2⟩)) (DO.dat (DO.eq (t' := tl tI [_]) (do_lst (da_v (dv_var 3 rfl) da_nil)) rfl)) (by /-_law_put.6-/ have := gi9.row (pyAt_mem (xs := lPutK r s things i) (i := toL r (lPutK r s things i)) ⟨by omega, tb9.2⟩); show _ + 1 ≤ _; omega))) T.bt.sorted) rfl (by /-_law_put.7-/ exact ⟨by omega, tb9.2⟩) ?_
    show SS _ _ [_, _, _, _, _] _ _
    exact ss_nil ⟨.same (Wk.eq (by exact congrArg (fun z => Sl.ow (tl (tl tI) z)) (lPutK_succ hi).symm) (.same (.un (.un (.nil))))), by first | trivial | simp⟩
  show SS _ _ [_, _, _, _, _] _ _
  exact ss_retOw 1 rfl (rfl)

theorem sc__law_moved : FnScope ["_law_estate", "_law_cell", "_law_row", "_law_held", "_law_number", "_law_heirs", "_law_handed", "_law_heir"] ["_law_estate", "_law_cell", "_law_row", "_law_held"] (defScope s__law_moved) := ⟨rfl, rfl, rfl, by decide +kernel, rfl, by decide +kernel, by decide +kernel⟩
theorem ok__law_moved {P : Program} {w : World} {K : Fg} {mg : Str → Option Value} {base : Heap} (T : Tx K mg) (a0 : Addr) (c : Int) (r : List Int) (s : List (List Int)) (ki9 : KI (r, s)) :
    FnOk P w K mg base (L2.CX P w) 8 T.a__law_moved T.fd__law_moved ["_law_estate", "_law_cell", "_law_row", "_law_held"] (spM K [.ob a0 T.c_Estate (esF (List.replicate s.length r) s), .v (.int c), .sh ((dl dI) r), .sh ((dl (dl dI)) s)] [.ob a0 T.c_Estate (esF (List.replicate (stepK c (r, s)).2.length (stepK c (r, s)).1) (stepK c (r, s)).2), .un, .un, .un] ((d2 (dl dI) (dl (dl dI))) (stepK c (r, s)))) := by
  have n19 : 1 ≤ s.length := ki9.n1.1; have n89 : s.length ≤ 8 := ki9.n1.2; have rf9 : r.length ≤ 14 := ki9.few; have rl9 : (List.replicate s.length r).length = s.length := List.length_replicate
  refine ok_defM (m := 4) T.F__law_moved sc__law_moved rfl rfl (.ob (.un (.un (.un (.nil))))) fun cdv0 A0 out0 s0 I0 G0 H0 E0 hr xo hp => ?_
  show SS _ _ [_, _, _, _, _, _, _, _] _ _
  refine ss_v 4 xo.nd (dv_fdiv (DO.vI (do_call (ok__law_mixed T _ _ ) (hr.mono (by decide)) T.g__law_mixed T.F__law_mixed.kp T.b__law_mixed (by exact rfl) (da_v (dv_var 1 rfl) (da_v dv_int da_nil)))) dv_int ⟨by decide, by decide⟩) ?_
  show SS _ _ [_, _, _, _, _, _, _, _] _ _
  refine ss_v 5 xo.nd (dv_len (f := (dl dI)) (de_sh 3 rfl) T.bt.len) ?_
  show SS _ _ [_, _, _, _, _, _, _, _] _ _
  refine ss_ifL (DW.pt (dw_and (dt_lt (dv_mod (dv_var 1 rfl) dv_int (by decide)) dv_int) (fun h1 => (dw_and1 (dt_lt (dv_len (f := dI) (de_sh 2 rfl) T.bt.len) dv_int))))) (fun h2 => ?_) (fun h2 => ?_)
  ·
    have hS : stepK c (r, s) = (r ++ [wK c], lPut (r ++ [wK c]) s [(r.length : Int)]) := by unfold stepK; rw [if_pos (by exact h2)]
    have hlt : r.length < 14 := by have h0 := h2; rw [Bool.and_eq_true] at h0; have := of_decide_eq_true h0.2; omega
    have ck := come_k ki9 (decide_eq_true hlt) c
    have kn := ck.2.2
    have ln9 : (lPut (r ++ [wK c]) s [(r.length : Int)]).length = s.length := lPutK_len _ _
    refine ss_z 6 xo.nd (de_repZ (DO.dat (f := (dl dI)) (DO.eq (t' := tl tI [_]) (do_lst (da_v (DO.vI (do_call (ok__law_worth T _ ) (hr.mono (by decide)) T.g__law_worth T.F__law_worth.kp T.b__law_worth (by exact rfl) (da_v (dv_var 4 rfl) da_nil))) da_nil)) rfl)) (dv_var 5 rfl) (by /-_law_moved.1-/ simp; omega) (by /-_law_moved.2-/ exact ⟨by omega, by omega⟩)) ?_
    show SS _ _ [_, _, _, _, _, _, _, _] _ _
    refine ss_ifM (dtm_ne (dm_meth 0 rfl (lk_no (by decide) (by decide)) T.cl_Estate ⟨T.at_Estate_come, T.fn_Estate_come, T.F_Estate_come.kp⟩ (ok_Estate_come T _ _ _ _ (by /-_law_moved.3-/ exact ki9.es) (by /-_law_moved.4-/ show r.length < 40; omega) (by /-_law_moved.5-/ rw [List.length_replicate, List.length_replicate]) (by /-_law_moved.6-/ exact rep_all (wK_bd c))) (hr.mono (by decide)) T.b_Estate_come (by exact rfl) (dam_roz (DE.eq (d' := dl dI (List.replicate s.length (wK c))) (de_sh 6 rfl) (by exact congrArg PyData.list (by simp [List.map_replicate]; exact .inr rfl))) dam_nil) (.io rfl rfl (.pu (.nil))) (.io rfl rfl (.pu (.nil)))) (dv_len (f := dI) (de_sh 2 rfl) T.bt.len)) (fun h3 => by simp at h3) (fun h3 => ?_)
    refine ss_re (fun ρ => (ρ).set 0 (.ob a0 T.c_Estate (esF (List.replicate (stepK c (r, s)).2.length (stepK c (r, s)).1) (stepK c (r, s)).2))) (Wk.eq (by rw [hS]; exact congrArg (Sl.ob a0 T.c_Estate) (congr (congrArg esF ck.1) ck.2.1)) (.same (.same (.same (.same (.same (.same (.same (.nil))))))))) ?_
    show SS _ _ [_, _, _, _, _, _, _, _] _ _
    show SS _ _ [_, _, _, _, _, _, _, _] _ _
    refine ss_z 2 xo.nd (DO.dat (do_catI (de_sh 2 rfl) (DO.dat (DO.eq (t' := tl tI [_]) (do_lst (da_v (DO.vI (do_call (ok__law_worth T _ ) (hr.mono (by decide)) T.g__law_worth T.F__law_worth.kp T.b__law_worth (by exact rfl) (da_v (dv_var 4 rfl) da_nil))) da_nil)) rfl)) (by /-_law_moved.7-/ first | (simp; omega) | (rw [← List.length_append]; show (cutH s (hK c s.length)).length ≤ _; omega)))) ?_
    show SS _ _ [_, _, _, _, _, _, _, _] _ _
    exact ss_retZ (DE.eq (d' := (d2 (dl dI) (dl (dl dI))) (_, _)) (de_tup (da_sh (de_sh 2 rfl) (da_sh (DO.dat (do_call (ok__law_put T _ _ _ (by /-_law_moved.8-/ first | exact ⟨n19, n89⟩ | (show 1 ≤ (cutH s (hK c s.length)).length ∧ (cutH s (hK c s.length)).length ≤ 8; omega) | (show 1 ≤ (emp (s.length + 1)).length ∧ (emp (s.length + 1)).length ≤ 8; rw [emp_len]; omega)) (by /-_law_moved.9-/ first | omega | (simp; omega)) (by /-_law_moved.10-/ first | exact k15_p1 ki9 hlt c | exact k15_p2 ki9 h29 hb9 | exact k15_p3 ki9 h89)) (hr.mono (by decide)) T.g__law_put T.F__law_put.kp T.b__law_put (by exact rfl) (da_ro (de_sh 2 rfl) (da_ro (de_sh 3 rfl) (da_ro (DE.eq (d' := dl dI [(r.length : Int)]) (DO.dat (DO.eq (t' := tl tI [_]) (do_lst (da_v (dv_sub (dv_len (f := dI) (de_sh 2 rfl) T.bt.len) dv_int) da_nil)) rfl)) (by exact congrArg (dl dI) (by simp))) da_nil))))) da_nil))) rfl) (⟨by rw [hS]; rfl, Wk.eq (by first | rfl | (rw [hS])) (.un (.un (.un (.un (.un (.un (.un (.nil))))))))⟩)
  show SS _ _ [_, _, _, _, _, _, _, _] _ _
  refine ss_ifL (DW.pt (dw_and (dt_lt (dv_mod (dv_var 1 rfl) dv_int (by decide)) dv_int) (fun h4 => (dw_and1 (dt_gt (dv_var 5 rfl) dv_int))))) (fun h5 => ?_) (fun h5 => ?_)
  ·
    have hS : stepK c (r, s) = (r, lPut r (cutH s (hK c s.length)) (pyAt s (hK c s.length))) := by unfold stepK; rw [if_neg (by rw [show (decide (c % 8 < 5) && decide (((r, s).1.length : Int) < 14)) = false from by assumption]; decide), if_pos (by exact h5)]
    have h29 : 2 ≤ s.length := by have h0 := h5; rw [Bool.and_eq_true] at h0; have := of_decide_eq_true h0.2; omega
    have hb9 := hK_bd c n19
    have ck := go_k ki9 h29 hb9
    have kn := ck.2.2
    have cl9 : (cutH s (hK c s.length)).length = s.length - 1 := cut_len rfl hb9
    obtain ⟨cg1, cg2, cg3⟩ := cut_good ki9.es.gt ki9.es.gs (by rw [rl9]; exact h29) (by rw [rl9]; exact hb9)
    have th9 := go_things ki9.es.gs (by rw [rl9]; exact hb9)
    refine ss_v 7 xo.nd (dv_mod (dv_var 4 rfl) (dv_var 5 rfl) (by /-_law_moved.11-/ omega)) ?_
    show SS _ _ [_, _, _, _, _, _, _, _] _ _
    refine ss_ifM (dtm_notN (dm_meth 0 rfl (lk_no (by decide) (by decide)) T.cl_Estate ⟨T.at_Estate_go, T.fn_Estate_go, T.F_Estate_go.kp⟩ (ok_Estate_go T _ _ _ _ (by /-_law_moved.12-/ exact ki9.es) (by /-_law_moved.13-/ rw [rl9]; exact h29) (by /-_law_moved.14-/ rw [rl9]; exact hb9)) (hr.mono (by decide)) T.b_Estate_go (by exact rfl) (dam_v (dv_var 7 rfl) dam_nil) (.io rfl rfl (.pu (.nil))) (.io rfl rfl (.pu (.nil))))) (fun h6 => by cases h6) (fun h6 => ?_)
    refine ss_re (fun ρ => (ρ).set 0 (.ob a0 T.c_Estate (esF (List.replicate (stepK c (r, s)).2.length (stepK c (r, s)).1) (stepK c (r, s)).2))) (Wk.eq (by rw [hS]; exact congrArg (Sl.ob a0 T.c_Estate) (congr (congrArg esF ck.1) ck.2.1)) (.same (.same (.same (.same (.same (.same (.same (.nil))))))))) ?_
    show SS _ _ [_, _, _, _, _, _, _, _] _ _
    show SS _ _ [_, _, _, _, _, _, _, _] _ _
    exact ss_retZ (DE.eq (d' := (d2 (dl dI) (dl (dl dI))) (_, _)) (de_tup (da_sh (de_sh 2 rfl) (da_sh (DO.dat (do_call (ok__law_put T _ _ _ (by /-_law_moved.17-/ first | exact ⟨n19, n89⟩ | (show 1 ≤ (cutH s (hK c s.length)).length ∧ (cutH s (hK c s.length)).length ≤ 8; omega) | (show 1 ≤ (emp (s.length + 1)).length ∧ (emp (s.length + 1)).length ≤ 8; rw [emp_len]; omega)) (by /-_law_moved.18-/ first | omega | (simp; omega)) (by /-_law_moved.19-/ first | exact k15_p1 ki9 hlt c | exact k15_p2 ki9 h29 hb9 | exact k15_p3 ki9 h89)) (hr.mono (by decide)) T.g__law_put T.F__law_put.kp T.b__law_put (by exact rfl) (da_ro (de_sh 2 rfl) (da_ro (DO.dat (do_cat (f := (dl dI)) (DO.dat (do_sl (f := (dl dI)) (de_sh 3 rfl) ox_none (ox_some (dv_var 7 rfl)))) (DO.dat (do_sl (f := (dl dI)) (de_sh 3 rfl) (ox_some (dv_add (dv_var 7 rfl) dv_int)) ox_none)) (by /-_law_moved.15-/ first | (simp; omega) | (rw [← List.length_append]; show (cutH s (hK c s.length)).length ≤ _; omega)))) (da_ro (de_ix (f := (dl dI)) (de_sh 3 rfl) (dv_var 7 rfl) (by /-_law_moved.16-/ show inR s.length (hK c s.length); exact ⟨by omega, hb9.2⟩)) da_nil))))) da_nil))) rfl) (⟨by rw [hS]; rfl, Wk.eq (by first | rfl | (rw [hS])) (.un (.un (.un (.un (.un (.un (.un (.nil))))))))⟩)
  show SS _ _ [_, _, _, _, _, _, _, _] _ _
  refine ss_ifL (dt_lt (dv_var 5 rfl) dv_int) (fun h7 => ?_) (fun h7 => ?_)
  ·
    have hS : stepK c (r, s) = (r, lPut r (emp (s.length + 1)) (rgI r.length)) := by unfold stepK; rw [if_neg (by rw [show (decide (c % 8 < 5) && decide (((r, s).1.length : Int) < 14)) = false from by assumption]; decide), if_neg (by rw [show (decide (c % 8 < 7) && decide (1 < ((r, s).2.length : Int))) = false from by assumption]; decide), if_pos (by exact h7)]
    have h89 : s.length < 8 := by have := of_decide_eq_true h7; omega
    have ck := join_k ki9 h89
    have kn := ck.2.2
    refine ss_ifM (dtm_ne (dm_meth 0 rfl (lk_no (by decide) (by decide)) T.cl_Estate ⟨T.at_Estate_join, T.fn_Estate_join, T.F_Estate_join.kp⟩ (ok_Estate_join T _ _ _ _ (by /-_law_moved.20-/ exact ki9.es) (by /-_law_moved.21-/ rw [rl9]; exact h89) (by /-_law_moved.22-/ rfl) (by /-_law_moved.23-/ exact ki9.row)) (hr.mono (by decide)) T.b_Estate_join (by exact rfl) (dam_roz (DO.dat (do_listI (de_sh 2 rfl) T.bt.list)) dam_nil) (.io rfl rfl (.pu (.nil))) (.io rfl rfl (.pu (.nil)))) (dv_var 5 rfl)) (fun h8 => by simp at h8) (fun h8 => ?_)
    refine ss_re (fun ρ => (ρ).set 0 (.ob a0 T.c_Estate (esF (List.replicate (stepK c (r, s)).2.length (stepK c (r, s)).1) (stepK c (r, s)).2))) (Wk.eq (by rw [hS]; exact congrArg (Sl.ob a0 T.c_Estate) (congr (congrArg esF ck.1) ck.2.1)) (.same (.same (.same (.same (.same (.same (.same (.nil))))))))) ?_
    show SS _ _ [_, _, _, _, _, _, _, _] _ _
    show SS _ _ [_, _, _, _, _, _, _, _] _ _
    exact ss_retZ (DE.eq (d' := (d2 (dl dI) (dl (dl dI))) (_, _)) (de_tup (da_sh (de_sh 2 rfl) (da_sh (DO.dat (do_call (ok__law_put T _ _ _ (by /-_law_moved.28-/ first | exact ⟨n19, n89⟩ | (show 1 ≤ (cutH s (hK c s.length)).length ∧ (cutH s (hK c s.length)).length ≤ 8; omega) | (show 1 ≤ (emp (s.length + 1)).length ∧ (emp (s.length + 1)).length ≤ 8; rw [emp_len]; omega)) (by /-_law_moved.29-/ first | omega | (simp; omega)) (by /-_law_moved.30-/ first | exact k15_p1 ki9 hlt c | exact k15_p2 ki9 h29 hb9 | exact k15_p3 ki9 h89)) (hr.mono (by decide)) T.g__law_put T.F__law_put.kp T.b__law_put (by exact rfl) (da_ro (de_sh 2 rfl) (da_ro (DO.dat (do_lcM0 xo [("_law_heir", 7)] (g := (tl tI))  (ic_rangeN (DV.eq (y := .int ((s.length + 1 : Nat) : Int)) (dv_add (dv_var 5 rfl) dv_int) (by /-_law_moved.24-/ exact congrArg V.int (by push_cast; rfl))) (by /-_law_moved.25-/ omega) T.bt.range) (blkOk_by (N := ["_law_estate", "_law_cell", "_law_row", "_law_held", "_law_number", "_law_heirs", "_law_handed", "_law_heir"]) (sc := defScope s__law_moved) (by decide +kernel)) (fun _ _ _ _ _ => pg_name (i := 7) sc__law_moved.nd rfl (Or.inl rfl)) (fun a _ => tgw_name _ 7 _) (by simp) (fun Γ' hK a ha s' H' C' cl' fp' xo => (do_nil tI)) (by /-_law_moved.26-/ first | omega | (rw [List.length_range]; omega)))) (da_ro (DO.dat (do_listRgN xo (dv_len (f := dI) (de_sh 2 rfl) T.bt.len) (by /-_law_moved.27-/ omega) T.bt.list T.bt.range)) da_nil))))) da_nil))) rfl) (⟨by rw [hS]; rfl, Wk.eq (by first | rfl | (rw [hS])) (.un (.un (.un (.un (.un (.un (.un (.nil))))))))⟩)
  have hS : stepK c (r, s) = (r, s) := by unfold stepK; rw [if_neg (by rw [show (decide (c % 8 < 5) && decide (((r, s).1.length : Int) < 14)) = false from by assumption]; decide), if_neg (by rw [show (decide (c % 8 < 7) && decide (1 < ((r, s).2.length : Int))) = false from by assumption]; decide), if_neg (by rw [show decide (((r, s).2.length : Int) < 8) = false from h7]; decide)]
  show SS _ _ [_, _, _, _, _, _, _, _] _ _
  exact ss_retZ (DE.eq (d' := (d2 (dl dI) (dl (dl dI))) (_, _)) (de_tup (da_sh (de_sh 2 rfl) (da_sh (de_sh 3 rfl) da_nil))) rfl) (⟨by rw [hS]; rfl, Wk.eq (by first | rfl | (rw [hS])) (.un (.un (.un (.un (.un (.un (.un (.nil))))))))⟩)

theorem sc__law_told : FnScope ["_law_row", "_law_held", "_law_rows", "_law_empty", "_law_found", "_law_last", "_law_ahead", "_law_heir", "_law_share", "_law_thing"] ["_law_row", "_law_held"] (defScope s__law_told) := ⟨rfl, rfl, rfl, by decide +kernel, rfl, by decide +kernel, by decide +kernel⟩
theorem ok__law_told {P : Program} {w : World} {K : Fg} {mg : Str → Option Value} {base : Heap} (T : Tx K mg) (r : List Int) (s : List (List Int)) (ki9 : KI (r, s)) :
    FnOk P w K mg base (L2.CX P w) 8 T.a__law_told T.fd__law_told ["_law_row", "_law_held"] (sp1 K [.ro ((dl dI) r), .ro ((dl (dl dI)) s)] (.ret (.fz (.bool (true))))) := by
  have n19 : 1 ≤ s.length := ki9.n1.1; have n89 : s.length ≤ 8 := ki9.n1.2; have rf9 : r.length ≤ 14 := ki9.few; have rl9 : (List.replicate s.length r).length = s.length := List.length_replicate; have gt9 : GoodT (List.replicate s.length r) r.length := ki9.es.gt; have dl9 := rep_dl (r := r) n19 r.length
  refine ok_defZ (m := 8) rfl T.F__law_told sc__law_told rfl rfl rfl fun cdv0 A0 out0 s0 H0 E0 hr xo hp => ?_
  show SS _ _ [_, _, _, _, _, _, _, _, _, _] _ _
  refine ss_lcM0 2 xo [("_law_share", 8)] (g := (tl tI))  (ic_z (f := (dl dI)) (fun a => .sh ((dl dI) a)) (de_sh 1 rfl) (fun _ => .sh)) (blkOk_by (N := ["_law_row", "_law_held", "_law_rows", "_law_empty", "_law_found", "_law_last", "_law_ahead", "_law_heir", "_law_share", "_law_thing"]) (sc := defScope s__law_told) (by decide +kernel)) (fun _ _ _ _ _ => pg_name (i := 8) sc__law_told.nd rfl (Or.inl rfl)) (fun a _ => tgw_name _ 8 _) (by simp) (fun Γ' hK a ha s' H' C' cl' fp' xo => (do_listI (de_sh 0 rfl) T.bt.list)) (by /-_law_told.1-/ first | omega | (rw [List.length_map]; omega) | (have h0 : a.length ≤ r.length := ki9.es.gs.row ha; omega)) ?_
  show SS _ _ [_, _, _, _, _, _, _, _, _, _] _ _
  refine ss_re (fun ρ => (ρ).set 2 (.ow ((tl (tl tI)) (List.replicate s.length r)))) (.same (.same (Wk.eq (by exact congrArg (fun z => Sl.ow (tl (tl tI) z)) (List.map_const' ..)) (.same (.same (.same (.same (.same (.same (.same (.nil))))))))))) ?_
  show SS _ _ [_, _, _, _, _, _, _, _, _, _] _ _
  refine ss_lcM0 3 xo [("_law_share", 8)] (g := (tl tI))  (ic_z (f := (dl dI)) (fun a => .sh ((dl dI) a)) (de_sh 1 rfl) (fun _ => .sh)) (blkOk_by (N := ["_law_row", "_law_held", "_law_rows", "_law_empty", "_law_found", "_law_last", "_law_ahead", "_law_heir", "_law_share", "_law_thing"]) (sc := defScope s__law_told) (by decide +kernel)) (fun _ _ _ _ _ => pg_name (i := 8) sc__law_told.nd rfl (Or.inl rfl)) (fun a _ => tgw_name _ 8 _) (by simp) (fun Γ' hK a ha s' H' C' cl' fp' xo => (do_nil tI)) (by /-_law_told.2-/ first | omega | (rw [List.length_map]; omega) | (have h0 : a.length ≤ r.length := ki9.es.gs.row ha; omega)) ?_
  show SS _ _ [_, _, _, _, _, _, _, _, _, _] _ _
  refine ss_re (fun ρ => (ρ).set 3 (.ow ((tl (tl tI)) (emp s.length)))) (.same (.same (.same (Wk.eq (by exact congrArg (fun z => Sl.ow (tl (tl tI) z)) (by unfold emp; rw [List.map_const', List.map_const', List.length_range])) (.same (.same (.same (.same (.same (.same (.nil))))))))))) ?_
  show SS _ _ [_, _, _, _, _, _, _, _, _, _] _ _
  refine ss_o 4 xo.nd (do_call (ok_dealt T _ (by /-_law_told.3-/ exact gt9)) (hr.mono (by decide)) T.g_dealt T.F_dealt.kp T.b_dealt (by exact rfl) (da_ro (de_owT (g := (tl (tl tI))) 2 rfl) da_nil)) ?_
  show SS _ _ [_, _, _, _, _, _, _, _, _, _] _ _
  refine ss_ifL (dt_neD (f := (dl (dl dI))) xo.hu64 (de_owT (g := (tl (tl tI))) 4 rfl) (DO.dat (do_call (ok__law_put T _ _ _ (by /-_law_told.5-/ first | exact ⟨n19, n89⟩ | (rw [emp_len]; exact ⟨n19, n89⟩) | (rw [al9]; exact ⟨n19, n89⟩)) (by /-_law_told.6-/ omega) (by /-_law_told.7-/ first | exact k15_p4 ki9 | exact k15_p5 ki9 p9)) (hr.mono (by decide)) T.g__law_put T.F__law_put.kp T.b__law_put (by exact rfl) (da_ro (de_sh 0 rfl) (da_ro (de_owT (g := (tl (tl tI))) 3 rfl) (da_ro (DO.dat (do_listRgN xo (dv_len (f := dI) (de_sh 0 rfl) T.bt.len) (by /-_law_told.4-/ omega) T.bt.list T.bt.range)) da_nil)))))) (fun h1 => by simp [dl9] at h1) (fun h1 => ?_)
  show SS _ _ [_, _, _, _, _, _, _, _, _, _] _ _
  refine ss_clear 4 (dpl_var 4 rfl) rfl ?_
  show SS _ _ [_, _, _, _, _, _, _, _, _, _] _ _
  refine ss_re (fun ρ => (ρ).set 4 (.ow ((tl (tl tI)) ([])))) (.same (.same (.same (.same (Wk.eq (by rfl) (.same (.same (.same (.same (.same (.nil))))))))))) ?_
  show SS _ _ [_, _, _, _, _, _, _, _, _, _] _ _
  refine ss_ifL (dt_eq (dv_len (f := dI) (de_sh 0 rfl) T.bt.len) dv_int) (fun h2 => ?_) (fun h2 => ?_)
  ·
    have z9 : r.length = 0 := by have := of_decide_eq_true h2; omega
    exact ss_retV (dv_eqD (f := (dl (dl dI))) xo.hu64 (DO.dat (do_call (ok_dealt T _ (by /-_law_told.8-/ exact gt9)) (hr.mono (by decide)) T.g_dealt T.F_dealt.kp T.b_dealt (by exact rfl) (da_ro (de_owT (g := (tl (tl tI))) 2 rfl) da_nil))) (de_owT (g := (tl (tl tI))) 3 rfl)) (by rw [dl9]; simp [z9, lPut, lPutK, rgI]; rfl)
  have p9 : 1 ≤ r.length := by have := of_decide_eq_false h2; omega
  obtain ⟨ag9, an9⟩ := k15_ah ki9 p9
  have al9 : ((s.map fun q => q.filter fun y => !decide (y = ((r.length : Int) - 1)))).length = s.length := by rw [List.length_map]
  have as9 := rep_st (r := r) al9
  have ao9 := rep_goes (r := r) al9 n19
  have pu9 := rep_put (r := r) al9 n19 ((r.length : Int) - 1)
  show SS _ _ [_, _, _, _, _, _, _, _, _, _] _ _
  refine ss_v 5 xo.nd (dv_sub (dv_len (f := dI) (de_sh 0 rfl) T.bt.len) dv_int) ?_
  show SS _ _ [_, _, _, _, _, _, _, _, _, _] _ _
  refine ss_lcM0 6 xo [("_law_share", 8)] (g := (tl tI))  (ic_z (f := (dl dI)) (fun a => .sh ((dl dI) a)) (de_sh 1 rfl) (fun _ => .sh)) (blkOk_by (N := ["_law_row", "_law_held", "_law_rows", "_law_empty", "_law_found", "_law_last", "_law_ahead", "_law_heir", "_law_share", "_law_thing"]) (sc := defScope s__law_told) (by decide +kernel)) (fun _ _ _ _ _ => pg_name (i := 8) sc__law_told.nd rfl (Or.inl rfl)) (fun a _ => tgw_name _ 8 _) (by simp) (fun Γ' hK a ha s' H' C' cl' fp' xo => (do_lcM xo [("_law_thing", 9)] (g := tI)  (ic_z (f := dI) (fun a => .v (.int a)) (de_sh 8 rfl) (fun _ => .v rfl)) (blkOk_by (N := ["_law_row", "_law_held", "_law_rows", "_law_empty", "_law_found", "_law_last", "_law_ahead", "_law_heir", "_law_share", "_law_thing"]) (sc := { kind := .function, names := [(".0", .local), ("_law_share", .local), ("_law_last", .cell)], isGenerator := false, isCoroutine := false }) (by decide +kernel)) (fun _ _ _ _ _ => pg_name (i := 9) sc__law_told.nd rfl (Or.inl rfl)) (fun a _ => tgw_name _ 9 _) (by simp) (fun Γ' hK a ha s' H' C' cl' fp' xo => dts_one (dt_ne (dv_var 9 rfl) (dv_var 5 rfl))) (fun Γ' hK a ha hf s' H' C' cl' fp' xo => (DV.oI (dv_var 9 rfl))) (by /-_law_told.9-/ first | omega | (rw [List.length_map]; omega) | (have h0 : a.length ≤ r.length := ki9.es.gs.row ha; omega)))) (by /-_law_told.10-/ first | omega | (rw [List.length_map]; omega) | (have h0 : a.length ≤ r.length := ki9.es.gs.row ha; omega)) ?_
  show SS _ _ [_, _, _, _, _, _, _, _, _, _] _ _
  refine ss_re (fun ρ => (ρ).set 6 (.ow ((tl (tl tI)) ((s.map fun q => q.filter fun y => !decide (y = ((r.length : Int) - 1))))))) (.same (.same (.same (.same (.same (.same (Wk.eq (by simp only [List.map_id']) (.same (.same (.same (.nil))))))))))) ?_
  show SS _ _ [_, _, _, _, _, _, _, _, _, _] _ _
  refine ss_v 7 xo.nd (DO.vI (do_call (ok__law_to T _ _ (by /-_law_told.11-/ omega) (by /-_law_told.12-/ omega) (by /-_law_told.13-/ exact fun q hq x hx => by have h0 := ag9.bd q hq x hx; exact ⟨by omega, h0.2⟩)) (hr.mono (by decide)) T.g__law_to T.F__law_to.kp T.b__law_to (by exact rfl) (da_ro (de_sh 0 rfl) (da_ro (de_owT (g := (tl (tl tI))) 6 rfl) da_nil)))) ?_
  show SS _ _ [_, _, _, _, _, _, _, _, _, _] _ _
  refine ss_ifL (dt_neG xo.hu64 (DE.eq (d' := (dl (id : D → D)) ([giveD ((r.length : Int) - 1) (toL r (s.map fun q => q.filter fun y => !decide (y = ((r.length : Int) - 1))))])) (DO.dat (do_call (ok_steps T _ _ _ (by /-_law_told.14-/ exact gt9) (by /-_law_told.15-/ rw [rl9]; exact ag9) (by /-_law_told.16-/ exact ⟨by omega, by omega⟩) (by /-_law_told.17-/ exact an9)) (hr.mono (by decide)) T.g_steps T.F_steps.kp T.b_steps (by exact rfl) (da_ro (de_owT (g := (tl (tl tI))) 2 rfl) (da_ro (de_owT (g := (tl (tl tI))) 6 rfl) (da_v (dv_var 5 rfl) da_nil))))) (by exact congrArg (dl (id : D → D)) (by simp [tellS, as9, ao9]))) (DE.eq (d' := (dl (id : D → D)) ([giveD ((r.length : Int) - 1) (toL r (s.map fun q => q.filter fun y => !decide (y = ((r.length : Int) - 1))))])) (DO.dat (DO.eq (t' := tl (tF (id : D → D)) [_]) (do_lst (da_sh (de_tup (da_v dv_str (da_v (dv_var 5 rfl) (da_v (dv_var 7 rfl) da_nil)))) da_nil)) rfl)) (by rfl)) (by /-_law_told.18-/ first | rfl | (simp [dl, giveD, PyData.canLay0, PyData.canLayAll0]; decide +kernel)) (by /-_law_told.19-/ first | rfl | (simp [dl, giveD, PyData.canLay0, PyData.canLayAll0]; decide +kernel)) (by /-_law_told.20-/ first | rfl | (simp [dl, giveD, SeqAt.shaped, PyData.canLay0, PyData.canLayAll0, PyData.depth, PyData.depthAll]; decide +kernel)) (by /-_law_told.21-/ first | rfl | (simp [dl, giveD, SeqAt.shaped, PyData.canLay0, PyData.canLayAll0, PyData.depth, PyData.depthAll]; decide +kernel))) (fun h3 => by simp [dl, giveD, PyData.eqv, PyData.eqvAll] at h3) (fun h3 => ?_)
  show SS _ _ [_, _, _, _, _, _, _, _, _, _] _ _
  refine ss_o 4 xo.nd (do_call (ok_awarded T _ _ _ (by /-_law_told.22-/ exact gt9) (by /-_law_told.23-/ rw [rl9]; exact ag9) (by /-_law_told.24-/ exact ⟨by omega, by omega⟩) (by /-_law_told.25-/ exact an9)) (hr.mono (by decide)) T.g_awarded T.F_awarded.kp T.b_awarded (by exact rfl) (da_ro (de_owT (g := (tl (tl tI))) 2 rfl) (da_ro (de_owT (g := (tl (tl tI))) 6 rfl) (da_v (dv_var 5 rfl) da_nil)))) ?_
  show SS _ _ [_, _, _, _, _, _, _, _, _, _] _ _
  exact ss_retV (dv_and (dv_eqD (f := (dl (dl dI))) xo.hu64 (de_owT (g := (tl (tl tI))) 4 rfl) (DO.dat (do_call (ok__law_put T _ _ _ (by /-_law_told.26-/ first | exact ⟨n19, n89⟩ | (rw [emp_len]; exact ⟨n19, n89⟩) | (rw [al9]; exact ⟨n19, n89⟩)) (by /-_law_told.27-/ omega) (by /-_law_told.28-/ first | exact k15_p4 ki9 | exact k15_p5 ki9 p9)) (hr.mono (by decide)) T.g__law_put T.F__law_put.kp T.b__law_put (by exact rfl) (da_ro (de_sh 0 rfl) (da_ro (de_owT (g := (tl (tl tI))) 6 rfl) (da_ro (DO.dat (DO.eq (t' := tl tI [_]) (do_lst (da_v (dv_var 5 rfl) da_nil)) rfl)) da_nil)))))) (fun h4 => (dv_one (dv_eqD (f := (dl (dl dI))) xo.hu64 (de_owT (g := (tl (tl tI))) 2 rfl) (DO.dat (do_lcM0 xo [("_law_share", 8)] (g := (tl tI))  (ic_z (f := (dl dI)) (fun a => .sh ((dl dI) a)) (de_sh 1 rfl) (fun _ => .sh)) (blkOk_by (N := ["_law_row", "_law_held", "_law_rows", "_law_empty", "_law_found", "_law_last", "_law_ahead", "_law_heir", "_law_share", "_law_thing"]) (sc := defScope s__law_told) (by decide +kernel)) (fun _ _ _ _ _ => pg_name (i := 8) sc__law_told.nd rfl (Or.inl rfl)) (fun a _ => tgw_name _ 8 _) (by simp) (fun Γ' hK a ha s' H' C' cl' fp' xo => (do_listI (de_sh 0 rfl) T.bt.list)) (by /-_law_told.29-/ first | omega | (rw [List.length_map]; omega) | (have h0 : a.length ≤ r.length := ki9.es.gs.row ha; omega)))))))) (by rw [pu9, lPut_one]; simp [List.map_const']; rfl)

theorem sc__law_looked : FnScope ["_law_estate", "_law_row", "_law_held", "_law_way", "_law_found", "_law_share"] ["_law_estate", "_law_row", "_law_held", "_law_way"] (defScope s__law_looked) := ⟨rfl, rfl, rfl, by decide +kernel, rfl, by decide +kernel, by decide +kernel⟩
theorem ok__law_looked {P : Program} {w : World} {K : Fg} {mg : Str → Option Value} {base : Heap} (T : Tx K mg) (r : List Int) (s : List (List Int)) (way : Int) (ki9 : KI (r, s)) :
    FnOk P w K mg base (L2.CX P w) 2 T.a__law_looked T.fd__law_looked ["_law_estate", "_law_row", "_law_held", "_law_way"] (sp1 K [.rb T.c_Estate (esF (List.replicate s.length r) s), .ro ((dl dI) r), .ro ((dl (dl dI)) s), .v (.int way)] (.ret (.fz (.bool (true))))) := by
  have n89 : s.length ≤ 8 := ki9.n1.2; have rf9 : r.length ≤ 14 := ki9.few; have rl9 : (List.replicate s.length r).length = s.length := List.length_replicate
  refine ok_defZ (m := 2) rfl T.F__law_looked sc__law_looked rfl rfl rfl fun cdv0 A0 out0 s0 H0 E0 hr xo hp => ?_
  show SS _ _ [_, _, _, _, _, _] _ _
  refine ss_ifL (DW.pt (dw_and (dt_eq (dv_var 3 rfl) dv_int) (fun h1 => (dw_and1 (dt_neD (f := (dl (dl dI))) xo.hu64 (DO.dat (do_meth 0 rfl .rb (lk_no (by decide) (by decide)) T.cl_Estate ⟨T.at_Estate_table, T.fn_Estate_table, T.F_Estate_table.kp⟩ (ok_Estate_table T _ _ (by /-_law_looked.1-/ omega)) (hr.mono (by decide)) T.b_Estate_table)) (DO.dat (do_lcM0 xo [("_law_share", 5)] (g := (tF (dl dI)))  (ic_z (f := (dl dI)) (fun a => .sh ((dl dI) a)) (de_sh 2 rfl) (fun _ => .sh)) (blkOk_by (N := ["_law_estate", "_law_row", "_law_held", "_law_way", "_law_found", "_law_share"]) (sc := defScope s__law_looked) (by decide +kernel)) (fun _ _ _ _ _ => pg_name (i := 5) sc__law_looked.nd rfl (Or.inl rfl)) (fun a _ => tgw_name _ 5 _) (by simp) (fun Γ' hK a ha s' H' C' cl' fp' xo => (DE.oF (f := (dl dI)) (de_sh 1 rfl))) (by /-_law_looked.2-/ omega)))))))) (fun h2 => by simp [List.map_const'] at h2) (fun h2 => ?_)
  show SS _ _ [_, _, _, _, _, _] _ _
  refine ss_o 4 xo.nd (do_meth 0 rfl .rb (lk_no (by decide) (by decide)) T.cl_Estate ⟨T.at_Estate_shares, T.fn_Estate_shares, T.F_Estate_shares.kp⟩ (ok_Estate_shares T _ _ (by /-_law_looked.3-/ omega)) (hr.mono (by decide)) T.b_Estate_shares) ?_
  show SS _ _ [_, _, _, _, _, _] _ _
  refine ss_ifL (DW.pt (dw_or (dt_neD (f := (dl (dl dI))) xo.hu64 (de_owT (g := (tl (tl tI))) 4 rfl) (de_sh 2 rfl)) (fun h3 => (dw_or1 (dt_neD (f := (dl (dl dI))) xo.hu64 (DO.dat (do_meth 0 rfl .rb (lk_no (by decide) (by decide)) T.cl_Estate ⟨T.at_Estate_table, T.fn_Estate_table, T.F_Estate_table.kp⟩ (ok_Estate_table T _ _ (by /-_law_looked.4-/ omega)) (hr.mono (by decide)) T.b_Estate_table)) (DO.dat (do_lcM0 xo [("_law_share", 5)] (g := (tF (dl dI)))  (ic_z (f := (dl dI)) (fun a => .sh ((dl dI) a)) (de_sh 2 rfl) (fun _ => .sh)) (blkOk_by (N := ["_law_estate", "_law_row", "_law_held", "_law_way", "_law_found", "_law_share"]) (sc := defScope s__law_looked) (by decide +kernel)) (fun _ _ _ _ _ => pg_name (i := 5) sc__law_looked.nd rfl (Or.inl rfl)) (fun a _ => tgw_name _ 5 _) (by simp) (fun Γ' hK a ha s' H' C' cl' fp' xo => (DE.oF (f := (dl dI)) (de_sh 1 rfl))) (by /-_law_looked.5-/ omega)))))))) (fun h4 => by simp [List.map_const'] at h4) (fun h4 => ?_)
  show SS _ _ [_, _, _, _, _, _] _ _
  refine ss_forApp (g := tI) 4 5 xo hp rfl (by decide) (by simp) (fun _ => (DV.oI (dv_neg dv_int))) (by /-_law_looked.6-/ exact fun q hq => by have h0 : q.length ≤ r.length := ki9.es.gs.row hq; omega) ?_
  show SS _ _ [_, _, _, _, _, _] _ _
  exact ss_retV (dv_eqD (f := (dl (dl dI))) xo.hu64 (DO.dat (do_meth 0 rfl .rb (lk_no (by decide) (by decide)) T.cl_Estate ⟨T.at_Estate_shares, T.fn_Estate_shares, T.F_Estate_shares.kp⟩ (ok_Estate_shares T _ _ (by /-_law_looked.7-/ omega)) (hr.mono (by decide)) T.b_Estate_shares)) (de_sh 2 rfl)) (by simp; rfl)

end Th

set_option Elab.async false
set_option linter.all false
set_option maxRecDepth 100000
set_option maxHeartbeats 2000000
namespace Th
open PySem L2 DL
theorem sc_law : FnScope ["_law_script", "_law_heirs", "_law_estate", "_law_row", "_law_held", "_law_cell", "_law_moved_here", "_law_heir"] ["_law_script"] (defScope s_law) := ⟨rfl, rfl, rfl, by decide +kernel, rfl, by decide +kernel, by decide +kernel⟩
theorem ok_law {P : Program} {w : World} {K : Fg} {mg : Str → Option Value} {base : Heap} (T : Tx K mg) (ns : List Int) (hns : ns.length ≤ 63) :
    FnOk P w K mg base (L2.CX P w) 9 T.a_law T.fd_law ["_law_script"] (sp1 K [.sc ns] (.ret (.fz (.bool (true))))) := by
  have b9 := k15H_bd ns; have ok9 := k15_ok ns (pySl ns (some 1) (some 17))
  refine ok_def (m := 7) T.F_law sc_law rfl rfl fun cdv0 A0 out0 s0 G0 H0 E0 hr xo hp hx => ?_
  refine ss_v 1 xo.nd (dv_add dv_int (dv_mod (DO.vI (do_call (ok__law_at T _ _ (by /-law.1-/ first | assumption | omega | decide | (exact ⟨by omega, by omega⟩))) (hr.mono (by decide)) T.g__law_at T.F__law_at.kp T.b__law_at (by exact rfl) (da_sc (ds_var 0 rfl) (da_v dv_int da_nil)))) dv_int (by decide))) ?_
  show SS _ _ [_, _, _, _, _, _, _, _] _ _
  refine ss_ifJ (fun ρ => (ρ).set 1 (.v (.int (((k15H ns : Nat) : Int))))) (dt_eq (dv_mod (dv_fdiv (DO.vI (do_call (ok__law_at T _ _ (by /-law.2-/ first | assumption | omega | decide | (exact ⟨by omega, by omega⟩))) (hr.mono (by decide)) T.g__law_at T.F__law_at.kp T.b__law_at (by exact rfl) (da_sc (ds_var 0 rfl) (da_v dv_int da_nil)))) dv_int ⟨by decide, by decide⟩) dv_int (by decide)) dv_int) (fun h1 => ?_) (fun h1 => ?_) ?_
  ·
    refine ss_v 1 xo.nd (dv_add (dv_var 1 rfl) dv_int) ?_
    show SS _ _ [_, _, _, _, _, _, _, _] _ _
    exact ss_nil (.same (Wk.eq (by exact congrArg (fun z => Sl.v (V.int z)) (k15H_yes h1)) (.same (.same (.same (.same (.same (.same (.nil)))))))))
  ·
    exact ss_nil (.same (Wk.eq (by exact congrArg (fun z => Sl.v (V.int z)) (k15H_no h1)) (.same (.same (.same (.same (.same (.same (.nil)))))))))
  show SS _ _ [_, _, _, _, _, _, _, _] _ _
  refine ss_b 2 xo.nd (db_make ⟨T.mk_Estate, T.at_Estate_init, T.fn_Estate_init, T.kc_Estate⟩ (fun ea => ok_Estate_init T ea _ (by /-law.3-/ first | assumption | omega | decide | (exact ⟨by omega, by omega⟩)) (by /-law.4-/ first | assumption | omega | decide | (exact ⟨by omega, by omega⟩))) (hr.mono (by decide)) T.g_Estate T.b_Estate_init (by exact rfl) (da_v (dv_var 1 rfl) da_nil)) (fun ea => ?_)
  show SS _ _ [_, _, _, _, _, _, _, _] _ _
  refine ss_z 3 xo.nd (DO.dat (do_nil tI)) ?_
  show SS _ _ [_, _, _, _, _, _, _, _] _ _
  refine ss_lcM0 4 xo [("_law_heir", 7)] (g := (tl tI))  (ic_rangeN (dv_var 1 rfl) (by /-law.5-/ omega) T.bt.range) (blkOk_by (N := ["_law_script", "_law_heirs", "_law_estate", "_law_row", "_law_held", "_law_cell", "_law_moved_here", "_law_heir"]) (sc := defScope s_law) (by decide +kernel)) (fun _ _ _ _ _ => pg_name (i := 7) sc_law.nd rfl (Or.inl rfl)) (fun a _ => tgw_name _ 7 _) (by simp) (fun Γ' hK a ha s' H' C' cl' fp' xo => (do_nil tI)) (by /-law.6-/ first | omega | (rw [List.length_range]; omega)) ?_
  refine ss_frzT 4 (g := (tl (tl tI))) rfl ?_
  show SS _ _ [_, _, _, _, _, _, _, _] _ _
  refine ss_for1 xo hp 5 (di_zI (DO.dat (do_slS rfl (ds_var 0 rfl) (ox_some dv_int) (ox_some dv_int)))) (fun i ρ => (((((ρ).set 2 (.ob ea T.c_Estate (esF (List.replicate (k15S ns (pySl ns (some 1) (some 17)) i).2.length (k15S ns (pySl ns (some 1) (some 17)) i).1) (k15S ns (pySl ns (some 1) (some 17)) i).2))).set 3 (.sh ((dl dI) ((k15S ns (pySl ns (some 1) (some 17)) i).1)))).set 4 (.sh ((dl (dl dI)) ((k15S ns (pySl ns (some 1) (some 17)) i).2)))).set 5 .un).set 6 .un) (fun i => True) (.same (.same (Wk.eq (by exact congrArg (Sl.ob ea T.c_Estate) (k15_est0 ns _)) (Wk.eq (by rfl) (Wk.eq (by rfl) (.un (.un (.same (.nil))))))))) (by first | trivial | simp) (fun i hi hI1 => ?_) (fun hI1 => ?_)
  ·
    show SS _ _ [_, _, _, _, _, _, _, _] _ _
    refine ss_setM 6 xo.nd (dm_callM (ok__law_moved T _ _ _ _ (by /-law.7-/ exact ok9 i)) (hr.mono (by decide)) T.g__law_moved T.F__law_moved.kp T.b__law_moved (by exact rfl) (dam_io 2 rfl rfl (fun z => nomatch z) (dam_v (dv_var 5 rfl) (dam_sh (de_sh 3 rfl) (dam_sh (de_sh 4 rfl) dam_nil)))) (.io rfl rfl (.pu (.pu (.pu (.nil))))) (.io rfl rfl (.pu (.pu (.pu (.nil)))))) ?_
    show SS _ _ [_, _, _, _, _, _, _, _] _ _
    refine ss_ifL (dt_isN (de_sh 6 rfl)) (fun h2 => by simp [isN, d2] at h2) (fun h2 => ?_)
    show SS _ _ [_, _, _, _, _, _, _, _] _ _
    refine ss_z 3 xo.nd (de_ix0 (de_sh 6 rfl)) ?_
    show SS _ _ [_, _, _, _, _, _, _, _] _ _
    refine ss_z 4 xo.nd (de_ix1 (de_sh 6 rfl)) ?_
    show SS _ _ [_, _, _, _, _, _, _, _] _ _
    refine ss_ifL (DW.pt (dw_and (dt_eq (dv_mod (dv_fdiv (dv_var 5 rfl) dv_int ⟨by decide, by decide⟩) dv_int (by decide)) dv_int) (fun h3 => (dw_and1 (dt_not (dt_val (DO.vB (do_call (ok__law_looked T _ _ _ (by /-law.8-/ first | exact ok9 (i + 1) | exact ok9 _)) (hr.mono (by decide)) T.g__law_looked T.F__law_looked.kp T.b__law_looked (by exact rfl) (da_rb 2 rfl .ob (da_ro (de_sh 3 rfl) (da_ro (de_sh 4 rfl) (da_v (dv_mod (dv_fdiv (dv_var 5 rfl) dv_int ⟨by decide, by decide⟩) dv_int (by decide)) da_nil)))))))))))) (fun h4 => by simp at h4) (fun h4 => ?_)
    show SS _ _ [_, _, _, _, _, _, _, _] _ _
    exact ss_nil ⟨.same (.same (Wk.eq (by rfl) (Wk.eq (by rfl) (Wk.eq (by rfl) (.un (.un (.same (.nil)))))))), by first | trivial | simp⟩
  show SS _ _ [_, _, _, _, _, _, _, _] _ _
  exact ss_retV (dv_and (DO.vB (do_call (ok__law_looked T _ _ _ (by /-law.9-/ first | exact ok9 (i + 1) | exact ok9 _)) (hr.mono (by decide)) T.g__law_looked T.F__law_looked.kp T.b__law_looked (by exact rfl) (da_rb 2 rfl .ob (da_ro (de_sh 3 rfl) (da_ro (de_sh 4 rfl) (da_v dv_int da_nil)))))) (fun h5 => (dv_one (DO.vB (do_call (ok__law_told T _ _ (by /-law.10-/ exact ok9 _)) (hr.mono (by decide)) T.g__law_told T.F__law_told.kp T.b__law_told (by exact rfl) (da_ro (de_sh 3 rfl) (da_ro (de_sh 4 rfl) da_nil))))))) (rfl)

theorem all_mk {l : PySem.W.OpenLaw} {w : World} {K : Fg} {h : Heap} {mg : Str → Option Value} {fa : Addr} (X : K.In h) (G : h.Ns mainGlobals mg) (hfa : mg "law" = some (.ref fa))
    {C_Estate : Addr} (aC_Estate : PySem.W.nsIn K mainGlobals "Estate" = some (some (.ref C_Estate))) (mC_Estate : PySem.W.makesIn K C_Estate = true) (kC_Estate : PySem.W.keepIn K (.ref C_Estate) = true)
    (pg_Estate : PySem.W.plainGet K C_Estate Str.empty = true) (hd_Estate : PySem.W.hasDictIn K C_Estate = true) (po_Estate : PySem.W.plainOver K C_Estate = true) (sa_Estate : PySem.W.findIn K (.ref C_Estate) "__setattr__" = some (some (.builtin "object.__setattr__")))
    (nf_Estate_rows : PySem.W.findIn K (.ref C_Estate) "rows" = some none)
    (nf_Estate_held : PySem.W.findIn K (.ref C_Estate) "held" = some none)
    {f0 : Addr} {od0 an0 : Option Addr} {sl0 : Array (Option Value)} {oc0 kV0 dc0 pm0 cd0 ct0 : Value}
    (a0 : PySem.W.nsIn K mainGlobals "is_among" = some (some (.ref f0))) (l0 : K.lookup f0 = some ⟨oc0, od0, .func (PySem.W.fnOf "is_among" "is_among" (defArgs s_is_among) (defBody s_is_among) (defScope s_is_among) .none kV0 dc0 pm0 an0 cd0 ct0), sl0⟩) (c0 : PySem.W.codeIn K cd0 "is_among" = true) (k0 : PySem.W.keepIn K (.ref f0) = true)
    {f1 : Addr} {od1 an1 : Option Addr} {sl1 : Array (Option Value)} {oc1 kV1 dc1 pm1 cd1 ct1 : Value}
    (a1 : PySem.W.nsIn K mainGlobals "is_row" = some (some (.ref f1))) (l1 : K.lookup f1 = some ⟨oc1, od1, .func (PySem.W.fnOf "is_row" "is_row" (defArgs s_is_row) (defBody s_is_row) (defScope s_is_row) .none kV1 dc1 pm1 an1 cd1 ct1), sl1⟩) (c1 : PySem.W.codeIn K cd1 "is_row" = true) (k1 : PySem.W.keepIn K (.ref f1) = true)
    {f2 : Addr} {od2 an2 : Option Addr} {sl2 : Array (Option Value)} {oc2 kV2 dc2 pm2 cd2 ct2 : Value}
    (a2 : PySem.W.nsIn K mainGlobals "is_table" = some (some (.ref f2))) (l2 : K.lookup f2 = some ⟨oc2, od2, .func (PySem.W.fnOf "is_table" "is_table" (defArgs s_is_table) (defBody s_is_table) (defScope s_is_table) .none kV2 dc2 pm2 an2 cd2 ct2), sl2⟩) (c2 : PySem.W.codeIn K cd2 "is_table" = true) (k2 : PySem.W.keepIn K (.ref f2) = true)
    {f3 : Addr} {od3 an3 : Option Addr} {sl3 : Array (Option Value)} {oc3 kV3 dc3 pm3 cd3 ct3 : Value}
    (a3 : PySem.W.nsIn K mainGlobals "are_things" = some (some (.ref f3))) (l3 : K.lookup f3 = some ⟨oc3, od3, .func (PySem.W.fnOf "are_things" "are_things" (defArgs s_are_things) (defBody s_are_things) (defScope s_are_things) .none kV3 dc3 pm3 an3 cd3 ct3), sl3⟩) (c3 : PySem.W.codeIn K cd3 "are_things" = true) (k3 : PySem.W.keepIn K (.ref f3) = true)
    {f4 : Addr} {od4 an4 : Option Addr} {sl4 : Array (Option Value)} {oc4 kV4 dc4 pm4 cd4 ct4 : Value}
    (a4 : PySem.W.nsIn K mainGlobals "are_shares" = some (some (.ref f4))) (l4 : K.lookup f4 = some ⟨oc4, od4, .func (PySem.W.fnOf "are_shares" "are_shares" (defArgs s_are_shares) (defBody s_are_shares) (defScope s_are_shares) .none kV4 dc4 pm4 an4 cd4 ct4), sl4⟩) (c4 : PySem.W.codeIn K cd4 "are_shares" = true) (k4 : PySem.W.keepIn K (.ref f4) = true)
    {f5 : Addr} {od5 an5 : Option Addr} {sl5 : Array (Option Value)} {oc5 kV5 dc5 pm5 cd5 ct5 : Value}
    (a5 : PySem.W.nsIn K mainGlobals "need_table" = some (some (.ref f5))) (l5 : K.lookup f5 = some ⟨oc5, od5, .func (PySem.W.fnOf "need_table" "need_table" (defArgs s_need_table) (defBody s_need_table) (defScope s_need_table) .none kV5 dc5 pm5 an5 cd5 ct5), sl5⟩) (c5 : PySem.W.codeIn K cd5 "need_table" = true) (k5 : PySem.W.keepIn K (.ref f5) = true)
    {f6 : Addr} {od6 an6 : Option Addr} {sl6 : Array (Option Value)} {oc6 kV6 dc6 pm6 cd6 ct6 : Value}
    (a6 : PySem.W.nsIn K mainGlobals "need_shares" = some (some (.ref f6))) (l6 : K.lookup f6 = some ⟨oc6, od6, .func (PySem.W.fnOf "need_shares" "need_shares" (defArgs s_need_shares) (defBody s_need_shares) (defScope s_need_shares) .none kV6 dc6 pm6 an6 cd6 ct6), sl6⟩) (c6 : PySem.W.codeIn K cd6 "need_shares" = true) (k6 : PySem.W.keepIn K (.ref f6) = true)
    {f7 : Addr} {od7 an7 : Option Addr} {sl7 : Array (Option Value)} {oc7 kV7 dc7 pm7 cd7 ct7 : Value}
    (a7 : PySem.W.nsIn K mainGlobals "summed" = some (some (.ref f7))) (l7 : K.lookup f7 = some ⟨oc7, od7, .func (PySem.W.fnOf "summed" "summed" (defArgs s_summed) (defBody s_summed) (defScope s_summed) .none kV7 dc7 pm7 an7 cd7 ct7), sl7⟩) (c7 : PySem.W.codeIn K cd7 "summed" = true) (k7 : PySem.W.keepIn K (.ref f7) = true)
    {f8 : Addr} {od8 an8 : Option Addr} {sl8 : Array (Option Value)} {oc8 kV8 dc8 pm8 cd8 ct8 : Value}
    (a8 : PySem.W.nsIn K mainGlobals "feels" = some (some (.ref f8))) (l8 : K.lookup f8 = some ⟨oc8, od8, .func (PySem.W.fnOf "feels" "feels" (defArgs s_feels) (defBody s_feels) (defScope s_feels) .none kV8 dc8 pm8 an8 cd8 ct8), sl8⟩) (c8 : PySem.W.codeIn K cd8 "feels" = true) (k8 : PySem.W.keepIn K (.ref f8) = true)
    {f9 : Addr} {od9 an9 : Option Addr} {sl9 : Array (Option Value)} {oc9 kV9 dc9 pm9 cd9 ct9 : Value}
    (a9 : PySem.W.nsIn K mainGlobals "pairs_of" = some (some (.ref f9))) (l9 : K.lookup f9 = some ⟨oc9, od9, .func (PySem.W.fnOf "pairs_of" "pairs_of" (defArgs s_pairs_of) (defBody s_pairs_of) (defScope s_pairs_of) .none kV9 dc9 pm9 an9 cd9 ct9), sl9⟩) (c9 : PySem.W.codeIn K cd9 "pairs_of" = true) (k9 : PySem.W.keepIn K (.ref f9) = true)
    {f10 : Addr} {od10 an10 : Option Addr} {sl10 : Array (Option Value)} {oc10 kV10 dc10 pm10 cd10 ct10 : Value}
    (a10 : PySem.W.nsIn K mainGlobals "unenvied" = some (some (.ref f10))) (l10 : K.lookup f10 = some ⟨oc10, od10, .func (PySem.W.fnOf "unenvied" "unenvied" (defArgs s_unenvied) (defBody s_unenvied) (defScope s_unenvied) .none kV10 dc10 pm10 an10 cd10 ct10), sl10⟩) (c10 : PySem.W.codeIn K cd10 "unenvied" = true) (k10 : PySem.W.keepIn K (.ref f10) = true)
    {f11 : Addr} {od11 an11 : Option Addr} {sl11 : Array (Option Value)} {oc11 kV11 dc11 pm11 cd11 ct11 : Value}
    (a11 : PySem.W.nsIn K mainGlobals "line_of" = some (some (.ref f11))) (l11 : K.lookup f11 = some ⟨oc11, od11, .func (PySem.W.fnOf "line_of" "line_of" (defArgs s_line_of) (defBody s_line_of) (defScope s_line_of) .none kV11 dc11 pm11 an11 cd11 ct11), sl11⟩) (c11 : PySem.W.codeIn K cd11 "line_of" = true) (k11 : PySem.W.keepIn K (.ref f11) = true)
    {f12 : Addr} {od12 an12 : Option Addr} {sl12 : Array (Option Value)} {oc12 kV12 dc12 pm12 cd12 ct12 : Value}
    (a12 : PySem.W.nsIn K mainGlobals "ring_of" = some (some (.ref f12))) (l12 : K.lookup f12 = some ⟨oc12, od12, .func (PySem.W.fnOf "ring_of" "ring_of" (defArgs s_ring_of) (defBody s_ring_of) (defScope s_ring_of) .none kV12 dc12 pm12 an12 cd12 ct12), sl12⟩) (c12 : PySem.W.codeIn K cd12 "ring_of" = true) (k12 : PySem.W.keepIn K (.ref f12) = true)
    {f13 : Addr} {od13 an13 : Option Addr} {sl13 : Array (Option Value)} {oc13 kV13 dc13 pm13 cd13 ct13 : Value}
    (a13 : PySem.W.nsIn K mainGlobals "exchanged" = some (some (.ref f13))) (l13 : K.lookup f13 = some ⟨oc13, od13, .func (PySem.W.fnOf "exchanged" "exchanged" (defArgs s_exchanged) (defBody s_exchanged) (defScope s_exchanged) .none kV13 dc13 pm13 an13 cd13 ct13), sl13⟩) (c13 : PySem.W.codeIn K cd13 "exchanged" = true) (k13 : PySem.W.keepIn K (.ref f13) = true)
    {f14 : Addr} {od14 an14 : Option Addr} {sl14 : Array (Option Value)} {oc14 kV14 dc14 pm14 cd14 ct14 : Value}
    (a14 : PySem.W.nsIn K mainGlobals "settled" = some (some (.ref f14))) (l14 : K.lookup f14 = some ⟨oc14, od14, .func (PySem.W.fnOf "settled" "settled" (defArgs s_settled) (defBody s_settled) (defScope s_settled) .none kV14 dc14 pm14 an14 cd14 ct14), sl14⟩) (c14 : PySem.W.codeIn K cd14 "settled" = true) (k14 : PySem.W.keepIn K (.ref f14) = true)
    {f15 : Addr} {od15 an15 : Option Addr} {sl15 : Array (Option Value)} {oc15 kV15 dc15 pm15 cd15 ct15 : Value}
    (a15 : PySem.W.nsIn K mainGlobals "with_thing" = some (some (.ref f15))) (l15 : K.lookup f15 = some ⟨oc15, od15, .func (PySem.W.fnOf "with_thing" "with_thing" (defArgs s_with_thing) (defBody s_with_thing) (defScope s_with_thing) .none kV15 dc15 pm15 an15 cd15 ct15), sl15⟩) (c15 : PySem.W.codeIn K cd15 "with_thing" = true) (k15 : PySem.W.keepIn K (.ref f15) = true)
    {f16 : Addr} {od16 an16 : Option Addr} {sl16 : Array (Option Value)} {oc16 kV16 dc16 pm16 cd16 ct16 : Value}
    (a16 : PySem.W.nsIn K mainGlobals "goes_to" = some (some (.ref f16))) (l16 : K.lookup f16 = some ⟨oc16, od16, .func (PySem.W.fnOf "goes_to" "goes_to" (defArgs s_goes_to) (defBody s_goes_to) (defScope s_goes_to) .none kV16 dc16 pm16 an16 cd16 ct16), sl16⟩) (c16 : PySem.W.codeIn K cd16 "goes_to" = true) (k16 : PySem.W.keepIn K (.ref f16) = true)
    {f17 : Addr} {od17 an17 : Option Addr} {sl17 : Array (Option Value)} {oc17 kV17 dc17 pm17 cd17 ct17 : Value}
    (a17 : PySem.W.nsIn K mainGlobals "put" = some (some (.ref f17))) (l17 : K.lookup f17 = some ⟨oc17, od17, .func (PySem.W.fnOf "put" "put" (defArgs s_put) (defBody s_put) (defScope s_put) .none kV17 dc17 pm17 an17 cd17 ct17), sl17⟩) (c17 : PySem.W.codeIn K cd17 "put" = true) (k17 : PySem.W.keepIn K (.ref f17) = true)
    {f18 : Addr} {od18 an18 : Option Addr} {sl18 : Array (Option Value)} {oc18 kV18 dc18 pm18 cd18 ct18 : Value}
    (a18 : PySem.W.nsIn K mainGlobals "need_aside" = some (some (.ref f18))) (l18 : K.lookup f18 = some ⟨oc18, od18, .func (PySem.W.fnOf "need_aside" "need_aside" (defArgs s_need_aside) (defBody s_need_aside) (defScope s_need_aside) .none kV18 dc18 pm18 an18 cd18 ct18), sl18⟩) (c18 : PySem.W.codeIn K cd18 "need_aside" = true) (k18 : PySem.W.keepIn K (.ref f18) = true)
    {f19 : Addr} {od19 an19 : Option Addr} {sl19 : Array (Option Value)} {oc19 kV19 dc19 pm19 cd19 ct19 : Value}
    (a19 : PySem.W.nsIn K mainGlobals "steps" = some (some (.ref f19))) (l19 : K.lookup f19 = some ⟨oc19, od19, .func (PySem.W.fnOf "steps" "steps" (defArgs s_steps) (defBody s_steps) (defScope s_steps) .none kV19 dc19 pm19 an19 cd19 ct19), sl19⟩) (c19 : PySem.W.codeIn K cd19 "steps" = true) (k19 : PySem.W.keepIn K (.ref f19) = true)
    {f20 : Addr} {od20 an20 : Option Addr} {sl20 : Array (Option Value)} {oc20 kV20 dc20 pm20 cd20 ct20 : Value}
    (a20 : PySem.W.nsIn K mainGlobals "awarded" = some (some (.ref f20))) (l20 : K.lookup f20 = some ⟨oc20, od20, .func (PySem.W.fnOf "awarded" "awarded" (defArgs s_awarded) (defBody s_awarded) (defScope s_awarded) .none kV20 dc20 pm20 an20 cd20 ct20), sl20⟩) (c20 : PySem.W.codeIn K cd20 "awarded" = true) (k20 : PySem.W.keepIn K (.ref f20) = true)
    {f21 : Addr} {od21 an21 : Option Addr} {sl21 : Array (Option Value)} {oc21 kV21 dc21 pm21 cd21 ct21 : Value}
    (a21 : PySem.W.nsIn K mainGlobals "dealt_all" = some (some (.ref f21))) (l21 : K.lookup f21 = some ⟨oc21, od21, .func (PySem.W.fnOf "dealt_all" "dealt_all" (defArgs s_dealt_all) (defBody s_dealt_all) (defScope s_dealt_all) .none kV21 dc21 pm21 an21 cd21 ct21), sl21⟩) (c21 : PySem.W.codeIn K cd21 "dealt_all" = true) (k21 : PySem.W.keepIn K (.ref f21) = true)
    {f22 : Addr} {od22 an22 : Option Addr} {sl22 : Array (Option Value)} {oc22 kV22 dc22 pm22 cd22 ct22 : Value}
    (a22 : PySem.W.nsIn K mainGlobals "dealt" = some (some (.ref f22))) (l22 : K.lookup f22 = some ⟨oc22, od22, .func (PySem.W.fnOf "dealt" "dealt" (defArgs s_dealt) (defBody s_dealt) (defScope s_dealt) .none kV22 dc22 pm22 an22 cd22 ct22), sl22⟩) (c22 : PySem.W.codeIn K cd22 "dealt" = true) (k22 : PySem.W.keepIn K (.ref f22) = true)
    {f23 : Addr} {od23 an23 : Option Addr} {sl23 : Array (Option Value)} {oc23 kV23 dc23 pm23 cd23 ct23 : Value}
    (a23 : PySem.W.findIn K (.ref C_Estate) "__init__" = some (some (.ref f23))) (i23 : PySem.W.isFn K (.ref f23) = true) (l23 : K.lookup f23 = some ⟨oc23, od23, .func (PySem.W.fnOf "__init__" "Estate.__init__" (defArgs s_Estate_init) (defBody s_Estate_init) (defScope s_Estate_init) .none kV23 dc23 pm23 an23 cd23 ct23), sl23⟩) (c23 : PySem.W.codeIn K cd23 "Estate.__init__" = true) (k23 : PySem.W.keepIn K (.ref f23) = true)
    {f24 : Addr} {od24 an24 : Option Addr} {sl24 : Array (Option Value)} {oc24 kV24 dc24 pm24 cd24 ct24 : Value}
    (a24 : PySem.W.findIn K (.ref C_Estate) "come" = some (some (.ref f24))) (i24 : PySem.W.isFn K (.ref f24) = true) (l24 : K.lookup f24 = some ⟨oc24, od24, .func (PySem.W.fnOf "come" "Estate.come" (defArgs s_Estate_come) (defBody s_Estate_come) (defScope s_Estate_come) .none kV24 dc24 pm24 an24 cd24 ct24), sl24⟩) (c24 : PySem.W.codeIn K cd24 "Estate.come" = true) (k24 : PySem.W.keepIn K (.ref f24) = true)
    {f25 : Addr} {od25 an25 : Option Addr} {sl25 : Array (Option Value)} {oc25 kV25 dc25 pm25 cd25 ct25 : Value}
    (a25 : PySem.W.findIn K (.ref C_Estate) "go" = some (some (.ref f25))) (i25 : PySem.W.isFn K (.ref f25) = true) (l25 : K.lookup f25 = some ⟨oc25, od25, .func (PySem.W.fnOf "go" "Estate.go" (defArgs s_Estate_go) (defBody s_Estate_go) (defScope s_Estate_go) .none kV25 dc25 pm25 an25 cd25 ct25), sl25⟩) (c25 : PySem.W.codeIn K cd25 "Estate.go" = true) (k25 : PySem.W.keepIn K (.ref f25) = true)
    {f26 : Addr} {od26 an26 : Option Addr} {sl26 : Array (Option Value)} {oc26 kV26 dc26 pm26 cd26 ct26 : Value}
    (a26 : PySem.W.findIn K (.ref C_Estate) "join" = some (some (.ref f26))) (i26 : PySem.W.isFn K (.ref f26) = true) (l26 : K.lookup f26 = some ⟨oc26, od26, .func (PySem.W.fnOf "join" "Estate.join" (defArgs s_Estate_join) (defBody s_Estate_join) (defScope s_Estate_join) .none kV26 dc26 pm26 an26 cd26 ct26), sl26⟩) (c26 : PySem.W.codeIn K cd26 "Estate.join" = true) (k26 : PySem.W.keepIn K (.ref f26) = true)
    {f27 : Addr} {od27 an27 : Option Addr} {sl27 : Array (Option Value)} {oc27 kV27 dc27 pm27 cd27 ct27 : Value}
    (a27 : PySem.W.findIn K (.ref C_Estate) "shares" = some (some (.ref f27))) (i27 : PySem.W.isFn K (.ref f27) = true) (l27 : K.lookup f27 = some ⟨oc27, od27, .func (PySem.W.fnOf "shares" "Estate.shares" (defArgs s_Estate_shares) (defBody s_Estate_shares) (defScope s_Estate_shares) .none kV27 dc27 pm27 an27 cd27 ct27), sl27⟩) (c27 : PySem.W.codeIn K cd27 "Estate.shares" = true) (k27 : PySem.W.keepIn K (.ref f27) = true)
    {f28 : Addr} {od28 an28 : Option Addr} {sl28 : Array (Option Value)} {oc28 kV28 dc28 pm28 cd28 ct28 : Value}
    (a28 : PySem.W.findIn K (.ref C_Estate) "table" = some (some (.ref f28))) (i28 : PySem.W.isFn K (.ref f28) = true) (l28 : K.lookup f28 = some ⟨oc28, od28, .func (PySem.W.fnOf "table" "Estate.table" (defArgs s_Estate_table) (defBody s_Estate_table) (defScope s_Estate_table) .none kV28 dc28 pm28 an28 cd28 ct28), sl28⟩) (c28 : PySem.W.codeIn K cd28 "Estate.table" = true) (k28 : PySem.W.keepIn K (.ref f28) = true)
    {f29 : Addr} {od29 an29 : Option Addr} {sl29 : Array (Option Value)} {oc29 kV29 dc29 pm29 cd29 ct29 : Value}
    (a29 : PySem.W.nsIn K mainGlobals "_law_at" = some (some (.ref f29))) (l29 : K.lookup f29 = some ⟨oc29, od29, .func (PySem.W.fnOf "_law_at" "_law_at" (defArgs s__law_at) (defBody s__law_at) (defScope s__law_at) .none kV29 dc29 pm29 an29 cd29 ct29), sl29⟩) (c29 : PySem.W.codeIn K cd29 "_law_at" = true) (k29 : PySem.W.keepIn K (.ref f29) = true)
    {f30 : Addr} {od30 an30 : Option Addr} {sl30 : Array (Option Value)} {oc30 kV30 dc30 pm30 cd30 ct30 : Value}
    (a30 : PySem.W.nsIn K mainGlobals "_law_mixed" = some (some (.ref f30))) (l30 : K.lookup f30 = some ⟨oc30, od30, .func (PySem.W.fnOf "_law_mixed" "_law_mixed" (defArgs s__law_mixed) (defBody s__law_mixed) (defScope s__law_mixed) .none kV30 dc30 pm30 an30 cd30 ct30), sl30⟩) (c30 : PySem.W.codeIn K cd30 "_law_mixed" = true) (k30 : PySem.W.keepIn K (.ref f30) = true)
    {f31 : Addr} {od31 an31 : Option Addr} {sl31 : Array (Option Value)} {oc31 kV31 dc31 pm31 cd31 ct31 : Value}
    (a31 : PySem.W.nsIn K mainGlobals "_law_sum" = some (some (.ref f31))) (l31 : K.lookup f31 = some ⟨oc31, od31, .func (PySem.W.fnOf "_law_sum" "_law_sum" (defArgs s__law_sum) (defBody s__law_sum) (defScope s__law_sum) .none kV31 dc31 pm31 an31 cd31 ct31), sl31⟩) (c31 : PySem.W.codeIn K cd31 "_law_sum" = true) (k31 : PySem.W.keepIn K (.ref f31) = true)
    {f32 : Addr} {od32 an32 : Option Addr} {sl32 : Array (Option Value)} {oc32 kV32 dc32 pm32 cd32 ct32 : Value}
    (a32 : PySem.W.nsIn K mainGlobals "_law_copy" = some (some (.ref f32))) (l32 : K.lookup f32 = some ⟨oc32, od32, .func (PySem.W.fnOf "_law_copy" "_law_copy" (defArgs s__law_copy) (defBody s__law_copy) (defScope s__law_copy) .none kV32 dc32 pm32 an32 cd32 ct32), sl32⟩) (c32 : PySem.W.codeIn K cd32 "_law_copy" = true) (k32 : PySem.W.keepIn K (.ref f32) = true)
    {f33 : Addr} {od33 an33 : Option Addr} {sl33 : Array (Option Value)} {oc33 kV33 dc33 pm33 cd33 ct33 : Value}
    (a33 : PySem.W.nsIn K mainGlobals "_law_worth" = some (some (.ref f33))) (l33 : K.lookup f33 = some ⟨oc33, od33, .func (PySem.W.fnOf "_law_worth" "_law_worth" (defArgs s__law_worth) (defBody s__law_worth) (defScope s__law_worth) .none kV33 dc33 pm33 an33 cd33 ct33), sl33⟩) (c33 : PySem.W.codeIn K cd33 "_law_worth" = true) (k33 : PySem.W.keepIn K (.ref f33) = true)
    {f34 : Addr} {od34 an34 : Option Addr} {sl34 : Array (Option Value)} {oc34 kV34 dc34 pm34 cd34 ct34 : Value}
    (a34 : PySem.W.nsIn K mainGlobals "_law_to" = some (some (.ref f34))) (l34 : K.lookup f34 = some ⟨oc34, od34, .func (PySem.W.fnOf "_law_to" "_law_to" (defArgs s__law_to) (defBody s__law_to) (defScope s__law_to) .none kV34 dc34 pm34 an34 cd34 ct34), sl34⟩) (c34 : PySem.W.codeIn K cd34 "_law_to" = true) (k34 : PySem.W.keepIn K (.ref f34) = true)
    {f35 : Addr} {od35 an35 : Option Addr} {sl35 : Array (Option Value)} {oc35 kV35 dc35 pm35 cd35 ct35 : Value}
    (a35 : PySem.W.nsIn K mainGlobals "_law_put" = some (some (.ref f35))) (l35 : K.lookup f35 = some ⟨oc35, od35, .func (PySem.W.fnOf "_law_put" "_law_put" (defArgs s__law_put) (defBody s__law_put) (defScope s__law_put) .none kV35 dc35 pm35 an35 cd35 ct35), sl35⟩) (c35 : PySem.W.codeIn K cd35 "_law_put" = true) (k35 : PySem.W.keepIn K (.ref f35) = true)
    {f36 : Addr} {od36 an36 : Option Addr} {sl36 : Array (Option Value)} {oc36 kV36 dc36 pm36 cd36 ct36 : Value}
    (a36 : PySem.W.nsIn K mainGlobals "_law_moved" = some (some (.ref f36))) (l36 : K.lookup f36 = some ⟨oc36, od36, .func (PySem.W.fnOf "_law_moved" "_law_moved" (defArgs s__law_moved) (defBody s__law_moved) (defScope s__law_moved) .none kV36 dc36 pm36 an36 cd36 ct36), sl36⟩) (c36 : PySem.W.codeIn K cd36 "_law_moved" = true) (k36 : PySem.W.keepIn K (.ref f36) = true)
    {f37 : Addr} {od37 an37 : Option Addr} {sl37 : Array (Option Value)} {oc37 kV37 dc37 pm37 cd37 ct37 : Value}
    (a37 : PySem.W.nsIn K mainGlobals "_law_told" = some (some (.ref f37))) (l37 : K.lookup f37 = some ⟨oc37, od37, .func (PySem.W.fnOf "_law_told" "_law_told" (defArgs s__law_told) (defBody s__law_told) (defScope s__law_told) .none kV37 dc37 pm37 an37 cd37 ct37), sl37⟩) (c37 : PySem.W.codeIn K cd37 "_law_told" = true) (k37 : PySem.W.keepIn K (.ref f37) = true)
    {f38 : Addr} {od38 an38 : Option Addr} {sl38 : Array (Option Value)} {oc38 kV38 dc38 pm38 cd38 ct38 : Value}
    (a38 : PySem.W.nsIn K mainGlobals "_law_looked" = some (some (.ref f38))) (l38 : K.lookup f38 = some ⟨oc38, od38, .func (PySem.W.fnOf "_law_looked" "_law_looked" (defArgs s__law_looked) (defBody s__law_looked) (defScope s__law_looked) .none kV38 dc38 pm38 an38 cd38 ct38), sl38⟩) (c38 : PySem.W.codeIn K cd38 "_law_looked" = true) (k38 : PySem.W.keepIn K (.ref f38) = true)
    {f39 : Addr} {od39 an39 : Option Addr} {sl39 : Array (Option Value)} {oc39 kV39 dc39 pm39 cd39 ct39 : Value}
    (a39 : PySem.W.nsIn K mainGlobals "law" = some (some (.ref f39))) (l39 : K.lookup f39 = some ⟨oc39, od39, .func (PySem.W.fnOf "law" "law" (defArgs s_law) (defBody s_law) (defScope s_law) .none kV39 dc39 pm39 an39 cd39 ct39), sl39⟩) (c39 : PySem.W.codeIn K cd39 "law" = true) (k39 : PySem.W.keepIn K (.ref f39) = true)
    {t_MOST_HEIRS : Tok} (q_MOST_HEIRS : PySem.W.nsIn K mainGlobals "MOST_HEIRS" = some (some (.int 8 t_MOST_HEIRS)))
    {t_MOST_THINGS : Tok} (q_MOST_THINGS : PySem.W.nsIn K mainGlobals "MOST_THINGS" = some (some (.int 40 t_MOST_THINGS)))
    {t_MOST_WORTH : Tok} (q_MOST_WORTH : PySem.W.nsIn K mainGlobals "MOST_WORTH" = some (some (.int 1000000 t_MOST_WORTH)))
    {C_BadTable : Addr} (aC_BadTable : PySem.W.nsIn K mainGlobals "BadTable" = some (some (.ref C_BadTable))) (xC_BadTable : PySem.W.excIn K C_BadTable [.type "ValueError", .type "Exception", .type "BaseException", .type "object"] "ValueError.__new__" = true) (kC_BadTable : PySem.W.keepIn K (.ref C_BadTable) = true) (bC_BadTable : PySem.W.subIn K (.ref C_BadTable) (.type "BaseException") = some true) (tC_BadTable : PySem.W.typeIn K (.ref C_BadTable) = some (.type "type"))
    {C_BadShares : Addr} (aC_BadShares : PySem.W.nsIn K mainGlobals "BadShares" = some (some (.ref C_BadShares))) (xC_BadShares : PySem.W.excIn K C_BadShares [.type "ValueError", .type "Exception", .type "BaseException", .type "object"] "ValueError.__new__" = true) (kC_BadShares : PySem.W.keepIn K (.ref C_BadShares) = true) (bC_BadShares : PySem.W.subIn K (.ref C_BadShares) (.type "BaseException") = some true) (tC_BadShares : PySem.W.typeIn K (.ref C_BadShares) = some (.type "type"))
    {C_BadThing : Addr} (aC_BadThing : PySem.W.nsIn K mainGlobals "BadThing" = some (some (.ref C_BadThing))) (xC_BadThing : PySem.W.excIn K C_BadThing [.type "ValueError", .type "Exception", .type "BaseException", .type "object"] "ValueError.__new__" = true) (kC_BadThing : PySem.W.keepIn K (.ref C_BadThing) = true) (bC_BadThing : PySem.W.subIn K (.ref C_BadThing) (.type "BaseException") = some true) (tC_BadThing : PySem.W.typeIn K (.ref C_BadThing) = some (.type "type"))
    {C_BadHeir : Addr} (aC_BadHeir : PySem.W.nsIn K mainGlobals "BadHeir" = some (some (.ref C_BadHeir))) (xC_BadHeir : PySem.W.excIn K C_BadHeir [.type "ValueError", .type "Exception", .type "BaseException", .type "object"] "ValueError.__new__" = true) (kC_BadHeir : PySem.W.keepIn K (.ref C_BadHeir) = true) (bC_BadHeir : PySem.W.subIn K (.ref C_BadHeir) (.type "BaseException") = some true) (tC_BadHeir : PySem.W.typeIn K (.ref C_BadHeir) = some (.type "type"))
    {C_Full : Addr} (aC_Full : PySem.W.nsIn K mainGlobals "Full" = some (some (.ref C_Full))) (xC_Full : PySem.W.excIn K C_Full [.type "ValueError", .type "Exception", .type "BaseException", .type "object"] "ValueError.__new__" = true) (kC_Full : PySem.W.keepIn K (.ref C_Full) = true) (bC_Full : PySem.W.subIn K (.ref C_Full) (.type "BaseException") = some true) (tC_Full : PySem.W.typeIn K (.ref C_Full) = some (.type "type"))
    (z_all : PySem.W.nsIn K mainGlobals "all" = some none)
    (z_any : PySem.W.nsIn K mainGlobals "any" = some none)
    (z_bool : PySem.W.nsIn K mainGlobals "bool" = some none)
    (z_enumerate : PySem.W.nsIn K mainGlobals "enumerate" = some none)
    (z_int : PySem.W.nsIn K mainGlobals "int" = some none)
    (z_isinstance : PySem.W.nsIn K mainGlobals "isinstance" = some none)
    (z_len : PySem.W.nsIn K mainGlobals "len" = some none)
    (z_list : PySem.W.nsIn K mainGlobals "list" = some none)
    (z_min : PySem.W.nsIn K mainGlobals "min" = some none)
    (z_range : PySem.W.nsIn K mainGlobals "range" = some none)
    (z_reversed : PySem.W.nsIn K mainGlobals "reversed" = some none)
    (z_set : PySem.W.nsIn K mainGlobals "set" = some none)
    (z_sorted : PySem.W.nsIn K mainGlobals "sorted" = some none)
    (z_sum : PySem.W.nsIn K mainGlobals "sum" = some none)
    (z_tuple : PySem.W.nsIn K mainGlobals "tuple" = some none) :
    ∃ fd : FuncData, (∀ (s : Shared) (v : Value), BindsTo s fd ⟨[v], []⟩ [("_law_script", v)]) ∧ ∀ base : Heap, K.In base → base.Ns mainGlobals mg → FnOk l.prog w K mg base (L2.CX l.prog w) 9 fa fd ["_law_script"] (spLaw K) := by
  have e := hfa.symm.trans (PySem.W.mg_of X G a39)
  cases e
  let T : Tx K mg := { c_Estate := C_Estate, g_Estate := PySem.W.mg_of X G aC_Estate, mk_Estate := mC_Estate, kc_Estate := kC_Estate, cl_Estate := ⟨pg_Estate, hd_Estate, po_Estate, sa_Estate⟩, nf_Estate_rows := nf_Estate_rows, nf_Estate_held := nf_Estate_held, a_is_among := f0, fd_is_among := _, F_is_among := fun_mk (st := s_is_among) l0 c0 k0, g_is_among := PySem.W.mg_of X G a0, b_is_among := (fun_mk (st := s_is_among) l0 c0 k0).binds (ps := ["thing", "least", "most"]) (fun _ _ _ _ _ _ us hl => match us, hl with | [_, _, _], _ => rfl), a_is_row := f1, fd_is_row := _, F_is_row := fun_mk (st := s_is_row) l1 c1 k1, g_is_row := PySem.W.mg_of X G a1, b_is_row := (fun_mk (st := s_is_row) l1 c1 k1).binds (ps := ["thing", "many"]) (fun _ _ _ _ _ _ us hl => match us, hl with | [_, _], _ => rfl), a_is_table := f2, fd_is_table := _, F_is_table := fun_mk (st := s_is_table) l2 c2 k2, g_is_table := PySem.W.mg_of X G a2, b_is_table := (fun_mk (st := s_is_table) l2 c2 k2).binds (ps := ["thing"]) (fun _ _ _ _ _ _ us hl => match us, hl with | [_], _ => rfl), a_are_things := f3, fd_are_things := _, F_are_things := fun_mk (st := s_are_things) l3 c3 k3, g_are_things := PySem.W.mg_of X G a3, b_are_things := (fun_mk (st := s_are_things) l3 c3 k3).binds (ps := ["thing", "many"]) (fun _ _ _ _ _ _ us hl => match us, hl with | [_, _], _ => rfl), a_are_shares := f4, fd_are_shares := _, F_are_shares := fun_mk (st := s_are_shares) l4 c4 k4, g_are_shares := PySem.W.mg_of X G a4, b_are_shares := (fun_mk (st := s_are_shares) l4 c4 k4).binds (ps := ["thing", "heirs", "things"]) (fun _ _ _ _ _ _ us hl => match us, hl with | [_, _, _], _ => rfl), a_need_table := f5, fd_need_table := _, F_need_table := fun_mk (st := s_need_table) l5 c5 k5, g_need_table := PySem.W.mg_of X G a5, b_need_table := (fun_mk (st := s_need_table) l5 c5 k5).binds (ps := ["table"]) (fun _ _ _ _ _ _ us hl => match us, hl with | [_], _ => rfl), a_need_shares := f6, fd_need_shares := _, F_need_shares := fun_mk (st := s_need_shares) l6 c6 k6, g_need_shares := PySem.W.mg_of X G a6, b_need_shares := (fun_mk (st := s_need_shares) l6 c6 k6).binds (ps := ["table", "shares"]) (fun _ _ _ _ _ _ us hl => match us, hl with | [_, _], _ => rfl), a_summed := f7, fd_summed := _, F_summed := fun_mk (st := s_summed) l7 c7 k7, g_summed := PySem.W.mg_of X G a7, b_summed := (fun_mk (st := s_summed) l7 c7 k7).binds (ps := ["row", "things"]) (fun _ _ _ _ _ _ us hl => match us, hl with | [_, _], _ => rfl), a_feels := f8, fd_feels := _, F_feels := fun_mk (st := s_feels) l8 c8 k8, g_feels := PySem.W.mg_of X G a8, b_feels := (fun_mk (st := s_feels) l8 c8 k8).binds (ps := ["table", "shares", "heir", "other"]) (fun _ _ _ _ _ _ us hl => match us, hl with | [_, _, _, _], _ => rfl), a_pairs_of := f9, fd_pairs_of := _, F_pairs_of := fun_mk (st := s_pairs_of) l9 c9 k9, g_pairs_of := PySem.W.mg_of X G a9, b_pairs_of := (fun_mk (st := s_pairs_of) l9 c9 k9).binds (ps := ["table", "shares"]) (fun _ _ _ _ _ _ us hl => match us, hl with | [_, _], _ => rfl), a_unenvied := f10, fd_unenvied := _, F_unenvied := fun_mk (st := s_unenvied) l10 c10 k10, g_unenvied := PySem.W.mg_of X G a10, b_unenvied := (fun_mk (st := s_unenvied) l10 c10 k10).binds (ps := ["pairs", "heirs"]) (fun _ _ _ _ _ _ us hl => match us, hl with | [_, _], _ => rfl), a_line_of := f11, fd_line_of := _, F_line_of := fun_mk (st := s_line_of) l11 c11 k11, g_line_of := PySem.W.mg_of X G a11, b_line_of := (fun_mk (st := s_line_of) l11 c11 k11).binds (ps := ["pairs", "many"]) (fun _ _ _ _ _ _ us hl => match us, hl with | [_, _], _ => rfl), a_ring_of := f12, fd_ring_of := _, F_ring_of := fun_mk (st := s_ring_of) l12 c12 k12, g_ring_of := PySem.W.mg_of X G a12, b_ring_of := (fun_mk (st := s_ring_of) l12 c12 k12).binds (ps := ["pairs", "many"]) (fun _ _ _ _ _ _ us hl => match us, hl with | [_, _], _ => rfl), a_exchanged := f13, fd_exchanged := _, F_exchanged := fun_mk (st := s_exchanged) l13 c13 k13, g_exchanged := PySem.W.mg_of X G a13, b_exchanged := (fun_mk (st := s_exchanged) l13 c13 k13).binds (ps := ["shares", "heirs"]) (fun _ _ _ _ _ _ us hl => match us, hl with | [_, _], _ => rfl), a_settled := f14, fd_settled := _, F_settled := fun_mk (st := s_settled) l14 c14 k14, g_settled := PySem.W.mg_of X G a14, b_settled := (fun_mk (st := s_settled) l14 c14 k14).binds (ps := ["table", "shares"]) (fun _ _ _ _ _ _ us hl => match us, hl with | [_, _], _ => rfl), a_with_thing := f15, fd_with_thing := _, F_with_thing := fun_mk (st := s_with_thing) l15 c15 k15, g_with_thing := PySem.W.mg_of X G a15, b_with_thing := (fun_mk (st := s_with_thing) l15 c15 k15).binds (ps := ["shares", "heir", "thing"]) (fun _ _ _ _ _ _ us hl => match us, hl with | [_, _, _], _ => rfl), a_goes_to := f16, fd_goes_to := _, F_goes_to := fun_mk (st := s_goes_to) l16 c16 k16, g_goes_to := PySem.W.mg_of X G a16, b_goes_to := (fun_mk (st := s_goes_to) l16 c16 k16).binds (ps := ["table", "shares"]) (fun _ _ _ _ _ _ us hl => match us, hl with | [_, _], _ => rfl), a_put := f17, fd_put := _, F_put := fun_mk (st := s_put) l17 c17 k17, g_put := PySem.W.mg_of X G a17, b_put := (fun_mk (st := s_put) l17 c17 k17).binds (ps := ["table", "shares", "thing"]) (fun _ _ _ _ _ _ us hl => match us, hl with | [_, _, _], _ => rfl), a_need_aside := f18, fd_need_aside := _, F_need_aside := fun_mk (st := s_need_aside) l18 c18 k18, g_need_aside := PySem.W.mg_of X G a18, b_need_aside := (fun_mk (st := s_need_aside) l18 c18 k18).binds (ps := ["table", "shares", "thing"]) (fun _ _ _ _ _ _ us hl => match us, hl with | [_, _, _], _ => rfl), a_steps := f19, fd_steps := _, F_steps := fun_mk (st := s_steps) l19 c19 k19, g_steps := PySem.W.mg_of X G a19, b_steps := (fun_mk (st := s_steps) l19 c19 k19).binds (ps := ["table", "shares", "thing"]) (fun _ _ _ _ _ _ us hl => match us, hl with | [_, _, _], _ => rfl), a_awarded := f20, fd_awarded := _, F_awarded := fun_mk (st := s_awarded) l20 c20 k20, g_awarded := PySem.W.mg_of X G a20, b_awarded := (fun_mk (st := s_awarded) l20 c20 k20).binds (ps := ["table", "shares", "thing"]) (fun _ _ _ _ _ _ us hl => match us, hl with | [_, _, _], _ => rfl), a_dealt_all := f21, fd_dealt_all := _, F_dealt_all := fun_mk (st := s_dealt_all) l21 c21 k21, g_dealt_all := PySem.W.mg_of X G a21, b_dealt_all := (fun_mk (st := s_dealt_all) l21 c21 k21).binds (ps := ["table"]) (fun _ _ _ _ _ _ us hl => match us, hl with | [_], _ => rfl), a_dealt := f22, fd_dealt := _, F_dealt := fun_mk (st := s_dealt) l22 c22 k22, g_dealt := PySem.W.mg_of X G a22, b_dealt := (fun_mk (st := s_dealt) l22 c22 k22).binds (ps := ["table"]) (fun _ _ _ _ _ _ us hl => match us, hl with | [_], _ => rfl), a_Estate_init := f23, fd_Estate_init := _, F_Estate_init := fun_mk (st := s_Estate_init) l23 c23 k23, at_Estate_init := a23, fn_Estate_init := i23, b_Estate_init := (fun_mk (st := s_Estate_init) l23 c23 k23).binds (ps := ["self", "heirs"]) (fun _ _ _ _ _ _ us hl => match us, hl with | [_, _], _ => rfl), a_Estate_come := f24, fd_Estate_come := _, F_Estate_come := fun_mk (st := s_Estate_come) l24 c24 k24, at_Estate_come := a24, fn_Estate_come := i24, b_Estate_come := (fun_mk (st := s_Estate_come) l24 c24 k24).binds (ps := ["self", "worths"]) (fun _ _ _ _ _ _ us hl => match us, hl with | [_, _], _ => rfl), a_Estate_go := f25, fd_Estate_go := _, F_Estate_go := fun_mk (st := s_Estate_go) l25 c25 k25, at_Estate_go := a25, fn_Estate_go := i25, b_Estate_go := (fun_mk (st := s_Estate_go) l25 c25 k25).binds (ps := ["self", "heir"]) (fun _ _ _ _ _ _ us hl => match us, hl with | [_, _], _ => rfl), a_Estate_join := f26, fd_Estate_join := _, F_Estate_join := fun_mk (st := s_Estate_join) l26 c26 k26, at_Estate_join := a26, fn_Estate_join := i26, b_Estate_join := (fun_mk (st := s_Estate_join) l26 c26 k26).binds (ps := ["self", "worths"]) (fun _ _ _ _ _ _ us hl => match us, hl with | [_, _], _ => rfl), a_Estate_shares := f27, fd_Estate_shares := _, F_Estate_shares := fun_mk (st := s_Estate_shares) l27 c27 k27, at_Estate_shares := a27, fn_Estate_shares := i27, b_Estate_shares := (fun_mk (st := s_Estate_shares) l27 c27 k27).binds (ps := ["self"]) (fun _ _ _ _ _ _ us hl => match us, hl with | [_], _ => rfl), a_Estate_table := f28, fd_Estate_table := _, F_Estate_table := fun_mk (st := s_Estate_table) l28 c28 k28, at_Estate_table := a28, fn_Estate_table := i28, b_Estate_table := (fun_mk (st := s_Estate_table) l28 c28 k28).binds (ps := ["self"]) (fun _ _ _ _ _ _ us hl => match us, hl with | [_], _ => rfl), a__law_at := f29, fd__law_at := _, F__law_at := fun_mk (st := s__law_at) l29 c29 k29, g__law_at := PySem.W.mg_of X G a29, b__law_at := (fun_mk (st := s__law_at) l29 c29 k29).binds (ps := ["_law_script", "_law_k"]) (fun _ _ _ _ _ _ us hl => match us, hl with | [_, _], _ => rfl), a__law_mixed := f30, fd__law_mixed := _, F__law_mixed := fun_mk (st := s__law_mixed) l30 c30 k30, g__law_mixed := PySem.W.mg_of X G a30, b__law_mixed := (fun_mk (st := s__law_mixed) l30 c30 k30).binds (ps := ["_law_cell", "_law_k"]) (fun _ _ _ _ _ _ us hl => match us, hl with | [_, _], _ => rfl), a__law_sum := f31, fd__law_sum := _, F__law_sum := fun_mk (st := s__law_sum) l31 c31 k31, g__law_sum := PySem.W.mg_of X G a31, b__law_sum := (fun_mk (st := s__law_sum) l31 c31 k31).binds (ps := ["_law_row", "_law_things"]) (fun _ _ _ _ _ _ us hl => match us, hl with | [_, _], _ => rfl), a__law_copy := f32, fd__law_copy := _, F__law_copy := fun_mk (st := s__law_copy) l32 c32 k32, g__law_copy := PySem.W.mg_of X G a32, b__law_copy := (fun_mk (st := s__law_copy) l32 c32 k32).binds (ps := ["_law_rows"]) (fun _ _ _ _ _ _ us hl => match us, hl with | [_], _ => rfl), a__law_worth := f33, fd__law_worth := _, F__law_worth := fun_mk (st := s__law_worth) l33 c33 k33, g__law_worth := PySem.W.mg_of X G a33, b__law_worth := (fun_mk (st := s__law_worth) l33 c33 k33).binds (ps := ["_law_number"]) (fun _ _ _ _ _ _ us hl => match us, hl with | [_], _ => rfl), a__law_to := f34, fd__law_to := _, F__law_to := fun_mk (st := s__law_to) l34 c34 k34, g__law_to := PySem.W.mg_of X G a34, b__law_to := (fun_mk (st := s__law_to) l34 c34 k34).binds (ps := ["_law_row", "_law_held"]) (fun _ _ _ _ _ _ us hl => match us, hl with | [_, _], _ => rfl), a__law_put := f35, fd__law_put := _, F__law_put := fun_mk (st := s__law_put) l35 c35 k35, g__law_put := PySem.W.mg_of X G a35, b__law_put := (fun_mk (st := s__law_put) l35 c35 k35).binds (ps := ["_law_row", "_law_held", "_law_things"]) (fun _ _ _ _ _ _ us hl => match us, hl with | [_, _, _], _ => rfl), a__law_moved := f36, fd__law_moved := _, F__law_moved := fun_mk (st := s__law_moved) l36 c36 k36, g__law_moved := PySem.W.mg_of X G a36, b__law_moved := (fun_mk (st := s__law_moved) l36 c36 k36).binds (ps := ["_law_estate", "_law_cell", "_law_row", "_law_held"]) (fun _ _ _ _ _ _ us hl => match us, hl with | [_, _, _, _], _ => rfl), a__law_told := f37, fd__law_told := _, F__law_told := fun_mk (st := s__law_told) l37 c37 k37, g__law_told := PySem.W.mg_of X G a37, b__law_told := (fun_mk (st := s__law_told) l37 c37 k37).binds (ps := ["_law_row", "_law_held"]) (fun _ _ _ _ _ _ us hl => match us, hl with | [_, _], _ => rfl), a__law_looked := f38, fd__law_looked := _, F__law_looked := fun_mk (st := s__law_looked) l38 c38 k38, g__law_looked := PySem.W.mg_of X G a38, b__law_looked := (fun_mk (st := s__law_looked) l38 c38 k38).binds (ps := ["_law_estate", "_law_row", "_law_held", "_law_way"]) (fun _ _ _ _ _ _ us hl => match us, hl with | [_, _, _, _], _ => rfl), a_law := fa, fd_law := _, F_law := fun_mk (st := s_law) l39 c39 k39, g_law := PySem.W.mg_of X G a39, b_law := (fun_mk (st := s_law) l39 c39 k39).binds (ps := ["_law_script"]) (fun _ _ _ _ _ _ us hl => match us, hl with | [_], _ => rfl), k_MOST_HEIRS := t_MOST_HEIRS, g_MOST_HEIRS := PySem.W.mg_of X G q_MOST_HEIRS, k_MOST_THINGS := t_MOST_THINGS, g_MOST_THINGS := PySem.W.mg_of X G q_MOST_THINGS, k_MOST_WORTH := t_MOST_WORTH, g_MOST_WORTH := PySem.W.mg_of X G q_MOST_WORTH, c_BadTable := C_BadTable, g_BadTable := PySem.W.mg_of X G aC_BadTable, x_BadTable := xC_BadTable, k_BadTable := kC_BadTable, b_BadTable := bC_BadTable, t_BadTable := tC_BadTable, c_BadShares := C_BadShares, g_BadShares := PySem.W.mg_of X G aC_BadShares, x_BadShares := xC_BadShares, k_BadShares := kC_BadShares, b_BadShares := bC_BadShares, t_BadShares := tC_BadShares, c_BadThing := C_BadThing, g_BadThing := PySem.W.mg_of X G aC_BadThing, x_BadThing := xC_BadThing, k_BadThing := kC_BadThing, b_BadThing := bC_BadThing, t_BadThing := tC_BadThing, c_BadHeir := C_BadHeir, g_BadHeir := PySem.W.mg_of X G aC_BadHeir, x_BadHeir := xC_BadHeir, k_BadHeir := kC_BadHeir, b_BadHeir := bC_BadHeir, t_BadHeir := tC_BadHeir, c_Full := C_Full, g_Full := PySem.W.mg_of X G aC_Full, x_Full := xC_Full, k_Full := kC_Full, b_Full := bC_Full, t_Full := tC_Full, bt := ⟨PySem.W.mg_none_of X G z_all, PySem.W.mg_none_of X G z_any, PySem.W.mg_none_of X G z_bool, PySem.W.mg_none_of X G z_enumerate, PySem.W.mg_none_of X G z_int, PySem.W.mg_none_of X G z_isinstance, PySem.W.mg_none_of X G z_len, PySem.W.mg_none_of X G z_list, PySem.W.mg_none_of X G z_min, PySem.W.mg_none_of X G z_range, PySem.W.mg_none_of X G z_reversed, PySem.W.mg_none_of X G z_set, PySem.W.mg_none_of X G z_sorted, PySem.W.mg_none_of X G z_sum, PySem.W.mg_none_of X G z_tuple⟩ }
  exact ⟨PySem.W.fnOf "law" "law" (defArgs s_law) (defBody s_law) (defScope s_law) .none kV39 dc39 pm39 an39 cd39 ct39, fun s v => .of_eq rfl, fun base _ _ => law_ok fun ns hns => ok_law T ns hns⟩
end Th

set_option Elab.async false
set_option linter.all false
set_option maxRecDepth 100000

open PySem PySem.W PyProof.Rows
set_option maxRecDepth 100000 in
set_option maxHeartbeats 0 in
theorem PySem.Challenge.cw_thingdeal_k15_whole_heirs_of_one_mind_holds : PySem.Challenge.rw_thingdeal_k15_whole_heirs_of_one_mind.Holds := by
  w_on; o_law; k_head; (case hw => w_witness2)
  k_fill
  refine DL.law_walk (l := PySem.Challenge.rw_thingdeal_k15_whole_heirs_of_one_mind) (k := 9) (x := "_law_script") rfl rfl ⟨rfl, by decide, by decide⟩ (fun w h Y => PySem.W.kIn_of Y) ?F
  case F =>
    intro w mg fa h KX G hmg
    refine' Th.all_mk KX G hmg ?aC_Estate ?mC_Estate ?kC_Estate ?pg_Estate ?hd_Estate ?po_Estate ?sa_Estate ?nf_Estate_rows ?nf_Estate_held ?a0 ?l0 ?c0 ?k0 ?a1 ?l1 ?c1 ?k1 ?a2 ?l2 ?c2 ?k2 ?a3 ?l3 ?c3 ?k3 ?a4 ?l4 ?c4 ?k4 ?a5 ?l5 ?c5 ?k5 ?a6 ?l6 ?c6 ?k6 ?a7 ?l7 ?c7 ?k7 ?a8 ?l8 ?c8 ?k8 ?a9 ?l9 ?c9 ?k9 ?a10 ?l10 ?c10 ?k10 ?a11 ?l11 ?c11 ?k11 ?a12 ?l12 ?c12 ?k12 ?a13 ?l13 ?c13 ?k13 ?a14 ?l14 ?c14 ?k14 ?a15 ?l15 ?c15 ?k15 ?a16 ?l16 ?c16 ?k16 ?a17 ?l17 ?c17 ?k17 ?a18 ?l18 ?c18 ?k18 ?a19 ?l19 ?c19 ?k19 ?a20 ?l20 ?c20 ?k20 ?a21 ?l21 ?c21 ?k21 ?a22 ?l22 ?c22 ?k22 ?a23 ?i23 ?l23 ?c23 ?k23 ?a24 ?i24 ?l24 ?c24 ?k24 ?a25 ?i25 ?l25 ?c25 ?k25 ?a26 ?i26 ?l26 ?c26 ?k26 ?a27 ?i27 ?l27 ?c27 ?k27 ?a28 ?i28 ?l28 ?c28 ?k28 ?a29 ?l29 ?c29 ?k29 ?a30 ?l30 ?c30 ?k30 ?a31 ?l31 ?c31 ?k31 ?a32 ?l32 ?c32 ?k32 ?a33 ?l33 ?c33 ?k33 ?a34 ?l34 ?c34 ?k34 ?a35 ?l35 ?c35 ?k35 ?a36 ?l36 ?c36 ?k36 ?a37 ?l37 ?c37 ?k37 ?a38 ?l38 ?c38 ?k38 ?a39 ?l39 ?c39 ?k39 ?q_MOST_HEIRS ?q_MOST_THINGS ?q_MOST_WORTH ?aC_BadTable ?xC_BadTable ?kC_BadTable ?bC_BadTable ?tC_BadTable ?aC_BadShares ?xC_BadShares ?kC_BadShares ?bC_BadShares ?tC_BadShares ?aC_BadThing ?xC_BadThing ?kC_BadThing ?bC_BadThing ?tC_BadThing ?aC_BadHeir ?xC_BadHeir ?kC_BadHeir ?bC_BadHeir ?tC_BadHeir ?aC_Full ?xC_Full ?kC_Full ?bC_Full ?tC_Full ?z_all ?z_any ?z_bool ?z_enumerate ?z_int ?z_isinstance ?z_len ?z_list ?z_min ?z_range ?z_reversed ?z_set ?z_sorted ?z_sum ?z_tuple
    (case aC_Estate => k_is)
    (case mC_Estate => k_is)
    (case kC_Estate => k_is)
    (case pg_Estate => k_is)
    (case hd_Estate => k_is)
    (case po_Estate => k_is)
    (case sa_Estate => k_is)
    (case nf_Estate_rows => k_is)
    (case nf_Estate_held => k_is)
    (case a0 => k_is)
    (case l0 => k_is)
    (case c0 => k_is)
    (case k0 => k_is)
    (case a1 => k_is)
    (case l1 => k_is)
    (case c1 => k_is)
    (case k1 => k_is)
    (case a2 => k_is)
    (case l2 => k_is)
    (case c2 => k_is)
    (case k2 => k_is)
    (case a3 => k_is)
    (case l3 => k_is)
    (case c3 => k_is)
    (case k3 => k_is)
    (case a4 => k_is)
    (case l4 => k_is)
    (case c4 => k_is)
    (case k4 => k_is)
    (case a5 => k_is)
    (case l5 => k_is)
    (case c5 => k_is)
    (case k5 => k_is)
    (case a6 => k_is)
    (case l6 => k_is)
    (case c6 => k_is)
    (case k6 => k_is)
    (case a7 => k_is)
    (case l7 => k_is)
    (case c7 => k_is)
    (case k7 => k_is)
    (case a8 => k_is)
    (case l8 => k_is)
    (case c8 => k_is)
    (case k8 => k_is)
    (case a9 => k_is)
    (case l9 => k_is)
    (case c9 => k_is)
    (case k9 => k_is)
    (case a10 => k_is)
    (case l10 => k_is)
    (case c10 => k_is)
    (case k10 => k_is)
    (case a11 => k_is)
    (case l11 => k_is)
    (case c11 => k_is)
    (case k11 => k_is)
    (case a12 => k_is)
    (case l12 => k_is)
    (case c12 => k_is)
    (case k12 => k_is)
    (case a13 => k_is)
    (case l13 => k_is)
    (case c13 => k_is)
    (case k13 => k_is)
    (case a14 => k_is)
    (case l14 => k_is)
    (case c14 => k_is)
    (case k14 => k_is)
    (case a15 => k_is)
    (case l15 => k_is)
    (case c15 => k_is)
    (case k15 => k_is)
    (case a16 => k_is)
    (case l16 => k_is)
    (case c16 => k_is)
    (case k16 => k_is)
    (case a17 => k_is)
    (case l17 => k_is)
    (case c17 => k_is)
    (case k17 => k_is)
    (case a18 => k_is)
    (case l18 => k_is)
    (case c18 => k_is)
    (case k18 => k_is)
    (case a19 => k_is)
    (case l19 => k_is)
    (case c19 => k_is)
    (case k19 => k_is)
    (case a20 => k_is)
    (case l20 => k_is)
    (case c20 => k_is)
    (case k20 => k_is)
    (case a21 => k_is)
    (case l21 => k_is)
    (case c21 => k_is)
    (case k21 => k_is)
    (case a22 => k_is)
    (case l22 => k_is)
    (case c22 => k_is)
    (case k22 => k_is)
    (case a23 => k_is)
    (case i23 => k_is)
    (case l23 => k_is)
    (case c23 => k_is)
    (case k23 => k_is)
    (case a24 => k_is)
    (case i24 => k_is)
    (case l24 => k_is)
    (case c24 => k_is)
    (case k24 => k_is)
    (case a25 => k_is)
    (case i25 => k_is)
    (case l25 => k_is)
    (case c25 => k_is)
    (case k25 => k_is)
    (case a26 => k_is)
    (case i26 => k_is)
    (case l26 => k_is)
    (case c26 => k_is)
    (case k26 => k_is)
    (case a27 => k_is)
    (case i27 => k_is)
    (case l27 => k_is)
    (case c27 => k_is)
    (case k27 => k_is)
    (case a28 => k_is)
    (case i28 => k_is)
    (case l28 => k_is)
    (case c28 => k_is)
    (case k28 => k_is)
    (case a29 => k_is)
    (case l29 => k_is)
    (case c29 => k_is)
    (case k29 => k_is)
    (case a30 => k_is)
    (case l30 => k_is)
    (case c30 => k_is)
    (case k30 => k_is)
    (case a31 => k_is)
    (case l31 => k_is)
    (case c31 => k_is)
    (case k31 => k_is)
    (case a32 => k_is)
    (case l32 => k_is)
    (case c32 => k_is)
    (case k32 => k_is)
    (case a33 => k_is)
    (case l33 => k_is)
    (case c33 => k_is)
    (case k33 => k_is)
    (case a34 => k_is)
    (case l34 => k_is)
    (case c34 => k_is)
    (case k34 => k_is)
    (case a35 => k_is)
    (case l35 => k_is)
    (case c35 => k_is)
    (case k35 => k_is)
    (case a36 => k_is)
    (case l36 => k_is)
    (case c36 => k_is)
    (case k36 => k_is)
    (case a37 => k_is)
    (case l37 => k_is)
    (case c37 => k_is)
    (case k37 => k_is)
    (case a38 => k_is)
    (case l38 => k_is)
    (case c38 => k_is)
    (case k38 => k_is)
    (case a39 => k_is)
    (case l39 => k_is)
    (case c39 => k_is)
    (case k39 => k_is)
    (case q_MOST_HEIRS => k_is)
    (case q_MOST_THINGS => k_is)
    (case q_MOST_WORTH => k_is)
    (case aC_BadTable => k_is)
    (case xC_BadTable => k_exc)
    (case kC_BadTable => k_is)
    (case bC_BadTable => k_is)
    (case tC_BadTable => k_is)
    (case aC_BadShares => k_is)
    (case xC_BadShares => k_exc)
    (case kC_BadShares => k_is)
    (case bC_BadShares => k_is)
    (case tC_BadShares => k_is)
    (case aC_BadThing => k_is)
    (case xC_BadThing => k_exc)
    (case kC_BadThing => k_is)
    (case bC_BadThing => k_is)
    (case tC_BadThing => k_is)
    (case aC_BadHeir => k_is)
    (case xC_BadHeir => k_exc)
    (case kC_BadHeir => k_is)
    (case bC_BadHeir => k_is)
    (case tC_BadHeir => k_is)
    (case aC_Full => k_is)
    (case xC_Full => k_exc)
    (case kC_Full => k_is)
    (case bC_Full => k_is)
    (case tC_Full => k_is)
    (case z_all => k_is)
    (case z_any => k_is)
    (case z_bool => k_is)
    (case z_enumerate => k_is)
    (case z_int => k_is)
    (case z_isinstance => k_is)
    (case z_len => k_is)
    (case z_list => k_is)
    (case z_min => k_is)
    (case z_range => k_is)
    (case z_reversed => k_is)
    (case z_set => k_is)
    (case z_sorted => k_is)
    (case z_sum => k_is)
    (case z_tuple => k_is)
