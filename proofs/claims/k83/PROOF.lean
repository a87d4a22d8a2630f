import PyProof.Rows.All
import Wide.All
import OpenK.AllK
import Wide.FinOn
import HandS.ForMost
import HandS.Wide
import HandS.EndBits
import HandS.RaiseMore
import HandS.IsInst
import HandS.Conv
import HandS.WordsExc
import HandS.TupAny
import HandS.WideBits
import HandS.Deep
import HandS.SortInts
import HandS.Gcd
import HandS.Style
import HandS.Zip
import HandS.Rev
import HandS.HotCalls
import HandS.ExcIs
import PySem.Challenge.RW_manybases_k83_whole_main_levels
set_option Elab.async false
set_option linter.all false
set_option maxRecDepth 100000
set_option maxHeartbeats 4000000
/-! Z1: a layer over data: slots hold data (PyData) or raw values, what is mutable lies in a list of cells. -/
namespace Z
open PySem PySem.Spec PyProof.Rows L2
/-! ### values, cells, states -/
/-- data (lists in it are objects of our own that never change again); a list that is only read (the script); any other value, raw -/
inductive SV where
  | d (x : PyData)
  | l (xs : List PyData)
  | r (v : V)
inductive OC where
  | lst (xs : List PyData)
  | lx (xs : List SV)
  | dk (kvs : List (Key × SV))
  | dt (kvs : List (List Key × SV))
  | raw (o : HO)
abbrev Rho := List (Option SV)
abbrev Om := List (Addr × OC)
abbrev Frag := PySem.W.Frag
theorem sqt_same {K : Frag} {H H' : Hp} {a : Addr} {xs : List V} (e : Same H H') (h : SqT K H a xs) : SqT K H' a xs := by
  rcases h with (h | ⟨o, h⟩) | h
  · exact Or.inl (Or.inl (e _ _ h))
  · exact Or.inl (Or.inr ⟨o, e _ _ h⟩)
  · exact Or.inr h
mutual
/-- v is data d in F: as Dp, but a list is an object that F tracks itself -/
inductive Dq (K : Frag) (F : Hp) : V → PyData → Prop
  | non : Dq K F .non .none
  | bl (b : Bool) : Dq K F (.bl b) (.bool b)
  | int (i : Int) : Dq K F (.int i) (.int i)
  | str (x : Str) : Dq K F (.str x) (.str x)
  | lst {a : Addr} {xs : List V} {ds : List PyData} : F a = some (.lst xs) → DqAll K F xs ds → Dq K F (.ref a) (.list ds)
  | tup {a : Addr} {xs : List V} {ds : List PyData} : SqT K F a xs → DqAll K F xs ds → Dq K F (.ref a) (.tuple ds)
inductive DqAll (K : Frag) (F : Hp) : List V → List PyData → Prop
  | nil : DqAll K F [] []
  | cons {v : V} {vs : List V} {d : PyData} {ds : List PyData} : Dq K F v d → DqAll K F vs ds → DqAll K F (v :: vs) (d :: ds)
end
mutual
theorem dq_same {K : Frag} {H H' : Hp} (e : Same H H') : ∀ (d : PyData) (v : V), Dq K H v d → Dq K H' v d
  | .none, _, h => by cases h; exact .non
  | .bool b, _, h => by cases h; exact .bl b
  | .int i, _, h => by cases h; exact .int i
  | .str x, _, h => by cases h; exact .str x
  | .list ds, _, h => by
    cases h with
    | lst hs ha => exact .lst (e _ _ hs) (dqa_same e ds _ ha)
  | .tuple ds, _, h => by
    cases h with
    | tup hs ha => exact .tup (sqt_same e hs) (dqa_same e ds _ ha)
  | .dict _, _, h => by cases h
theorem dqa_same {K : Frag} {H H' : Hp} (e : Same H H') : ∀ (ds : List PyData) (vs : List V), DqAll K H vs ds → DqAll K H' vs ds
  | [], _, h => by cases h; exact .nil
  | d :: ds, _, h => by
    cases h with
    | cons h1 h2 => exact .cons (dq_same e d _ h1) (dqa_same e ds _ h2)
end
mutual
theorem Dq.dp {K : Frag} {H : Hp} : ∀ (d : PyData) (v : V), Dq K H v d → Dp K H v d
  | .none, _, h => by cases h; exact .non
  | .bool b, _, h => by cases h; exact .bl b
  | .int i, _, h => by cases h; exact .int i
  | .str x, _, h => by cases h; exact .str x
  | .list ds, _, h => by
    cases h with
    | lst hs ha => exact .lst (SqL.of hs) (DqAll.dp ds _ ha)
  | .tuple ds, _, h => by
    cases h with
    | tup hs ha => exact .tup hs (DqAll.dp ds _ ha)
  | .dict _, _, h => by cases h
theorem DqAll.dp {K : Frag} {H : Hp} : ∀ (ds : List PyData) (vs : List V), DqAll K H vs ds → DpAll K H vs ds
  | [], _, h => by cases h; exact .nil
  | d :: ds, _, h => by
    cases h with
    | cons h1 h2 => exact .cons (Dq.dp d _ h1) (DqAll.dp ds _ h2)
end
theorem dqi {K : Frag} {F : Hp} {v : V} {i : Int} (h : Dq K F v (.int i)) : v = .int i := by cases h; rfl
theorem dqb {K : Frag} {F : Hp} {v : V} {b : Bool} (h : Dq K F v (.bool b)) : v = .bl b := by cases h; rfl
theorem dqs {K : Frag} {F : Hp} {v : V} {x : Str} (h : Dq K F v (.str x)) : v = .str x := by cases h; rfl
theorem dqn {K : Frag} {F : Hp} {v : V} (h : Dq K F v .none) : v = .non := by cases h; rfl
theorem dql {K : Frag} {F : Hp} {v : V} {ds : List PyData} (h : Dq K F v (.list ds)) : ∃ a xs, v = .ref a ∧ F a = some (.lst xs) ∧ DqAll K F xs ds := by cases h with | lst hs ha => exact ⟨_, _, rfl, hs, ha⟩
theorem dqt {K : Frag} {F : Hp} {v : V} {ds : List PyData} (h : Dq K F v (.tuple ds)) : ∃ a xs, v = .ref a ∧ SqT K F a xs ∧ DqAll K F xs ds := by cases h with | tup hs ha => exact ⟨_, _, rfl, hs, ha⟩
def Rp (K : Frag) (F : Hp) (v : V) : SV → Prop
  | .d x => Dq K F v x
  | .l ds => ∃ a xs, v = .ref a ∧ SqL K F a xs ∧ DqAll K F xs ds
  | .r u => v = u
theorem Rp.same {K : Frag} {F F' : Hp} (e : Same F F') : ∀ {v : V} {s : SV}, Rp K F v s → Rp K F' v s
  | v, .d x, h => dq_same e x v h
  | _, .l ds, ⟨a, xs, h1, h2, h3⟩ => ⟨a, xs, h1, e.seq h2, dqa_same e ds xs h3⟩
  | _, .r _, h => h
def RpO (K : Frag) (F : Hp) : HO → OC → Prop
  | .lst vs, .lst xs => DqAll K F vs xs
  | .lst vs, .lx xs => Paired (Rp K F) vs xs
  | .dK kvs, .dk ys => Paired (fun p q => p.1 = q.1 ∧ Rp K F p.2 q.2) kvs ys
  | .dT kvs, .dt ys => Paired (fun p q => p.1 = q.1 ∧ Rp K F p.2 q.2) kvs ys
  | o, .raw o' => o = o'
  | _, _ => False
theorem RpO.same {K : Frag} {F F' : Hp} (e : Same F F') {o : HO} {c : OC} (h : RpO K F o c) : RpO K F' o c := by
  unfold RpO at h ⊢
  split at h
  · exact dqa_same e _ _ h
  · exact Paired.mapP h fun _ _ q => q.same e
  · exact Paired.mapP h fun _ _ q => ⟨q.1, q.2.same e⟩
  · exact Paired.mapP h fun _ _ q => ⟨q.1, q.2.same e⟩
  · exact h
  · exact h.elim
def RpS (K : Frag) (F : Hp) (o : Option V) : Option SV → Prop
  | none => True
  | some x => ∃ v, o = some v ∧ Rp K F v x
abbrev RpE (K : Frag) (F : Hp) : L2.St → Rho → Prop := Paired (RpS K F)
theorem RpS.same {K : Frag} {F F' : Hp} (e : Same F F') : ∀ {o : Option V} {s : Option SV}, RpS K F o s → RpS K F' o s
  | _, none, _ => trivial
  | _, some _, ⟨v, h, q⟩ => ⟨v, h, q.same e⟩
theorem rpe_same {K : Frag} {F F' : Hp} (e : Same F F') {σ : L2.St} {ρ : Rho} (h : RpE K F σ ρ) : RpE K F' σ ρ := Paired.mapP h fun _ _ q => q.same e
theorem rps_same {K : Frag} {F F' : Hp} (e : Same F F') {σ : List V} {ρ : List SV} (h : Paired (Rp K F) σ ρ) : Paired (Rp K F') σ ρ := Paired.mapP h fun _ _ q => q.same e
theorem rpe_get {K : Frag} {F : Hp} : ∀ {σ : L2.St} {ρ : Rho} {i : Nat} {x : SV}, RpE K F σ ρ → ρ[i]? = some (some x) → ∃ v, σ[i]? = some (some v) ∧ Rp K F v x
  | _, _, _, _, .nil, e => by simp at e
  | _, _, 0, x, .cons r _, e => by
    simp at e; subst e
    obtain ⟨v, rfl, q⟩ := r
    exact ⟨v, rfl, q⟩
  | _, _, i + 1, x, .cons _ t, e => by
    obtain ⟨v, h1, h2⟩ := rpe_get (i := i) (x := x) t (by simpa using e)
    exact ⟨v, by simpa using h1, h2⟩
theorem pr_set {α β : Type} {R : α → β → Prop} {x : α} {y : β} (r : R x y) : ∀ {l : List α} {m : List β} (i : Nat), Paired R l m → Paired R (l.set i x) (m.set i y)
  | _, _, _, .nil => .nil
  | _, _, 0, .cons _ t => .cons r t
  | _, _, i + 1, .cons q t => .cons q (pr_set r i t)
theorem pr_app {α β : Type} {R : α → β → Prop} : ∀ {l l' : List α} {m m' : List β}, Paired R l m → Paired R l' m' → Paired R (l ++ l') (m ++ m')
  | _, _, _, _, .nil, s => s
  | _, _, _, _, .cons r t, s => .cons r (pr_app t s)
theorem pr_take {α β : Type} {R : α → β → Prop} : ∀ {l : List α} {m : List β} (n : Nat), Paired R l m → Paired R (l.take n) (m.take n)
  | _, _, 0, _ => .nil
  | _, _, _ + 1, .nil => .nil
  | _, _, n + 1, .cons r t => .cons r (pr_take n t)
theorem pr_drop {α β : Type} {R : α → β → Prop} : ∀ {l : List α} {m : List β} (n : Nat), Paired R l m → Paired R (l.drop n) (m.drop n)
  | _, _, 0, r => r
  | _, _, _ + 1, .nil => .nil
  | _, _, n + 1, .cons _ t => pr_drop n t
theorem pr_get {α β : Type} {R : α → β → Prop} : ∀ {l : List α} {m : List β} {i : Nat} {y : β}, Paired R l m → m[i]? = some y → ∃ x, l[i]? = some x ∧ R x y
  | _, _, _, _, .nil, e => by simp at e
  | _, _, 0, y, .cons r _, e => by simp at e; subst e; exact ⟨_, rfl, r⟩
  | _, _, i + 1, y, .cons _ t, e => by
    obtain ⟨v, h1, h2⟩ := pr_get (i := i) (y := y) t (by simpa using e)
    exact ⟨v, by simpa using h1, h2⟩
theorem pr_getL {α β : Type} {R : α → β → Prop} : ∀ {l : List α} {m : List β} {i : Nat} {x : α}, Paired R l m → l[i]? = some x → ∃ y, m[i]? = some y ∧ R x y
  | _, _, _, _, .nil, e => by simp at e
  | _, _, 0, y, .cons r _, e => by simp at e; subst e; exact ⟨_, rfl, r⟩
  | _, _, i + 1, y, .cons _ t, e => by
    obtain ⟨v, h1, h2⟩ := pr_getL (i := i) (x := y) t (by simpa using e)
    exact ⟨v, by simpa using h1, h2⟩
theorem pr_rev {α β : Type} {R : α → β → Prop} : ∀ {l : List α} {m : List β}, Paired R l m → Paired R l.reverse m.reverse
  | _, _, .nil => .nil
  | _, _, .cons r t => by
    rw [List.reverse_cons, List.reverse_cons]
    exact pr_app (pr_rev t) (.cons r .nil)
theorem pr_erase {α β : Type} {R : α → β → Prop} : ∀ {l : List α} {m : List β} (n : Nat), Paired R l m → Paired R (l.eraseIdx n) (m.eraseIdx n)
  | _, _, _, .nil => .nil
  | _, _, 0, .cons _ t => t
  | _, _, n + 1, .cons r t => .cons r (pr_erase n t)
theorem pr_dropLast {α β : Type} {R : α → β → Prop} {l : List α} {m : List β} (h : Paired R l m) : Paired R l.dropLast m.dropLast := by
  rw [List.dropLast_eq_take, List.dropLast_eq_take, h.length]
  exact pr_take _ h
/-- data lists -/
theorem dqa_of {K : Frag} {F : Hp} : ∀ {vs : List V} {ds : List PyData}, Paired (Rp K F) vs (ds.map SV.d) → DqAll K F vs ds
  | _, [], h => by cases h; exact .nil
  | _, d :: ds, h => by
    cases h with
    | cons r t => exact .cons r (dqa_of t)
theorem of_dqa {K : Frag} {F : Hp} : ∀ {vs : List V} {ds : List PyData}, DqAll K F vs ds → Paired (Rp K F) vs (ds.map SV.d)
  | _, [], h => by cases h; exact .nil
  | _, d :: ds, h => by
    cases h with
    | cons r t => exact .cons r (of_dqa t)
theorem dqa_len {K : Frag} {F : Hp} {vs : List V} {ds : List PyData} (h : DqAll K F vs ds) : vs.length = ds.length := by
  have q := (of_dqa h).length
  rw [List.length_map] at q
  exact q
/-! ### the entry of a def, and the state -/
structure Gn where
  F0 : Hp
  H0 : Hp
  P0 : Hp
structure En extends Gn where
  K : Frag
/-- P: what is left alone; F: what is frozen (data rests on it); Ω: the cells, apart from both -/
structure Ok (E : En) (P F H : Hp) (Ω : Om) : Prop where
  p0 : Same E.P0 P
  pf : Same P H
  pd : ∀ p ∈ Ω, P p.1 = none
  pF : ∀ a, P a ≠ none → F a = none
  f0 : Same E.F0 F
  fn : ∀ a, F a ≠ none → E.F0 a = none → E.H0 a = none
  dm : ∀ a, H a = none → E.H0 a = none
  ex : Same F H
  own : ∀ p ∈ Ω, F p.1 = none ∧ ∃ o, H p.1 = some o ∧ RpO E.K F o p.2
  nd : (Ω.map (·.1)).Nodup
section
variable {E : En} {P F H : Hp} {Ω : Om}
theorem Ok.free (h : Ok E P F H Ω) {a : Addr} (e : H a = none) : F a = none := h.ex.free e
/-- a new object, frozen at once -/
theorem Ok.newF (h : Ok E P F H Ω) {p : Addr} {o : HO} (e : H p = none) : Ok E P (upd F p o) (upd H p o) Ω ∧ Same F (upd F p o) := by
  have sF : Same F (upd F p o) := fun b u q => by rw [upd_ne (ne_of_none q (h.free e))]; exact q
  refine ⟨⟨h.p0, fun b u q => by rw [upd_ne (ne_of_none (h.pf b u q) e)]; exact h.pf b u q, h.pd, fun a q => by rw [upd_ne (fun z => q (by rw [z]; exact h.pf.free e))]; exact h.pF a q, h.f0.trans sF, fun a q z => ?_, fun a q => ?_, fun b u q => ?_, fun x hx => ?_, h.nd⟩, sF⟩
  · by_cases ha : a = p
    · rw [ha]; exact h.dm p e
    · rw [upd_ne ha] at q; exact h.fn a q z
  · by_cases ha : a = p
    · rw [ha]; exact h.dm p e
    · rw [upd_ne ha] at q; exact h.dm a q
  · by_cases hb : b = p
    · rw [hb] at q ⊢; rw [upd_same] at q ⊢; exact q
    · rw [upd_ne hb] at q ⊢; exact h.ex b u q
  · obtain ⟨h1, u, h2, h3⟩ := h.own x hx
    have ne : x.1 ≠ p := ne_of_none h2 e
    exact ⟨by rw [upd_ne ne]; exact h1, u, by rw [upd_ne ne]; exact h2, h3.same sF⟩
/-- a new object, a cell -/
theorem Ok.newO (h : Ok E P F H Ω) {p : Addr} {o : HO} {c : OC} (e : H p = none) (r : RpO E.K F o c) : Ok E P F (upd H p o) ((p, c) :: Ω) := by
  have nF := h.free e
  refine ⟨h.p0, fun b u q => by rw [upd_ne (ne_of_none (h.pf b u q) e)]; exact h.pf b u q, fun x hx => ?_, h.pF, h.f0, h.fn, fun a q => ?_, fun b u q => ?_, fun x hx => ?_, ?_⟩
  · rcases List.mem_cons.mp hx with rfl | hx
    · exact h.pf.free e
    · exact h.pd x hx
  · by_cases ha : a = p
    · rw [ha]; exact h.dm p e
    · rw [upd_ne ha] at q; exact h.dm a q
  · rw [upd_ne (ne_of_none q nF)]; exact h.ex b u q
  · rcases List.mem_cons.mp hx with rfl | hx
    · exact ⟨nF, o, upd_same, r⟩
    · obtain ⟨h1, u, h2, h3⟩ := h.own x hx
      exact ⟨h1, u, by rw [upd_ne (ne_of_none h2 e)]; exact h2, h3⟩
  · rw [List.map_cons]
    refine List.nodup_cons.mpr ⟨fun hm => ?_, h.nd⟩
    obtain ⟨x, hx, hp⟩ := List.mem_map.mp hm
    obtain ⟨_, u, h2, _⟩ := h.own x hx
    rw [hp, e] at h2
    cases h2
/-- a new object that nothing is to know -/
theorem Ok.newX (h : Ok E P F H Ω) {p : Addr} {o : HO} (e : H p = none) : Ok E P F (upd H p o) Ω := by
  have k := h.newO (c := .raw o) e (show RpO E.K F o (.raw o) by cases o <;> rfl)
  exact ⟨k.p0, k.pf, fun x hx => k.pd x (List.mem_cons_of_mem _ hx), k.pF, k.f0, k.fn, k.dm, k.ex, fun x hx => k.own x (List.mem_cons_of_mem _ hx), (List.nodup_cons.mp k.nd).2⟩
end
/-- the cell at a, and what the cells are with another thing there -/
inductive At : Om → Addr → OC → (OC → Om) → Prop where
  | here {a : Addr} {c : OC} {Ω : Om} : At ((a, c) :: Ω) a c (fun z => (a, z) :: Ω)
  | there {a : Addr} {c : OC} {Ω : Om} {p : Addr × OC} {f : OC → Om} : At Ω a c f → At (p :: Ω) a c (fun z => p :: f z)
theorem At.mem : ∀ {Ω : Om} {a : Addr} {c : OC} {f : OC → Om}, At Ω a c f → (a, c) ∈ Ω
  | _, _, _, _, .here => List.mem_cons_self
  | _, _, _, _, .there h => List.mem_cons_of_mem _ h.mem
theorem At.addrs : ∀ {Ω : Om} {a : Addr} {c : OC} {f : OC → Om}, At Ω a c f → ∀ z, (f z).map (·.1) = Ω.map (·.1)
  | _, _, _, _, .here, _ => rfl
  | _, _, _, _, .there h, z => by rw [List.map_cons, List.map_cons, h.addrs z]
theorem At.mems : ∀ {Ω : Om} {a : Addr} {c : OC} {f : OC → Om}, At Ω a c f → ∀ z x, x ∈ f z → x = (a, z) ∨ x ∈ Ω
  | _, _, _, _, .here, z, x, h => by
    rcases List.mem_cons.mp h with h | h
    · exact Or.inl h
    · exact Or.inr (List.mem_cons_of_mem _ h)
  | _, _, _, _, .there t, z, x, h => by
    rcases List.mem_cons.mp h with h | h
    · exact Or.inr (h ▸ List.mem_cons_self)
    · rcases t.mems z x h with q | q
      · exact Or.inl q
      · exact Or.inr (List.mem_cons_of_mem _ q)
theorem At.after : ∀ {Ω : Om} {a : Addr} {c : OC} {f : OC → Om}, At Ω a c f → ∀ z, At (f z) a z f
  | _, _, _, _, .here, z => .here
  | _, _, _, _, .there h, z => .there (h.after z)
section
variable {E : En} {P F H : Hp} {Ω : Om}
theorem nd_inj {α β : Type} {f : α → β} : ∀ {l : List α} {x y : α}, (l.map f).Nodup → x ∈ l → y ∈ l → f x = f y → x = y
  | [], _, _, _, h, _, _ => by cases h
  | z :: l, x, y, nd, hx, hy, e => by
    rw [List.map_cons] at nd
    obtain ⟨n1, n2⟩ := List.nodup_cons.mp nd
    rcases List.mem_cons.mp hx with h1 | h1
    · rcases List.mem_cons.mp hy with h2 | h2
      · rw [h1, h2]
      · rw [h1] at e
        exact absurd (by rw [e]; exact List.mem_map_of_mem h2) n1
    · rcases List.mem_cons.mp hy with h2 | h2
      · rw [h2] at e
        exact absurd (by rw [← e]; exact List.mem_map_of_mem h1) n1
      · exact nd_inj n2 h1 h2 e
theorem Ok.at_ (h : Ok E P F H Ω) {a : Addr} {c : OC} {f : OC → Om} (t : At Ω a c f) : F a = none ∧ ∃ o, H a = some o ∧ RpO E.K F o c := h.own _ t.mem
theorem Ok.lst (h : Ok E P F H Ω) {a : Addr} {xs : List PyData} {f : OC → Om} (t : At Ω a (.lst xs) f) : ∃ vs, H a = some (.lst vs) ∧ DqAll E.K F vs xs := by
  obtain ⟨_, o, h1, h2⟩ := h.at_ t
  cases o <;> first | exact ⟨_, h1, h2⟩ | exact (show False from h2).elim
theorem Ok.lx (h : Ok E P F H Ω) {a : Addr} {xs : List SV} {f : OC → Om} (t : At Ω a (.lx xs) f) : ∃ vs, H a = some (.lst vs) ∧ Paired (Rp E.K F) vs xs := by
  obtain ⟨_, o, h1, h2⟩ := h.at_ t
  cases o <;> first | exact ⟨_, h1, h2⟩ | exact (show False from h2).elim
theorem Ok.dk (h : Ok E P F H Ω) {a : Addr} {xs : List (Key × SV)} {f : OC → Om} (t : At Ω a (.dk xs) f) : ∃ vs, H a = some (.dK vs) ∧ Paired (fun p q => p.1 = q.1 ∧ Rp E.K F p.2 q.2) vs xs := by
  obtain ⟨_, o, h1, h2⟩ := h.at_ t
  cases o <;> first | exact ⟨_, h1, h2⟩ | exact (show False from h2).elim
/-- the cell at a is changed -/
theorem Ok.put (h : Ok E P F H Ω) {a : Addr} {c z : OC} {f : OC → Om} {o : HO} (t : At Ω a c f) (r : RpO E.K F o z) : Ok E P F (upd H a o) (f z) := by
  obtain ⟨nF, o0, h0, _⟩ := h.at_ t
  have nP : P a = none := h.pd _ t.mem
  refine ⟨h.p0, fun b u q => by rw [upd_ne (ne_of_none q nP)]; exact h.pf b u q, fun x hx => ?_, h.pF, h.f0, h.fn, fun b q => ?_, fun b u q => ?_, fun x hx => ?_, by rw [t.addrs z]; exact h.nd⟩
  · rcases t.mems z x hx with q | q
    · rw [q]; exact nP
    · exact h.pd x q
  · by_cases hb : b = a
    · rw [hb, upd_same] at q; cases q
    · rw [upd_ne hb] at q; exact h.dm b q
  · rw [upd_ne (ne_of_none q nF)]; exact h.ex b u q
  · by_cases hb : x.1 = a
    · have e : x = (a, z) := nd_inj (f := (·.1)) (l := f z) (by rw [t.addrs z]; exact h.nd) hx (t.after z).mem hb
      rw [e]
      exact ⟨nF, o, upd_same, r⟩
    · rcases t.mems z x hx with q | q
      · rw [q] at hb; exact absurd rfl hb
      · obtain ⟨h1, u, h2, h3⟩ := h.own x q
        exact ⟨h1, u, by rw [upd_ne hb]; exact h2, h3⟩
/-- a cell is frozen -/
theorem Ok.frz (h : Ok E P F H Ω) {Ω' : Om} {a : Addr} {c : OC} {o : HO} (ha : H a = some o) (n0 : E.H0 a = none) (nF : F a = none) (nP : P a = none) (hm : ∀ x ∈ Ω', x ∈ Ω ∧ x.1 ≠ a) (nd : (Ω'.map (·.1)).Nodup) : Ok E P (upd F a o) H Ω' ∧ Same F (upd F a o) := by
  have sF : Same F (upd F a o) := fun b u q => by rw [upd_ne (ne_of_none q nF)]; exact q
  refine ⟨⟨h.p0, h.pf, fun x hx => h.pd x (hm x hx).1, fun b q => by rw [upd_ne (fun z => q (by rw [z]; exact nP))]; exact h.pF b q, h.f0.trans sF, fun b q z => ?_, h.dm, fun b u q => ?_, fun x hx => ?_, nd⟩, sF⟩
  · by_cases hb : b = a
    · rw [hb]; exact n0
    · rw [upd_ne hb] at q; exact h.fn b q z
  · by_cases hb : b = a
    · rw [hb] at q ⊢; rw [upd_same] at q; rw [ha]; exact q
    · rw [upd_ne hb] at q; exact h.ex b u q
  · obtain ⟨q, ne⟩ := hm x hx
    obtain ⟨h1, u, h2, h3⟩ := h.own x q
    exact ⟨by rw [upd_ne ne]; exact h1, u, h2, h3.same sF⟩
/-- a callee's state, and back -/
theorem Ok.enter (h : Ok E P F H Ω) : Ok ⟨⟨F, H, P⟩, E.K⟩ P F H Ω := ⟨Same.refl P, h.pf, h.pd, h.pF, Same.refl F, fun a q z => absurd z q, fun a q => q, h.ex, h.own, h.nd⟩
theorem Ok.leave {P' F' H' : Hp} {Ω' : Om} (h : Ok E P F H Ω) (k : Ok ⟨⟨F, H, P⟩, E.K⟩ P' F' H' Ω') : Ok E P F' H' Ω' := by
  refine ⟨h.p0, fun b u q => k.pf b u (k.p0 b u q), fun x hx => k.p0.free (k.pd x hx), fun a q => k.pF a (fun z => q (k.p0.free z)), h.f0.trans k.f0, fun a q z => ?_, fun a q => h.dm a (k.dm a q), k.ex, k.own, k.nd⟩
  by_cases e : F a = none
  · exact h.dm a (k.fn a q e)
  · exact h.fn a e z
/-- one more thing that is left alone -/
theorem Ok.guard (h : Ok E P F H Ω) {p : Addr} {o : HO} (e : H p = none) : Ok E (upd P p o) F (upd H p o) Ω := by
  have nP := h.pf.free e
  have k := h.newX (o := o) e
  refine ⟨h.p0.trans fun b u q => by rw [upd_ne (ne_of_none q nP)]; exact q, fun b u q => ?_, fun x hx => ?_, fun a q => ?_, k.f0, k.fn, k.dm, k.ex, k.own, k.nd⟩
  · by_cases hb : b = p
    · rw [hb] at q ⊢; rw [upd_same] at q ⊢; exact q
    · rw [upd_ne hb] at q ⊢; exact h.pf b u q
  · obtain ⟨_, u, h2, _⟩ := h.own x hx
    rw [upd_ne (ne_of_none h2 e)]
    exact h.pd x hx
  · by_cases ha : a = p
    · rw [ha]; exact h.free e
    · rw [upd_ne ha] at q; exact h.pF a q
/-- the guarded thing is changed by its owner -/
theorem Ok.poke {p : Addr} {o o' : HO} (h : Ok E (upd P p o) F H Ω) (n0 : E.P0 p = none) (nF : F p = none) (np : P p = none) : Ok E (upd P p o') F (upd H p o') Ω := by
  have hp : H p = some o := h.pf p o upd_same
  refine ⟨fun b u q => ?_, fun b u q => ?_, fun x hx => ?_, fun b q => ?_, h.f0, h.fn, fun b q => ?_, fun b u q => ?_, fun x hx => ?_, h.nd⟩
  · have ne : b ≠ p := ne_of_none q n0
    have := h.p0 b u q
    rw [upd_ne ne] at this ⊢
    exact this
  · by_cases hb : b = p
    · rw [hb] at q ⊢; rw [upd_same] at q ⊢; exact q
    · have := h.pf b u (by rw [upd_ne hb] at q ⊢; exact q)
      rw [upd_ne hb]; exact this
  · have := h.pd x hx
    have ne : x.1 ≠ p := fun z => by rw [z, upd_same] at this; cases this
    rw [upd_ne ne] at this ⊢
    exact this
  · by_cases hb : b = p
    · rw [hb]; exact nF
    · exact h.pF b (by rw [upd_ne hb] at q ⊢; exact q)
  · by_cases hb : b = p
    · rw [hb, upd_same] at q; cases q
    · rw [upd_ne hb] at q; exact h.dm b q
  · rw [upd_ne (ne_of_none q nF)]; exact h.ex b u q
  · obtain ⟨h1, u, h2, h3⟩ := h.own x hx
    have := h.pd x hx
    have ne : x.1 ≠ p := fun z => by rw [z, upd_same] at this; cases this
    exact ⟨h1, u, by rw [upd_ne ne]; exact h2, h3⟩
/-- no longer guarded: frozen, a cell, or let go -/
theorem Ok.letP {P' : Hp} (h : Ok E P' F H Ω) (s0 : Same E.P0 P) (s : Same P P') : Ok E P F H Ω := ⟨s0, fun b u q => h.pf b u (s b u q), fun x hx => s.free (h.pd x hx), fun a q => h.pF a (fun z => q (s.free z)), h.f0, h.fn, h.dm, h.ex, h.own, h.nd⟩
/-- what was guarded becomes a cell -/
theorem Ok.adopt {p : Addr} {o : HO} {c : OC} (h : Ok E (upd P p o) F H Ω) (s0 : Same E.P0 P) (np : P p = none) (r : RpO E.K F o c) : Ok E P F H ((p, c) :: Ω) := by
  have sP : Same P (upd P p o) := fun b u q => by rw [upd_ne (ne_of_none q np)]; exact q
  have k := h.letP s0 sP
  have hp : H p = some o := h.pf p o upd_same
  have nF : F p = none := h.pF p (by rw [upd_same]; exact fun z => nomatch z)
  have ne : ∀ x ∈ Ω, x.1 ≠ p := fun x hx z => by
    have := h.pd x hx
    rw [z, upd_same] at this
    cases this
  refine ⟨k.p0, k.pf, fun x hx => ?_, k.pF, k.f0, k.fn, k.dm, k.ex, fun x hx => ?_, ?_⟩
  · rcases List.mem_cons.mp hx with q | q
    · rw [q]; exact np
    · exact k.pd x q
  · rcases List.mem_cons.mp hx with q | q
    · rw [q]; exact ⟨nF, o, hp, r⟩
    · exact k.own x q
  · rw [List.map_cons]
    refine List.nodup_cons.mpr ⟨fun z => ?_, k.nd⟩
    obtain ⟨x, hx, e⟩ := List.mem_map.mp z
    exact ne x hx e
/-- what was guarded becomes data -/
theorem Ok.adoptF {p : Addr} {o : HO} (h : Ok E (upd P p o) F H Ω) (s0 : Same E.P0 P) (np : P p = none) (n0 : E.H0 p = none) : Ok E P (upd F p o) H Ω ∧ Same F (upd F p o) := by
  have sP : Same P (upd P p o) := fun b u q => by rw [upd_ne (ne_of_none q np)]; exact q
  have k := h.letP s0 sP
  have nF : F p = none := h.pF p (by rw [upd_same]; exact fun z => nomatch z)
  refine k.frz (c := .raw o) (h.pf p o upd_same) n0 nF np (fun x hx => ⟨hx, fun z => ?_⟩) k.nd
  have := h.pd x hx
  rw [z, upd_same] at this
  cases this
end
end Z
/-! Z2: calls of defs where no repr is under way (A.guards = some []). -/
namespace Z
open PySem PySem.Spec PyProof.Rows L2
structure FnG (P : Program) (w : World) (K : Frag) (mg : Str → Option Value) (base : Heap) (CX : CXT) (k : Nat) (f : Addr) (fd : FuncData) (ps : List Str) (sp : Sp) : Prop where
  len : ∀ vs H Q E, sp vs H Q E → vs.length = ps.length
  go : ∀ (A : Around) (outer : List Env) (s : Shared) (H : Hp) (args : Args) (us : List Value) (vs : List V) (Q : VK) (E : XK),
    Room k A → A.guards = some [] → Env0 P w K mg base A outer s H → BindsTo s fd args (ps.zip us) → Vals vs us → sp vs H Q E →
    codeAny (model P w) A (.call (.ref f) args) (CR CX outer P w H s Q E) s
section
variable {P : Program} {w : World} {K : Frag} {mg : Str → Option Value} {base : Heap} {CX : CXT} {k : Nat} {f : Addr} {fd : FuncData} {ps : List Str} {sp : Sp}
theorem FnG.up {j : Nat} (F : FnG P w K mg base CX j f fd ps sp) (h : j ≤ k) : FnG P w K mg base CX k f fd ps sp :=
  ⟨F.len, fun A outer s H args us vs Q E hr => F.go A outer s H args us vs Q E (hr.mono h)⟩
/-- a def by its body -/
theorem fnG_of {name qual : Str} {params : Arguments} {body : List Stmt} {scope : Scope} {dV kV doc pm cdv ct oc : Value} {an od : Option Addr} {osl : Array (Option Value)} {N : List Str}
    (lk : K.lookup f = some ⟨oc, od, .func (PySem.W.fnOf name qual params body scope dV kV doc pm an cdv ct), osl⟩) (hcd : PySem.W.codeIn K cdv qual = true) (S : FnScope N ps scope)
    (len : ∀ vs H Q E, sp vs H Q E → vs.length = ps.length)
    (hbody : ∀ (A : Around) (outer : List Env) (s : Shared) (H : Hp) (vs : List V) (Q : VK) (E : XK), A.guards = some [] → Room k (A.deeper (envOfC qual scope s.heap.objs.size f cdv)) → sp vs H Q E →
      ∃ t, PSs (cxOf CX P w K mg base N qual scope f cdv A outer s H E) body t ∧ t { nx := fun _ H' => Q .non H', rt := Q } (start N vs) H) :
    FnG P w K mg base CX (k + 1) f (PySem.W.fnOf name qual params body scope dV kV doc pm an cdv ct) ps sp := by
  refine ⟨len, fun A outer s H args us vs Q E hr hgd e0 hb rv hsp => ?_⟩
  have old := fun b o e => (e0.bs b o e).1
  have KX : K.In s.heap := e0.mod.kin.keeps old
  have lim : s.heap.NoLimit := e0.mod.nolimit.keeps old
  have hkind : ∀ y ∈ ps.zip us, scope.names.lookup y.1 = some .local ∨ (scope.names.lookup y.1 = some .cell ∧ ((cellsFrom (s.heap.objs.size + 1) scope.names []).lookup y.1).isSome = true) := by
    rintro ⟨n, v⟩ hy
    exact (S.par n (List.of_mem_zip hy).1).elim .inl fun q => .inr ⟨q, PySem.W.cellsFrom_some _ _ _ (.inl q)⟩
  refine codeAny_call_function hr.depth (KX _ _ lk) rfl S.co S.gen rfl (PySem.W.codeRec_of KX hcd) (hb _ _ _ _ (wpAny_newFunctionEnv_cells S.kind hkind fun env he s1 x => ?_))
  cases he
  refine ⟨lim.keeps x.toInCall.keep, codeAny_func ?_⟩
  obtain ⟨t, ht, hq⟩ := hbody A outer s H vs Q E hgd (hr.deeper _) hsp
  have I0 := inv_start (CX := CX) (P := P) (w := w) (mg := mg) (E := E) S hr.hd e0 (len _ _ _ _ hsp) rv x
  refine wpAny_mono (ht.run [] s1 (start N vs) H _ I0 hq) (fun fl s' hs => ?_) fun _ _ z => z
  cases fl with
  | ret u => obtain ⟨v, σ', H', J, rv, q⟩ := hs; exact ⟨v, H', J.os, J.bare, J.base, J.hok, rv, q⟩
  | next => obtain ⟨σ', H', J, q⟩ := hs; exact ⟨.non, H', J.os, J.bare, J.base, J.hok, rfl, q⟩
  | brk => obtain ⟨_, _, _, q⟩ := hs; exact q.elim
  | cont => obtain ⟨_, _, _, q⟩ := hs; exact q.elim
end
section
variable {X : Cx} {CX : CXT} {k : Nat} {f : Addr} {fd : FuncData} {ps ks : List Str} {sp : Sp} {E : L2.St → XK} {x : Str} {p pos : Pos} {e : Expr} {es : List Expr} {kws : List Keyword} {t tk : TA}
/-- what a callee raises, at the caller's slots, reaches what this body wants -/
def PassAt (CX : CXT) (X : Cx) (σ : L2.St) (E : XK) : Prop := ∀ (pins : List (Addr × Obj)) (H : Hp) (s : Shared) (e : Value) (s' : Shared), Inv X pins σ H s → CX X.stack H s E e s' → X.xe e s'
theorem passAt0 {σ : L2.St} : PassAt CX0 X σ E0 := fun _ _ _ _ _ _ h => h.elim
theorem runG {pins : List (Addr × Obj)} {σ : L2.St} {H : Hp} {s : Shared} {Q : VK} {args : Args} {us : List Value} {vs : List V} (F : FnG X.prog X.w X.K X.mg X.base CX k f fd ps sp) (hr : Room k X.A) (hgd : X.A.guards = some []) (hx : PassAt CX X σ (E σ))
    (I : Inv X pins σ H s) (hb : us.length = ps.length → BindsTo s fd args (ps.zip us)) (r : Vals vs us) (h : sp vs H Q (E σ)) :
    codeAny (model X.prog X.w) X.A (.call (.ref f) args) (fun r s' => match r with | .ok (.ret u) => EP X pins σ Q u s' | .ok _ => False | .error e => X.xe e s') s := by
  have hl : us.length = ps.length := by rw [← r.length]; exact F.len _ _ _ _ h
  refine codeAny_mono (F.go X.A X.stack s H args us vs Q (E σ) hr hgd I.env0 (hb hl) r h) fun r s' hq => ?_
  match r, hq with
  | .error e, hq => exact hx pins H s e s' I hq
  | .ok (.ret u), hq => exact I.after hq
  | .ok .next, hq => exact hq
  | .ok .brk, hq => exact hq
  | .ok .cont, hq => exact hq
theorem wp_of_code {A : Around} {u : Value} {us : List Value} {kw : List (Str × Value)} {s : Shared} {Q : Value → Shared → Prop} {M : Model} {E' : Value → Shared → Prop}
    (h : codeAny M A (.call u ⟨us, kw⟩) (fun r s' => match r with | .ok (.ret u) => Q u s' | .ok _ => False | .error e => E' e s') s) : wpAny M A (call u us kw) Q E' s := by
  refine wpAny_call (codeAny_mono h fun r s' hq => ?_)
  match r, hq with
  | .error e, hq => exact hq
  | .ok (.ret u), hq => exact hq
  | .ok .next, hq => exact hq.elim
  | .ok .brk, hq => exact hq.elim
  | .ok .cont, hq => exact hq.elim
def tCallG (sp : Sp) (E : L2.St → XK) (t : TA) : TE := fun σ H Q => t σ H fun vs H1 => sp vs H1 Q (E σ)
def tCallGK (sp : Sp) (gV : List V → List V → List V) (E : L2.St → XK) (t tk : TA) : TE := fun σ H Q => t σ H fun vs H1 => tk σ H1 fun zs H2 => sp (gV vs zs) H2 Q (E σ)
/-- f(e, ..) -/
theorem pg_call (F : FnG X.prog X.w X.K X.mg X.base CX k f fd ps sp) (hr : Room k X.A) (hgd : X.A.guards = some []) (hg : Gl X x) (hm : X.mg x = some (.ref f)) (hk : PySem.W.keepIn X.K (.ref f) = true)
    (hb : Binds X.K fd ps []) (hx : ∀ σ, PassAt CX X σ (E σ)) (ha : PA X (e :: es) t) (hdb : (x == ("__debug__" : Str)) = false := by decide)
    (he : starEach (e :: es) X.env = (false, eval e X.env) :: starEach es X.env := by rfl) (hpl : (backTo pos (starEach es X.env)).any (·.1) = false := by rfl) :
    PE X (.Call (.Name x p) (e :: es) [] pos) (tCallG sp E t) := by
  refine ⟨fun pins s σ H Q I h => wpAny_Call_Name_kw (ld_glob I hg hm (PySem.W.callWith_K (h₀ := X.base) I.ok.mod.kin hk
    (thn (ha.run pos pins s σ H _ I h) fun us s1 ⟨vs, H1, I1, r, q⟩ => ⟨I1.kIn, ?_⟩) he hpl) hdb)⟩
  refine wp_of_code (runG F hr hgd (hx σ) I1 (fun hl => ?_) r q)
  have b := hb s1 us I1.kIn (by rw [List.append_nil]; exact hl)
  rw [List.append_nil] at b
  exact b
/-- f() -/
theorem pg_call0 (F : FnG X.prog X.w X.K X.mg X.base CX k f fd ps sp) (hr : Room k X.A) (hgd : X.A.guards = some []) (hg : Gl X x) (hm : X.mg x = some (.ref f)) (hk : PySem.W.keepIn X.K (.ref f) = true)
    (hb : Binds X.K fd ps []) (hx : ∀ σ, PassAt CX X σ (E σ)) (hdb : (x == ("__debug__" : Str)) = false := by decide) : PE X (.Call (.Name x p) [] [] pos) (tCallG sp E tNil) := by
  refine ⟨fun pins s σ H Q I h => wpAny_Call_Name_kw (ld_glob I hg hm (PySem.W.callWith_K0 I.kIn hk ?_) hdb)⟩
  exact wp_of_code (runG (us := []) F hr hgd (hx σ) I (fun hl => hb s [] I.kIn hl) .nil h)
end
end Z
/-! Z3: expressions over data: what is to hold (AE, AT, AA), and that it is enough (JE, JT, JA). -/
namespace Z
open PySem PySem.Spec PyProof.Rows L2
abbrev PhiE := SV → Om → Prop
abbrev AE := Rho → Om → PhiE → Prop
abbrev AT := Rho → Om → (Bool → Om → Prop) → Prop
abbrev AA := Rho → Om → (List SV → Om → Prop) → Prop
abbrev AR := SV → SV → Om → PhiE → Prop
abbrev AC := List SV → Om → PhiE → Prop
abbrev AM := SV → List SV → Om → PhiE → Prop
/-- what is known behind a step -/
abbrev Aft (E : En) (P F : Hp) (Φ : PhiE) (Q : VK) : Prop := ∀ {v : V} {sv : SV} {Ω' : Om} {F' H' : Hp}, Φ sv Ω' → Ok E P F' H' Ω' → Same F F' → Rp E.K F' v sv → Q v H'
structure SnE (E : En) (te : TE) (a : AE) : Prop where
  go : ∀ {ρ : Rho} {Ω : Om} {Φ : PhiE}, a ρ Ω Φ → ∀ {P F H : Hp} {σ : L2.St} {Q : VK}, Ok E P F H Ω → RpE E.K F σ ρ → Aft E P F Φ Q → te σ H Q
structure SnT (E : En) (te : TT) (a : AT) : Prop where
  go : ∀ {ρ : Rho} {Ω : Om} {Φ : Bool → Om → Prop}, a ρ Ω Φ → ∀ {P F H : Hp} {σ : L2.St} {Q : Bool → Hp → Prop}, Ok E P F H Ω → RpE E.K F σ ρ →
  (∀ {b : Bool} {Ω' : Om} {F' H' : Hp}, Φ b Ω' → Ok E P F' H' Ω' → Same F F' → Q b H') → te σ H Q
structure SnA (E : En) (te : TA) (a : AA) : Prop where
  go : ∀ {ρ : Rho} {Ω : Om} {Φ : List SV → Om → Prop}, a ρ Ω Φ → ∀ {P F H : Hp} {σ : L2.St} {Q : List V → Hp → Prop}, Ok E P F H Ω → RpE E.K F σ ρ →
  (∀ {vs : List V} {svs : List SV} {Ω' : Om} {F' H' : Hp}, Φ svs Ω' → Ok E P F' H' Ω' → Same F F' → Paired (Rp E.K F') vs svs → Q vs H') → te σ H Q
structure SnR (E : En) (r : R2) (ar : AR) : Prop where
  go : ∀ {x y : SV} {Ω : Om} {Φ : PhiE}, ar x y Ω Φ → ∀ {P F H : Hp} {vx vy : V} {Q : VK}, Ok E P F H Ω → Rp E.K F vx x → Rp E.K F vy y → Aft E P F Φ Q → r vx vy H Q
structure SnU (E : En) (r : V → Hp → VK → Prop) (ar : SV → Om → PhiE → Prop) : Prop where
  go : ∀ {x : SV} {Ω : Om} {Φ : PhiE}, ar x Ω Φ → ∀ {P F H : Hp} {vx : V} {Q : VK}, Ok E P F H Ω → Rp E.K F vx x → Aft E P F Φ Q → r vx H Q
structure SnC (E : En) (r : List V → Hp → VK → Prop) (ac : AC) : Prop where
  go : ∀ {xs : List SV} {Ω : Om} {Φ : PhiE}, ac xs Ω Φ → ∀ {P F H : Hp} {vs : List V} {Q : VK}, Ok E P F H Ω → Paired (Rp E.K F) vs xs → Aft E P F Φ Q → r vs H Q
structure SnM (E : En) (r : V → List V → Hp → VK → Prop) (am : AM) : Prop where
  go : ∀ {x : SV} {xs : List SV} {Ω : Om} {Φ : PhiE}, am x xs Ω Φ → ∀ {P F H : Hp} {v : V} {vs : List V} {Q : VK}, Ok E P F H Ω → Rp E.K F v x → Paired (Rp E.K F) vs xs → Aft E P F Φ Q → r v vs H Q
abbrev enX (X : Cx) (G : Gn) : En := ⟨G, X.K⟩
def JE (X : Cx) (G : Gn) (e : Expr) (a : AE) : Prop := ∃ te, PE X e te ∧ SnE (enX X G) te a
def JT (X : Cx) (G : Gn) (e : Expr) (a : AT) : Prop := ∃ te, PT X e te ∧ SnT (enX X G) te a
def JW (X : Cx) (G : Gn) (e : Expr) (a : AT) : Prop := ∃ te, PW X e te ∧ SnT (enX X G) te a
def JA (X : Cx) (G : Gn) (es : List Expr) (a : AA) : Prop := ∃ te, PA X es te ∧ SnA (enX X G) te a
def JK (X : Cx) (G : Gn) (es : List Keyword) (a : AA) : Prop := ∃ te, PK X es te ∧ SnA (enX X G) te a
def JOp (X : Cx) (G : Gn) (f : Value → Value → Sem Value) (ar : AR) : Prop := ∃ r, OpR X f r ∧ SnR (enX X G) r ar
def JUn (X : Cx) (G : Gn) (f : Value → Sem Value) (ar : SV → Om → PhiE → Prop) : Prop := ∃ r, UnR X f r ∧ SnU (enX X G) r ar
def JIx (X : Cx) (G : Gn) (ar : AR) : Prop := ∃ r, IxR X r ∧ SnR (enX X G) r ar
def JC (X : Cx) (G : Gn) (f : Value) (ac : AC) : Prop := ∃ r, CallR X f r ∧ SnC (enX X G) r ac
def JM (X : Cx) (G : Gn) (id : String) (am : AM) : Prop := ∃ r, MtR X id r ∧ SnM (enX X G) r am
/-! ### modes of new lists: data at once, or a cell of the def's own -/
abbrev Mode := Option (Addr → Prop)
def dataOf : List SV → Option (List PyData)
  | [] => some []
  | .d x :: r => match dataOf r with | some ds => some (x :: ds) | none => none
  | _ :: _ => none
def mkL (xs : List SV) : OC := match dataOf xs with | some ds => .lst ds | none => .lx xs
def newL (m : Mode) (ds : List PyData) (Ω : Om) (Φ : PhiE) : Prop := match m with
  | none => Φ (.d (.list ds)) Ω
  | some Fr => ∀ a, Fr a → Φ (.r (.ref a)) ((a, .lst ds) :: Ω)
def newX (m : Mode) (xs : List SV) (Ω : Om) (Φ : PhiE) : Prop := match m with
  | none => match dataOf xs with | some ds => Φ (.d (.list ds)) Ω | none => False
  | some Fr => ∀ a, Fr a → Φ (.r (.ref a)) ((a, mkL xs) :: Ω)
theorem dataOf_ok {K : Frag} {F : Hp} : ∀ {xs : List SV} {ds : List PyData} {vs : List V}, dataOf xs = some ds → Paired (Rp K F) vs xs → DqAll K F vs ds
  | [], ds, vs, h, r => by
    cases h
    cases r
    exact .nil
  | .d x :: xs, ds, vs, h, r => by
    cases r with
    | cons r1 r2 =>
      unfold dataOf at h
      cases e : dataOf xs with
      | none => rw [e] at h; cases h
      | some ds' =>
        rw [e] at h
        cases h
        exact .cons r1 (dataOf_ok e r2)
  | .l x :: xs, ds, vs, h, r => by cases h
  | .r x :: xs, ds, vs, h, r => by cases h
theorem mkL_ok {K : Frag} {F : Hp} {xs : List SV} {vs : List V} (r : Paired (Rp K F) vs xs) : RpO K F (.lst vs) (mkL xs) := by
  unfold mkL
  split
  · rename_i ds e; exact dataOf_ok e r
  · exact r
/-- the mode fits the entry -/
def MOk (E : En) (m : Mode) : Prop := ∀ Fr, m = some Fr → ∀ a, E.H0 a = none → Fr a
theorem mok0 {E : En} : MOk E none := fun _ h => by cases h
theorem mok1 {E : En} : MOk E (some fun a => E.H0 a = none) := fun _ h a e => by cases h; exact e
section
variable {E : En} {P F H : Hp} {Ω : Om} {Φ : PhiE} {Q : VK} {m : Mode}
theorem newL_ok (hm : MOk E m) (o : Ok E P F H Ω) {ds : List PyData} {vs : List V} (r : DqAll E.K F vs ds) (h : newL m ds Ω Φ) (k : Aft E P F Φ Q) {p : Addr} (hp : H p = none) : Q (.ref p) (upd H p (.lst vs)) := by
  cases m with
  | none =>
    obtain ⟨o1, s1⟩ := o.newF (o := .lst vs) hp
    exact k h o1 s1 (Dq.lst upd_same (dqa_same s1 _ _ r))
  | some Fr => exact k (h p (hm _ rfl p (o.dm p hp))) (o.newO hp (c := .lst ds) r) (Same.refl F) rfl
theorem newX_ok (hm : MOk E m) (o : Ok E P F H Ω) {xs : List SV} {vs : List V} (r : Paired (Rp E.K F) vs xs) (h : newX m xs Ω Φ) (k : Aft E P F Φ Q) {p : Addr} (hp : H p = none) : Q (.ref p) (upd H p (.lst vs)) := by
  cases m with
  | none =>
    have h' : (match dataOf xs with | some ds => Φ (.d (.list ds)) Ω | none => False) := h
    split at h'
    · rename_i ds e
      obtain ⟨o1, s1⟩ := o.newF (o := .lst vs) hp
      exact k h' o1 s1 (Dq.lst upd_same (dqa_same s1 _ _ (dataOf_ok e r)))
    · exact h'.elim
  | some Fr => exact k (h p (hm _ rfl p (o.dm p hp))) (o.newO hp (mkL_ok r)) (Same.refl F) rfl
end
/-! ### what is read as a list of data -/
def rdL (x : SV) (Ω : Om) (k : List PyData → Prop) : Prop := match x with
  | .d (.list ds) => k ds
  | .r (.ref a) => ∃ ds f, At Ω a (.lst ds) f ∧ k ds
  | _ => False
def rdS (x : SV) (Ω : Om) (k : List PyData → Prop) : Prop := match x with
  | .d (.list ds) => k ds
  | .d (.tuple ds) => k ds
  | .l ds => k ds
  | .r (.ref a) => ∃ ds f, At Ω a (.lst ds) f ∧ k ds
  | _ => False
def rdD (x : SV) (Ω : Om) (k : PyData → Prop) : Prop := match x with
  | .d d => k d
  | .l ds => k (.list ds)
  | .r (.ref a) => ∃ ds f, At Ω a (.lst ds) f ∧ k (.list ds)
  | _ => False
section
variable {E : En} {P F H : Hp} {Ω : Om} {x : SV} {v : V}
theorem rdL_ok {k : List PyData → Prop} (h : rdL x Ω k) (o : Ok E P F H Ω) (r : Rp E.K F v x) : ∃ a vs ds, v = .ref a ∧ H a = some (.lst vs) ∧ DqAll E.K F vs ds ∧ k ds := by
  unfold rdL at h
  split at h
  · obtain ⟨a, xs, e, hF, ha⟩ := dql r
    exact ⟨a, xs, _, e, o.ex _ _ hF, ha, h⟩
  · obtain ⟨ds, f, t, hk⟩ := h
    obtain ⟨vs, h1, h2⟩ := o.lst t
    exact ⟨_, vs, ds, r, h1, h2, hk⟩
  · exact h.elim
theorem rdS_ok {k : List PyData → Prop} (h : rdS x Ω k) (o : Ok E P F H Ω) (r : Rp E.K F v x) : ∃ a vs ds, v = .ref a ∧ (SqL E.K H a vs ∨ SqT E.K H a vs) ∧ DqAll E.K F vs ds ∧ k ds := by
  unfold rdS at h
  split at h
  · obtain ⟨a, xs, e, hF, ha⟩ := dql r
    exact ⟨a, xs, _, e, Or.inl (SqL.of (o.ex _ _ hF)), ha, h⟩
  · obtain ⟨a, xs, e, hF, ha⟩ := dqt r
    exact ⟨a, xs, _, e, Or.inr (sqt_same o.ex hF), ha, h⟩
  · obtain ⟨a, xs, e, hF, ha⟩ := r
    exact ⟨a, xs, _, e, Or.inl (o.ex.seq hF), ha, h⟩
  · obtain ⟨ds, f, t, hk⟩ := h
    obtain ⟨vs, h1, h2⟩ := o.lst t
    exact ⟨_, vs, ds, r, Or.inl (SqL.of h1), h2, hk⟩
  · exact h.elim
theorem rdD_ok {k : PyData → Prop} (h : rdD x Ω k) (o : Ok E P F H Ω) (r : Rp E.K F v x) : ∃ d, Dp E.K H v d ∧ k d := by
  unfold rdD at h
  split at h
  · exact ⟨_, Dq.dp _ _ (dq_same o.ex _ _ r), h⟩
  · obtain ⟨a, xs, rfl, hF, ha⟩ := r
    exact ⟨_, Dp.lst (o.ex.seq hF) (DqAll.dp _ _ (dqa_same o.ex _ _ ha)), h⟩
  · obtain ⟨ds, f, t, hk⟩ := h
    obtain ⟨vs, h1, h2⟩ := o.lst t
    cases r
    exact ⟨_, Dp.lst (SqL.of h1) (DqAll.dp _ _ (dqa_same o.ex _ _ h2)), hk⟩
  · exact h.elim
end
/-! ### names, constants -/
section
variable {X : Cx} {G : Gn} {e a b : Expr} {aa ab : AE} {at_ bt : AT} {ta : AA} {pos : Pos} {m : Mode}
def aVar (i : Nat) : AE := fun ρ Ω Φ => match ρ[i]? with
  | some (some x) => Φ x Ω
  | _ => False
theorem je_var {i : Nat} (h : PE X e (tVar i)) : JE X G e (aVar i) := by
  refine ⟨_, h, ⟨fun {ρ Ω Φ} h {P F H σ Q} o r k => ?_⟩⟩
  unfold aVar at h
  split at h
  · rename_i x ex
    obtain ⟨v, h1, h2⟩ := rpe_get r ex
    exact ⟨v, h1, k h o (Same.refl F) h2⟩
  · exact h.elim
def aC (x : SV) : AE := fun _ Ω Φ => Φ x Ω
theorem je_c {v : V} {x : SV} (h : PE X e (tC v)) (hx : ∀ F, Rp X.K F v x) : JE X G e (aC x) := ⟨_, h, ⟨fun {ρ Ω Φ} h {P F H σ Q} o r k => k h o (Same.refl F) (hx F)⟩⟩
theorem je_int {i : Int} {j pos} : JE X G (.Constant (.int i) j pos) (aC (.d (.int i))) := je_c pe_int fun _ => .int i
theorem je_bl {c : Bool} {j pos} : JE X G (.Constant (.bool c) j pos) (aC (.d (.bool c))) := je_c pe_bl fun _ => .bl c
theorem je_non {j pos} : JE X G (.Constant .none j pos) (aC (.d .none)) := je_c pe_non fun _ => .non
theorem je_str {x j pos} : JE X G (.Constant (.str x) j pos) (aC (.d (.str x))) := je_c pe_str fun _ => .str x
/-- a built-in's name, a def, a class: as it is -/
theorem je_raw {v : V} (h : PE X e (tC v)) : JE X G e (aC (.r v)) := je_c h fun _ => rfl
/-! ### operators -/
def aBin (ar : AR) (a b : AE) : AE := fun ρ Ω Φ => a ρ Ω fun x Ω1 => b ρ Ω1 fun y Ω2 => ar x y Ω2 Φ
theorem bin_ok {E : En} {ta tb : TE} {r : R2} {ar : AR} (h1 : SnE E ta aa) (h2 : SnE E tb ab) (h3 : SnR E r ar) : SnE E (tOp r ta tb) (aBin ar aa ab) := ⟨fun {ρ Ω Φ} h {P F H σ Q} o rp k =>
  h1.go h o rp fun {v sv Ω1 F1 H1} q o1 s1 r1 => h2.go q o1 (rpe_same s1 rp) fun {u su Ω2 F2 H2} q2 o2 s2 r2 => h3.go q2 o2 (r1.same s2) r2 fun q3 o3 s3 r3 => k q3 o3 ((s1.trans s2).trans s3) r3⟩
theorem je_bin {op : Operator} {ar : AR} (ho : JOp X G (binaryOp op) ar) (ha : JE X G a aa) (hb : JE X G b ab) : JE X G (.BinOp a op b pos) (aBin ar aa ab) := by
  obtain ⟨r, h1, h2⟩ := ho
  obtain ⟨t, h3, h4⟩ := ha
  obtain ⟨u, h5, h6⟩ := hb
  exact ⟨_, pe_op h1 h3 h5, bin_ok h4 h6 h2⟩
theorem je_cmp {op : CmpOp} {ar : AR} (ho : JOp X G (compareOp op) ar) (ha : JE X G a aa) (hb : JE X G b ab) (hm : behindInMarks op b = false) : JE X G (.Compare a [op] [b] pos) (aBin ar aa ab) := by
  obtain ⟨r, h1, h2⟩ := ho
  obtain ⟨t, h3, h4⟩ := ha
  obtain ⟨u, h5, h6⟩ := hb
  exact ⟨_, pe_cmpR h1 h3 h5 hm, bin_ok h4 h6 h2⟩
def aUn (ar : SV → Om → PhiE → Prop) (a : AE) : AE := fun ρ Ω Φ => a ρ Ω fun x Ω1 => ar x Ω1 Φ
theorem je_un {op : UnaryOp} {ar : SV → Om → PhiE → Prop} (ho : JUn X G (unaryOp op) ar) (ha : JE X G a aa) : JE X G (.UnaryOp op a pos) (aUn ar aa) := by
  obtain ⟨r, h1, h2⟩ := ho
  obtain ⟨t, h3, h4⟩ := ha
  exact ⟨_, pe_un h1 h3, ⟨fun {ρ Ω Φ} h {P F H σ Q} o rp k => h4.go h o rp fun q o1 s1 r1 => h2.go q o1 r1 fun q3 o3 s3 r3 => k q3 o3 (s1.trans s3) r3⟩⟩
def arI (C : Int → Int → Prop) (g : Int → Int → PyData) : AR := fun x y Ω Φ => match x, y with
  | .d (.int i), .d (.int j) => C i j ∧ Φ (.d (g i j)) Ω
  | _, _ => False
def arI0 (g : Int → Int → PyData) : AR := fun x y Ω Φ => match x, y with
  | .d (.int i), .d (.int j) => Φ (.d (g i j)) Ω
  | _, _ => False
theorem arI_ok {E : En} {C : Int → Int → Prop} {g : Int → Int → PyData} {g' : Int → Int → V} (hg : ∀ i j F, Dq E.K F (g' i j) (g i j)) : SnR E (rI C g') (arI C g) := by
  refine ⟨fun {x y Ω Φ} h {P F H vx vy Q} o r1 r2 k => ?_⟩
  unfold arI at h
  split at h
  · exact ⟨_, _, dqi r1, dqi r2, h.1, k h.2 o (Same.refl F) (hg _ _ F)⟩
  · exact h.elim
theorem arI0_ok {E : En} {g : Int → Int → PyData} {g' : Int → Int → V} (hg : ∀ i j F, Dq E.K F (g' i j) (g i j)) : SnR E (rI0 g') (arI0 g) := by
  refine ⟨fun {x y Ω Φ} h {P F H vx vy Q} o r1 r2 k => ?_⟩
  unfold arI0 at h
  split at h
  · exact ⟨_, _, dqi r1, dqi r2, k h o (Same.refl F) (hg _ _ F)⟩
  · exact h.elim
abbrev arSub : AR := arI0 fun i j => .int (i - j)
abbrev arMul : AR := arI CMulX fun i j => .int (i * j)
abbrev arDiv : AR := arI CDivW fun i j => .int (i / j)
abbrev arMod : AR := arI (fun _ j => 0 < j) fun i j => .int (i % j)
abbrev arPow : AR := arI CPow fun i j => .int (i ^ j.toNat)
abbrev arLt : AR := arI0 fun i j => .bool (decide (i < j))
abbrev arLe : AR := arI0 fun i j => .bool (decide (i ≤ j))
abbrev arGt : AR := arI0 fun i j => .bool (decide (j < i))
abbrev arGe : AR := arI0 fun i j => .bool (decide (j ≤ i))
theorem jo_sub : JOp X G (binaryOp .Sub) arSub := ⟨_, op_sub, arI0_ok fun _ _ _ => .int _⟩
theorem jo_mulI : JOp X G (binaryOp .Mult) arMul := ⟨_, op_mulX, arI_ok fun _ _ _ => .int _⟩
theorem jo_div : JOp X G (binaryOp .FloorDiv) arDiv := ⟨_, op_fdivW, arI_ok fun _ _ _ => .int _⟩
theorem jo_mod : JOp X G (binaryOp .Mod) arMod := ⟨_, op_mod, arI_ok fun _ _ _ => .int _⟩
theorem jo_pow : JOp X G (binaryOp .Pow) arPow := ⟨_, op_pow, arI_ok fun _ _ _ => .int _⟩
theorem jo_lt : JOp X G (compareOp .Lt) arLt := ⟨_, op_lt, arI0_ok fun _ _ _ => .bl _⟩
theorem jo_le : JOp X G (compareOp .LtE) arLe := ⟨_, op_le, arI0_ok fun _ _ _ => .bl _⟩
theorem jo_gt : JOp X G (compareOp .Gt) arGt := ⟨_, op_gt, arI0_ok fun _ _ _ => .bl _⟩
theorem jo_ge : JOp X G (compareOp .GtE) arGe := ⟨_, op_ge, arI0_ok fun _ _ _ => .bl _⟩
def arNeg (x : SV) (Ω : Om) (Φ : PhiE) : Prop := match x with
  | .d (.int i) => Φ (.d (.int (-i))) Ω
  | _ => False
theorem ju_neg : JUn X G (unaryOp .USub) arNeg := by
  refine ⟨_, un_neg, ⟨fun {x Ω Φ} h {P F H vx Q} o r k => ?_⟩⟩
  unfold arNeg at h
  split at h
  · exact ⟨_, dqi r, k h o (Same.refl F) (.int _)⟩
  · exact h.elim
/-- a + b: ints, tuples, texts, lists -/
def arAdd (m : Mode) : AR := fun x y Ω Φ => match x, y with
  | .d (.int i), .d (.int j) => Φ (.d (.int (i + j))) Ω
  | .d (.tuple xs), .d (.tuple ys) => xs.length + ys.length ≤ sizeLine ∧ Φ (.d (.tuple (xs ++ ys))) Ω
  | .d (.str s), .d (.str t) => s.length + t.length ≤ sizeLine ∧ Φ (.d (.str (s ++ t))) Ω
  | x, y => rdL x Ω fun xs => rdL y Ω fun ys => xs.length + ys.length ≤ sizeLine ∧ newL m (xs ++ ys) Ω Φ
theorem dqa_app {K : Frag} {F : Hp} : ∀ {vs ws : List V} {ds es : List PyData}, DqAll K F vs ds → DqAll K F ws es → DqAll K F (vs ++ ws) (ds ++ es)
  | _, _, _, _, .nil, h => h
  | _, _, _, _, .cons r t, h => .cons r (dqa_app t h)
theorem dqa_nil {K : Frag} {F : Hp} {vs : List V} (h : DqAll K F vs []) : vs = [] := by cases h; rfl
theorem jo_add (hm : MOk (enX X G) m) : JOp X G (binaryOp .Add) (arAdd m) := by
  refine ⟨_, OpR.or op_add (OpR.or op_catA (OpR.or op_add_str op_cat)), ⟨fun {x y Ω Φ} h {P F H vx vy Q} o r1 r2 k => ?_⟩⟩
  unfold arAdd at h
  split at h
  · exact Or.inl ⟨_, _, dqi r1, dqi r2, k h o (Same.refl F) (.int _)⟩
  · rename_i xs ys
    obtain ⟨a, vs, rfl, ha, da⟩ := dqt r1
    obtain ⟨b, ws, rfl, hb, db⟩ := dqt r2
    have e1 := dqa_len da
    have e2 := dqa_len db
    refine Or.inr (Or.inl ⟨a, b, vs, ws, rfl, rfl, sqt_same o.ex ha, sqt_same o.ex hb, by rw [e1, e2]; exact h.1, fun z => ?_, fun z1 z2 => ?_, fun z1 z2 p hp => ?_⟩)
    · subst z
      cases da
      exact k h.2 o (Same.refl F) r2
    · subst z2
      cases db
      have h2 := h.2
      rw [List.append_nil] at h2
      exact k h2 o (Same.refl F) r1
    · obtain ⟨o1, s1⟩ := o.newF (o := .tup (vs ++ ws)) hp
      exact k h.2 o1 s1 (Dq.tup (SqT.of upd_same) (dqa_same s1 _ _ (dqa_app da db)))
  · exact Or.inr (Or.inr (Or.inl ⟨_, _, dqs r1, dqs r2, h.1, k h.2 o (Same.refl F) (.str _)⟩))
  · obtain ⟨a, vs, ds, rfl, ha, da, h⟩ := rdL_ok h o r1
    obtain ⟨b, ws, es, rfl, hb, db, h1, h2⟩ := rdL_ok h o r2
    exact Or.inr (Or.inr (Or.inr ⟨a, b, vs, ws, rfl, rfl, ha, hb, by rw [dqa_len da, dqa_len db]; exact h1, fun p hp => newL_ok hm o (dqa_app da db) h2 k hp⟩))
/-- a == b -/
def arEq : AR := fun x y Ω Φ => match x, y with
  | .d (.int i), .d (.int j) => Φ (.d (.bool (decide (i = j)))) Ω
  | .d (.bool i), .d (.bool j) => Φ (.d (.bool (decide (i = j)))) Ω
  | .d (.str i), .d (.str j) => Φ (.d (.bool (decide (i = j)))) Ω
  | x, y => rdD x Ω fun d => rdD y Ω fun e => SeqAt.shaped d = true ∧ SeqAt.shaped e = true ∧ Φ (.d (.bool (PyData.eqv d e))) Ω
def arNe : AR := fun x y Ω Φ => match x, y with
  | .d (.int i), .d (.int j) => Φ (.d (.bool (!decide (i = j)))) Ω
  | .d (.bool i), .d (.bool j) => Φ (.d (.bool (!decide (i = j)))) Ω
  | .d (.str i), .d (.str j) => Φ (.d (.bool (!decide (i = j)))) Ω
  | x, y => rdD x Ω fun d => rdD y Ω fun e => SeqAt.shaped d = true ∧ SeqAt.shaped e = true ∧ Φ (.d (.bool (!PyData.eqv d e))) Ω
theorem jo_eq (hu : X.A.units + 64 < cLine) : JOp X G (compareOp .Eq) arEq := by
  refine ⟨_, OpR.or op_eq (op_eqD hu), ⟨fun {x y Ω Φ} h {P F H vx vy Q} o r1 r2 k => ?_⟩⟩
  unfold arEq at h
  split at h
  · cases dqi r1; cases dqi r2
    refine Or.inl ⟨rfl, k h o (Same.refl F) ?_⟩
    simp only [V.int.injEq]; exact .bl _
  · cases dqb r1; cases dqb r2
    refine Or.inl ⟨rfl, k h o (Same.refl F) ?_⟩
    simp only [V.bl.injEq]; exact .bl _
  · cases dqs r1; cases dqs r2
    refine Or.inl ⟨rfl, k h o (Same.refl F) ?_⟩
    simp only [V.str.injEq]; exact .bl _
  · obtain ⟨d, hd, h⟩ := rdD_ok h o r1
    obtain ⟨e, he, h1, h2, h3⟩ := rdD_ok h o r2
    exact Or.inr ⟨d, e, hd, he, h1, h2, k h3 o (Same.refl F) (.bl _)⟩
theorem jo_ne (hu : X.A.units + 64 < cLine) : JOp X G (compareOp .NotEq) arNe := by
  refine ⟨_, OpR.or op_ne (op_neD hu), ⟨fun {x y Ω Φ} h {P F H vx vy Q} o r1 r2 k => ?_⟩⟩
  unfold arNe at h
  split at h
  · cases dqi r1; cases dqi r2
    refine Or.inl ⟨rfl, k h o (Same.refl F) ?_⟩
    simp only [V.int.injEq]; exact .bl _
  · cases dqb r1; cases dqb r2
    refine Or.inl ⟨rfl, k h o (Same.refl F) ?_⟩
    simp only [V.bl.injEq]; exact .bl _
  · cases dqs r1; cases dqs r2
    refine Or.inl ⟨rfl, k h o (Same.refl F) ?_⟩
    simp only [V.str.injEq]; exact .bl _
  · obtain ⟨d, hd, h⟩ := rdD_ok h o r1
    obtain ⟨e, he, h1, h2, h3⟩ := rdD_ok h o r2
    exact Or.inr ⟨d, e, hd, he, h1, h2, k h3 o (Same.refl F) (.bl _)⟩
/-- a is None, a is not None -/
def isNon : SV → Bool
  | .d .none => true
  | .r v => decide (v = .non)
  | _ => false
theorem isNon_ok {K : Frag} {F : Hp} {v : V} : ∀ {x : SV}, Rp K F v x → decide (v = .non) = isNon x
  | .d .none, h => by cases dqn h; rfl
  | .d (.int i), h => by cases dqi h; rfl
  | .d (.bool b), h => by cases dqb h; rfl
  | .d (.str b), h => by cases dqs h; rfl
  | .d (.list b), h => by obtain ⟨a, _, rfl, _⟩ := dql h; rfl
  | .d (.tuple b), h => by obtain ⟨a, _, rfl, _⟩ := dqt h; rfl
  | .d (.dict b), h => by cases h
  | .l ds, h => by obtain ⟨a, _, rfl, _⟩ := h; rfl
  | .r u, h => by cases (show v = u from h); rfl
def arIs : AR := fun x y Ω Φ => match y with
  | .d .none => Φ (.d (.bool (isNon x))) Ω
  | _ => False
def arIsNot : AR := fun x y Ω Φ => match y with
  | .d .none => Φ (.d (.bool (!isNon x))) Ω
  | _ => False
theorem jo_is : JOp X G (compareOp .Is) arIs := by
  refine ⟨_, op_isN, ⟨fun {x y Ω Φ} h {P F H vx vy Q} o r1 r2 k => ?_⟩⟩
  unfold arIs at h
  split at h
  · exact ⟨dqn r2, k h o (Same.refl F) (by rw [isNon_ok r1]; exact .bl _)⟩
  · exact h.elim
theorem jo_isnot : JOp X G (compareOp .IsNot) arIsNot := by
  refine ⟨_, op_notN, ⟨fun {x y Ω Φ} h {P F H vx vy Q} o r1 r2 k => ?_⟩⟩
  unfold arIsNot at h
  split at h
  · exact ⟨dqn r2, k h o (Same.refl F) (by rw [isNon_ok r1]; exact .bl _)⟩
  · exact h.elim
/-! ### truth, tests, and, or, not -/
/-- the ways of a truth value -/
structure br (b : Bool) (A B : Prop) : Prop where
  t : b = true → A
  f : b = false → B
theorem br_of {b : Bool} {A B : Prop} (h1 : b = true → A) (h2 : b = false → B) : br b A B := ⟨h1, h2⟩
theorem br_d {p : Prop} [Decidable p] {A B : Prop} (h1 : p → A) (h2 : ¬p → B) : br (decide p) A B := ⟨fun h => h1 (of_decide_eq_true h), fun h => h2 (of_decide_eq_false h)⟩
theorem br_n {b : Bool} {A B : Prop} (h : br b B A) : br (!b) A B := ⟨fun e => h.f (by cases b <;> simp_all), fun e => h.t (by cases b <;> simp_all)⟩
theorem br_T {A B : Prop} (h : A) : br true A B := ⟨fun _ => h, fun e => (by cases e)⟩
theorem br_F {A B : Prop} (h : B) : br false A B := ⟨fun e => (by cases e), fun _ => h⟩
def brX (b : Bool) (A B : Prop) : Prop := match b with
  | true => A
  | false => B
theorem br_out {b : Bool} {A B : Prop} (h : br b A B) : brX b A B := by
  cases b
  · exact h.f rfl
  · exact h.t rfl
theorem br_ite {b : Bool} {A B : Prop} (h : brX b A B) : if b = true then A else B := by
  cases b
  · rw [if_neg Bool.false_ne_true]; exact h
  · rw [if_pos rfl]; exact h
def truD (x : SV) (Ω : Om) (k : Bool → Prop) : Prop := match x with
  | .d .none => k false
  | .d (.bool b) => k b
  | .d (.int i) => k (i != 0)
  | .d (.str y) => y.length ≤ sizeLine ∧ k ((y.length : Int) != 0)
  | x => rdS x Ω fun ds => k (!ds.isEmpty)
theorem truD_ok {E : En} {P F H : Hp} {Ω : Om} {x : SV} {v : V} {k : Bool → Prop} (h : truD x Ω k) (o : Ok E P F H Ω) (r : Rp E.K F v x) : ∃ b, TruV E.K v H b ∧ k b := by
  unfold truD at h
  split at h
  · cases dqn r; exact ⟨false, rfl, h⟩
  · cases dqb r; exact ⟨_, rfl, h⟩
  · cases dqi r; exact ⟨_, rfl, h⟩
  · cases dqs r; exact ⟨_, ⟨h.1, rfl⟩, h.2⟩
  · obtain ⟨a, vs, ds, rfl, hs, da, hk⟩ := rdS_ok h o r
    have ee : (!vs.isEmpty) = !ds.isEmpty := by cases da <;> rfl
    rcases hs with hs | hs
    · exact ⟨_, Or.inl ⟨vs, hs, ee.symm⟩, hk⟩
    · exact ⟨_, Or.inr (Or.inl ⟨vs, hs, ee.symm⟩), hk⟩
def aTru (a : AE) : AT := fun ρ Ω Φ => a ρ Ω fun x Ω' => truD x Ω' fun b => Φ b Ω'
theorem jt_of (ha : JE X G a aa) (he : ∀ whole, isTrue a X.env whole = (do let v ← whole; standAt a.pos; holding [v] (truthy v)) := by intro _; rfl) : JT X G a (aTru aa) := by
  obtain ⟨t, h3, h4⟩ := ha
  refine ⟨_, pt_truth h3 he, ⟨fun {ρ Ω Φ} h {P F H σ Q} o rp k => h4.go h o rp fun {v sv Ω1 F1 H1} q o1 s1 r1 => ?_⟩⟩
  obtain ⟨b, hb, hk⟩ := truD_ok q o1 r1
  exact ⟨b, hb, k hk o1 s1⟩
/-- a comparison as a test -/
def aB (a : AE) : AT := fun ρ Ω Φ => a ρ Ω fun x Ω' => match x with | .d (.bool b) => Φ b Ω' | _ => False
theorem jt_cmp {op : CmpOp} {ar : AR} (ho : JOp X G (compareOp op) ar) (ha : JE X G a aa) (hb : JE X G b ab) (hm : behindInMarks op b = false) : JT X G (.Compare a [op] [b] pos) (aB (aBin ar aa ab)) := by
  obtain ⟨r, h1, h2⟩ := ho
  obtain ⟨t, h3, h4⟩ := ha
  obtain ⟨u, h5, h6⟩ := hb
  refine ⟨_, pt_cmpR h1 h3 h5 hm, ⟨fun {ρ Ω Φ} h {P F H σ Q} o rp k => (bin_ok h4 h6 h2).go h o rp fun {v sv Ω1 F1 H1} q o1 s1 r1 => ?_⟩⟩
  dsimp only at q
  split at q
  · exact ⟨_, dqb r1, k q o1 s1⟩
  · exact q.elim
def aAnd (t u : AT) : AT := fun ρ Ω Φ => t ρ Ω fun b Ω1 => br b (u ρ Ω1 Φ) (Φ false Ω1)
def aOr (t u : AT) : AT := fun ρ Ω Φ => t ρ Ω fun b Ω1 => br b (Φ true Ω1) (u ρ Ω1 Φ)
def aNot (t : AT) : AT := fun ρ Ω Φ => t ρ Ω fun b Ω1 => Φ (!b) Ω1
theorem jw_pt (h : JW X G a at_) : JT X G a at_ := by
  obtain ⟨t, h1, h2⟩ := h
  exact ⟨t, h1.pt, h2⟩
theorem jw_and1 (h : JT X G a at_) : JW X G (.BoolOp .And [a] pos) at_ := by
  obtain ⟨t, h1, h2⟩ := h
  exact ⟨t, pw_and1 h1, h2⟩
theorem jw_or1 (h : JT X G a at_) : JW X G (.BoolOp .Or [a] pos) at_ := by
  obtain ⟨t, h1, h2⟩ := h
  exact ⟨t, pw_or1 h1, h2⟩
theorem jw_and {rest : List Expr} (h : JT X G a at_) (h' : JW X G (.BoolOp .And (b :: rest) pos) bt) : JW X G (.BoolOp .And (a :: b :: rest) pos) (aAnd at_ bt) := by
  obtain ⟨t, h1, h2⟩ := h
  obtain ⟨u, h3, h4⟩ := h'
  refine ⟨_, pw_and h1 h3, ⟨fun {ρ Ω Φ} h {P F H σ Q} o rp k => h2.go h o rp fun {b Ω1 F1 H1} q o1 s1 => br_ite ?_⟩⟩
  replace q := br_out q
  cases b
  · exact k q o1 s1
  · exact h4.go q o1 (rpe_same s1 rp) fun q2 o2 s2 => k q2 o2 (s1.trans s2)
theorem jw_or {rest : List Expr} (h : JT X G a at_) (h' : JW X G (.BoolOp .Or (b :: rest) pos) bt) : JW X G (.BoolOp .Or (a :: b :: rest) pos) (aOr at_ bt) := by
  obtain ⟨t, h1, h2⟩ := h
  obtain ⟨u, h3, h4⟩ := h'
  refine ⟨_, pw_or h1 h3, ⟨fun {ρ Ω Φ} h {P F H σ Q} o rp k => h2.go h o rp fun {b Ω1 F1 H1} q o1 s1 => br_ite ?_⟩⟩
  replace q := br_out q
  cases b
  · exact h4.go q o1 (rpe_same s1 rp) fun q2 o2 s2 => k q2 o2 (s1.trans s2)
  · exact k q o1 s1
theorem jt_not (h : JT X G a at_) : JT X G (.UnaryOp .Not a pos) (aNot at_) := by
  obtain ⟨t, h1, h2⟩ := h
  exact ⟨_, pt_not h1, ⟨fun {ρ Ω Φ} h {P F H σ Q} o rp k => h2.go h o rp fun q o1 s1 => k q o1 s1⟩⟩
/-- and, or, not as values: all but the last True or False -/
def aAndV (a b : AE) : AE := fun ρ Ω Φ => a ρ Ω fun x Ω1 => match x with
  | .d (.bool c) => br c (b ρ Ω1 Φ) (Φ (.d (.bool false)) Ω1)
  | _ => False
def aOrV (a b : AE) : AE := fun ρ Ω Φ => a ρ Ω fun x Ω1 => match x with
  | .d (.bool c) => br c (Φ (.d (.bool true)) Ω1) (b ρ Ω1 Φ)
  | _ => False
def aNotV (a : AE) : AE := fun ρ Ω Φ => a ρ Ω fun x Ω1 => match x with
  | .d (.bool c) => Φ (.d (.bool (!c))) Ω1
  | _ => False
theorem je_one {op} (h : JE X G a aa) : JE X G (.BoolOp op [a] pos) aa := by
  obtain ⟨t, h1, h2⟩ := h
  exact ⟨t, pe_one h1, h2⟩
theorem je_and {rest : List Expr} (h : JE X G a aa) (h' : JE X G (.BoolOp .And (b :: rest) pos) ab) : JE X G (.BoolOp .And (a :: b :: rest) pos) (aAndV aa ab) := by
  obtain ⟨t, h1, h2⟩ := h
  obtain ⟨u, h3, h4⟩ := h'
  refine ⟨_, pe_and h1 h3, ⟨fun {ρ Ω Φ} h {P F H σ Q} o rp k => h2.go h o rp fun {v sv Ω1 F1 H1} q o1 s1 r1 => ?_⟩⟩
  dsimp only at q
  split at q
  · rename_i c
    refine ⟨c, dqb r1, br_ite ?_⟩
    replace q := br_out q
    cases c
    · exact k q o1 s1 (.bl _)
    · exact h4.go q o1 (rpe_same s1 rp) fun q2 o2 s2 r2 => k q2 o2 (s1.trans s2) r2
  · exact q.elim
theorem je_or {rest : List Expr} (h : JE X G a aa) (h' : JE X G (.BoolOp .Or (b :: rest) pos) ab) : JE X G (.BoolOp .Or (a :: b :: rest) pos) (aOrV aa ab) := by
  obtain ⟨t, h1, h2⟩ := h
  obtain ⟨u, h3, h4⟩ := h'
  refine ⟨_, pe_or h1 h3, ⟨fun {ρ Ω Φ} h {P F H σ Q} o rp k => h2.go h o rp fun {v sv Ω1 F1 H1} q o1 s1 r1 => ?_⟩⟩
  dsimp only at q
  split at q
  · rename_i c
    refine ⟨c, dqb r1, br_ite ?_⟩
    replace q := br_out q
    cases c
    · exact h4.go q o1 (rpe_same s1 rp) fun q2 o2 s2 r2 => k q2 o2 (s1.trans s2) r2
    · exact k q o1 s1 (.bl _)
  · exact q.elim
theorem je_not (h : JE X G a aa) : JE X G (.UnaryOp .Not a pos) (aNotV aa) := by
  obtain ⟨t, h1, h2⟩ := h
  refine ⟨_, pe_not h1, ⟨fun {ρ Ω Φ} h {P F H σ Q} o rp k => h2.go h o rp fun {v sv Ω1 F1 H1} q o1 s1 r1 => ?_⟩⟩
  dsimp only at q
  split at q
  · exact ⟨_, dqb r1, k q o1 s1 (.bl _)⟩
  · exact q.elim
def aIfE (t : AT) (a b : AE) : AE := fun ρ Ω Φ => t ρ Ω fun c Ω1 => br c (a ρ Ω1 Φ) (b ρ Ω1 Φ)
theorem je_if {c : Expr} (ht : JT X G c at_) (ha : JE X G a aa) (hb : JE X G b ab) : JE X G (.IfExp c a b pos) (aIfE at_ aa ab) := by
  obtain ⟨t, h1, h2⟩ := ht
  obtain ⟨ta, h3, h4⟩ := ha
  obtain ⟨tb, h5, h6⟩ := hb
  refine ⟨_, pe_ifExp h1 h3 h5, ⟨fun {ρ Ω Φ} h {P F H σ Q} o rp k => h2.go h o rp fun {c Ω1 F1 H1} q o1 s1 => br_ite ?_⟩⟩
  replace q := br_out q
  cases c
  · exact h6.go q o1 (rpe_same s1 rp) fun q2 o2 s2 r2 => k q2 o2 (s1.trans s2) r2
  · exact h4.go q o1 (rpe_same s1 rp) fun q2 o2 s2 r2 => k q2 o2 (s1.trans s2) r2
/-! ### argument lists, displays -/
def aNil : AA := fun _ Ω Φ => Φ [] Ω
def aCons (a : AE) (t : AA) : AA := fun ρ Ω Φ => a ρ Ω fun x Ω1 => t ρ Ω1 fun xs Ω2 => Φ (x :: xs) Ω2
theorem cons_ok {E : En} {ta : TE} {tr : TA} {ar : AA} (h1 : SnE E ta aa) (h2 : SnA E tr ar) : SnA E (tCons ta tr) (aCons aa ar) := ⟨fun {ρ Ω Φ} h {P F H σ Q} o rp k =>
  h1.go h o rp fun {v sv Ω1 F1 H1} q o1 s1 r1 => h2.go q o1 (rpe_same s1 rp) fun {vs svs Ω2 F2 H2} q2 o2 s2 r2 => k q2 o2 (s1.trans s2) (.cons (r1.same s2) r2)⟩
theorem ja_nil : JA X G [] aNil := ⟨_, pa_nil, ⟨fun {ρ Ω Φ} h {P F H σ Q} o rp k => k h o (Same.refl F) .nil⟩⟩
theorem ja_cons {es : List Expr} {ar : AA} (ha : JE X G e aa) (hr : JA X G es ar) (hs : starEach (e :: es) X.env = (false, eval e X.env) :: starEach es X.env := by rfl) : JA X G (e :: es) (aCons aa ar) := by
  obtain ⟨t, h1, h2⟩ := ha
  obtain ⟨u, h3, h4⟩ := hr
  exact ⟨_, pa_cons h1 h3 hs, cons_ok h2 h4⟩
theorem jk_nil : JK X G [] aNil := ⟨_, pk_nil, ⟨fun {ρ Ω Φ} h {P F H σ Q} o rp k => k h o (Same.refl F) .nil⟩⟩
theorem jk_cons {kws : List Keyword} {ar : AA} {nm : Option Str} {kpos : Pos} (ha : JE X G e aa) (hr : JK X G kws ar) : JK X G (⟨nm, e, kpos⟩ :: kws) (aCons aa ar) := by
  obtain ⟨t, h1, h2⟩ := ha
  obtain ⟨u, h3, h4⟩ := hr
  exact ⟨_, pk_cons h1 h3, cons_ok h2 h4⟩
def aTup (t : AA) : AE := fun ρ Ω Φ => t ρ Ω fun xs Ω' => xs.length ≤ sizeLine ∧ match dataOf xs with | some ds => Φ (.d (.tuple ds)) Ω' | none => False
theorem je_tup {es : List Expr} {ar : AA} {x1} (h : JA X G es ar) : JE X G (.Tuple es x1 pos) (aTup ar) := by
  obtain ⟨t, h1, h2⟩ := h
  refine ⟨_, pe_tup h1, ⟨fun {ρ Ω Φ} h {P F H σ Q} o rp k => h2.go h o rp fun {vs svs Ω1 F1 H1} q o1 s1 r1 => ⟨by rw [r1.length]; exact q.1, fun p hp => ?_⟩⟩⟩
  have q2 := q.2
  split at q2
  · rename_i ds e
    obtain ⟨o2, s2⟩ := o1.newF (o := .tup vs) hp
    exact k q2 o2 (s1.trans s2) (Dq.tup (SqT.of upd_same) (dqa_same s2 _ _ (dataOf_ok e r1)))
  · exact q2.elim
def aLst (m : Mode) (t : AA) : AE := fun ρ Ω Φ => t ρ Ω fun xs Ω' => xs.length ≤ sizeLine ∧ newX m xs Ω' Φ
theorem je_lst {es : List Expr} {ar : AA} (hm : MOk (enX X G) m) (h : JA X G es ar) : JE X G (.List es pos) (aLst m ar) := by
  obtain ⟨t, h1, h2⟩ := h
  exact ⟨_, pe_lst h1, ⟨fun {ρ Ω Φ} h {P F H σ Q} o rp k => h2.go h o rp fun {vs svs Ω1 F1 H1} q o1 s1 r1 => ⟨by rw [r1.length]; exact q.1, fun p hp => newX_ok hm o1 r1 q.2 (fun q2 o2 s2 r2 => k q2 o2 (s1.trans s2) r2) hp⟩⟩⟩
end
end Z
/-! Z4: subscripts, slices, built-ins, methods, calls of defs; what a for walks; statements. -/
namespace Z
open PySem PySem.Spec PyProof.Rows L2
theorem dqa_rev {K : Frag} {F : Hp} {vs : List V} {ds : List PyData} (h : DqAll K F vs ds) : DqAll K F vs.reverse ds.reverse := by
  have q := pr_rev (of_dqa h)
  rw [← List.map_reverse] at q
  exact dqa_of q
theorem dqa_take {K : Frag} {F : Hp} {vs : List V} {ds : List PyData} (n : Nat) (h : DqAll K F vs ds) : DqAll K F (vs.take n) (ds.take n) := by
  have q := pr_take n (of_dqa h)
  rw [← List.map_take] at q
  exact dqa_of q
theorem dqa_drop {K : Frag} {F : Hp} {vs : List V} {ds : List PyData} (n : Nat) (h : DqAll K F vs ds) : DqAll K F (vs.drop n) (ds.drop n) := by
  have q := pr_drop n (of_dqa h)
  rw [← List.map_drop] at q
  exact dqa_of q
theorem dqa_get {K : Frag} {F : Hp} {vs : List V} {ds : List PyData} {i : Nat} {d : PyData} (h : DqAll K F vs ds) (e : ds[i]? = some d) : ∃ v, vs[i]? = some v ∧ Dq K F v d :=
  pr_get (R := Rp K F) (of_dqa h) (i := i) (y := .d d) (by rw [List.getElem?_map, e]; rfl)
theorem dqa_getL {K : Frag} {F : Hp} {vs : List V} {ds : List PyData} {i : Nat} {v : V} (h : DqAll K F vs ds) (e : vs[i]? = some v) : ∃ d, ds[i]? = some d ∧ Dq K F v d := by
  obtain ⟨y, hy, r⟩ := pr_getL (of_dqa h) e
  rw [List.getElem?_map] at hy
  cases hd : ds[i]? with
  | none => rw [hd] at hy; cases hy
  | some d => rw [hd] at hy; cases hy; exact ⟨d, rfl, r⟩
theorem dqa_set {K : Frag} {F : Hp} {vs : List V} {ds : List PyData} {v : V} {d : PyData} (i : Nat) (h : DqAll K F vs ds) (r : Dq K F v d) : DqAll K F (vs.set i v) (ds.set i d) := by
  have q := pr_set (R := Rp K F) (x := v) (y := .d d) r i (of_dqa h)
  rw [← List.map_set] at q
  exact dqa_of q
theorem dqa_erase {K : Frag} {F : Hp} {vs : List V} {ds : List PyData} (i : Nat) (h : DqAll K F vs ds) : DqAll K F (vs.eraseIdx i) (ds.eraseIdx i) := by
  have q := pr_erase i (of_dqa h)
  have e : (ds.map SV.d).eraseIdx i = (ds.eraseIdx i).map SV.d := by
    rw [List.eraseIdx_eq_take_drop_succ, List.eraseIdx_eq_take_drop_succ, List.map_append, List.map_take, List.map_drop]
  rw [e] at q
  exact dqa_of q
theorem dqa_ints {K : Frag} {F : Hp} : ∀ {vs : List V} {ns : List Int}, DqAll K F vs (ns.map PyData.int) → vs = ns.map V.int
  | _, [], h => by cases h; rfl
  | _, n :: ns, h => by
    cases h with
    | cons r t => rw [dqi r, dqa_ints t]; rfl
theorem ints_dqa {K : Frag} {F : Hp} : ∀ (ns : List Int), DqAll K F (ns.map V.int) (ns.map PyData.int)
  | [] => .nil
  | n :: ns => .cons (.int n) (ints_dqa ns)
theorem dqa_bools {K : Frag} {F : Hp} : ∀ {vs : List V} {ns : List Bool}, DqAll K F vs (ns.map PyData.bool) → vs = ns.map V.bl
  | _, [], h => by cases h; rfl
  | _, n :: ns, h => by
    cases h with
    | cons r t => rw [dqb r, dqa_bools t]; rfl
theorem at_len {K : Frag} {F : Hp} {vs : List V} {ds : List PyData} {i : Int} {d : PyData} (h : DqAll K F vs ds) (e : atI ds i = some d) : ∃ v, atI vs i = some v ∧ Dq K F v d := by
  unfold atI at e ⊢
  rw [dqa_len h]
  cases q : ixN ds.length i with
  | none => rw [q] at e; cases e
  | some j => rw [q] at e; exact dqa_get h e
theorem at_lenX {K : Frag} {F : Hp} {vs : List V} {xs : List SV} {i : Int} {x : SV} (h : Paired (Rp K F) vs xs) (e : atI xs i = some x) : ∃ v, atI vs i = some v ∧ Rp K F v x := by
  unfold atI at e ⊢
  rw [h.length]
  cases q : ixN xs.length i with
  | none => rw [q] at e; cases e
  | some j => rw [q] at e; exact pr_get h e
/-- the items of xs[lo:hi] -/
def cutD {α : Type} (xs : List α) (lo hi : Option Int) : List α := (xs.drop (HT.sIx xs.length 0 lo)).take (HT.sIx xs.length xs.length hi - HT.sIx xs.length 0 lo)
theorem dqa_cut {K : Frag} {F : Hp} {vs : List V} {ds : List PyData} (lo hi : Option Int) (h : DqAll K F vs ds) : DqAll K F (cutV vs lo hi) (cutD ds lo hi) := by
  unfold cutV cutD
  rw [dqa_len h]
  exact dqa_take _ (dqa_drop _ h)
section
variable {X : Cx} {G : Gn} {e a b : Expr} {aa ab : AE} {at_ bt : AT} {ta : AA} {pos : Pos} {m : Mode}
/-! ### a[i] -/
def ixC (c : OC) (i : Int) (Ω : Om) (Φ : PhiE) : Prop := match c with
  | .lst ds => ∃ d, atI ds i = some d ∧ Φ (.d d) Ω
  | .lx xs => ∃ x, atI xs i = some x ∧ Φ x Ω
  | _ => False
def arIx : AR := fun x y Ω Φ => match x, y with
  | .d (.list ds), .d (.int i) => ∃ d, atI ds i = some d ∧ Φ (.d d) Ω
  | .d (.tuple ds), .d (.int i) => ∃ d, atI ds i = some d ∧ Φ (.d d) Ω
  | .d (.str z), .d (.int i) => z.length ≤ sizeLine ∧ ∃ c, atI z.cps.toList i = some c ∧ Φ (.d (.str ⟨#[c]⟩)) Ω
  | .l ds, .d (.int i) => ∃ d, atI ds i = some d ∧ Φ (.d d) Ω
  | .r (.ref p), .d (.int i) => ∃ c f, At Ω p c f ∧ ixC c i Ω Φ
  | _, _ => False
theorem jx_seq : JIx X G arIx := by
  refine ⟨_, ix_seq, ⟨fun {x y Ω Φ} h {P F H vx vy Q} o r1 r2 k => ?_⟩⟩
  unfold arIx at h
  split at h
  · obtain ⟨d, e, q⟩ := h
    obtain ⟨p, vs, rfl, hF, da⟩ := dql r1
    obtain ⟨v, e2, rv⟩ := at_len da e
    exact Or.inl ⟨p, vs, _, v, rfl, dqi r2, SqL.of (o.ex _ _ hF), e2, k q o (Same.refl F) rv⟩
  · obtain ⟨d, e, q⟩ := h
    obtain ⟨p, vs, rfl, hF, da⟩ := dqt r1
    obtain ⟨v, e2, rv⟩ := at_len da e
    exact Or.inr (Or.inl ⟨p, vs, _, v, rfl, dqi r2, sqt_same o.ex hF, e2, k q o (Same.refl F) rv⟩)
  · obtain ⟨hz, c, e, q⟩ := h
    exact Or.inr (Or.inr ⟨_, _, c, dqs r1, dqi r2, hz, e, k q o (Same.refl F) (.str _)⟩)
  · obtain ⟨d, e, q⟩ := h
    obtain ⟨p, vs, rfl, hF, da⟩ := r1
    obtain ⟨v, e2, rv⟩ := at_len da e
    exact Or.inl ⟨p, vs, _, v, rfl, dqi r2, o.ex.seq hF, e2, k q o (Same.refl F) rv⟩
  · obtain ⟨c, f, t, q⟩ := h
    cases r1
    unfold ixC at q
    split at q
    · obtain ⟨d, e, q⟩ := q
      obtain ⟨vs, h1, h2⟩ := o.lst t
      obtain ⟨v, e2, rv⟩ := at_len h2 e
      exact Or.inl ⟨_, vs, _, v, rfl, dqi r2, SqL.of h1, e2, k q o (Same.refl F) rv⟩
    · obtain ⟨d, e, q⟩ := q
      obtain ⟨vs, h1, h2⟩ := o.lx t
      obtain ⟨v, e2, rv⟩ := at_lenX h2 e
      exact Or.inl ⟨_, vs, _, v, rfl, dqi r2, SqL.of h1, e2, k q o (Same.refl F) rv⟩
    · exact q.elim
  · exact h.elim
theorem je_ix {ar : AR} (hr : JIx X G ar) (ha : JE X G a aa) (hb : JE X G b ab) (hs : PlainIx b) : JE X G (.Subscript a b pos) (aBin ar aa ab) := by
  obtain ⟨r, h1, h2⟩ := hr
  obtain ⟨t, h3, h4⟩ := ha
  obtain ⟨u, h5, h6⟩ := hb
  exact ⟨_, pe_ix h1 h3 h5 hs, bin_ok h4 h6 h2⟩
/-! ### a[lo:hi] -/
abbrev AO := Rho → Om → (Option Int → Om → Prop) → Prop
structure SnO (E : En) (te : TO) (a : AO) : Prop where
  go : ∀ {ρ : Rho} {Ω : Om} {Φ : Option Int → Om → Prop}, a ρ Ω Φ → ∀ {P F H : Hp} {σ : L2.St} {Q : Option Int → Hp → Prop}, Ok E P F H Ω → RpE E.K F σ ρ →
    (∀ {b : Option Int} {Ω' : Om} {F' H' : Hp}, Φ b Ω' → Ok E P F' H' Ω' → Same F F' → Q b H') → te σ H Q
def JO (X : Cx) (G : Gn) (e : Option Expr) (a : AO) : Prop := ∃ te, PO X e te ∧ SnO (enX X G) te a
def aNoP : AO := fun _ Ω Φ => Φ none Ω
def aPart (a : AE) : AO := fun ρ Ω Φ => a ρ Ω fun x Ω' => match x with | .d (.int i) => Φ (some i) Ω' | _ => False
theorem jp_none : JO X G none aNoP := ⟨_, po_none, ⟨fun {ρ Ω Φ} h {P F H σ Q} o rp k => k h o (Same.refl F)⟩⟩
theorem jp_some (ha : JE X G a aa) : JO X G (some a) (aPart aa) := by
  obtain ⟨t, h1, h2⟩ := ha
  refine ⟨_, po_some h1, ⟨fun {ρ Ω Φ} h {P F H σ Q} o rp k => h2.go h o rp fun {v sv Ω1 F1 H1} q o1 s1 r1 => ?_⟩⟩
  dsimp only at q
  split at q
  · exact ⟨_, dqi r1, k q o1 s1⟩
  · exact q.elim
def slR (m : Mode) (x : SV) (lo hi : Option Int) (Ω : Om) (Φ : PhiE) : Prop := match x with
  | .d (.tuple ds) => Φ (.d (.tuple (cutD ds lo hi))) Ω
  | .l ds => newL m (cutD ds lo hi) Ω Φ
  | x => rdL x Ω fun ds => newL m (cutD ds lo hi) Ω Φ
def aSl (m : Mode) (a : AE) (lo hi : AO) : AE := fun ρ Ω Φ => a ρ Ω fun x Ω1 => lo ρ Ω1 fun i Ω2 => hi ρ Ω2 fun j Ω3 => slR m x i j Ω3 Φ
theorem cut_all {α : Type} {xs : List α} {lo hi : Option Int} (h : HT.sIx xs.length 0 lo = 0 ∧ HT.sIx xs.length xs.length hi = xs.length) : cutD xs lo hi = xs := by
  unfold cutD
  rw [h.1, h.2, List.drop_zero, Nat.sub_zero, List.take_length]
theorem je_sl {lo hi : Option Expr} {al ah : AO} {p2 : Pos} (hm : MOk (enX X G) m) (ha : JE X G a aa) (hl : JO X G lo al) (hh : JO X G hi ah) : JE X G (.Subscript a (.Slice lo hi none p2) pos) (aSl m aa al ah) := by
  obtain ⟨t, h1, h2⟩ := ha
  obtain ⟨u, h3, h4⟩ := hl
  obtain ⟨w, h5, h6⟩ := hh
  refine ⟨_, pe_slice (SlR.or sl_tupA sl_list) h1 h3 h5, ⟨fun {ρ Ω Φ} h {P F H σ Q} o rp k => h2.go h o rp fun {v sv Ω1 F1 H1} q o1 s1 r1 => h4.go q o1 (rpe_same s1 rp) fun {i Ω2 F2 H2} q2 o2 s2 => h6.go q2 o2 (rpe_same (s1.trans s2) rp) fun {j Ω3 F3 H3} q3 o3 s3 => ?_⟩⟩
  have r3 := (r1.same s2).same s3
  have k3 : Aft (enX X G) P F3 Φ Q := fun p1 p2 p3 p4 => k p1 p2 (((s1.trans s2).trans s3).trans p3) p4
  unfold slR at q3
  split at q3
  · rename_i ds
    obtain ⟨p, vs, rfl, hF, da⟩ := dqt r3
    refine Or.inl ⟨p, vs, rfl, sqt_same o3.ex hF, fun z => ?_, fun z q hq => ?_⟩
    · rw [dqa_len da] at z
      rw [cut_all z] at q3
      exact k3 q3 o3 (Same.refl F3) r3
    · obtain ⟨o4, s4⟩ := o3.newF (o := .tup (cutV vs i j)) hq
      exact k3 q3 o4 s4 (Dq.tup (SqT.of upd_same) (dqa_same s4 _ _ (dqa_cut i j da)))
  · obtain ⟨p, vs, rfl, hF, da⟩ := r3
    exact Or.inr ⟨p, vs, rfl, o3.ex.seq hF, fun q hq => newL_ok hm o3 (dqa_cut i j da) q3 k3 hq⟩
  · obtain ⟨p, vs, ds, rfl, hF, da, q4⟩ := rdL_ok q3 o3 r3
    exact Or.inr ⟨p, vs, rfl, SqL.of hF, fun q hq => newL_ok hm o3 (dqa_cut i j da) q4 k3 hq⟩
/-! ### built-ins -/
def aCB (ac : AC) (t : AA) : AE := fun ρ Ω Φ => t ρ Ω fun xs Ω' => ac xs Ω' Φ
theorem cb_ok {E : En} {r : List V → Hp → VK → Prop} {ac : AC} {t : TA} (h1 : SnA E t ta) (h2 : SnC E r ac) : SnE E (tCB r t) (aCB ac ta) := ⟨fun {ρ Ω Φ} h {P F H σ Q} o rp k =>
  h1.go h o rp fun q o1 s1 r1 => h2.go q o1 r1 fun q2 o2 s2 r2 => k q2 o2 (s1.trans s2) r2⟩
theorem je_callB {id : String} {ac : AC} {x : Str} {p : Pos} {es : List Expr} (hc : JC X G (.builtin id) ac) (hg : Gl X x) (hm : X.mg x = none) (hv : bootBuiltins x = some (.builtin id)) (ha : JA X G (e :: es) ta) (hn : x ≠ "__name__" := by decide) (hdb : (x == ("__debug__" : Str)) = false := by decide)
    (he : starEach (e :: es) X.env = (false, eval e X.env) :: starEach es X.env := by rfl) (hpl : (backTo pos (starEach es X.env)).any (·.1) = false := by rfl) : JE X G (.Call (.Name x p) (e :: es) [] pos) (aCB ac ta) := by
  obtain ⟨r, h1, h2⟩ := hc
  obtain ⟨t, h3, h4⟩ := ha
  exact ⟨_, pe_callB h1 hg hm hv h3 hn hdb he hpl, cb_ok h4 h2⟩
theorem je_callTy {T : String} {ac : AC} {x : Str} {p : Pos} {es : List Expr} (hc : JC X G (.type T) ac) (hg : Gl X x) (hm : X.mg x = none) (hv : bootBuiltins x = some (.type T)) (ha : JA X G (e :: es) ta) (hn : x ≠ "__name__" := by decide) (hdb : (x == ("__debug__" : Str)) = false := by decide)
    (he : starEach (e :: es) X.env = (false, eval e X.env) :: starEach es X.env := by rfl) (hpl : (backTo pos (starEach es X.env)).any (·.1) = false := by rfl) : JE X G (.Call (.Name x p) (e :: es) [] pos) (aCB ac ta) := by
  obtain ⟨r, h1, h2⟩ := hc
  obtain ⟨t, h3, h4⟩ := ha
  exact ⟨_, pe_callTy h1 hg hm hv h3 hn hdb he hpl, cb_ok h4 h2⟩
theorem pr1 {α β : Type} {R : α → β → Prop} {vs : List α} {x : β} (h : Paired R vs [x]) : ∃ v, vs = [v] ∧ R v x := by
  cases h with
  | cons r t => cases t; exact ⟨_, rfl, r⟩
theorem pr2 {α β : Type} {R : α → β → Prop} {vs : List α} {x y : β} (h : Paired R vs [x, y]) : ∃ v u, vs = [v, u] ∧ R v x ∧ R u y := by
  cases h with
  | cons r t =>
    obtain ⟨u, rfl, r2⟩ := pr1 t
    exact ⟨_, u, rfl, r, r2⟩
/-- of one argument -/
def ac1 (f : SV → Om → PhiE → Prop) : AC := fun xs Ω Φ => match xs with
  | [x] => f x Ω Φ
  | _ => False
def ac2 (f : SV → SV → Om → PhiE → Prop) : AC := fun xs Ω Φ => match xs with
  | [x, y] => f x y Ω Φ
  | _ => False
theorem ac1_ok {E : En} {r : List V → Hp → VK → Prop} {f : SV → Om → PhiE → Prop}
    (h : ∀ {x : SV} {Ω : Om} {Φ : PhiE}, f x Ω Φ → ∀ {P F H : Hp} {v : V} {Q : VK}, Ok E P F H Ω → Rp E.K F v x → Aft E P F Φ Q → r [v] H Q) : SnC E r (ac1 f) := by
  refine ⟨fun {xs Ω Φ} q {P F H vs Q} o rp k => ?_⟩
  unfold ac1 at q
  split at q
  · obtain ⟨v, rfl, r1⟩ := pr1 rp
    exact h q o r1 k
  · exact q.elim
theorem ac2_ok {E : En} {r : List V → Hp → VK → Prop} {f : SV → SV → Om → PhiE → Prop}
    (h : ∀ {x y : SV} {Ω : Om} {Φ : PhiE}, f x y Ω Φ → ∀ {P F H : Hp} {v u : V} {Q : VK}, Ok E P F H Ω → Rp E.K F v x → Rp E.K F u y → Aft E P F Φ Q → r [v, u] H Q) : SnC E r (ac2 f) := by
  refine ⟨fun {xs Ω Φ} q {P F H vs Q} o rp k => ?_⟩
  unfold ac2 at q
  split at q
  · obtain ⟨v, u, rfl, r1, r2⟩ := pr2 rp
    exact h q o r1 r2 k
  · exact q.elim
def fLen (x : SV) (Ω : Om) (Φ : PhiE) : Prop := match x with
  | .d (.str z) => z.length ≤ sizeLine ∧ Φ (.d (.int z.length)) Ω
  | x => rdS x Ω fun ds => Φ (.d (.int ds.length)) Ω
abbrev acLen : AC := ac1 fLen
theorem jc_len : JC X G (.builtin "len") acLen := by
  refine ⟨fun xs H Q => (∃ p ys, xs = [.ref p] ∧ (SqL X.K H p ys ∨ SqT X.K H p ys) ∧ Q (.int ys.length) H) ∨ ∃ z, xs = [.str z] ∧ z.length ≤ sizeLine ∧ Q (.int z.length) H, fun pins s σ H xs us Q I r h => ?_, ac1_ok fun {x Ω Φ} h {P F H v Q} o r k => ?_⟩
  · rcases h with h | h
    · exact call_len_seq pins s σ H xs us Q I r h
    · exact call_len_str pins s σ H xs us Q I r h
  · unfold fLen at h
    split at h
    · cases dqs r; exact Or.inr ⟨_, rfl, h.1, k h.2 o (Same.refl F) (.int _)⟩
    · obtain ⟨p, vs, ds, rfl, hs, da, q⟩ := rdS_ok h o r
      refine Or.inl ⟨p, vs, rfl, hs, k q o (Same.refl F) ?_⟩
      rw [dqa_len da]
      exact .int _
def fI1 (g : Int → Int) (x : SV) (Ω : Om) (Φ : PhiE) : Prop := match x with
  | .d (.int i) => Φ (.d (.int (g i))) Ω
  | _ => False
abbrev acAbs : AC := ac1 (fI1 fun i => if i < 0 then -i else i)
theorem jc_abs : JC X G (.builtin "abs") acAbs := by
  refine ⟨_, call_abs, ac1_ok fun {x Ω Φ} h {P F H v Q} o r k => ?_⟩
  unfold fI1 at h
  split at h
  · cases dqi r; exact ⟨_, rfl, k h o (Same.refl F) (.int _)⟩
  · exact h.elim
def fInt (x : SV) (Ω : Om) (Φ : PhiE) : Prop := match x with
  | .d (.int i) => Φ (.d (.int i)) Ω
  | .d (.bool b) => Φ (.d (.int (if b then 1 else 0))) Ω
  | _ => False
abbrev acInt : AC := ac1 fInt
theorem jc_int : JC X G (.type "int") acInt := by
  refine ⟨_, call_int1, ac1_ok fun {x Ω Φ} h {P F H v Q} o r k => ?_⟩
  unfold fInt at h
  split at h
  · cases dqi r; exact Or.inl ⟨_, rfl, k h o (Same.refl F) (.int _)⟩
  · cases dqb r; exact Or.inr ⟨_, rfl, k h o (Same.refl F) (.int _)⟩
  · exact h.elim
def fI2 (g : Int → Int → Int) (x y : SV) (Ω : Om) (Φ : PhiE) : Prop := match x, y with
  | .d (.int i), .d (.int j) => Φ (.d (.int (g i j))) Ω
  | _, _ => False
abbrev acMax2 : AC := ac2 (fI2 fun i j => if j > i then j else i)
abbrev acMin2 : AC := ac2 (fI2 fun i j => if j < i then j else i)
theorem jc_max2 (hc : X.calm = true) : JC X G (.builtin "max") acMax2 := by
  refine ⟨_, call_max2 hc, ac2_ok fun {x y Ω Φ} h {P F H v u Q} o r1 r2 k => ?_⟩
  unfold fI2 at h
  split at h
  · cases dqi r1; cases dqi r2; exact ⟨_, _, rfl, k h o (Same.refl F) (.int _)⟩
  · exact h.elim
theorem jc_min2 (hc : X.calm = true) : JC X G (.builtin "min") acMin2 := by
  refine ⟨_, call_min2 hc, ac2_ok fun {x y Ω Φ} h {P F H v u Q} o r1 r2 k => ?_⟩
  unfold fI2 at h
  split at h
  · cases dqi r1; cases dqi r2; exact ⟨_, _, rfl, k h o (Same.refl F) (.int _)⟩
  · exact h.elim
/-- tuple(x), list(x) of lists and tuples -/
def fTupOf (x : SV) (Ω : Om) (Φ : PhiE) : Prop := match x with
  | .d (.tuple ds) => Φ (.d (.tuple ds)) Ω
  | .l ds => Φ (.d (.tuple ds)) Ω
  | x => rdL x Ω fun ds => Φ (.d (.tuple ds)) Ω
abbrev acTupOf : AC := ac1 fTupOf
theorem jc_tupleOf : JC X G (.type "tuple") acTupOf := by
  refine ⟨_, call_tuple_of, ac1_ok fun {x Ω Φ} h {P F H v Q} o r k => ?_⟩
  have fin : ∀ {p : Addr} {vs : List V} {ds : List PyData}, DqAll X.K F vs ds → Φ (.d (.tuple ds)) Ω → ∀ l, H l = none → Q (.ref l) (upd H l (.tup vs)) := fun {p vs ds} da q l hl => by
    obtain ⟨o1, s1⟩ := o.newF (o := .tup vs) hl
    exact k q o1 s1 (Dq.tup (SqT.of upd_same) (dqa_same s1 _ _ da))
  unfold fTupOf at h
  split at h
  · obtain ⟨p, vs, rfl, hF, da⟩ := dqt r
    exact ⟨p, vs, rfl, Or.inr ⟨sqt_same o.ex hF, k h o (Same.refl F) r⟩⟩
  · obtain ⟨p, vs, rfl, hF, da⟩ := r
    exact ⟨p, vs, rfl, Or.inl ⟨o.ex.seq hF, fin (p := p) da h⟩⟩
  · obtain ⟨p, vs, ds, rfl, hs, da, q⟩ := rdL_ok h o r
    exact ⟨p, vs, rfl, Or.inl ⟨SqL.of hs, fin (p := p) da q⟩⟩
def fLstOf (m : Mode) (x : SV) (Ω : Om) (Φ : PhiE) : Prop := rdS x Ω fun ds => newL m ds Ω Φ
abbrev acLstOf (m : Mode) : AC := ac1 (fLstOf m)
theorem jc_listOf (hm : MOk (enX X G) m) : JC X G (.type "list") (acLstOf m) := by
  refine ⟨_, call_list_of, ac1_ok fun {x Ω Φ} h {P F H v Q} o r k => ?_⟩
  obtain ⟨p, vs, ds, rfl, hs, da, q⟩ := rdS_ok h o r
  exact ⟨p, vs, rfl, hs, fun l hl => newL_ok hm o da q k hl⟩
/-- list(range(n)), list(range(a, b)) -/
def rgD (a b : Int) : List PyData := (List.range (b - a).toNat).map fun i => PyData.int (a + (i : Nat))
theorem dqa_rg {K : Frag} {F : Hp} (a b : Int) : DqAll K F (rgV a b) (rgD a b) := by
  unfold rgV rgD
  generalize List.range (b - a).toNat = l
  induction l with
  | nil => exact .nil
  | cons i l ih => exact .cons (.int _) ih
abbrev ARg := Rho → Om → (Int → Int → Om → Prop) → Prop
def aRg1 (a : AE) : ARg := fun ρ Ω Φ => a ρ Ω fun x Ω' => match x with | .d (.int n) => Φ 0 n Ω' | _ => False
def aRg2 (a b : AE) : ARg := fun ρ Ω Φ => a ρ Ω fun x Ω1 => b ρ Ω1 fun y Ω2 => match x, y with | .d (.int i), .d (.int j) => Φ i j Ω2 | _, _ => False
structure SnRg (E : En) (te : L2.St → Hp → (Int → Int → Hp → Prop) → Prop) (a : ARg) : Prop where
  go : ∀ {ρ : Rho} {Ω : Om} {Φ : Int → Int → Om → Prop}, a ρ Ω Φ → ∀ {P F H : Hp} {σ : L2.St} {Q : Int → Int → Hp → Prop}, Ok E P F H Ω → RpE E.K F σ ρ →
    (∀ {i j : Int} {Ω' : Om} {F' H' : Hp}, Φ i j Ω' → Ok E P F' H' Ω' → Same F F' → Q i j H') → te σ H Q
def JRg (X : Cx) (G : Gn) (e : Expr) (a : ARg) : Prop := ∃ te, PRg X e te ∧ SnRg (enX X G) te a
theorem jrg_1 {p : Pos} (hg : Gl X "range") (hm : X.mg "range" = none) (ha : JE X G a aa) (na : starEach [a] X.env = (false, eval a X.env) :: starEach [] X.env := by rfl) : JRg X G (.Call (.Name "range" p) [a] [] pos) (aRg1 aa) := by
  obtain ⟨t, h1, h2⟩ := ha
  refine ⟨_, prg_1 hg hm h1 na, ⟨fun {ρ Ω Φ} h {P F H σ Q} o rp k => h2.go h o rp fun {v sv Ω1 F1 H1} q o1 s1 r1 => ?_⟩⟩
  dsimp only at q
  split at q
  · exact ⟨_, dqi r1, k q o1 s1⟩
  · exact q.elim
theorem jrg_2 {p : Pos} (hg : Gl X "range") (hm : X.mg "range" = none) (ha : JE X G a aa) (hb : JE X G b ab) (na : starEach [a, b] X.env = (false, eval a X.env) :: starEach [b] X.env := by rfl) (nb : starEach [b] X.env = (false, eval b X.env) :: starEach [] X.env := by rfl) (hp : (backTo pos (starEach [b] X.env)).any (·.1) = false := by rfl) : JRg X G (.Call (.Name "range" p) [a, b] [] pos) (aRg2 aa ab) := by
  obtain ⟨t, h1, h2⟩ := ha
  obtain ⟨u, h3, h4⟩ := hb
  refine ⟨_, prg_2 hg hm h1 h3 na nb hp, ⟨fun {ρ Ω Φ} h {P F H σ Q} o rp k => h2.go h o rp fun {v sv Ω1 F1 H1} q o1 s1 r1 => h4.go q o1 (rpe_same s1 rp) fun {v2 sv2 Ω2 F2 H2} q2 o2 s2 r2 => ?_⟩⟩
  dsimp only at q2
  split at q2
  · exact ⟨_, _, dqi (r1.same s2), dqi r2, k q2 o2 (s1.trans s2)⟩
  · exact q2.elim
def aLstRg (m : Mode) (a : ARg) : AE := fun ρ Ω Φ => a ρ Ω fun i j Ω' => RgOk i j ∧ newL m (rgD i j) Ω' Φ
theorem je_listRg {ar : ARg} {p : Pos} (hm : MOk (enX X G) m) (hc : X.calm = true) (hg : Gl X "list") (hmg : X.mg "list" = none) (ha : JRg X G e ar) (na : starEach [e] X.env = (false, eval e X.env) :: starEach [] X.env := by rfl) : JE X G (.Call (.Name "list" p) [e] [] pos) (aLstRg m ar) := by
  obtain ⟨t, h1, h2⟩ := ha
  exact ⟨_, pe_listRg hc hg hmg h1 na, ⟨fun {ρ Ω Φ} h {P F H σ Q} o rp k => h2.go h o rp fun {i j Ω1 F1 H1} q o1 s1 => ⟨q.1, fun p hp => newL_ok hm o1 (dqa_rg i j) q.2 (fun q2 o2 s2 r2 => k q2 o2 (s1.trans s2) r2) hp⟩⟩⟩
/-- sum, max, min of a list of ints; all, any of bools -/
def intsOf : List PyData → Option (List Int)
  | [] => some []
  | .int i :: r => match intsOf r with | some ns => some (i :: ns) | none => none
  | _ :: _ => none
theorem intsOf_ok : ∀ {ds : List PyData} {ns : List Int}, intsOf ds = some ns → ds = ns.map PyData.int
  | [], ns, h => by cases h; rfl
  | .int i :: r, ns, h => by
    unfold intsOf at h
    cases e : intsOf r with
    | none => rw [e] at h; cases h
    | some ms => rw [e] at h; cases h; rw [intsOf_ok e]; rfl
  | .none :: r, ns, h => by cases h
  | .bool b :: r, ns, h => by cases h
  | .str b :: r, ns, h => by cases h
  | .list b :: r, ns, h => by cases h
  | .tuple b :: r, ns, h => by cases h
  | .dict b :: r, ns, h => by cases h
def fSum (x : SV) (Ω : Om) (Φ : PhiE) : Prop := ∃ ns : List Int, rdS x Ω fun ds => (match x with | .d (.tuple _) => False | _ => True) ∧ ds = ns.map PyData.int ∧ Φ (.d (.int ns.sum)) Ω
theorem rdL_of_S {x : SV} {Ω : Om} {k : List PyData → Prop} (h : rdS x Ω fun ds => (match x with | .d (.tuple _) => False | _ => True) ∧ k ds) {E : En} {P F H : Hp} {v : V} (o : Ok E P F H Ω) (r : Rp E.K F v x) :
    ∃ a vs ds, v = .ref a ∧ SqL E.K H a vs ∧ DqAll E.K F vs ds ∧ k ds := by
  obtain ⟨a, vs, ds, rfl, hs, da, h1, h2⟩ := rdS_ok h o r
  rcases hs with hs | hs
  · exact ⟨a, vs, ds, rfl, hs, da, h2⟩
  · unfold rdS at h
    split at h
    · obtain ⟨a', xs, e, hF, ha⟩ := dql r
      cases e
      exact ⟨_, xs, _, rfl, SqL.of (o.ex _ _ hF), ha, h.2⟩
    · exact h1.elim
    · obtain ⟨a', xs, e, hF, ha⟩ := r
      cases e
      exact ⟨_, xs, _, rfl, o.ex.seq hF, ha, h.2⟩
    · obtain ⟨ds', f, t, hk⟩ := h
      obtain ⟨vs', h1, h2⟩ := o.lst t
      cases r
      exact ⟨_, vs', _, rfl, SqL.of h1, h2, hk.2⟩
    · exact h.elim
theorem jc_sum (hc : X.calm = true) : JC X G (.builtin "sum") (ac1 fSum) := by
  refine ⟨_, cr_sum hc, ac1_ok fun {x Ω Φ} h {P F H v Q} o r k => ?_⟩
  obtain ⟨ns, h⟩ := h
  obtain ⟨a, vs, ds, rfl, hs, da, rfl, q⟩ := rdL_of_S h o r
  rw [dqa_ints da] at hs
  exact ⟨a, ns, rfl, hs, k q o (Same.refl F) (.int _)⟩
def fAll (x : SV) (Ω : Om) (Φ : PhiE) : Prop := ∃ bs : List Bool, rdS x Ω fun ds => (match x with | .d (.tuple _) => False | _ => True) ∧ ds = bs.map PyData.bool ∧ Φ (.d (.bool (bs.all id))) Ω
def fAny (x : SV) (Ω : Om) (Φ : PhiE) : Prop := ∃ bs : List Bool, rdS x Ω fun ds => (match x with | .d (.tuple _) => False | _ => True) ∧ ds = bs.map PyData.bool ∧ Φ (.d (.bool (bs.any id))) Ω
theorem jc_all (hc : X.calm = true) : JC X G (.builtin "all") (ac1 fAll) := by
  refine ⟨_, cr_all hc, ac1_ok fun {x Ω Φ} h {P F H v Q} o r k => ?_⟩
  obtain ⟨ns, h⟩ := h
  obtain ⟨a, vs, ds, rfl, hs, da, rfl, q⟩ := rdL_of_S h o r
  rw [dqa_bools da] at hs
  exact ⟨a, ns, rfl, hs, k q o (Same.refl F) (.bl _)⟩
theorem jc_any (hc : X.calm = true) : JC X G (.builtin "any") (ac1 fAny) := by
  refine ⟨_, cr_any hc, ac1_ok fun {x Ω Φ} h {P F H v Q} o r k => ?_⟩
  obtain ⟨ns, h⟩ := h
  obtain ⟨a, vs, ds, rfl, hs, da, rfl, q⟩ := rdL_of_S h o r
  rw [dqa_bools da] at hs
  exact ⟨a, ns, rfl, hs, k q o (Same.refl F) (.bl _)⟩
/-- sorted of ints -/
def fSorted (m : Mode) (x : SV) (Ω : Om) (Φ : PhiE) : Prop := ∃ ns : List Int, rdS x Ω fun ds => (match x with | .d (.tuple _) => False | _ => True) ∧ ds = ns.map PyData.int ∧ ∀ ms : List Int, ms.Perm ns → ms.Pairwise (· ≤ ·) → newL m (ms.map PyData.int) Ω Φ
theorem jc_sorted (hm : MOk (enX X G) m) : JC X G (.builtin "sorted") (ac1 (fSorted m)) := by
  refine ⟨_, cr_sortedI, ac1_ok fun {x Ω Φ} h {P F H v Q} o r k => ?_⟩
  obtain ⟨ns, h⟩ := h
  obtain ⟨a, vs, ds, rfl, hs, da, rfl, q⟩ := rdL_of_S h o r
  rw [dqa_ints da] at hs
  exact ⟨a, ns, rfl, hs, fun ms p h1 h2 hp => newL_ok hm o (ints_dqa ms) (q ms h1 h2) k hp⟩
/-- isinstance(x, T) for a built-in T -/
def tyD : SV → Option String
  | .d .none => some "NoneType"
  | .d (.bool _) => some "bool"
  | .d (.int _) => some "int"
  | .d (.str _) => some "str"
  | .d (.list _) => some "list"
  | .d (.tuple _) => some "tuple"
  | _ => none
theorem tyX_of {E : En} {P F H : Hp} {Ω : Om} (o : Ok E P F H Ω) : ∀ {x : SV} {v : V} {t : String}, Rp E.K F v x → tyD x = some t → TyX E.K H v (.type t)
  | .d .none, v, t, r, e => by cases dqn r; cases e; exact .base .non
  | .d (.bool b), v, t, r, e => by cases dqb r; cases e; exact .base (.bl b)
  | .d (.int b), v, t, r, e => by cases dqi r; cases e; exact .base (.int b)
  | .d (.str b), v, t, r, e => by cases dqs r; cases e; exact .base (.str b)
  | .d (.list b), v, t, r, e => by
    obtain ⟨a, xs, rfl, hF, _⟩ := dql r
    cases e
    exact .base (.lst (o.ex _ _ hF))
  | .d (.tuple b), v, t, r, e => by
    obtain ⟨a, xs, rfl, hF, _⟩ := dqt r
    cases e
    rcases sqt_same o.ex hF with (h | ⟨ob, h⟩) | ⟨ob, its, n, h, hc, _⟩
    · exact .base (.tup h)
    · exact .fTuple h
    · exact .kTuple h hc
  | .d (.dict b), v, t, r, e => by cases e
  | .l ds, v, t, r, e => by cases e
  | .r u, v, t, r, e => by cases e
def fIsi (x y : SV) (Ω : Om) (Φ : PhiE) : Prop := match y with
  | .r (.ty n) => ∃ t b, tyD x = some t ∧ L2.kitB t n = some b ∧ Φ (.d (.bool b)) Ω
  | _ => False
theorem jc_isi : JC X G (.builtin "isinstance") (ac2 fIsi) := by
  refine ⟨_, call_isi, ac2_ok fun {x y Ω Φ} h {P F H v u Q} o r1 r2 k => ?_⟩
  unfold fIsi at h
  split at h
  · obtain ⟨t, b, h1, h2, h3⟩ := h
    cases (show u = _ from r2)
    exact ⟨_, _, _, _, b, rfl, ClsV.ty _, tyX_of o r1 h1, kit_ty h2, k h3 o (Same.refl F) (.bl b)⟩
  · exact h.elim
/-- math.gcd -/
theorem jc_gcd : JC X G (.builtin "math.gcd") (ac2 (fI2 fun i j => ((Nat.gcd i.natAbs j.natAbs : Nat) : Int))) := by
  refine ⟨_, cr_gcd, ac2_ok fun {x y Ω Φ} h {P F H v u Q} o r1 r2 k => ?_⟩
  unfold fI2 at h
  split at h
  · cases dqi r1; cases dqi r2; exact ⟨_, _, rfl, k h o (Same.refl F) (.int _)⟩
  · exact h.elim
/-- repr of data -/
def fRepr (x : SV) (Ω : Om) (Φ : PhiE) : Prop := rdD x Ω fun d => d.showable = true ∧ d.hasDict = false ∧ d.depth ≤ 60 ∧ d.shown.length ≤ sizeLine ∧ Φ (.d (.str d.shown)) Ω
theorem call_reprD (hu : X.A.units + 64 < cLine) (hgd : X.A.guards = some []) : CallR X (.builtin "repr") (fun xs H Q => ∃ v d, xs = [v] ∧ Dp X.K H v d ∧ d.showable = true ∧ d.hasDict = false ∧ d.depth ≤ 60 ∧ d.shown.length ≤ sizeLine ∧ Q (.str d.shown) H) := by
  intro pins s σ H xs us Q I r h
  obtain ⟨v, d, rfl, hd, h1, h2, h3, h4, q⟩ := h
  obtain ⟨u, rfl, ru⟩ := vals1 r
  have big : ∀ {p : Addr} {as : List Addr}, Reads s.heap (.ref p) d as → u = .ref p → wpAny (model X.prog X.w) X.A (call (.builtin "repr") [u]) (EP X pins σ Q) X.xe s := fun {p as} rd e => by
    rw [e]
    exact repr_of_reads' rd h1 (PyData.noDict_hsm h2) hgd (by omega) (fun _ _ e => e) (fun h' u tk hk => ⟨.str d.shown, H, I.kept hk, ⟨_, rfl⟩, q⟩) h4
  cases d with
  | none =>
    cases hd
    cases ru
    exact PySem.P.repr_of_none ⟨.str _, H, I.tok _, ⟨_, rfl⟩, by simpa only [PyData.shown] using q⟩
  | bool b =>
    cases hd
    cases ru
    exact PySem.P.repr_of_bool ⟨.str _, H, I.tok _, ⟨_, rfl⟩, by simpa only [PyData.shown] using q⟩
  | int i =>
    cases hd
    obtain ⟨t, rfl⟩ := ru
    exact PySem.P.repr_of_int (by simpa [PyData.showable] using h1) ⟨.str _, H, I.tok _, ⟨_, rfl⟩, by simpa only [PyData.shown] using q⟩
  | str x =>
    cases hd
    obtain ⟨t, rfl⟩ := ru
    exact PySem.P.repr_of_str ⟨.str _, H, I.tok _, ⟨_, rfl⟩, by simpa only [PyData.shown] using q⟩ (by simpa only [PyData.shown] using h4)
  | list ds =>
    obtain ⟨as, rd⟩ := Dp.reads I _ v u hd ru
    cases hd with
    | lst _ _ => cases ru; exact big rd rfl
  | tuple ds =>
    obtain ⟨as, rd⟩ := Dp.reads I _ v u hd ru
    cases hd with
    | tup _ _ => cases ru; exact big rd rfl
  | dict kvs => cases hd
theorem jc_repr (hu : X.A.units + 64 < cLine) (hgd : X.A.guards = some []) : JC X G (.builtin "repr") (ac1 fRepr) := by
  refine ⟨_, call_reprD hu hgd, ac1_ok fun {x Ω Φ} h {P F H v Q} o r k => ?_⟩
  obtain ⟨d, hd, h1, h2, h3, h4, q⟩ := rdD_ok h o r
  exact ⟨v, d, rfl, hd, h1, h2, h3, h4, k q o (Same.refl F) (.str _)⟩
/-! ### methods of lists -/
def isLs (x : SV) (Ω : Om) : Prop := match x with
  | .d (.list _) => True
  | .r (.ref a) => ∃ c f, At Ω a c f ∧ (match c with | .lst _ => True | .lx _ => True | _ => False)
  | _ => False
theorem isLs_ok {E : En} {P F H : Hp} {Ω : Om} {x : SV} {v : V} (h : isLs x Ω) (o : Ok E P F H Ω) (r : Rp E.K F v x) : tyV E.K "list" v H := by
  unfold isLs at h
  split at h
  · obtain ⟨a, xs, rfl, hF, _⟩ := dql r
    exact Or.inl ⟨rfl, _, SqL.of (o.ex _ _ hF)⟩
  · obtain ⟨c, f, t, hc⟩ := h
    cases (show v = _ from r)
    split at hc
    · obtain ⟨vs, h1, _⟩ := o.lst t
      exact Or.inl ⟨rfl, _, SqL.of h1⟩
    · obtain ⟨vs, h1, _⟩ := o.lx t
      exact Or.inl ⟨rfl, _, SqL.of h1⟩
    · exact hc.elim
  · exact h.elim
def aMl (am : AM) (a : AE) (t : AA) : AE := fun ρ Ω Φ => a ρ Ω fun x Ω1 => isLs x Ω1 ∧ t ρ Ω1 fun xs Ω2 => am x xs Ω2 Φ
def aMl0 (am : AM) (a : AE) : AE := fun ρ Ω Φ => a ρ Ω fun x Ω1 => isLs x Ω1 ∧ am x [] Ω1 Φ
theorem je_ml {name : Str} {id : String} {am : AM} {es : List Expr} {apos cpos : Pos} (slot : Slot "list" name id) (hty : typeOf (.builtin id) = pure (.type "method_descriptor")) (hm : JM X G id am) (ha : JE X G a aa) (ht : JA X G (e :: es) ta)
    (hbase : attributeBase a name X.env (eval a X.env) = eval a X.env := by rfl)
    (hfew : ((backTo cpos (starEach (e :: es) X.env)).all (fun x => !x.1) && (backToKw cpos (keywordEach [] X.env)).all (fun x => x.1.isSome)
      && decide ((e :: es).length + ([] : List Keyword).length + (if ([] : List Keyword).isEmpty then 0 else 1) < 30)) = true := by rfl)
    (hline : (apos.endLine == cpos.line) = true := by rfl) (hs : starEach (e :: es) X.env = (false, eval e X.env) :: starEach es X.env := by rfl) (hplain : (backTo cpos (starEach es X.env)).any (·.1) = false := by rfl) :
    JE X G (.Call (.Attribute a name apos) (e :: es) [] cpos) (aMl am aa ta) := by
  obtain ⟨r, h1, h2⟩ := hm
  obtain ⟨t, h3, h4⟩ := ha
  obtain ⟨u, h5, h6⟩ := ht
  refine ⟨_, pe_bm PySem.F.plainAttrs_list slot hty h1 h3 h5 hbase hfew hline hs hplain, ⟨fun {ρ Ω Φ} h {P F H σ Q} o rp k => h4.go h o rp fun {v sv Ω1 F1 H1} q o1 s1 r1 => ⟨isLs_ok q.1 o1 r1, ?_⟩⟩⟩
  exact h6.go q.2 o1 (rpe_same s1 rp) fun q2 o2 s2 r2 => h2.go q2 o2 (r1.same s2) r2 fun q3 o3 s3 r3 => k q3 o3 ((s1.trans s2).trans s3) r3
theorem je_ml0 {name : Str} {id : String} {am : AM} {apos cpos : Pos} (slot : Slot "list" name id) (hty : typeOf (.builtin id) = pure (.type "method_descriptor")) (hm : JM X G id am) (ha : JE X G a aa)
    (hbase : attributeBase a name X.env (eval a X.env) = eval a X.env := by rfl) (hline : (apos.endLine == cpos.line) = true := by rfl) : JE X G (.Call (.Attribute a name apos) [] [] cpos) (aMl0 am aa) := by
  obtain ⟨r, h1, h2⟩ := hm
  obtain ⟨t, h3, h4⟩ := ha
  refine ⟨_, pe_bm0 PySem.F.plainAttrs_list slot hty h1 h3 hbase hline, ⟨fun {ρ Ω Φ} h {P F H σ Q} o rp k => h4.go h o rp fun {v sv Ω1 F1 H1} q o1 s1 r1 => ⟨isLs_ok q.1 o1 r1, ?_⟩⟩⟩
  exact h2.go q.2 o1 r1 .nil fun q3 o3 s3 r3 => k q3 o3 (s1.trans s3) r3
/-- xs.append(y) -/
def amAppend : AM := fun x xs Ω Φ => match x, xs with
  | .r (.ref p), [y] => ∃ c f, At Ω p c f ∧ (match c, y with
    | .lst ds, .d d => ds.length < sizeLine ∧ Φ (.d .none) (f (.lst (ds ++ [d])))
    | .lx ys, y => ys.length < sizeLine ∧ Φ (.d .none) (f (.lx (ys ++ [y])))
    | .lst ds, y => ds.length < sizeLine ∧ Φ (.d .none) (f (.lx (ds.map SV.d ++ [y])))
    | _, _ => False)
  | _, _ => False
theorem jm_append : JM X G "list.append" amAppend := by
  refine ⟨_, mt_append, ⟨fun {x xs Ω Φ} h {P F H v vs Q} o r rs k => ?_⟩⟩
  unfold amAppend at h
  split at h
  · rename_i p y
    obtain ⟨c, f, t, h⟩ := h
    cases (show v = _ from r)
    obtain ⟨u, rfl, ru⟩ := pr1 rs
    split at h
    · obtain ⟨ws, h1, h2⟩ := o.lst t
      exact ⟨p, ws, u, rfl, rfl, h1, by rw [dqa_len h2]; exact h.1, k h.2 (o.put t (dqa_app h2 (.cons ru .nil))) (Same.refl F) .non⟩
    · obtain ⟨ws, h1, h2⟩ := o.lx t
      exact ⟨p, ws, u, rfl, rfl, h1, by rw [h2.length]; exact h.1, k h.2 (o.put t (pr_app h2 (.cons ru .nil))) (Same.refl F) .non⟩
    · obtain ⟨ws, h1, h2⟩ := o.lst t
      exact ⟨p, ws, u, rfl, rfl, h1, by rw [dqa_len h2]; exact h.1, k h.2 (o.put t (pr_app (of_dqa h2) (.cons ru .nil))) (Same.refl F) .non⟩
    · exact h.elim
  · exact h.elim
/-- xs.pop(), xs.pop(i) -/
def amPop : AM := fun x xs Ω Φ => match x, xs with
  | .r (.ref p), [] => ∃ ds f, At Ω p (.lst ds) f ∧ ∃ d, ds[ds.length - 1]? = some d ∧ Φ (.d d) (f (.lst ds.dropLast))
  | .r (.ref p), [.d (.int i)] => ∃ ds f, At Ω p (.lst ds) f ∧ ∃ d, 0 ≤ i ∧ i < 2 ^ 63 ∧ ds[i.toNat]? = some d ∧ Φ (.d d) (f (.lst (ds.eraseIdx i.toNat)))
  | _, _ => False
theorem dqa_dropLast {K : Frag} {F : Hp} {vs : List V} {ds : List PyData} (h : DqAll K F vs ds) : DqAll K F vs.dropLast ds.dropLast := by
  rw [List.dropLast_eq_take, List.dropLast_eq_take, dqa_len h]
  exact dqa_take _ h
theorem jm_pop : JM X G "list.pop" amPop := by
  refine ⟨_, MtR.or mt_pop mt_popAt, ⟨fun {x xs Ω Φ} h {P F H v vs Q} o r rs k => ?_⟩⟩
  unfold amPop at h
  split at h
  · obtain ⟨ds, f, t, d, e, q⟩ := h
    cases (show v = _ from r)
    cases rs
    obtain ⟨ws, h1, h2⟩ := o.lst t
    obtain ⟨u, e2, ru⟩ := dqa_get h2 e
    rw [← dqa_len h2] at e2
    exact Or.inl ⟨_, ws, u, rfl, rfl, h1, e2, k q (o.put t (dqa_dropLast h2)) (Same.refl F) ru⟩
  · rename_i p i
    obtain ⟨ds, f, t, d, h0, h63, e, q⟩ := h
    cases (show v = _ from r)
    obtain ⟨u, rfl, ru⟩ := pr1 rs
    cases dqi ru
    obtain ⟨ws, h1, h2⟩ := o.lst t
    obtain ⟨u, e2, ru⟩ := dqa_get h2 e
    have hlt : i.toNat < ws.length := (List.getElem?_eq_some_iff.mp e2).1
    exact Or.inr ⟨_, ws, i, i.toNat, u, rfl, rfl, h1, by omega, h63, by first | exact seqIndex_of h0 (by omega) | (unfold seqIndex?; simp; omega), e2, k q (o.put t (dqa_erase _ h2)) (Same.refl F) ru⟩
  · exact h.elim
/-- xs.extend(ys) -/
def amExtend : AM := fun x xs Ω Φ => match x, xs with
  | .r (.ref p), [y] => ∃ ds f, At Ω p (.lst ds) f ∧ rdL y Ω fun es => ds.length + es.length ≤ sizeLine ∧ Φ (.d .none) (f (.lst (ds ++ es)))
  | _, _ => False
theorem jm_extend : JM X G "list.extend" amExtend := by
  refine ⟨_, mt_extend, ⟨fun {x xs Ω Φ} h {P F H v vs Q} o r rs k => ?_⟩⟩
  unfold amExtend at h
  split at h
  · obtain ⟨ds, f, t, h⟩ := h
    cases (show v = _ from r)
    obtain ⟨u, rfl, ru⟩ := pr1 rs
    obtain ⟨ws, h1, h2⟩ := o.lst t
    obtain ⟨b, us, es, rfl, h3, h4, h5, q⟩ := rdL_ok h o ru
    exact ⟨_, b, ws, us, rfl, rfl, h1, h3, by rw [dqa_len h2, dqa_len h4]; exact h5, k q (o.put t (dqa_app h2 h4)) (Same.refl F) .non⟩
  · exact h.elim
end
end Z
/-! Z5: calls of defs by contracts; what a for walks; targets; statements; comprehensions; a def by its body. -/
namespace Z
open PySem PySem.Spec PyProof.Rows L2
/-! ### contracts -/
abbrev XI := Value × Option (List (Str × SV))
abbrev XA := XI → Om → Prop
abbrev Con := List SV → Om → PhiE → XA → Prop
def RpX (K : Frag) (F H : Hp) (cls : Value) (d : Option Addr) (x : XI) : Prop := cls = x.1 ∧ match d, x.2 with
  | none, none => True
  | some a, some fs => ∃ gs, H a = some (.xd gs) ∧ Paired (fun p q => p.1 = q.1 ∧ Rp K F p.2 q.2) gs fs
  | _, _ => False
def spOf (K : Frag) (T : Con) : Sp := fun vs H Q Ex => ∃ (P F : Hp) (Ω : Om) (svs : List SV) (Φ : PhiE) (Ξ : XA), Ok ⟨⟨F, H, P⟩, K⟩ P F H Ω ∧ Paired (Rp K F) vs svs ∧ T svs Ω Φ Ξ ∧
  (∀ v sv Ω' P' F' H', Φ sv Ω' → Ok ⟨⟨F, H, P⟩, K⟩ P' F' H' Ω' → Rp K F' v sv → Q v H') ∧ (∀ x Ω' P' F' H' cls d, Ξ x Ω' → Ok ⟨⟨F, H, P⟩, K⟩ P' F' H' Ω' → RpX K F' H' cls d x → Ex cls d H')
abbrev Ari (T : Con) (n : Nat) : Prop := ∀ svs Ω Φ Ξ, T svs Ω Φ Ξ → svs.length = n
/-- no exception is wished for -/
abbrev xno : Rho → XA := fun _ _ _ => False
def XOk (X : Cx) (G : Gn) (E : L2.St → XK) (Ξ : Rho → XA) : Prop := ∀ {σ : L2.St} {ρ : Rho} {x : XI} {Ω : Om} {P F H : Hp} {cls : Value} {d : Option Addr}, Ξ ρ x Ω → Ok (enX X G) P F H Ω → RpE X.K F σ ρ → RpX X.K F H cls d x → E σ cls d H
theorem xok0 {X : Cx} {G : Gn} {E : L2.St → XK} : XOk X G E xno := fun h => h.elim
section
variable {X : Cx} {G : Gn} {e a b : Expr} {aa ab : AE} {at_ bt : AT} {ta tb : AA} {pos : Pos} {m : Mode}
variable {CX : CXT} {k : Nat} {f : Addr} {fd : FuncData} {ps ks : List Str} {T : Con} {E : L2.St → XK} {Ξ : Rho → XA} {x : Str} {p : Pos} {es : List Expr} {kws : List Keyword}
def aCall (T : Con) (Ξ : Rho → XA) (t : AA) : AE := fun ρ Ω Φ => t ρ Ω fun svs Ω' => T svs Ω' Φ (Ξ ρ)
theorem enter_sp {P F H : Hp} {Ω : Om} {vs : List V} {svs : List SV} {Φ : PhiE} {Q : VK} {σ : L2.St} {ρ : Rho} (o : Ok (enX X G) P F H Ω) (r : Paired (Rp X.K F) vs svs) (rp : RpE X.K F σ ρ) (hE : XOk X G E Ξ) (h : T svs Ω Φ (Ξ ρ))
    (k : Aft (enX X G) P F Φ Q) : spOf X.K T vs H Q (E σ) := by
  refine ⟨P, F, Ω, svs, Φ, Ξ ρ, o.enter, r, h, fun v sv Ω' P' F' H' q o' r' => k q (o.leave o') o'.f0 r', fun x Ω' P' F' H' cls d q o' r' => ?_⟩
  exact hE q (o.leave o') (rpe_same o'.f0 rp) r'
theorem je_call (F : FnG X.prog X.w X.K X.mg X.base CX k f fd ps (spOf X.K T)) (hr : Room k X.A) (hgd : X.A.guards = some []) (hg : Gl X x) (hm : X.mg x = some (.ref f)) (hk : PySem.W.keepIn X.K (.ref f) = true)
    (hb : Binds X.K fd ps []) (hx : ∀ σ, PassAt CX X σ (E σ)) (hE : XOk X G E Ξ) (ha : JA X G (e :: es) ta) (hdb : (x == ("__debug__" : Str)) = false := by decide)
    (he : starEach (e :: es) X.env = (false, eval e X.env) :: starEach es X.env := by rfl) (hpl : (backTo pos (starEach es X.env)).any (·.1) = false := by rfl) :
    JE X G (.Call (.Name x p) (e :: es) [] pos) (aCall T Ξ ta) := by
  obtain ⟨t, h1, h2⟩ := ha
  exact ⟨_, pg_call F hr hgd hg hm hk hb hx h1 hdb he hpl, ⟨fun {ρ Ω Φ} h {P F H σ Q} o rp k => h2.go h o rp fun q o1 s1 r1 => enter_sp o1 r1 (rpe_same s1 rp) hE q fun q2 o2 s2 r2 => k q2 o2 (s1.trans s2) r2⟩⟩
theorem je_call0 (F : FnG X.prog X.w X.K X.mg X.base CX k f fd ps (spOf X.K T)) (hr : Room k X.A) (hgd : X.A.guards = some []) (hg : Gl X x) (hm : X.mg x = some (.ref f)) (hk : PySem.W.keepIn X.K (.ref f) = true)
    (hb : Binds X.K fd ps []) (hx : ∀ σ, PassAt CX X σ (E σ)) (hE : XOk X G E Ξ) (hdb : (x == ("__debug__" : Str)) = false := by decide) : JE X G (.Call (.Name x p) [] [] pos) (aCall T Ξ aNil) :=
  ⟨_, pg_call0 F hr hgd hg hm hk hb hx hdb, ⟨fun {ρ Ω Φ} h {P F H σ Q} o rp k => enter_sp o .nil rp hE h k⟩⟩
/-! ### calls with keywords: π tells where each parameter's value stands among the positional ones and the keywords' -/
def gP {α : Type} (d : α) (n m : Nat) (π : List Nat) (us ws : List α) : List α := if us.length = n ∧ ws.length = m then π.map fun i => (us ++ ws).getD i d else []
def KArg (K : Frag) (fd : FuncData) (ps ks : List Str) (n : Nat) (π : List Nat) : Prop := ∀ (s : Shared) (us ws : List Value), K.In s.heap → us.length = n → ws.length = ks.length → BindsTo s fd ⟨us, ks.zip ws⟩ (ps.zip (π.map fun i => (us ++ ws).getD i .none))
theorem vals_gP {n m : Nat} {π : List Nat} {vs zs : List V} {us ws : List Value} (r : Vals vs us) (rz : Vals zs ws) : Vals (gP .non n m π vs zs) (gP .none n m π us ws) := by
  unfold gP
  rw [r.length, rz.length]
  split
  · have q := r.append rz
    induction π with
    | nil => exact .nil
    | cons i π ih =>
      refine .cons ?_ ih
      show RelV ((vs ++ zs).getD i .non) ((us ++ ws).getD i .none)
      cases e : (vs ++ zs)[i]? with
      | none =>
        rw [List.getD_eq_getElem?_getD, List.getD_eq_getElem?_getD, e, q.none_of e]
        rfl
      | some v =>
        obtain ⟨u, hu, ru⟩ := q.get e
        rw [List.getD_eq_getElem?_getD, List.getD_eq_getElem?_getD, e, hu]
        exact ru
  · exact .nil
theorem rp_gP {K : Frag} {F : Hp} {n m : Nat} {π : List Nat} {vs zs : List V} {us ws : List SV} (r : Paired (Rp K F) vs us) (rz : Paired (Rp K F) zs ws) : Paired (Rp K F) (gP .non n m π vs zs) (gP (.d .none) n m π us ws) := by
  unfold gP
  rw [r.length, rz.length]
  split
  · have q := pr_app r rz
    induction π with
    | nil => exact .nil
    | cons i π ih =>
      refine .cons ?_ ih
      show Rp K F ((vs ++ zs).getD i .non) ((us ++ ws).getD i (.d .none))
      cases e : (us ++ ws)[i]? with
      | none =>
        have e2 : (vs ++ zs)[i]? = none := by
          have hl := q.length
          have := List.getElem?_eq_none_iff.mp e
          exact List.getElem?_eq_none_iff.mpr (by omega)
        rw [List.getD_eq_getElem?_getD, List.getD_eq_getElem?_getD, e, e2]
        exact Dq.non
      | some v =>
        obtain ⟨u, hu, ru⟩ := pr_get q e
        rw [List.getD_eq_getElem?_getD, List.getD_eq_getElem?_getD, e, hu]
        exact ru
  · exact .nil
theorem fin_callK {sp : Sp} {n : Nat} {π : List Nat} {pins : List (Addr × Obj)} {σ : L2.St} {H : Hp} {s : Shared} {Q : VK} {us ws : List Value} {vs zs : List V} (F : FnG X.prog X.w X.K X.mg X.base CX k f fd ps sp) (hr : Room k X.A) (hgd : X.A.guards = some [])
    (hb : KArg X.K fd ps ks n π) (hπ : 0 < ps.length) (hx : PassAt CX X σ (E σ)) (I : Inv X pins σ H s) (r : Vals vs us) (rz : Vals zs ws) (h : sp (gP .non n ks.length π vs zs) H Q (E σ)) :
    wpAny (model X.prog X.w) X.A (PySem.call (.ref f) us (ks.zip ws)) (EP X pins σ Q) X.xe s := by
  refine wp_of_code (runG (us := gP .none n ks.length π us ws) F hr hgd hx I (fun hl => ?_) (vals_gP r rz) h)
  by_cases hc : us.length = n ∧ ws.length = ks.length
  · have e : gP Value.none n ks.length π us ws = π.map fun i => (us ++ ws).getD i .none := by unfold gP; rw [if_pos hc]
    rw [e]
    exact hb s us ws I.kIn hc.1 hc.2
  · have e : gP Value.none n ks.length π us ws = [] := by unfold gP; rw [if_neg hc]
    rw [e] at hl
    exact absurd hl (by simp; omega)
theorem pg_callK {sp : Sp} {t tk : TA} {n : Nat} {π : List Nat} (F : FnG X.prog X.w X.K X.mg X.base CX k f fd ps sp) (hr : Room k X.A) (hgd : X.A.guards = some []) (hg : Gl X x) (hm : X.mg x = some (.ref f)) (hk : PySem.W.keepIn X.K (.ref f) = true)
    (hb : KArg X.K fd ps ks n π) (hπ : 0 < ps.length) (hx : ∀ σ, PassAt CX X σ (E σ)) (ha : PA X (e :: es) t) (hkw : PK X kws tk)
    (hall : (backToKw pos (keywordEach kws X.env)).all (·.1.isSome) = true) (hks : (backToKw pos (keywordEach kws X.env)).filterMap (·.1) = ks) (hdb : (x == ("__debug__" : Str)) = false)
    (he : starEach (e :: es) X.env = (false, eval e X.env) :: starEach es X.env)
    (hpl : ((backTo pos (starEach (e :: es) X.env)).any (·.1) || (backToKw pos (keywordEach kws X.env)).any (·.1.isNone)) = false) : PE X (.Call (.Name x p) (e :: es) kws pos) (tCallGK sp (gP .non n ks.length π) E t tk) := by
  refine ⟨fun pins s σ H Q I h => wpAny_Call_Name_kw (ld_glob I hg hm (PySem.W.callWith_KW (h₀ := X.base) I.ok.mod.kin hk hall ?_ hpl he) hdb)⟩
  refine thn (ha.run pos pins s σ H _ I h) fun us s1 ⟨vs, H1, I1, r, q⟩ => thn (hkw.run pos pins s1 σ H1 _ I1 q) fun ws s2 ⟨zs, H2, I2, rz, q2⟩ => ⟨I2.kIn, ?_⟩
  rw [hks]
  exact fin_callK F hr hgd hb hπ (hx σ) I2 r rz q2
theorem pg_callK0 {sp : Sp} {tk : TA} {n : Nat} {π : List Nat} (F : FnG X.prog X.w X.K X.mg X.base CX k f fd ps sp) (hr : Room k X.A) (hgd : X.A.guards = some []) (hg : Gl X x) (hm : X.mg x = some (.ref f)) (hk : PySem.W.keepIn X.K (.ref f) = true)
    (hb : KArg X.K fd ps ks n π) (hπ : 0 < ps.length) (hx : ∀ σ, PassAt CX X σ (E σ)) (hkw : PK X kws tk)
    (hall : (backToKw pos (keywordEach kws X.env)).all (·.1.isSome) = true) (hks : (backToKw pos (keywordEach kws X.env)).filterMap (·.1) = ks) (hdb : (x == ("__debug__" : Str)) = false)
    (hpl : ((backTo pos (starEach [] X.env)).any (·.1) || (backToKw pos (keywordEach kws X.env)).any (·.1.isNone)) = false) : PE X (.Call (.Name x p) [] kws pos) (tCallGK sp (gP .non n ks.length π) E tNil tk) := by
  refine ⟨fun pins s σ H Q I h => wpAny_Call_Name_kw (ld_glob I hg hm (PySem.W.callWith_KW0 (h₀ := X.base) I.ok.mod.kin hk hall ?_ hpl) hdb)⟩
  refine thn (hkw.run pos pins s σ H _ I h) fun ws s2 ⟨zs, H2, I2, rz, q2⟩ => ⟨I2.kIn, ?_⟩
  rw [hks]
  exact fin_callK (us := []) F hr hgd hb hπ (hx σ) I2 .nil rz q2
def aCallK (T : Con) (Ξ : Rho → XA) (n m : Nat) (π : List Nat) (t tk : AA) : AE := fun ρ Ω Φ => t ρ Ω fun xs Ω1 => tk ρ Ω1 fun zs Ω2 => T (gP (.d .none) n m π xs zs) Ω2 Φ (Ξ ρ)
theorem je_callK0 {n : Nat} {π : List Nat} (F : FnG X.prog X.w X.K X.mg X.base CX k f fd ps (spOf X.K T)) (hr : Room k X.A) (hgd : X.A.guards = some []) (hg : Gl X x) (hm : X.mg x = some (.ref f)) (hk : PySem.W.keepIn X.K (.ref f) = true)
    (hb : KArg X.K fd ps ks n π) (hπ : 0 < ps.length) (hx : ∀ σ, PassAt CX X σ (E σ)) (hE : XOk X G E Ξ) (hkw : JK X G kws tb)
    (hall : (backToKw pos (keywordEach kws X.env)).all (·.1.isSome) = true := by rfl) (hks : (backToKw pos (keywordEach kws X.env)).filterMap (·.1) = ks := by rfl) (hdb : (x == ("__debug__" : Str)) = false := by decide)
    (hpl : ((backTo pos (starEach [] X.env)).any (·.1) || (backToKw pos (keywordEach kws X.env)).any (·.1.isNone)) = false := by rfl) :
    JE X G (.Call (.Name x p) [] kws pos) (aCallK T Ξ n ks.length π aNil tb) := by
  obtain ⟨u, h3, h4⟩ := hkw
  exact ⟨_, pg_callK0 F hr hgd hg hm hk hb hπ hx h3 hall hks hdb hpl, ⟨fun {ρ Ω Φ} h {P F H σ Q} o rp k => h4.go h o rp fun q o1 s1 r1 => enter_sp o1 (rp_gP .nil r1) (rpe_same s1 rp) hE q fun q2 o2 s2 r2 => k q2 o2 (s1.trans s2) r2⟩⟩
theorem je_callK {n : Nat} {π : List Nat} (F : FnG X.prog X.w X.K X.mg X.base CX k f fd ps (spOf X.K T)) (hr : Room k X.A) (hgd : X.A.guards = some []) (hg : Gl X x) (hm : X.mg x = some (.ref f)) (hk : PySem.W.keepIn X.K (.ref f) = true)
    (hb : KArg X.K fd ps ks n π) (hπ : 0 < ps.length) (hx : ∀ σ, PassAt CX X σ (E σ)) (hE : XOk X G E Ξ) (ha : JA X G (e :: es) ta) (hkw : JK X G kws tb)
    (hall : (backToKw pos (keywordEach kws X.env)).all (·.1.isSome) = true := by rfl) (hks : (backToKw pos (keywordEach kws X.env)).filterMap (·.1) = ks := by rfl) (hdb : (x == ("__debug__" : Str)) = false := by decide)
    (he : starEach (e :: es) X.env = (false, eval e X.env) :: starEach es X.env := by rfl)
    (hpl : ((backTo pos (starEach (e :: es) X.env)).any (·.1) || (backToKw pos (keywordEach kws X.env)).any (·.1.isNone)) = false := by rfl) :
    JE X G (.Call (.Name x p) (e :: es) kws pos) (aCallK T Ξ n ks.length π ta tb) := by
  obtain ⟨t, h1, h2⟩ := ha
  obtain ⟨u, h3, h4⟩ := hkw
  exact ⟨_, pg_callK F hr hgd hg hm hk hb hπ hx h1 h3 hall hks hdb he hpl, ⟨fun {ρ Ω Φ} h {P F H σ Q} o rp k => h2.go h o rp fun q o1 s1 r1 => h4.go q o1 (rpe_same s1 rp) fun q2 o2 s2 r2 => enter_sp o2 (rp_gP (rps_same s2 r1) r2) (rpe_same (s1.trans s2) rp) hE q2 fun q3 o3 s3 r3 => k q3 o3 ((s1.trans s2).trans s3) r3⟩⟩
end
end Z
/-! Z6: what a for walks; targets; statements; a def by its body. -/
namespace Z
open PySem PySem.Spec PyProof.Rows L2
/-! ### targets -/
abbrev AG := SV → Rho → (Rho → Prop) → Prop
abbrev AGs := List SV → Rho → (Rho → Prop) → Prop
structure SnG (E : En) (g : TG) (ag : AG) : Prop where
  go : ∀ {x : SV} {ρ : Rho} {k : Rho → Prop}, ag x ρ k → ∀ {P F H : Hp} {Ω : Om} {v : V} {σ : L2.St} {Q : L2.St → Hp → Prop}, Ok E P F H Ω → RpE E.K F σ ρ → Rp E.K F v x → (∀ {σ' ρ'}, k ρ' → RpE E.K F σ' ρ' → Q σ' H) → g v σ H Q
structure SnGs (E : En) (g : TGs) (ag : AGs) : Prop where
  go : ∀ {xs : List SV} {ρ : Rho} {k : Rho → Prop}, ag xs ρ k → ∀ {P F H : Hp} {Ω : Om} {vs : List V} {σ : L2.St} {Q : L2.St → Hp → Prop}, Ok E P F H Ω → RpE E.K F σ ρ → Paired (Rp E.K F) vs xs → (∀ {σ' ρ'}, k ρ' → RpE E.K F σ' ρ' → Q σ' H) → g vs σ H Q
def JG (X : Cx) (G : Gn) (tg : Expr) (ag : AG) : Prop := ∃ g, PG X tg g ∧ SnG (enX X G) g ag
def JGs (X : Cx) (G : Gn) (tg : List Expr) (ag : AGs) : Prop := ∃ g, PGs X tg g ∧ SnGs (enX X G) g ag
def gN (i : Nat) : AG := fun x ρ k => k (ρ.set i (some x))
def gT (n : Nat) (gs : AGs) : AG := fun x ρ k => match x with
  | .d (.tuple ds) => ds.length = n ∧ gs (ds.map SV.d) ρ k
  | _ => False
def gs0 : AGs := fun xs ρ k => match xs with
  | [] => k ρ
  | _ => False
def gs1 (g : AG) (gs : AGs) : AGs := fun xs ρ k => match xs with
  | x :: r => g x ρ fun ρ' => gs r ρ' k
  | _ => False
/-! ### statements -/
structure AEnds where
  nx : Rho → Om → Prop
  rt : PhiE
  bk : Rho → Om → Prop := fun _ _ => False
  ct : Rho → Om → Prop := fun _ _ => False
abbrev AS := AEnds → Rho → Om → Prop
structure EndsOk (E : En) (P Fl : Hp) (D : AEnds) (D' : Ends) : Prop where
  nx : ∀ {ρ : Rho} {Ω : Om} {F H : Hp} {σ : L2.St}, D.nx ρ Ω → Ok E P F H Ω → Same Fl F → RpE E.K F σ ρ → D'.nx σ H
  rt : ∀ {x : SV} {Ω : Om} {F H : Hp} {v : V}, D.rt x Ω → Ok E P F H Ω → Same Fl F → Rp E.K F v x → D'.rt v H
  bk : ∀ {ρ : Rho} {Ω : Om} {F H : Hp} {σ : L2.St}, D.bk ρ Ω → Ok E P F H Ω → Same Fl F → RpE E.K F σ ρ → D'.bk σ H
  ct : ∀ {ρ : Rho} {Ω : Om} {F H : Hp} {σ : L2.St}, D.ct ρ Ω → Ok E P F H Ω → Same Fl F → RpE E.K F σ ρ → D'.ct σ H
theorem EndsOk.up {E : En} {P Fl Fm : Hp} {D : AEnds} {D' : Ends} (k : EndsOk E P Fl D D') (s : Same Fl Fm) : EndsOk E P Fm D D' :=
  ⟨fun q o z r => k.nx q o (s.trans z) r, fun q o z r => k.rt q o (s.trans z) r, fun q o z r => k.bk q o (s.trans z) r, fun q o z r => k.ct q o (s.trans z) r⟩
structure SnS (E : En) (ts : TS) (a : AS) : Prop where
  go : ∀ {D : AEnds} {ρ : Rho} {Ω : Om}, a D ρ Ω → ∀ {P F H : Hp} {σ : L2.St} {D' : Ends}, EndsOk E P F D D' → Ok E P F H Ω → RpE E.K F σ ρ → ts D' σ H
def JS (X : Cx) (G : Gn) (st : Stmt) (a : AS) : Prop := ∃ t, PS X st t ∧ SnS (enX X G) t a
def JSs (X : Cx) (G : Gn) (st : List Stmt) (a : AS) : Prop := ∃ t, PSs X st t ∧ SnS (enX X G) t a
/-! ### what is walked: the items, and what is to stand meanwhile -/
structure ItOk (E : En) (F0 : Hp) (J : It) (xs : List SV) (Kp : Om → Prop) : Prop where
  go : ∀ {i : Nat} {P F H : Hp} {Ω : Om}, Same F0 F → Ok E P F H Ω → Kp Ω → i < xs.length → J.go i H
  yl : ∀ {i : Nat} {P F H : Hp} {Ω : Om} {x : V} {H' : Hp} {y : SV}, Same F0 F → Ok E P F H Ω → Kp Ω → J.yld i H x H' → xs[i]? = some y → ∃ F', Ok E P F' H' Ω ∧ Same F F' ∧ Rp E.K F' x y
  st : ∀ {i : Nat} {P F H : Hp} {Ω : Om}, Same F0 F → Ok E P F H Ω → Kp Ω → xs.length ≤ i → J.stop i H
abbrev PhiI := List SV → (Om → Prop) → Om → Prop
abbrev AI := Rho → Om → PhiI → Prop
structure SnI (E : En) (wi : TI) (ai : AI) : Prop where
  go : ∀ {ρ : Rho} {Ω : Om} {Φ : PhiI}, ai ρ Ω Φ → ∀ {P F H : Hp} {σ : L2.St} {R : It → Hp → Prop}, Ok E P F H Ω → RpE E.K F σ ρ →
    (∀ {J : It} {xs : List SV} {Kp : Om → Prop} {Ω' : Om} {F' H' : Hp}, Φ xs Kp Ω' → Ok E P F' H' Ω' → Same F F' → ItOk E F' J xs Kp → R J H') → wi σ H R
def JI (X : Cx) (G : Gn) (tg iter : Expr) (ai : AI) : Prop := ∃ wi, PI X tg iter wi ∧ SnI (enX X G) wi ai
section
variable {X : Cx} {G : Gn} {e a b tg : Expr} {aa ab : AE} {at_ bt : AT} {ta tb : AA} {pos : Pos} {m : Mode} {g : AG} {gs : AGs} {s t : AS} {ai : AI}
theorem jg_name {i : Nat} {x : Str} (hN : X.N.Nodup) (hi : X.N[i]? = some x) (hx : Loc X.env.scope x) (hf : X.fn x = true ∨ X.env.scope.names.lookup x = some .local := by first | exact .inl rfl | exact .inr rfl | assumption) : JG X G (.Name x pos) (gN i) :=
  ⟨_, pg_name hN hi hx hf, ⟨fun {x ρ k} h {P F H Ω v σ Q} o rp r q => q h (pr_set (R := RpS X.K F) (y := some x) ⟨_, rfl, r⟩ i rp)⟩⟩
theorem jgs0 : JGs X G [] gs0 := by
  refine ⟨_, pgs_nil, ⟨fun {xs ρ k} h {P F H Ω vs σ Q} o rp r q => ?_⟩⟩
  unfold gs0 at h
  split at h
  · cases r
    exact ⟨rfl, q h rp⟩
  · exact h.elim
theorem jgs1 {es : List Expr} (h1 : JG X G e g) (h2 : JGs X G es gs) (hs : (assignEach (e :: es) X.env).map (·.2) = assign e X.env :: (assignEach es X.env).map (·.2) := by rfl) : JGs X G (e :: es) (gs1 g gs) := by
  obtain ⟨g', p1, q1⟩ := h1
  obtain ⟨u, p2, q2⟩ := h2
  refine ⟨_, pgs_cons p1 p2 hs, ⟨fun {xs ρ k} h {P F H Ω vs σ Q} o rp r q => ?_⟩⟩
  unfold gs1 at h
  split at h
  · cases r with
    | cons r1 r2 => exact ⟨_, _, rfl, q1.go h o rp r1 fun h' rp' => q2.go h' o rp' r2 q⟩
  · exact h.elim
theorem jg_tup {es : List Expr} {n k' : Nat} (hc : X.calm = true) (h : JGs X G es gs) (hn : (assignEach es X.env).length = n := by rfl) (hst : (assignEach es X.env).findIdx? (·.1) = none := by rfl) : JG X G (.Tuple es k' pos) (gT n gs) := by
  obtain ⟨u, p, q'⟩ := h
  refine ⟨_, pg_tup hc p hn hst, ⟨fun {x ρ k} h {P F H Ω v σ Q} o rp r q => ?_⟩⟩
  unfold gT at h
  split at h
  · obtain ⟨p, vs, rfl, hF, da⟩ := dqt r
    exact ⟨p, vs, rfl, sqt_same o.ex hF, by rw [dqa_len da]; exact h.1, q'.go h.2 o rp (of_dqa da) q⟩
  · exact h.elim
/-! ### what is walked -/
abbrev kpT : Om → Prop := fun _ => True
def kpAt (p : Addr) (c : OC) : Om → Prop := fun Ω => ∃ f, At Ω p c f
theorem itl_ok {E : En} {F0 : Hp} {p : Addr} {xs : List SV} {Kp : Om → Prop}
    (h : ∀ {P F H : Hp} {Ω : Om}, Same F0 F → Ok E P F H Ω → Kp Ω → ∃ vs, SqL E.K H p vs ∧ Paired (Rp E.K F) vs xs) : ItOk E F0 (Itl E.K p) xs Kp := by
  refine ⟨fun s o k hi => ?_, fun s o k y e => ?_, fun s o k hi => ?_⟩
  · obtain ⟨vs, h1, h2⟩ := h s o k
    obtain ⟨v, hv, _⟩ := pr_get h2 (List.getElem?_eq_getElem hi)
    exact ⟨vs, v, h1, hv⟩
  · obtain ⟨vs, h1, h2⟩ := h s o k
    obtain ⟨rfl, y2⟩ := y
    obtain ⟨v, hv, r⟩ := pr_get h2 e
    rw [y2 vs h1] at hv
    cases hv
    exact ⟨_, o, Same.refl _, r⟩
  · obtain ⟨vs, h1, h2⟩ := h s o k
    exact ⟨vs, h1, by rw [h2.length]; exact hi⟩
theorem itt_ok {E : En} {F0 : Hp} {p : Addr} {xs : List SV} {Kp : Om → Prop}
    (h : ∀ {P F H : Hp} {Ω : Om}, Same F0 F → Ok E P F H Ω → Kp Ω → ∃ vs, SqT E.K H p vs ∧ Paired (Rp E.K F) vs xs) : ItOk E F0 (Itt E.K p) xs Kp := by
  refine ⟨fun s o k hi => ?_, fun s o k y e => ?_, fun s o k hi => ?_⟩
  · obtain ⟨vs, h1, h2⟩ := h s o k
    obtain ⟨v, hv, _⟩ := pr_get h2 (List.getElem?_eq_getElem hi)
    exact ⟨vs, v, h1, hv⟩
  · obtain ⟨vs, h1, h2⟩ := h s o k
    obtain ⟨rfl, y2⟩ := y
    obtain ⟨v, hv, r⟩ := pr_get h2 e
    rw [y2 vs h1] at hv
    cases hv
    exact ⟨_, o, Same.refl _, r⟩
  · obtain ⟨vs, h1, h2⟩ := h s o k
    exact ⟨vs, h1, by rw [h2.length]; exact hi⟩
def seqI (x : SV) (Ω : Om) (Φ : PhiI) : Prop := match x with
  | .d (.list ds) => Φ (ds.map SV.d) kpT Ω
  | .d (.tuple ds) => Φ (ds.map SV.d) kpT Ω
  | .d (.str z) => Φ (z.cps.toList.map fun c => SV.d (.str ⟨#[c]⟩)) kpT Ω
  | .l ds => Φ (ds.map SV.d) kpT Ω
  | .r (.ref p) => ∃ c f, At Ω p c f ∧ (match c with
    | .lst ds => Φ (ds.map SV.d) (kpAt p (.lst ds)) Ω
    | .lx xs => Φ xs (kpAt p (.lx xs)) Ω
    | _ => False)
  | _ => False
def aIt (a : AE) : AI := fun ρ Ω Φ => a ρ Ω fun x Ω' => seqI x Ω' Φ
end
section
variable {X : Cx} {G : Gn} {e a b tg : Expr} {aa ab : AE} {at_ bt : AT} {ta tb : AA} {pos : Pos} {m : Mode} {g : AG} {gs : AGs} {s t : AS} {ai : AI}
/-- for x in e: e's reading is made once for each kind of thing walked -/
def iSeq (K : Frag) (tl : TE) : TI := fun σ H R => tl σ H fun x H1 => (∃ a, x = .ref a ∧ (∃ xs, SqL K H1 a xs) ∧ R (Itl K a) H1) ∨ (∃ a, x = .ref a ∧ (∃ xs, SqT K H1 a xs) ∧ R (Itt K a) H1) ∨ ∃ z, x = .str z ∧ R (Its z) H1
theorem pi_seq {l : Expr} {tl : TE} (hl : PE X l tl) : PI X tg l (iSeq X.K tl) := by
  refine ⟨fun pins s σ H R I h => thn (hl.run pins s σ H _ I h) fun v s1 ⟨x, H1, I1, r1, q⟩ => ?_⟩
  have fp : ∀ b ∈ [s1.heap.objs.size], FpOk X pins H1 b := fun b hb => by
    rw [List.mem_singleton.mp hb]
    exact I1.fpOk (Nat.le_refl _) (I1.hok.fresh (Nat.le_refl _))
  have kp : ∀ (ob : Obj), Inv X pins σ H1 { s1 with heap := s1.heap.push ob } := fun ob => I1.kept (t' := s1.toks) fun _ _ z => Heap.get?_push_of_some _ z
  rcases q with ⟨a, rfl, ⟨xs, hx⟩, q⟩ | ⟨a, rfl, ⟨xs, hx⟩, q⟩ | ⟨z, rfl, q⟩
  · cases r1
    obtain ⟨its, rv, p, hz⟩ := I1.list hx
    exact wpAny_pyIter_list p.isList ⟨_, [_], _, _, H1, rfl, kp _, turn_list a _, ⟨_, Heap.get?_push_size _ rfl, rfl, rfl⟩, fp, q⟩
  · cases r1
    obtain ⟨its, rv, p, hz⟩ := I1.tuple hx
    exact wpAny_pyIter_tuple (items := its.toArray) p ⟨_, [_], _, _, H1, rfl, kp _, turn_tuple a _, ⟨_, Heap.get?_push_size _ rfl, rfl, rfl⟩, fp, q⟩
  · obtain ⟨t, rfl⟩ := r1
    by_cases ha : z.cps.all (· < 128) = true
    · exact wpAny_pyIter_ascii ha (pi_one (tk := s1.toks) I1 _ (turn_str _ z t "str_ascii_iterator" (.inl rfl)) ⟨_, Heap.get?_push_size _ rfl, rfl, rfl⟩ q)
    · exact wpAny_pyIter_wide (by simpa using ha) (pi_one (tk := s1.toks) I1 _ (turn_str _ z t "str_iterator" (.inr rfl)) ⟨_, Heap.get?_push_size _ rfl, rfl, rfl⟩ q)
theorem its_ok {E : En} {F0 : Hp} {z : Str} : ItOk E F0 (Its z) (z.cps.toList.map fun c => SV.d (.str ⟨#[c]⟩)) kpT := by
  have hl : (z.cps.toList.map fun c => SV.d (.str ⟨#[c]⟩)).length = z.cps.size := by simp
  refine ⟨fun s o k hi => by rw [hl] at hi; exact hi, fun {i P F H Ω x H' y} s o k yy e => ?_, fun s o k hi => by rw [hl] at hi; exact hi⟩
  obtain ⟨rfl, c, hc, rfl⟩ := yy
  rw [List.getElem?_map, Array.getElem?_toList, hc] at e
  cases e
  exact ⟨F, o, Same.refl F, .str _⟩
theorem ji_of (ha : JE X G e aa) : JI X G tg e (aIt aa) := by
  obtain ⟨t, h1, h2⟩ := ha
  refine ⟨_, pi_seq h1, ⟨fun {ρ Ω Φ} h {P F H σ R} o rp k => h2.go h o rp fun {v sv Ω1 F1 H1} q o1 s1 r1 => ?_⟩⟩
  have q : seqI sv Ω1 Φ := q
  unfold seqI at q
  split at q
  · obtain ⟨p, vs, rfl, hF, da⟩ := dql r1
    exact Or.inl ⟨p, rfl, ⟨vs, SqL.of (o1.ex _ _ hF)⟩, k q o1 s1 (itl_ok fun s o _ => ⟨vs, SqL.of (o.ex _ _ (s _ _ hF)), of_dqa (dqa_same s _ _ da)⟩)⟩
  · obtain ⟨p, vs, rfl, hF, da⟩ := dqt r1
    exact Or.inr (Or.inl ⟨p, rfl, ⟨vs, sqt_same o1.ex hF⟩, k q o1 s1 (itt_ok fun s o _ => ⟨vs, sqt_same o.ex (sqt_same s hF), of_dqa (dqa_same s _ _ da)⟩)⟩)
  · cases dqs r1
    exact Or.inr (Or.inr ⟨_, rfl, k q o1 s1 its_ok⟩)
  · obtain ⟨p, vs, rfl, hF, da⟩ := r1
    exact Or.inl ⟨p, rfl, ⟨vs, o1.ex.seq hF⟩, k q o1 s1 (itl_ok fun s o _ => ⟨vs, o.ex.seq (s.seq hF), of_dqa (dqa_same s _ _ da)⟩)⟩
  · obtain ⟨c, f, t, q⟩ := q
    cases (show v = _ from r1)
    split at q
    · obtain ⟨vs, h3, h4⟩ := o1.lst t
      refine Or.inl ⟨_, rfl, ⟨vs, SqL.of h3⟩, k q o1 s1 (itl_ok fun s o kk => ?_)⟩
      obtain ⟨f', t'⟩ := kk
      obtain ⟨ws, h5, h6⟩ := o.lst t'
      exact ⟨ws, SqL.of h5, of_dqa h6⟩
    · obtain ⟨vs, h3, h4⟩ := o1.lx t
      refine Or.inl ⟨_, rfl, ⟨vs, SqL.of h3⟩, k q o1 s1 (itl_ok fun s o kk => ?_)⟩
      obtain ⟨f', t'⟩ := kk
      obtain ⟨ws, h5, h6⟩ := o.lx t'
      exact ⟨ws, SqL.of h5, h6⟩
    · exact q.elim
  · exact q.elim
/-- range(n), range(a, b) -/
def rgS (lo : Int) (n : Nat) : List SV := (List.range n).map fun i => SV.d (.int (lo + (i : Nat)))
theorem rgS_get {lo : Int} {n i : Nat} {x : SV} (h : (rgS lo n)[i]? = some x) : x = .d (.int (lo + (i : Nat))) ∧ i < n := by
  unfold rgS at h
  rw [List.getElem?_map] at h
  cases e : (List.range n)[i]? with
  | none => rw [e] at h; cases h
  | some j =>
    rw [e] at h
    obtain ⟨h1, h2⟩ := List.getElem?_eq_some_iff.mp e
    rw [List.getElem_range] at h2
    rw [List.length_range] at h1
    subst h2
    cases h
    exact ⟨rfl, h1⟩
theorem rgS_len {lo : Int} {n : Nat} : (rgS lo n).length = n := by unfold rgS; rw [List.length_map, List.length_range]
theorem itr_ok {E : En} {F0 : Hp} {lo : Int} {n : Nat} : ItOk E F0 (Itr lo n) (rgS lo n) kpT := by
  refine ⟨fun s o k hi => by rw [rgS_len] at hi; exact hi, fun {i P F H Ω x H' y} s o k yy e => ?_, fun s o k hi => by rw [rgS_len] at hi; exact hi⟩
  obtain ⟨rfl, rfl⟩ := yy
  obtain ⟨rfl, _⟩ := rgS_get e
  exact ⟨F, o, Same.refl F, .int _⟩
def bd62 (i : Int) : Prop := -(2 ^ 62) ≤ i ∧ i < 2 ^ 62
def aRng1 (t : AA) : AI := fun ρ Ω Φ => t ρ Ω fun xs Ω' => match xs with
  | [.d (.int j)] => bd62 j ∧ Φ (rgS 0 j.toNat) kpT Ω'
  | _ => False
def aRng2 (t : AA) : AI := fun ρ Ω Φ => t ρ Ω fun xs Ω' => match xs with
  | [.d (.int i), .d (.int j)] => bd62 i ∧ bd62 j ∧ Φ (rgS i (j - i).toNat) kpT Ω'
  | _ => False
theorem ji_range1 {p : Pos} (hg : Gl X "range") (hm : X.mg "range" = none) (ha : JA X G [a] ta) (hs : starEach [a] X.env = [(false, eval a X.env)] := by rfl) : JI X G tg (.Call (.Name "range" p) [a] [] pos) (aRng1 ta) := by
  obtain ⟨t, h1, h2⟩ := ha
  refine ⟨_, pi_range1 hg hm h1 hs, ⟨fun {ρ Ω Φ} h {P F H σ R} o rp k => h2.go h o rp fun {vs svs Ω1 F1 H1} q o1 s1 r1 => ?_⟩⟩
  split at q
  · obtain ⟨v, rfl, r⟩ := pr1 r1
    cases dqi r
    exact ⟨_, rfl, q.1.1, q.1.2, k q.2 o1 s1 itr_ok⟩
  · exact q.elim
theorem ji_range2 {p : Pos} (hg : Gl X "range") (hm : X.mg "range" = none) (ha : JA X G [a, b] ta) (hs : starEach [a, b] X.env = [(false, eval a X.env), (false, eval b X.env)] := by rfl) (hs2 : starEach [b] X.env = [(false, eval b X.env)] := by rfl) :
    JI X G tg (.Call (.Name "range" p) [a, b] [] pos) (aRng2 ta) := by
  obtain ⟨t, h1, h2⟩ := ha
  refine ⟨_, pi_range2 hg hm h1 hs hs2, ⟨fun {ρ Ω Φ} h {P F H σ R} o rp k => h2.go h o rp fun {vs svs Ω1 F1 H1} q o1 s1 r1 => ?_⟩⟩
  split at q
  · obtain ⟨v, u, rfl, r, r'⟩ := pr2 r1
    cases dqi r
    cases dqi r'
    exact ⟨_, _, rfl, ⟨q.1.1, q.1.2, q.2.1.1, q.2.1.2⟩, k q.2.2 o1 s1 itr_ok⟩
  · exact q.elim
/-! ### statements -/
variable {st : Stmt} {sts rest : List Stmt}
def aNx : AS := fun D ρ Ω => D.nx ρ Ω
def aSeq (s t : AS) : AS := fun D ρ Ω => s { D with nx := t D } ρ Ω
theorem jss_nil : JSs X G [] aNx := ⟨_, pss_nil, ⟨fun {D ρ Ω} h {P F H σ D'} k o rp => k.nx h o (Same.refl F) rp⟩⟩
theorem seq_ok {E : En} {ts tu : TS} {s t : AS} (h1 : SnS E ts s) (h2 : SnS E tu t) : SnS E (tSeq ts tu) (aSeq s t) :=
  ⟨fun {D ρ Ω} h {P F H σ D'} k o rp => h1.go h (D' := { D' with nx := tu D' }) ⟨fun q o z rp => h2.go q (k.up z) o rp, k.rt, k.bk, k.ct⟩ o rp⟩
theorem jss_cons (h1 : JS X G st s) (h2 : JSs X G rest t) : JSs X G (st :: rest) (aSeq s t) := by
  obtain ⟨_, p1, q1⟩ := h1
  obtain ⟨_, p2, q2⟩ := h2
  exact ⟨_, pss_cons p1 p2, seq_ok q1 q2⟩
theorem jss_one (h1 : JS X G st s) : JSs X G [st] s := by
  obtain ⟨_, p1, q1⟩ := h1
  exact ⟨_, pss_one p1, q1⟩
theorem js_pass : JS X G (.Pass pos) aNx := ⟨_, ps_pass, ⟨fun {D ρ Ω} h {P F H σ D'} k o rp => k.nx h o (Same.refl F) rp⟩⟩
def aBrk : AS := fun D ρ Ω => D.bk ρ Ω
def aCnt : AS := fun D ρ Ω => D.ct ρ Ω
theorem js_break : JS X G (.Break pos) aBrk := ⟨_, ps_break, ⟨fun {D ρ Ω} h {P F H σ D'} k o rp => k.bk h o (Same.refl F) rp⟩⟩
theorem js_cont : JS X G (.Continue pos) aCnt := ⟨_, ps_continue, ⟨fun {D ρ Ω} h {P F H σ D'} k o rp => k.ct h o (Same.refl F) rp⟩⟩
def aAsg (a : AE) (g : AG) : AS := fun D ρ Ω => a ρ Ω fun x Ω' => g x ρ fun ρ' => D.nx ρ' Ω'
theorem asg_ok {E : En} {te : TE} {tg : TG} {a : AE} {g : AG} (h1 : SnE E te a) (h2 : SnG E tg g) : SnS E (tAsg te tg) (aAsg a g) :=
  ⟨fun {D ρ Ω} h {P F H σ D'} k o rp => h1.go h o rp fun q o1 s1 r1 => h2.go q o1 (rpe_same s1 rp) r1 fun q2 rp2 => k.nx q2 o1 s1 rp2⟩
theorem js_asg (ha : JE X G e aa) (hg : JG X G tg g) (hs : swapsWithSole [tg] e pos.line X.env = pure false := by rfl) (hw : swappedStores [tg] e X.env = pure none := by rfl) (h1 : (assignEach [tg] X.env).map (·.2) = [assign tg X.env] := by rfl) : JS X G (.Assign [tg] e pos) (aAsg aa g) := by
  obtain ⟨_, p1, q1⟩ := ha
  obtain ⟨_, p2, q2⟩ := hg
  exact ⟨_, ps_asg p1 p2 hs hw h1, asg_ok q1 q2⟩
theorem gN_ok {E : En} {i : Nat} : SnG E (gName i) (gN i) := ⟨fun {x ρ k} h {P F H Ω v σ Q} o rp r q => q h (pr_set (R := RpS E.K F) (y := some x) ⟨_, rfl, r⟩ i rp)⟩
theorem js_set {i : Nat} {x : Str} {pos' : Pos} (hN : X.N.Nodup) (hi : X.N[i]? = some x) (hx : Loc X.env.scope x) (ha : JE X G e aa) (hs : swapsWith e (some (.Name x pos')) pos.line X.env = pure false := by rfl) (hf : X.fn x = true ∨ X.env.scope.names.lookup x = some .local := by first | exact .inl rfl | exact .inr rfl | assumption) :
    JS X G (.Assign [.Name x pos'] e pos) (aAsg aa (gN i)) := by
  obtain ⟨_, p1, q1⟩ := ha
  exact ⟨_, ps_set hN hi hx p1 hs hf, asg_ok q1 gN_ok⟩
/-- a, b = e1, e2 and a, b, c = e1, e2, e3, plain names -/
def aPar2 (i j : Nat) (t : AA) : AS := fun D ρ Ω => t ρ Ω fun xs Ω' => match xs with
  | [x, y] => D.nx ((ρ.set i (some x)).set j (some y)) Ω'
  | _ => False
def aPar3 (i j l : Nat) (t : AA) : AS := fun D ρ Ω => t ρ Ω fun xs Ω' => match xs with
  | [x, y, z] => D.nx (((ρ.set i (some x)).set j (some y)).set l (some z)) Ω'
  | _ => False
theorem js_par2 {i j : Nat} {x y : Str} {px py pt : Pos} {kt k2 pt2} (hc : X.calm = true) (hN : X.N.Nodup) (hi : X.N[i]? = some x) (hj : X.N[j]? = some y) (hij : i ≠ j)
    (hx : X.env.scope.names.lookup x = some .local) (hy : X.env.scope.names.lookup y = some .local) (ha : JA X G [a, b] ta)
    (hw : swappedStores [.Tuple [.Name x px, .Name y py] kt pt] (.Tuple [a, b] k2 pt2) X.env = pure (some [x, y]))
    (hs : swapsWithSole [.Tuple [.Name x px, .Name y py] kt pt] (.Tuple [a, b] k2 pt2) pos.line X.env = pure false := by rfl) :
    JS X G (.Assign [.Tuple [.Name x px, .Name y py] kt pt] (.Tuple [a, b] k2 pt2) pos) (aPar2 i j ta) := by
  obtain ⟨_, p1, q1⟩ := ha
  refine ⟨_, ps_par hc hN hi hj hij hx hy p1 hw hs, ⟨fun {D ρ Ω} h {P F H σ D'} k o rp => q1.go h o rp fun {vs svs Ω1 F1 H1} q o1 s1 r1 => ?_⟩⟩
  split at q
  · obtain ⟨v, u, rfl, r, r'⟩ := pr2 r1
    exact ⟨v, u, rfl, k.nx q o1 s1 (pr_set (R := RpS X.K F1) (y := some _) ⟨_, rfl, r'⟩ _ (pr_set (R := RpS X.K F1) (y := some _) ⟨_, rfl, r⟩ _ (rpe_same s1 rp)))⟩
  · exact q.elim
theorem js_par3 {c : Expr} {i j l : Nat} {x y z : Str} {px py pz pt : Pos} {kt k2 pt2} (hc : X.calm = true) (hN : X.N.Nodup) (hi : X.N[i]? = some x) (hj : X.N[j]? = some y) (hl : X.N[l]? = some z) (hij : i ≠ j) (hil : i ≠ l) (hjl : j ≠ l)
    (hx : X.env.scope.names.lookup x = some .local) (hy : X.env.scope.names.lookup y = some .local) (hz : X.env.scope.names.lookup z = some .local) (ha : JA X G [a, b, c] ta)
    (hw : swappedStores [.Tuple [.Name x px, .Name y py, .Name z pz] kt pt] (.Tuple [a, b, c] k2 pt2) X.env = pure (some [x, y, z]))
    (hs : swapsWithSole [.Tuple [.Name x px, .Name y py, .Name z pz] kt pt] (.Tuple [a, b, c] k2 pt2) pos.line X.env = pure false := by rfl) :
    JS X G (.Assign [.Tuple [.Name x px, .Name y py, .Name z pz] kt pt] (.Tuple [a, b, c] k2 pt2) pos) (aPar3 i j l ta) := by
  obtain ⟨_, p1, q1⟩ := ha
  refine ⟨_, ps_par3 hc hN hi hj hl hij hil hjl hx hy hz p1 hw hs, ⟨fun {D ρ Ω} h {P F H σ D'} k o rp => q1.go h o rp fun {vs svs Ω1 F1 H1} q o1 s1 r1 => ?_⟩⟩
  split at q
  · cases r1 with
    | cons r1 r2 =>
      obtain ⟨v, u, rfl, r, r'⟩ := pr2 r2
      exact ⟨_, v, u, rfl, k.nx q o1 s1 (pr_set (R := RpS X.K F1) (y := some _) ⟨_, rfl, r'⟩ _ (pr_set (R := RpS X.K F1) (y := some _) ⟨_, rfl, r⟩ _ (pr_set (R := RpS X.K F1) (y := some _) ⟨_, rfl, r1⟩ _ (rpe_same s1 rp))))⟩
  · exact q.elim
def aExp (a : AE) : AS := fun D ρ Ω => a ρ Ω fun _ Ω' => D.nx ρ Ω'
theorem js_expr (ha : JE X G e aa) (hs : swapsWith e none pos.line X.env = pure false := by rfl) : JS X G (.Expr e pos) (aExp aa) := by
  obtain ⟨_, p1, q1⟩ := ha
  exact ⟨_, ps_expr p1 hs, ⟨fun {D ρ Ω} h {P F H σ D'} k o rp => q1.go h o rp fun q o1 s1 r1 => k.nx q o1 s1 (rpe_same s1 rp)⟩⟩
def aRet (a : AE) : AS := fun D ρ Ω => a ρ Ω D.rt
theorem js_ret (ha : JE X G e aa) : JS X G (.Return (some e) pos) (aRet aa) := by
  obtain ⟨_, p1, q1⟩ := ha
  exact ⟨_, ps_ret p1, ⟨fun {D ρ Ω} h {P F H σ D'} k o rp => q1.go h o rp fun q o1 s1 r1 => k.rt q o1 s1 r1⟩⟩
/-- cells of the def's own are let go -/
theorem Ok.sub {E : En} {P F H : Hp} {Ω Ω' : Om} (o : Ok E P F H Ω) (s : Ω'.Sublist Ω) : Ok E P F H Ω' := ⟨o.p0, o.pf, fun p h => o.pd p (s.subset h), o.pF, o.f0, o.fn, o.dm, o.ex, fun p h => o.own p (s.subset h), o.nd.sublist (s.map _)⟩
def rtD (k : PhiE) (x : SV) (Ω : Om) : Prop := ∃ Ω2 : Om, Ω2.Sublist Ω ∧ k x Ω2
def aRetD (a : AE) : AS := fun D ρ Ω => a ρ Ω (rtD D.rt)
theorem js_retD (ha : JE X G e aa) : JS X G (.Return (some e) pos) (aRetD aa) := by
  obtain ⟨_, p1, q1⟩ := ha
  refine ⟨_, ps_ret p1, ⟨fun {D ρ Ω} h {P F H σ D'} k o rp => q1.go h o rp fun q o1 s1 r1 => ?_⟩⟩
  obtain ⟨Ω2, sl, q⟩ := q
  exact k.rt q (o1.sub sl) s1 r1
def aRetN : AS := fun D _ Ω => D.rt (.d .none) Ω
theorem js_retN : JS X G (.Return none pos) aRetN := ⟨_, ps_retN, ⟨fun {D ρ Ω} h {P F H σ D'} k o rp => k.rt h o (Same.refl F) .non⟩⟩
/-- a cell is taken out -/
inductive Cut : Om → Addr → Om → Prop where
  | here {a : Addr} {c : OC} {Ω : Om} : Cut ((a, c) :: Ω) a Ω
  | there {a : Addr} {Ω Ω' : Om} {p : Addr × OC} : Cut Ω a Ω' → Cut (p :: Ω) a (p :: Ω')
theorem Cut.addr : ∀ {Ω Ω' : Om} {a : Addr}, Cut Ω a Ω' → (Ω.map (·.1)).Nodup → (∀ x ∈ Ω', x ∈ Ω ∧ x.1 ≠ a) ∧ (Ω'.map (·.1)).Nodup
  | _, _, _, .here, nd => by
    rw [List.map_cons] at nd
    obtain ⟨n1, n2⟩ := List.nodup_cons.mp nd
    exact ⟨fun x hx => ⟨List.mem_cons_of_mem _ hx, fun z => n1 (by rw [← z]; exact List.mem_map_of_mem (f := (·.1)) hx)⟩, n2⟩
  | p :: _, _, a, .there h, nd => by
    have hm : ∀ {Ω Ω' : Om} {b : Addr}, Cut Ω b Ω' → b ∈ Ω.map (·.1) := fun {Ω Ω' b} h => by
      induction h with
      | here => exact List.mem_cons_self
      | there _ ih => exact List.mem_cons_of_mem _ ih
    rw [List.map_cons] at nd
    obtain ⟨n1, n2⟩ := List.nodup_cons.mp nd
    obtain ⟨h1, h2⟩ := h.addr n2
    refine ⟨fun x hx => ?_, ?_⟩
    · rcases List.mem_cons.mp hx with q | q
      · rw [q]; exact ⟨List.mem_cons_self, fun z => n1 (by rw [z]; exact hm h)⟩
      · exact ⟨List.mem_cons_of_mem _ (h1 x q).1, (h1 x q).2⟩
    · rw [List.map_cons]
      refine List.nodup_cons.mpr ⟨fun z => ?_, h2⟩
      obtain ⟨x, hx, e⟩ := List.mem_map.mp z
      exact n1 (by rw [← e]; exact List.mem_map_of_mem (f := (·.1)) (h1 x hx).1)
/-- return of a list of the def's own: it is frozen -/
def rtF (Fr : Addr → Prop) (k : PhiE) (x : SV) (Ω : Om) : Prop := match x with
  | .r (.ref p) => ∃ ds f, At Ω p (.lst ds) f ∧ Fr p ∧ ∃ Ω2, Cut Ω p Ω2 ∧ ∃ Ω3 : Om, Ω3.Sublist Ω2 ∧ k (.d (.list ds)) Ω3
  | _ => False
def aRetF (Fr : Addr → Prop) (a : AE) : AS := fun D ρ Ω => a ρ Ω (rtF Fr D.rt)
theorem js_retF (ha : JE X G e aa) : JS X G (.Return (some e) pos) (aRetF (fun p => G.H0 p = none) aa) := by
  obtain ⟨_, p1, q1⟩ := ha
  refine ⟨_, ps_ret p1, ⟨fun {D ρ Ω} h {P F H σ D'} k o rp => q1.go h o rp fun {v sv Ω1 F1 H1} q o1 s1 r1 => ?_⟩⟩
  unfold rtF at q
  split at q
  · obtain ⟨ds, f, t, fr, Ω2, c, Ω3, sl, q⟩ := q
    cases (show v = _ from r1)
    obtain ⟨nF, _⟩ := o1.at_ t
    obtain ⟨vs, h1, h2⟩ := o1.lst t
    obtain ⟨c1, c2⟩ := c.addr o1.nd
    obtain ⟨o2, s2⟩ := o1.frz (c := .lst ds) h1 fr nF (o1.pd _ t.mem) c1 c2
    exact k.rt q (o2.sub sl) (s1.trans s2) (Dq.lst upd_same (dqa_same s2 _ _ h2))
  · exact q.elim
def aIf (t : AT) (a b : AS) : AS := fun D ρ Ω => t ρ Ω fun c Ω' => br c (a D ρ Ω') (b D ρ Ω')
theorem js_if {c : Expr} {xs ys : List Stmt} (hc : JT X G c at_) (ha : JSs X G xs s) (hb : JSs X G ys t) : JS X G (.If c xs ys pos) (aIf at_ s t) := by
  obtain ⟨_, p1, q1⟩ := hc
  obtain ⟨_, p2, q2⟩ := ha
  obtain ⟨_, p3, q3⟩ := hb
  refine ⟨_, ps_if p1 p2 p3, ⟨fun {D ρ Ω} h {P F H σ D'} k o rp => q1.go h o rp fun {b Ω1 F1 H1} q o1 s1 => br_ite ?_⟩⟩
  replace q := br_out q
  cases b
  · exact q3.go q (k.up s1) o1 (rpe_same s1 rp)
  · exact q2.go q (k.up s1) o1 (rpe_same s1 rp)
def aWhile (t : AT) (s : AS) : AS := fun D ρ Ω => ∃ W : Nat → Rho → Om → Prop, (∃ m, W m ρ Ω) ∧ ∀ m ρ Ω, W m ρ Ω →
  t ρ Ω fun b Ω1 => br b (s { D with nx := fun ρ' Ω' => ∃ m', m' < m ∧ W m' ρ' Ω', ct := fun ρ' Ω' => ∃ m', m' < m ∧ W m' ρ' Ω', bk := D.nx } ρ Ω1) (D.nx ρ Ω1)
theorem js_while {c : Expr} {body : List Stmt} (hp : PassesOwn (model X.prog X.w) X.A X.env X.xe) (hc : JT X G c at_) (hb : JSs X G body s) : JS X G (.While c body [] pos) (aWhile at_ s) := by
  obtain ⟨_, p1, q1⟩ := hc
  obtain ⟨tb, p2, q2⟩ := hb
  refine ⟨_, ps_while hp p1 p2, ⟨fun {D ρ Ω} h {P F H σ D'} k o rp => ?_⟩⟩
  obtain ⟨W, ⟨m0, w0⟩, turn⟩ := h
  refine ⟨fun m σ H => ∃ ρ Ω F', Same F F' ∧ W m ρ Ω ∧ Ok (enX X G) P F' H Ω ∧ RpE X.K F' σ ρ, ⟨m0, ρ, Ω, F, Same.refl F, w0, o, rp⟩, ?_⟩
  rintro m σ1 H1 ⟨ρ1, Ω1, F1, z1, w1, o1, rp1⟩
  refine q1.go (turn m ρ1 Ω1 w1) o1 rp1 fun {b Ω2 F2 H2} q o2 s2 => br_ite ?_
  replace q := br_out q
  have z2 := z1.trans s2
  cases b
  · exact k.nx q o2 z2 (rpe_same s2 rp1)
  · refine ⟨fun σ' H' => ∃ m', m' < m ∧ ∃ ρ Ω F', Same F F' ∧ W m' ρ Ω ∧ Ok (enX X G) P F' H' Ω ∧ RpE X.K F' σ' ρ, fun σ' H' z => z, ?_⟩
    refine q2.go q ⟨fun z o z3 rp => ?_, fun z o z3 r => k.rt z o (z2.trans z3) r, fun z o z3 rp => k.nx z o (z2.trans z3) rp, fun z o z3 rp => ?_⟩ o2 (rpe_same s2 rp1)
    · obtain ⟨m', h1, h2⟩ := z
      exact ⟨m', h1, _, _, _, z2.trans z3, h2, o, rp⟩
    · obtain ⟨m', h1, h2⟩ := z
      exact ⟨m', h1, _, _, _, z2.trans z3, h2, o, rp⟩
def aFor (ai : AI) (g : AG) (s : AS) : AS := fun D ρ Ω => ai ρ Ω fun xs Kp Ω1 => ∃ W : Nat → Rho → Om → Prop, W 0 ρ Ω1 ∧ (∀ i ρ Ω, W i ρ Ω → Kp Ω) ∧
  (∀ i x ρ Ω, xs[i]? = some x → W i ρ Ω → g x ρ fun ρ' => s { D with nx := W (i + 1), ct := W (i + 1), bk := D.nx } ρ' Ω) ∧ ∀ ρ Ω, W xs.length ρ Ω → D.nx ρ Ω
theorem js_for {iter : Expr} {body : List Stmt} (hp : PassesOwn (model X.prog X.w) X.A X.env X.xe) (hc : X.calm = true) (hi : JI X G tg iter ai) (hg : JG X G tg g) (hb : JSs X G body s) (h : ∀ {wi : TI} {g' : TG} {tb : TS}, PI X tg iter wi → PG X tg g' → PSs X body tb → PS X (.For tg iter body [] pos) (tFor wi g' tb) := by intro _ _ _ a b c; first | exact ps_for PassesOwn.never rfl a b c | exact ps_for (passes_of rfl) rfl a b c | exact ps_for (by assumption) rfl a b c) :
    JS X G (.For tg iter body [] pos) (aFor ai g s) := by
  obtain ⟨wi, p1, q1⟩ := hi
  obtain ⟨g', p2, q2⟩ := hg
  obtain ⟨tb, p3, q3⟩ := hb
  refine ⟨_, h p1 p2 p3, ⟨fun {D ρ Ω} h {P F H σ D'} k o rp => q1.go h o rp fun {J xs Kp Ω1 F1 H1} q o1 s1 it => ?_⟩⟩
  obtain ⟨W, w0, wk, turn, fin⟩ := q
  refine ⟨fun i m σ H => m = xs.length - i ∧ i ≤ xs.length ∧ ∃ ρ Ω F, Same F1 F ∧ W i ρ Ω ∧ Ok (enX X G) P F H Ω ∧ RpE X.K F σ ρ, ⟨_, rfl, Nat.zero_le _, ρ, Ω1, F1, Same.refl F1, w0, o1, rpe_same s1 rp⟩, ?_⟩
  rintro i m σ2 H2 ⟨rfl, hi, ρ2, Ω2, F2, s2, w2, o2, rp2⟩
  by_cases hlt : i < xs.length
  · refine Or.inr ⟨it.go s2 o2 (wk _ _ _ w2) hlt, fun σ' H' => ∃ ρ Ω F, Same F1 F ∧ W (i + 1) ρ Ω ∧ Ok (enX X G) P F H' Ω ∧ RpE X.K F σ' ρ, fun σ' H' z => ⟨_, by omega, rfl, hlt, z⟩, fun x H' y => ?_⟩
    have e : xs[i]? = some xs[i] := List.getElem?_eq_getElem hlt
    obtain ⟨F3, o3, s3, r3⟩ := it.yl s2 o2 (wk _ _ _ w2) y e
    refine q2.go (turn i _ ρ2 Ω2 e w2) o3 (rpe_same s3 rp2) r3 fun {σ4 ρ4} q4 rp4 => ?_
    have z3 := s2.trans s3
    exact q3.go q4 ⟨fun z o z4 rp => ⟨_, _, _, z3.trans z4, z, o, rp⟩, fun z o z4 r => k.rt z o ((s1.trans z3).trans z4) r, fun z o z4 rp => k.nx z o ((s1.trans z3).trans z4) rp, fun z o z4 rp => ⟨_, _, _, z3.trans z4, z, o, rp⟩⟩ o3 rp4
  · have e : i = xs.length := by omega
    subst e
    exact Or.inl ⟨it.st s2 o2 (wk _ _ _ w2) (Nat.le_refl _), k.nx (fin _ _ w2) o2 (s1.trans s2) rp2⟩
end
end Z
/-! Z7: xs[i] = e; comprehensions; a def by its body; the law's end. -/
namespace Z
open PySem PySem.Spec PyProof.Rows L2
section
variable {X : Cx} {G : Gn} {e a b tg : Expr} {aa ab ac : AE} {at_ bt : AT} {ta tb : AA} {pos : Pos} {m : Mode} {g : AG} {gs : AGs} {s t : AS} {ai : AI}
/-- o[i] = e on a cell's list -/
def aSetIx (a o i : AE) : AS := fun D ρ Ω => a ρ Ω fun x Ω1 => o ρ Ω1 fun l Ω2 => i ρ Ω2 fun j Ω3 => match l, j with
  | .r (.ref p), .d (.int n) => ∃ c f, At Ω3 p c f ∧ (match c, x with
    | .lst ds, .d d => ∃ q, ixN ds.length n = some q ∧ D.nx ρ (f (.lst (ds.set q d)))
    | .lx ys, x => ∃ q, ixN ys.length n = some q ∧ D.nx ρ (f (.lx (ys.set q x)))
    | _, _ => False)
  | _, _ => False
theorem js_setIx (he : JE X G e aa) (ha : JE X G a ab) (hb : JE X G b ac) {spos : Pos}
    (h : ∀ {te ta tb : TE}, PE X e te → PE X a ta → PE X b tb → PS X (.Assign [.Subscript a b pos] e spos) (tAsg te (gSub ta tb rSetL)) := by intro _ _ _ p q r; exact ps_asg p (pg_sub q r set_list)) :
    JS X G (.Assign [.Subscript a b pos] e spos) (aSetIx aa ab ac) := by
  obtain ⟨te, p1, q1⟩ := he
  obtain ⟨ta, p2, q2⟩ := ha
  obtain ⟨tb, p3, q3⟩ := hb
  refine ⟨_, h p1 p2 p3, ⟨fun {D ρ Ω} h {P F H σ D'} k o rp => q1.go h o rp fun {v sv Ω1 F1 H1} z1 o1 s1 r1 => q2.go z1 o1 (rpe_same s1 rp) fun {v2 sv2 Ω2 F2 H2} z2 o2 s2 r2 => q3.go z2 o2 (rpe_same (s1.trans s2) rp) fun {v3 sv3 Ω3 F3 H3} z3 o3 s3 r3 => ?_⟩⟩
  have k3 := (s1.trans s2).trans s3
  have r1' := (r1.same s2).same s3
  dsimp only at z3
  split at z3
  · obtain ⟨c, f, t, z3⟩ := z3
    cases (show v2 = _ from r2)
    cases dqi r3
    split at z3
    · obtain ⟨q, e1, z⟩ := z3
      obtain ⟨vs, h1, h2⟩ := o3.lst t
      exact ⟨_, vs, _, q, rfl, rfl, h1, by rw [dqa_len h2]; exact e1, k.nx z (o3.put t (dqa_set q h2 r1')) k3 (rpe_same k3 rp)⟩
    · obtain ⟨q, e1, z⟩ := z3
      obtain ⟨vs, h1, h2⟩ := o3.lx t
      exact ⟨_, vs, _, q, rfl, rfl, h1, by rw [h2.length]; exact e1, k.nx z (o3.put t (pr_set r1' q h2)) k3 (rpe_same k3 rp)⟩
    · exact z3.elim
  · exact z3.elim
/-! ### comprehensions -/
def wipR (ρ : Rho) : List Nat → Rho
  | [] => ρ
  | v :: vs => (wipR ρ vs).set v none
theorem wip_ok {K : Frag} {F : Hp} {σ : L2.St} {ρ : Rho} (h : RpE K F σ ρ) : ∀ vs : List Nat, RpE K F (wipe σ vs) (wipR ρ vs)
  | [] => h
  | v :: vs => pr_set (R := RpS K F) (x := none) (y := none) trivial v (wip_ok h vs)
/-- only the block's own slots are stored -/
def GOnly (g : TG) (vs : List Nat) : Prop := ∀ {v : V} {σ : L2.St} {H : Hp} {Q Q' : L2.St → Hp → Prop}, g v σ H Q → (∀ σ2 H2, wipe σ2 vs = wipe σ vs → Q σ2 H2 → Q' σ2 H2) → g v σ H Q'
theorem wipe_set {σ : L2.St} {x : Option V} {i : Nat} : ∀ {vs : List Nat}, i ∈ vs → wipe (σ.set i x) vs = wipe σ vs
  | [], h => by cases h
  | v :: vs, h => by
    show (wipe (σ.set i x) vs).set v none = (wipe σ vs).set v none
    have comm : ∀ ws : List Nat, i ∉ ws → wipe (σ.set i x) ws = (wipe σ ws).set i x := fun ws => by
      induction ws with
      | nil => exact fun _ => rfl
      | cons w ws ih =>
        intro hn
        show (wipe (σ.set i x) ws).set w none = ((wipe σ ws).set w none).set i x
        rw [ih fun z => hn (List.mem_cons_of_mem _ z)]
        exact (List.set_comm _ _ (fun z => hn (by rw [z]; exact List.mem_cons_self)))
    by_cases hm : i ∈ vs
    · rw [wipe_set hm]
    · rcases List.mem_cons.mp h with e | e
      · rw [comm vs hm, e, List.set_set]
      · exact absurd e hm
theorem wipe_wipe {σ : L2.St} : ∀ {vs ws : List Nat}, (∀ v ∈ vs, v ∈ ws) → wipe (wipe σ vs) ws = wipe σ ws
  | [], ws, _ => rfl
  | v :: vs, ws, h => by
    show wipe ((wipe σ vs).set v none) ws = wipe σ ws
    rw [wipe_set (h v List.mem_cons_self), wipe_wipe fun w hw => h w (List.mem_cons_of_mem _ hw)]
def JGo (X : Cx) (G : Gn) (tg : Expr) (ag : AG) (vs : List Nat) : Prop := ∃ g, PG X tg g ∧ SnG (enX X G) g ag ∧ GOnly g vs
def JGso (X : Cx) (G : Gn) (tg : List Expr) (ag : AGs) (vs : List Nat) : Prop := ∃ g, PGs X tg g ∧ SnGs (enX X G) g ag ∧ ∀ {xs : List V} {σ : L2.St} {H : Hp} {Q Q' : L2.St → Hp → Prop}, g xs σ H Q → (∀ σ2 H2, wipe σ2 vs = wipe σ vs → Q σ2 H2 → Q' σ2 H2) → g xs σ H Q'
theorem jgo_name {i : Nat} {x : Str} {vs : List Nat} (hi' : i ∈ vs) (hN : X.N.Nodup) (hi : X.N[i]? = some x) (hx : Loc X.env.scope x) (hf : X.fn x = true ∨ X.env.scope.names.lookup x = some .local := by first | exact .inl rfl | exact .inr rfl | assumption) : JGo X G (.Name x pos) (gN i) vs :=
  ⟨_, pg_name hN hi hx hf, gN_ok, fun h k => k _ _ (wipe_set hi') h⟩
theorem jgso0 {vs : List Nat} : JGso X G [] gs0 vs := by
  refine ⟨_, pgs_nil, ⟨fun {xs ρ k} h {P F H Ω vs σ Q} o rp r q => ?_⟩, fun h k => ⟨h.1, k _ _ rfl h.2⟩⟩
  unfold gs0 at h
  split at h
  · cases r
    exact ⟨rfl, q h rp⟩
  · exact h.elim
theorem jgso1 {es : List Expr} {vs : List Nat} (h1 : JGo X G e g vs) (h2 : JGso X G es gs vs) (hs : (assignEach (e :: es) X.env).map (·.2) = assign e X.env :: (assignEach es X.env).map (·.2) := by rfl) : JGso X G (e :: es) (gs1 g gs) vs := by
  obtain ⟨g', p1, q1, z1⟩ := h1
  obtain ⟨u, p2, q2, z2⟩ := h2
  refine ⟨_, pgs_cons p1 p2 hs, ⟨fun {xs ρ k} h {P F H Ω vs σ Q} o rp r q => ?_⟩, fun {xs σ H Q Q'} h k => ?_⟩
  · unfold gs1 at h
    split at h
    · cases r with
      | cons r1 r2 => exact ⟨_, _, rfl, q1.go h o rp r1 fun h' rp' => q2.go h' o rp' r2 q⟩
    · exact h.elim
  · obtain ⟨v, r, e, h⟩ := h
    exact ⟨v, r, e, z1 h fun σ2 H2 e2 h2 => z2 h2 fun σ3 H3 e3 h3 => k σ3 H3 (e3.trans e2) h3⟩
theorem jgo_tup {es : List Expr} {n k' : Nat} {vs : List Nat} (hc : X.calm = true) (h : JGso X G es gs vs) (hn : (assignEach es X.env).length = n := by rfl) (hst : (assignEach es X.env).findIdx? (·.1) = none := by rfl) : JGo X G (.Tuple es k' pos) (gT n gs) vs := by
  obtain ⟨u, p, q', z⟩ := h
  refine ⟨_, pg_tup hc p hn hst, ⟨fun {x ρ k} h {P F H Ω v σ Q} o rp r q => ?_⟩, fun {v σ H Q Q'} h k => ?_⟩
  · unfold gT at h
    split at h
    · obtain ⟨p, vs, rfl, hF, da⟩ := dqt r
      exact ⟨p, vs, rfl, sqt_same o.ex hF, by rw [dqa_len da]; exact h.1, q'.go h.2 o rp (of_dqa da) q⟩
    · exact h.elim
  · obtain ⟨a, xs, e, h1, h2, h3⟩ := h
    exact ⟨a, xs, e, h1, h2, z h3 k⟩
def JTs (X : Cx) (G : Gn) (e : List Expr) (a : AT) : Prop := ∃ te, PTs X e te ∧ SnT (enX X G) te a
def aYes : AT := fun _ Ω Φ => Φ true Ω
theorem jts_nil : JTs X G [] aYes := ⟨_, pts_nil, ⟨fun {ρ Ω Φ} h {P F H σ Q} o rp k => k h o (Same.refl F)⟩⟩
theorem jts_one {c : Expr} (h : JT X G c at_) : JTs X G [c] at_ := by
  obtain ⟨_, p, q⟩ := h
  exact ⟨_, pts_one p, q⟩
def aLc (m : Mode) (ai : AI) (g : AG) (tt : AT) (te : AE) (vs : List Nat) : AE := fun ρ Ω Φ => ai ρ Ω fun xs Kp Ω1 => xs.length ≤ 1000000 ∧ ∃ W : Nat → List SV → Om → Prop, W 0 [] Ω1 ∧ (∀ i acc Ω, W i acc Ω → Kp Ω ∧ acc.length ≤ i) ∧
  (∀ i x acc Ω, xs[i]? = some x → W i acc Ω → g x (wipR ρ vs) fun ρ' => tt ρ' Ω fun b Ω2 => br b (te ρ' Ω2 fun y Ω3 => W (i + 1) (acc ++ [y]) Ω3) (W (i + 1) acc Ω2)) ∧
  ∀ acc Ω, W xs.length acc Ω → newX m acc Ω Φ
theorem lc_ok {E : En} {wi : TI} {g' : TG} {tt' : TT} {te' : TE} {ai : AI} {g : AG} {tt : AT} {te : AE} {vs : List Nat} (hm : MOk E m) (h1 : SnI E wi ai) (h2 : SnG E g' g) (h2' : GOnly g' vs) (h3 : SnT E tt' tt) (h4 : SnE E te' te) : SnE E (tLc wi g' tt' te' vs) (aLc m ai g tt te vs) := by
  refine ⟨fun {ρ Ω Φ} h {P F H σ Q} o rp k => h1.go h o rp fun {J xs Kp Ω1 F1 H1} q o1 s1 it => fun Dl hD => ?_⟩
  obtain ⟨hz, W, w0, wk, turn, fin⟩ := q
  have nP : P Dl = none := o1.pf.free hD
  have s0 : Same E.P0 P := o1.p0
  have n00 : E.P0 Dl = none := s0.free nP
  have nF : ∀ {Q' F' H' : Hp} {Ω' : Om} {u : HO}, Ok E (upd Q' Dl u) F' H' Ω' → F' Dl = none := fun ok => ok.pF Dl (by rw [upd_same]; exact fun z => nomatch z)
  refine ⟨fun i m H => m = xs.length - i ∧ i ≤ xs.length ∧ ∃ acc ws F' Ω', Same F1 F' ∧ W i acc Ω' ∧ Ok E (upd P Dl (.lst ws)) F' H Ω' ∧ Paired (Rp E.K F') ws acc, ⟨_, rfl, Nat.zero_le _, [], [], F1, Ω1, Same.refl F1, w0, o1.guard hD, .nil⟩, ?_⟩
  rintro i mm H2 ⟨rfl, hi, acc, ws, F2, Ω2, s2, w2, o2, r2⟩
  obtain ⟨kp, hl⟩ := wk _ _ _ w2
  by_cases hlt : i < xs.length
  · refine Or.inr ⟨it.go s2 o2 kp hlt, fun H => ∃ acc ws F' Ω', Same F1 F' ∧ W (i + 1) acc Ω' ∧ Ok E (upd P Dl (.lst ws)) F' H Ω' ∧ Paired (Rp E.K F') ws acc, fun H' z => ⟨_, by omega, rfl, hlt, z⟩, fun x H' y => ?_⟩
    have e : xs[i]? = some xs[i] := List.getElem?_eq_getElem hlt
    obtain ⟨F3, o3, s3, r3⟩ := it.yl s2 o2 kp y e
    have z3 := s2.trans s3
    refine h2' (h2.go (turn i _ acc Ω2 e w2) o3 (wip_ok (rpe_same (s1.trans z3) rp) vs) r3 (Q := fun σ2 H4 => H4 = H' ∧ ∃ ρ', (tt ρ' Ω2 fun b Ω2 => br b (te ρ' Ω2 fun y Ω3 => W (i + 1) (acc ++ [y]) Ω3) (W (i + 1) acc Ω2)) ∧ RpE E.K F3 σ2 ρ') fun {σ' ρ'} h5 rp5 => ⟨rfl, ρ', h5, rp5⟩) ?_
    rintro σ2 H4 ew ⟨rfl, ρ', h5, rp5⟩
    refine ⟨by rw [ew, wipe_wipe fun v hv => hv], h3.go h5 o3 rp5 fun {b Ω5 F5 H5} q5 o5 s5 => br_ite ?_⟩
    replace q5 := br_out q5
    cases b
    · exact ⟨acc, ws, F5, Ω5, z3.trans s5, q5, o5, rps_same (s3.trans s5) r2⟩
    · refine h4.go q5 o5 (rpe_same s5 rp5) fun {v sv Ω6 F6 H6} q6 o6 s6 r6 => ⟨ws, o6.pf Dl _ upd_same, ?_, acc ++ [sv], ws ++ [v], F6, Ω6, (z3.trans s5).trans s6, q6, o6.poke n00 (nF o6) nP, pr_app (rps_same ((s3.trans s5).trans s6) r2) (.cons r6 .nil)⟩
      have := r2.length
      have l1 : (1000000 : Nat) < sizeLine := by decide
      omega
  · have e : i = xs.length := by omega
    subst e
    refine Or.inl ⟨it.st s2 o2 kp (Nat.le_refl _), ?_⟩
    have q := fin _ _ w2
    have n0 : E.H0 Dl = none := o1.dm _ hD
    cases m with
    | none =>
      have q' : (match dataOf acc with | some ds => Φ (.d (.list ds)) Ω2 | none => False) := q
      split at q'
      · rename_i ds e
        obtain ⟨o7, s7⟩ := o2.adoptF s0 nP n0
        exact k q' o7 ((s1.trans s2).trans s7) (Dq.lst upd_same (dqa_same s7 _ _ (dataOf_ok e r2)))
      · exact q'.elim
    | some Fr => exact k (q Dl (hm _ rfl Dl n0)) (o2.adopt s0 nP (mkL_ok r2)) (s1.trans s2) rfl
/-- one reading for all contexts of a block -/
theorem all_pe {ι : Type} {Xs : ι → Cx} {E : En} (h : ∀ i, ∃ te, PE (Xs i) e te ∧ SnE E te aa) : ∃ te, (∀ i, PE (Xs i) e te) ∧ SnE E te aa := by
  refine ⟨fun σ H Q => ∀ i, (h i).choose σ H Q, fun i => ⟨fun pins s σ H Q I q => (h i).choose_spec.1.run pins s σ H Q I (q i)⟩, ⟨fun {ρ Ω Φ} q {P F H σ Q} o rp k i => (h i).choose_spec.2.go q o rp k⟩⟩
theorem all_pts {ι : Type} {Xs : ι → Cx} {E : En} {es : List Expr} (h : ∀ i, ∃ te, PTs (Xs i) es te ∧ SnT E te at_) : ∃ te, (∀ i, PTs (Xs i) es te) ∧ SnT E te at_ := by
  refine ⟨fun σ H Q => ∀ i, (h i).choose σ H Q, fun i => ⟨fun pins s σ H Q I q => (h i).choose_spec.1.run pins s σ H Q I (q i)⟩, ⟨fun {ρ Ω Φ} q {P F H σ Q} o rp k i => (h i).choose_spec.2.go q o rp k⟩⟩
theorem all_pg {ι : Type} {Xs : ι → Cx} {E : En} {vs : List Nat} (h : ∀ i, ∃ g', PG (Xs i) e g' ∧ SnG E g' g ∧ GOnly g' vs) : ∃ g', (∀ i, PG (Xs i) e g') ∧ SnG E g' g ∧ GOnly g' vs := by
  refine ⟨fun v σ H Q => ∀ i, (h i).choose v σ H Q, fun i => ⟨fun pins s σ H v u Q I r q => (h i).choose_spec.1.run pins s σ H v u Q I r (q i)⟩, ⟨fun {x ρ k} q {P F H Ω v σ Q} o rp r k i => (h i).choose_spec.2.1.go q o rp r k⟩, fun {v σ H Q Q'} q k i => (h i).choose_spec.2.2 (q i) k⟩
section
variable {elt iter : Expr} {ifs : List Expr} {scope : Scope} {own : List (Str × Nat)} {tt : AT} {te : AE}
abbrev BI := Shared × Hp × Addr × List (Str × Addr) × List Addr
abbrev blkX (X : Cx) (scope : Scope) (i : BI) : Cx := X.blk i.1 i.2.1 scope (compEnvC scope i.2.2.2.1 i.2.2.1 X.env) i.2.2.2.2
theorem je_lc (hm : MOk (enX X G) m) (hc : X.calm = true) (hN : X.N.Nodup) (hi : JI X G tg iter ai) (ok : BlkOk X.N X.env.scope scope own)
    (hg : ∀ i, JGo (blkX X scope i) G tg g (own.map (·.2))) (ht : ∀ i, JTs (blkX X scope i) G ifs tt) (he : ∀ i, JE (blkX X scope i) G elt te) (hs : ∀ x, foldedSetIterable iter X.env x = pure x := by intro _; rfl) :
    JE X G (.ListComp elt [⟨tg, iter, ifs, 0⟩] scope pos) (aLc m ai g tt te (own.map (·.2))) := by
  obtain ⟨wi, p1, q1⟩ := hi
  obtain ⟨g', p2, q2, z2⟩ := all_pg (E := enX X G) hg
  obtain ⟨t', p3, q3⟩ := all_pts (E := enX X G) ht
  obtain ⟨e', p4, q4⟩ := all_pe (E := enX X G) he
  exact ⟨_, pe_lc hc hN p1 ok (fun s H C cl fp => p2 (s, H, C, cl, fp)) (fun s H C cl fp => p3 (s, H, C, cl, fp)) (fun s H C cl fp => p4 (s, H, C, cl, fp)) hs, lc_ok hm q1 q2 z2 q3 q4⟩
/-- y = [..] -/
theorem js_setLc {i : Nat} {y : Str} {py spos : Pos} (hm : MOk (enX X G) m) (hc : X.calm = true) (hN : X.N.Nodup) (hy : X.N[i]? = some y) (hyl : X.env.scope.names.lookup y = some .local)
    (hsw : swapsWith (.ListComp elt [⟨tg, iter, ifs, 0⟩] scope pos) (some (.Name y py)) spos.line X.env = pure true) (hi : JI X G tg iter ai) (ok : BlkOk X.N X.env.scope scope own)
    (hg : ∀ i, JGo (blkX X scope i) G tg g (own.map (·.2))) (ht : ∀ i, JTs (blkX X scope i) G ifs tt) (he : ∀ i, JE (blkX X scope i) G elt te) (hs : ∀ x, foldedSetIterable iter X.env x = pure x := by intro _; rfl) :
    JS X G (.Assign [.Name y py] (.ListComp elt [⟨tg, iter, ifs, 0⟩] scope pos) spos) (aAsg (aLc m ai g tt te (own.map (·.2))) (gN i)) := by
  obtain ⟨wi, p1, q1⟩ := hi
  obtain ⟨g', p2, q2, z2⟩ := all_pg (E := enX X G) hg
  obtain ⟨t', p3, q3⟩ := all_pts (E := enX X G) ht
  obtain ⟨e', p4, q4⟩ := all_pe (E := enX X G) he
  exact ⟨_, ps_setLc hc hN hy hyl hsw p1 ok (fun s H C cl fp => p2 (s, H, C, cl, fp)) (fun s H C cl fp => p3 (s, H, C, cl, fp)) (fun s H C cl fp => p4 (s, H, C, cl, fp)) hs, asg_ok (lc_ok hm q1 q2 z2 q3 q4) gN_ok⟩
end
end
/-! ### a def by its body -/
def startR (N : List Str) (svs : List SV) : Rho := svs.map some ++ List.replicate (N.length - svs.length) none
theorem pr_map {α β γ δ : Type} {R : α → β → Prop} {S : γ → δ → Prop} {f : α → γ} {g : β → δ} (h : ∀ a b, R a b → S (f a) (g b)) : ∀ {l : List α} {m : List β}, Paired R l m → Paired S (l.map f) (m.map g)
  | _, _, .nil => .nil
  | _, _, .cons r t => .cons (h _ _ r) (pr_map h t)
theorem pr_rep {α β : Type} {R : α → β → Prop} {a : α} {b : β} (h : R a b) : ∀ n, Paired R (List.replicate n a) (List.replicate n b)
  | 0 => .nil
  | n + 1 => .cons h (pr_rep h n)
theorem start_ok {K : Frag} {F : Hp} {N : List Str} {vs : List V} {svs : List SV} (r : Paired (Rp K F) vs svs) : RpE K F (L2.start N vs) (startR N svs) := by
  unfold L2.start startR
  rw [r.length]
  exact pr_app (pr_map (fun a b q => ⟨a, rfl, q⟩) r) (pr_rep trivial _)
section
variable {P : Program} {w : World} {K : Frag} {mg : Str → Option Value} {base : Heap} {CX : CXT} {k : Nat} {f : Addr} {fd : FuncData} {ps N : List Str} {T : Con} {x qual : Str} {st : Stmt} {as : (Addr → Prop) → XA → AS}
/-- THE RULE for a def: its body's reading as (for the addresses that are new, and what is wished of an exception), and that it keeps the contract T -/
theorem fn_ok (Fu : Fun K x qual st f fd) (S : FnScope N ps (defScope st)) (hT : Ari T ps.length)
    (hb : ∀ (cdv : Value) (A : Around) (outer : List Env) (s : Shared) (H : Hp) (E : XK) (G : Gn) (Ξ : XA), A.guards = some [] → Room k (A.deeper (envOfC qual (defScope st) s.heap.objs.size f cdv)) →
      (∀ {x : XI} {Ω : Om} {P' F H : Hp} {cls : Value} {d : Option Addr}, Ξ x Ω → Ok ⟨G, K⟩ P' F H Ω → RpX K F H cls d x → E cls d H) →
      JSs (cxOf CX P w K mg base N qual (defScope st) f cdv A outer s H E) G (defBody st) (as (fun p => G.H0 p = none) Ξ))
    (hr : ∀ Fr svs Ω Φ Ξ, T svs Ω Φ Ξ → as Fr Ξ { nx := fun _ Ω => Φ (.d .none) Ω, rt := Φ } (startR N svs) Ω) : FnG P w K mg base CX (k + 1) f fd ps (spOf K T) := by
  obtain ⟨oc, od, kV, doc, pm, an, cdv, ct, osl, rfl, lk, hcd⟩ := Fu.ex
  refine fnG_of lk hcd S (fun vs H Q E h => ?_) fun A outer s H vs Q E hgd hrm hsp => ?_
  · obtain ⟨P0, F, Ω, svs, Φ, Ξ, o, r, h, _⟩ := h
    rw [r.length]
    exact hT _ _ _ _ h
  · obtain ⟨P0, F, Ω, svs, Φ, Ξ, o, r, h, k1, k2⟩ := hsp
    obtain ⟨t, p, q⟩ := hb cdv A outer s H E ⟨F, H, P0⟩ Ξ hgd hrm fun z1 z2 z3 => k2 _ _ _ _ _ _ _ z1 z2 z3
    exact ⟨t, p, q.go (hr _ svs Ω Φ Ξ h) ⟨fun z o' _ _ => k1 _ _ _ _ _ _ z o' Dq.non, fun z o' _ r' => k1 _ _ _ _ _ _ z o' r', fun z _ _ _ => z.elim, fun z _ _ _ => z.elim⟩ o (start_ok r)⟩
/-- .. for a def that lets nothing out -/
theorem fn_ok0 {as : (Addr → Prop) → AS} (Fu : Fun K x qual st f fd) (S : FnScope N ps (defScope st)) (hT : Ari T ps.length)
    (hb : ∀ (cdv : Value) (A : Around) (outer : List Env) (s : Shared) (H : Hp) (E : XK) (G : Gn), A.guards = some [] → Room k (A.deeper (envOfC qual (defScope st) s.heap.objs.size f cdv)) →
      JSs (cxOf CX0 P w K mg base N qual (defScope st) f cdv A outer s H E).nox G (defBody st) (as (fun p => G.H0 p = none)))
    (hr : ∀ Fr svs Ω Φ Ξ, T svs Ω Φ Ξ → as Fr { nx := fun _ Ω => Φ (.d .none) Ω, rt := Φ } (startR N svs) Ω) : FnG P w K mg base CX0 (k + 1) f fd ps (spOf K T) :=
  fn_ok (as := fun Fr _ => as Fr) Fu S hT (fun cdv A outer s H E G Ξ h1 h2 h3 => by
    obtain ⟨t, p, q⟩ := hb cdv A outer s H E G h1 h2
    exact ⟨t, p.nox, ⟨fun {D ρ Ω} z {P F H σ D'} k o r => q.go z k o r⟩⟩) hr
theorem kargs (Fu : Fun K x qual st f fd) {ks : List Str} {n : Nat} {π : List Nat}
    (h : ∀ (kV doc pm : Value) (an : Option Addr) (cdv ct : Value) (us ws : List Value), us.length = n → ws.length = ks.length → bindArgs (PySem.W.fnOf x qual (defArgs st) (defBody st) (defScope st) .none kV doc pm an cdv ct) ⟨us, ks.zip ws⟩ = pure (ps.zip (π.map fun i => (us ++ ws).getD i .none))) : KArg K fd ps ks n π := by
  obtain ⟨oc, od, kV, doc, pm, an, cdv, ct, osl, rfl, lk, hcd⟩ := Fu.ex
  exact fun s us ws _ h1 h2 => .of_eq (h kV doc pm an cdv ct us ws h1 h2)
end
end Z
/-! Zr: list(reversed(xs)); xs[::-1]. -/
namespace Z
open PySem PySem.Spec PyProof.Rows L2
section
variable {prog : Program} {w : World} {A : Around} {E : Value → Shared → Prop} {s : Shared}
theorem rev_fill {R : Result → Shared → Prop} {it l S : Addr} {items : Array Value} {res : Value} {c₀ : Nat} (hh : A.handled = none) (hit : s.heap.IsRevIter it l ((items.size : Int) - 1)) (hl : s.heap.IsList l items) (hne : l ≠ it) (hn : items.size ≤ sizeLine)
    (hSi : S ≠ it) (hSl : S ≠ l) (hS : s.heap.get? S = some { cls := .type "list", data := .seq #[] c₀ })
    (hR : ∀ h' tk acc c', (∀ b o, b ≠ S → b ≠ it → s.heap.get? b = some o → h'.get? b = some o) → h'.get? S = some { cls := .type "list", dict := none, data := .seq acc c', slots := #[] } →
      ItemsOf (fun i v => items[items.size - 1 - i]? = some v) acc items.size → R (.ok (.ret res)) { s with heap := h', toks := tk }) :
    wpAny (model prog w) A.in1 (Builtin.List.listExtendWith (.ref S) (.ref it) res)
      (fun fin s' => match fin with | .done f => R (.ok f) s' | .again c' => c'.quiet = true ∧ codeAny (model prog w) A c' R s') (fun e s' => R (.error e) s') s := by
  have W := (Walks.listRev (prog := prog) (w := w) (A := A.in1) hh it l hne items).toS
  have hSf : S ∉ [it, l] := by
    intro z
    rcases List.mem_cons.mp z with q | q
    · exact hSi q
    · exact hSl (List.mem_singleton.mp q)
  have hT : s.TypeIs (.ref it) "list_reverseiterator" := hit.typeIs
  unfold Builtin.List.listExtendWith
  refine wpAny_bind (wpAny_typeOf hT ?_)
  have e1 : Builtin.List.listSameRef (.ref S) (.ref it) = false := by simp [Builtin.List.listSameRef, hSi]
  rw [if_neg (by rw [e1]; decide)]
  refine wpAny_bind (wpAny_pyIter_revIter hit (wpAny_bind (wpAny_holding ?_)))
  unfold Builtin.List.listLengthHint
  refine wpAny_bind (wpAny_specialOf hT RT.nolen_lri ?_)
  show wpAny _ _ (specialOf (Value.ref it) (Str.ofString "__length_hint__") >>= _) _ _ _
  refine wpAny_bind (wpAny_specialOf hT RT.hint_lri ?_)
  generalize hid : ("list_reverseiterator.__length_hint__" : String) = id0
  wp_delta
  rw [show splitId id0 = some ("list_reverseiterator", "__length_hint__") from by subst hid; decide +kernel]
  subst hid
  refine wpAny_bind (wpAny_isInstance (b := true) hT (by rw [isSubtype_type]; kernel_rfl) (wpAny_pure ?_))
  rw [if_neg (by decide)]
  have e0 : ((items.size : Nat) : Int) - 1 - ((0 : Nat) : Int) = (items.size : Int) - 1 := by omega
  refine wpAny_pure ⟨plainId_quiet F.plain_extend_loop _, codeAny_extend_loopS W hn S hSf res items.size 0 _ #[] c₀ rfl (Nat.zero_le _) ⟨Nat.zero_le _, by rw [e0]; exact hit, hl⟩ hS (ItemsOf.nil _) fun s' acc c' hm hS' hacc => ?_⟩
  rw [Moved.eq_with hm]
  refine hR s'.heap s'.toks acc c' (fun b o h1 h2 e => hm.heap b o (fun hmem => ?_) e) hS' hacc
  rcases List.mem_cons.mp hmem with q | q
  · exact h1 q
  · exact h2 (List.mem_singleton.mp q)
theorem call_list_revI {it l : Addr} {items : Array Value} {Q : Value → Shared → Prop} (hh : A.handled = none) (hit : s.heap.IsRevIter it l ((items.size : Int) - 1)) (hl : s.heap.IsList l items) (hne : l ≠ it) (hn : items.size ≤ sizeLine)
    (hQ : ∀ h' tk acc c', (∀ b o, b ≠ it → s.heap.get? b = some o → h'.get? b = some o) → h'.get? s.heap.objs.size = some { cls := .type "list", dict := none, data := .seq acc c', slots := #[] } →
      ItemsOf (fun i v => items[items.size - 1 - i]? = some v) acc items.size → Q (.ref s.heap.objs.size) { s with heap := h', toks := tk }) :
    wpAny (model prog w) A (PySem.call (.type "list") [.ref it]) Q E s := by
  refine callType_codes (Q₁ := fun obj s₁ => obj = .ref s.heap.objs.size ∧ s₁ = { s with heap := s.heap.push { cls := .type "list", data := .seq #[] } }) PySem.F.called_list (PySem.F.typeCall_list_1 _) PySem.F.entry_list_init
    (code_list_new _ ⟨rfl, rfl⟩) fun obj s₁ h₁ => ?_
  obtain ⟨rfl, rfl⟩ := h₁
  generalize hSz : s.heap.objs.size = S
  have hS : (s.heap.push { cls := .type "list", data := .seq #[] }).get? S = some { cls := .type "list", data := .seq #[] } := by rw [← hSz]; exact Heap.get?_push_size _ rfl
  obtain ⟨oi, hoi, _⟩ := id hit
  obtain ⟨ol, hol, _⟩ := id hl
  have hSi : S ≠ it := by rw [← hSz]; exact Nat.ne_of_gt (Heap.lt_size hoi)
  have hSl : S ≠ l := by rw [← hSz]; exact Nat.ne_of_gt (Heap.lt_size hol)
  refine ⟨⟨_, hS, rfl⟩, PySem.F.args_list_init_2 _ _, ?_⟩
  show wpAny _ _ (do let old ← Builtin.List.listItems (.ref S); Builtin.List.listUpdate (.ref S) (fun _ => #[]); letGo old.toList.reverse; Builtin.List.listExtendWith (.ref S) (.ref it) .none) _ _ _
  refine wpAny_bind ?_
  unfold Builtin.List.listItems
  refine wpAny_bind (wpAny_seqItems hS rfl (wpAny_pure ?_))
  refine wpAny_bind (m := Builtin.List.listUpdate (.ref S) (fun _ => #[])) ?_
  unfold Builtin.List.listUpdate
  refine wpAny_updateSeq hS rfl ?_
  have hS2 := Heap.get?_update_self (Obj.mapSeq (fun _ => (#[] : Array Value))) hS rfl
  have oth : ∀ b o, b ≠ S → s.heap.get? b = some o → ((s.heap.push { cls := .type "list", data := .seq #[] }).update S (Obj.mapSeq (fun _ => (#[] : Array Value)))).get? b = some o :=
    fun b o hb e => (Heap.get?_update_other _ _ (Ne.symm hb)).trans (Heap.get?_push_of_some _ e)
  refine wpAny_bind (wpAny_letGo ?_)
  refine rev_fill (A := A.in1) (c₀ := _) (items := items) (l := l) hh (hit.at fun o e => oth it o (Ne.symm hSi) e) ?_ hne hn hSi hSl hS2 (fun h' tk acc c' hk hS' hacc => ?_)
  · obtain ⟨ol, hol, hr⟩ := id hl
    exact ⟨ol, oth l ol (Ne.symm hSl) hol, hr⟩
  · rw [← hSz] at hS'
    refine ⟨rfl, ?_⟩
    have q := hQ h' tk acc c' (fun b o hb e => ?_) hS' hacc
    · rw [hSz] at q
      exact q
    · have hb2 : b ≠ S := by rw [← hSz]; exact Nat.ne_of_lt (Heap.lt_size e)
      exact hk b o hb2 hb (oth b o hb2 e)
end
section
variable {X : Cx} {G : Gn} {e : Expr} {aa : AE} {m : Mode}
/-- list(reversed(x)), x a list: a new list -/
def tLstRev (K : Frag) (te : TE) : TE := fun σ H Q => te σ H fun v H1 => ∃ (a : Addr) (xs : List V), v = .ref a ∧ SqL K H1 a xs ∧ ∀ q, H1 q = none → Q (.ref q) (upd H1 q (.lst xs.reverse))
theorem pe_lstRev {te : TE} {p p2 pos pos2 : Pos} (hc : X.calm = true) (hg : Gl X "list") (hm : X.mg "list" = none) (hg2 : Gl X "reversed") (hm2 : X.mg "reversed" = none) (he : PE X e te)
    (hs : starEach [e] X.env = (false, eval e X.env) :: starEach [] X.env)
    (hs2 : starEach [.Call (.Name "reversed" p2) [e] [] pos2] X.env = (false, eval (.Call (.Name "reversed" p2) [e] [] pos2) X.env) :: starEach [] X.env) :
    PE X (.Call (.Name "list" p) [.Call (.Name "reversed" p2) [e] [] pos2] [] pos) (tLstRev X.K te) := by
  refine ⟨fun pins s σ H Q I h => Call_ (ld_blt I hg hm boot_list (PyProof.Rows.callWith_type1 (args_cons (Call_ (ld_blt I hg2 hm2 PyProof.Rows.boot_reversed (PyProof.Rows.callWith_type1 (args_cons (thn (he.run pins s σ H _ I h) fun u s1 ⟨v, H1, I1, r1, q1⟩ => args_nil ?_) hs) hs rfl))) hs2) hs2 rfl))⟩
  obtain ⟨a, xs, rfl, hq, q⟩ := q1
  obtain rfl : u = Value.ref a := r1
  obtain ⟨its, rv, p', hz⟩ := I1.list hq
  refine call_reversed_list p'.isList (args_nil ?_)
  generalize hro : revObj a ((its.toArray.size : Int) - 1) = ro
  have k0 : ∀ b o, s1.heap.get? b = some o → (s1.heap.push ro).get? b = some o := fun b o z => Heap.get?_push_of_some _ z
  have I2 : Inv X pins σ H1 { s1 with heap := s1.heap.push ro } := I1.kept (t' := s1.toks) k0
  obtain ⟨f0, f1, f2, f3, f4, f5⟩ := I1.fpOk (H' := H1) (b := s1.heap.objs.size) (Nat.le_refl _) (I1.hok.fresh (Nat.le_refl _))
  have hl := p'.isList
  obtain ⟨ol, hol, _⟩ := id hl
  have hne : a ≠ s1.heap.objs.size := Nat.ne_of_lt (Heap.lt_size hol)
  have hn : its.toArray.size ≤ sizeLine := by rw [List.size_toArray, ← rv.length]; exact hz
  have hri : ({ s1 with heap := s1.heap.push ro } : Shared).heap.IsRevIter s1.heap.objs.size a ((its.toArray.size : Int) - 1) := by
    rw [← hro]
    exact ⟨_, Heap.get?_push_size _ rfl, rfl, rfl⟩
  have hDn : H1 (s1.heap.push ro).objs.size = none := I1.hok.fresh (by rw [Heap.size_push]; exact Nat.le_succ _)
  have hne2 : (s1.heap.push ro).objs.size ≠ s1.heap.objs.size := by rw [Heap.size_push]; exact Nat.succ_ne_self _
  refine call_list_revI (s := { s1 with heap := s1.heap.push ro }) (I1.ok.hd hc) hri (hl.push _) hne hn fun h' tk acc c' hk hS hi => ?_
  have hlen : xs.reverse.length ≤ sizeLine := by rw [List.length_reverse]; exact hz
  have hv : Vals xs.reverse acc.toList := RT.vals_rev rv hi
  have I3 := I2.laid (a := (s1.heap.push ro).objs.size) (o := .lst xs.reverse) (t' := tk) (h' := (s1.heap.push ro).push { cls := .type "list", data := .seq acc c' }) (fun b o z => Heap.get?_push_of_some _ z) (Nat.le_refl _)
    (show ObjOk X.prog X.w _ _ _ (.lst xs.reverse) from ⟨hlen, acc.toList, c', hv, by rw [Array.toArray_toList]; exact Heap.get?_push_size _ rfl⟩)
  have I4 := I3.turned (t' := tk) (h' := h') (it := s1.heap.objs.size) (fun b o hb z => ?_) (by rw [upd_ne (Ne.symm hne2)]; exact f0) f1 f3 f4 f5
  · exact ⟨.ref (s1.heap.push ro).objs.size, _, I4, rfl, q _ hDn⟩
  · by_cases hbS : b = (s1.heap.push ro).objs.size
    · rcases Heap.get?_push_cases z with ⟨_, e⟩ | z2
      · rw [hbS, e]
        exact hS
      · exact hk b o hb z2
    · rcases Heap.get?_push_cases z with ⟨e, _⟩ | z2
      · exact absurd e hbS
      · exact hk b o hb z2
def aLstRev (m : Mode) (a : AE) : AE := fun ρ Ω Φ => a ρ Ω fun x Ω' => rdS x Ω' fun ds => (match x with | .d (.tuple _) => False | _ => True) ∧ newL m ds.reverse Ω' Φ
theorem je_listRev {p p2 pos pos2 : Pos} (hm : MOk (enX X G) m) (hc : X.calm = true) (hg : Gl X "list") (hml : X.mg "list" = none) (hg2 : Gl X "reversed") (hm2 : X.mg "reversed" = none) (ha : JE X G e aa)
    (hs : starEach [e] X.env = (false, eval e X.env) :: starEach [] X.env := by rfl)
    (hs2 : starEach [.Call (.Name "reversed" p2) [e] [] pos2] X.env = (false, eval (.Call (.Name "reversed" p2) [e] [] pos2) X.env) :: starEach [] X.env := by rfl) :
    JE X G (.Call (.Name "list" p) [.Call (.Name "reversed" p2) [e] [] pos2] [] pos) (aLstRev m aa) := by
  obtain ⟨t, h1, h2⟩ := ha
  refine ⟨_, pe_lstRev hc hg hml hg2 hm2 h1 hs hs2, ⟨fun {ρ Ω Φ} h {P F H σ Q} o rp k => h2.go h o rp fun {v sv Ω1 F1 H1} q o1 s1 r1 => ?_⟩⟩
  obtain ⟨a, vs, ds, rfl, hs, da, q⟩ := rdL_of_S q o1 r1
  exact ⟨a, vs, rfl, hs, fun p hp => newL_ok hm o1 (dqa_rev da) q (fun q2 o2 s2 r2 => k q2 o2 (s1.trans s2) r2) hp⟩
end
end Z
/-! Zw: the law's end, for a def that is only called where no repr is under way. -/
namespace Z
open PySem PySem.Spec PyProof.Rows L2
section
variable {P : Program} {w : World} {K : Frag} {mg mb : Str → Option Value} {k : Nat} {fa a : Addr} {fd : FuncData} {x : Str} {sp : Sp} {s : Shared} {vs : List Value} {ns : List Int}
/-- what the law's call must come to -/
abbrev WellDone (s0 : Shared) : Except Value Flow → Shared → Prop := fun r s' => r = .ok (.ret (.bool true)) ∧ OldK s0.heap s'.heap ∧ s'.os = s0.os ∧ AllBare s'.gens
/-- .. from a heap of tracked objects in which at most the script lies -/
theorem lawG_in {H : Hp} (kin : K.In s.heap) (gns : s.heap.Ns mainGlobals mg) (bns : s.heap.Ns builtinsNs mb) (bok : ∀ y : Str, y ≠ "__name__" → mb y = bootBuiltins y) (nol : s.heap.NoLimit) (ng : s.gens = #[])
    (obj : s.heap.get? a = some { cls := .type "list", data := .seq vs.toArray }) (rm : Room k callerA)
    (F : ∀ b : Heap, K.In b → b.Ns mainGlobals mg → FnG P w K mg b CX0 k fa fd [x] sp) (bd : ∀ (z : Shared) (u : Value), BindsTo z fd ⟨[u], []⟩ [(x, u)])
    (only : Only H) (hs : sp [.ref a] H (fun v _ => v = .bl true) fun _ _ _ => False) (hok : HOk P w H s.heap) (just : ∀ b, H b ≠ none → b = a) (out : H a ≠ none → K.lookup a = none) :
    codeAny (model P w) callerA (.call (.ref fa) ⟨[.ref a], []⟩) (WellDone s) s := by
  have isA : ∀ {b : Addr} {u : HO}, H b = some u → b = a := fun {b u} e => just b fun z => by rw [e] at z; cases z
  have free : ∀ {b : Addr} {o : Obj} {es : Array DictEntry} {ep : Nat}, s.heap.get? b = some o → o.data = .dict es ep → H b = none := by
    intro b o es ep e d
    rcases hb : H b with _ | u
    · rfl
    · cases isA hb
      cases obj.symm.trans e
      exact absurd (show Data.seq vs.toArray _ = Data.dict es ep from d) (fun z => by cases z)
  have ns' : ∀ {b : Addr} {m : Str → Option Value}, s.heap.Ns b m → (hidT s.heap H).Ns b m := by
    rintro b m ⟨o, es, ep, e, d, r⟩
    exact ⟨o, es, ep, hidT_get e (free e d), d, r⟩
  have kin' : K.In (hidT s.heap H) := by
    intro b o e
    refine hidT_get (kin b o e) ?_
    rcases hb : H b with _ | u
    · rfl
    · cases isA hb
      have z := out (by rw [hb]; exact fun q => by cases q)
      cases z.symm.trans e
  obtain ⟨mc, c1, c2⟩ := nol
  have env : Env0 P w K mg (hidT s.heap H) callerA [] s H :=
    ⟨rfl, ⟨kin', ns' gns, ⟨mb, ns' bns, bok⟩, ⟨mc, ns' c1, c2⟩⟩, fun _ _ e => of_hidT e, Nat.le_of_eq (hidT_size _ _), trivial, fun _ z => absurd (show _ ∈ ([] : List Addr) from z) (by simp), hok, .of_eq ng⟩
  refine codeAny_mono ((F _ kin' (ns' gns)).go callerA [] s H ⟨[.ref a], []⟩ [.ref a] [.ref a] _ _ rm rfl env (bd s (.ref a)) (.cons rfl .nil) hs) fun r s' got => ?_
  match r, got with
  | .error _, got => exact got.elim
  | .ok .next, got => exact got.elim
  | .ok .brk, got => exact got.elim
  | .ok .cont, got => exact got.elim
  | .ok (.ret u), got =>
    obtain ⟨v, H', os, bare, un, hok', ru, rfl⟩ := got
    cases (show u = Value.bool true from ru)
    refine ⟨rfl, OldK.of_keep fun b o e => ?_, os, bare⟩
    rcases hb : H b with _ | u
    · exact un.keep b o e hb (fun z => absurd (show b ∈ ([] : List Addr) from z) (by simp)) (by simp)
    · rcases only b with z | ⟨ob, xs, z⟩
      · cases z.symm.trans hb
      · have g1 := (hok b _ z).1
        cases g1.symm.trans e
        exact (hok' b _ (un.frzs b _ _ z)).1
theorem lawG (kin : K.In s.heap) (gns : s.heap.Ns mainGlobals mg) (bns : s.heap.Ns builtinsNs mb) (bok : ∀ y : Str, y ≠ "__name__" → mb y = bootBuiltins y) (nol : s.heap.NoLimit) (ng : s.gens = #[])
    (obj : s.heap.get? a = some { cls := .type "list", data := .seq vs.toArray }) (hi : IntsAre vs ns) (hl : ns.length ≤ sizeLine) (rm : Room k callerA)
    (F : ∀ b : Heap, K.In b → b.Ns mainGlobals mg → FnG P w K mg b CX0 k fa fd [x] sp) (bd : ∀ (z : Shared) (u : Value), BindsTo z fd ⟨[u], []⟩ [(x, u)])
    (hsp : ∀ H : Hp, Only H → SqL K H a (ns.map V.int) → sp [.ref a] H (fun v _ => v = .bl true) fun _ _ _ => False) :
    codeAny (model P w) callerA (.call (.ref fa) ⟨[.ref a], []⟩) (WellDone s) s := by
  have ru := vals_ints hi
  rcases hk : K.lookup a with _ | o
  · -- the script stands outside the written part
    let o : Obj := { cls := .type "list", data := .seq vs.toArray }
    let H : Hp := fun b => if b = a then some (.frz o (.lst (ns.map V.int))) else none
    have at_ : H a = some (.frz o (.lst (ns.map V.int))) := if_pos rfl
    have off : ∀ {b}, b ≠ a → H b = none := fun h => if_neg h
    have only : Only H := fun b => by
      by_cases e : b = a
      · subst e; exact .inr ⟨_, _, at_⟩
      · exact .inl (off e)
    refine lawG_in (H := H) kin gns bns bok nol ng obj rm F bd only (hsp H only (.inl (.inr ⟨o, at_⟩))) (fun b u z => ?_) (fun b z => Classical.byContradiction fun e => z (off e)) fun _ => hk
    by_cases e : b = a
    · subst e
      cases at_.symm.trans z
      exact ⟨obj, by rw [List.length_map]; exact hl, vs, _, ru, obj⟩
    · cases (off e).symm.trans z
  · have e := kin a o hk
    cases obj.symm.trans e
    have only : Only fun _ => none := fun _ => .inl rfl
    refine lawG_in (H := fun _ => none) kin gns bns bok nol ng obj rm F bd only (hsp _ only (.inr ⟨_, vs.toArray, _, hk, rfl, rfl, rfl, by rw [List.size_toArray, hi.length]; exact hl, by simpa using ru⟩)) (fun b u z => ?_) (fun b z => absurd rfl z) fun z => absurd rfl z
    cases (show (none : Option HO) = some u from z)
end
/-- the script: a list of ints, of at most n, each of at most 2^20 bits -/
def ScrOk (n : Nat) (ns : List Int) : Prop := ns.length ≤ n ∧ ∀ z ∈ ns, Builtin.Int.intBits z ≤ 1048576
theorem dqa_ofInts {K : Frag} {F : Hp} : ∀ ns : List Int, DqAll K F (ns.map V.int) (ns.map PyData.int)
  | [] => .nil
  | n :: r => .cons (.int n) (dqa_ofInts r)
theorem ok_start {K : Frag} {H : Hp} : Ok ⟨⟨H, H, fun _ => none⟩, K⟩ (fun _ => none) H H [] :=
  ⟨Same.refl _, fun _ _ z => (by cases z), fun _ z => absurd z (by simp), fun _ z => absurd rfl z, Same.refl H, fun _ h1 h2 => absurd h2 h1, fun _ e => e, Same.refl H, fun _ z => absurd z (by simp), .nil⟩
/-- what the law promises: at a script of at most n ints, True -/
inductive LawC (n : Nat) : Con where
  | mk {ns : List Int} {Φ : PhiE} {Ξ : XA} : ScrOk n ns → (∀ Ω, Φ (.d (.bool true)) Ω) → LawC n [.l (ns.map PyData.int)] [] Φ Ξ
theorem LawC.ari {n : Nat} : Ari (LawC n) 1 := by rintro _ _ _ _ ⟨_, _⟩; rfl
/-- THE END -/
theorem walk {l : PySem.W.OpenLaw} {n k : Nat} {q : Program} {loose : List Str} {XP : (Str → Option Value) → Heap → Prop} {YP : World → Heap → Prop} {d : DefRec} {K : Params → Frag} {x : Str}
    (hn : l.most = some n) (hdf : d.params.defaults = []) (in_ : ∀ (w : World) (h : Heap), YP w h → (K w.params).In h) (hr : Room k callerA) (hz : n ≤ sizeLine)
    (F : ∀ (w : World) (mg : Str → Option Value) (fa : Addr) (h : Heap), (K w.params).In h → h.Ns mainGlobals mg → mg d.name = some (.ref fa) →
      ∃ fd : FuncData, (∀ (s : Shared) (v : Value), BindsTo s fd ⟨[v], []⟩ [(x, v)]) ∧ ∀ b : Heap, (K w.params).In b → b.Ns mainGlobals mg → FnG l.prog w (K w.params) mg b CX0 k fa fd [x] (spOf (K w.params) (LawC n))) :
    PySem.W.WalkO q loose XP YP l.row.toRowW d [] fun f vs => PySem.call f vs := by
  refine Att.attach_callB hn hdf fun w _ s mg mb fa _ _ _ _ a vs ns G Y _ _ _ nm obj iv len bits ng => ?_
  have kin := in_ w _ Y
  obtain ⟨fd, bd, f⟩ := F w mg fa _ kin G.T.g nm
  exact lawG kin G.T.g G.T.b G.T.builtins G.T.nolimit ng obj iv (Nat.le_trans len hz) hr f bd fun H _ hs =>
    ⟨_, H, [], [.l (ns.map PyData.int)], fun x _ => x = .d (.bool true), fun _ _ => False, ok_start, .cons ⟨a, _, rfl, hs, dqa_ofInts ns⟩ .nil, .mk ⟨len, bits⟩ fun _ => rfl,
      fun v sv Ω' P' F' H' e o' r => (by subst e; exact dqb r), fun _ _ _ _ _ _ _ z => z.elim⟩
end Z
/-! Z8: raise, try .. except .. as, what is asked of an exception in hand. -/
namespace Z
open PySem PySem.Spec PyProof.Rows L2
/-! ### C() -/
section
variable {X : Cx} {C : Addr} {bmB : List Value} {B newId initId : String} {x : Str} {p pos : Pos}
theorem mk_own0 (F : ExcBaseFacts B newId initId bmB) (q : PySem.W.excIn X.K C bmB newId = true) (gC : X.mg x = some (.ref C)) (kC : PySem.W.keepIn X.K (.ref C) = true) (r : Raises X (.ref C)) (hg : Gl X x) (db : (x == ("__debug__" : Str)) = false := by decide) :
    L2N.PMk X (.Call (.Name x p) [] [] pos) fun _ H Q => Q (.ref C) none H := by
  intro pins s σ H Q I h
  refine wpAny_Call_Name_kw (ld_glob I hg gC (PySem.W.callWith_K0 I.kIn kC ?_) db)
  obtain ⟨_, _, _, _, _, _, _, _, _, _, _, _, _, _, _, _, _, hC, hN, hni, T⟩ := exc_obj I.kIn q
  exact wpAny_call_exc_subT F T hC hN hni (fun h' e hm => L2N.mk_of I hm r h (I.hok.gone hm.new)) (Nat.zero_le _)
end
/-! ### raise -/
section
variable {X : Cx} {G : Gn} {e : Expr} {pos : Pos} {C : Addr} {W : WX} {Ξ : Rho → XA}
theorem noTakes {X : Cx} : L2N.Takes X (fun _ _ _ _ => False) := by
  rintro u s' ⟨_, _, _, _, _, _, _, _, _, _, _, _, _, _, _, _, w⟩
  exact w.elim
def aRaise (Ξ : Rho → XA) (c : Value) : AS := fun _ ρ Ω => Ξ ρ (c, none) Ω
theorem js_raise (hc : X.calm = true) (tk : L2N.Takes X W) (hW : XOk X G (WE W) Ξ) (mk : L2N.PMk X e fun _ H Q => Q (.ref C) none H) : JS X G (.Raise (some e) none pos) (aRaise Ξ (.ref C)) :=
  ⟨_, L2N.ps_raise hc tk mk, ⟨fun {D ρ Ω} h {P F H σ D'} _ o rp => hW h o rp ⟨rfl, trivial⟩⟩⟩
end
/-! ### try .. except C as n -/
def aTry (i : Nat) (c : Value) (ab : (Rho → XA) → AS) (su : Addr → AS) : AS := fun D ρ Ω =>
  ab (fun ρ' x Ω' => x = (c, none) ∧ ∀ a, su a { D with nx := fun ρ2 Ω2 => D.nx (ρ2.set i none) Ω2, bk := fun ρ2 Ω2 => D.bk (ρ2.set i none) Ω2, ct := fun ρ2 Ω2 => D.ct (ρ2.set i none) Ω2 } (ρ'.set i (some (.r (.ref a)))) Ω') D ρ Ω
section
variable {X : Cx} {G : Gn} {x n : Str} {cls c : Value} {i : Nat} {body suite : List Stmt} {b₀ : Stmt} {np pos pos' : Pos} {ab : (Rho → XA) → AS} {su : Addr → AS}
theorem js_tryAs (hs : X.stack = X.env :: X.outer) (hf : X.env.frame = some X.env.locals) (hN : X.N.Nodup) (hi : X.N[i]? = some n) (hln : X.env.kindOf n = some .local) (hc : Names X x c) (hx : PySem.W.exmOne X.K cls c = some true)
    (hb : ∀ (G' : Gn) (Ξ : Rho → XA) (W : WX) (pn : List (Addr × Obj)) (xe : Value → Shared → Prop), (∀ a, G'.H0 a = none → G.H0 a = none) → XOk X G' (WE W) Ξ → L2N.Takes (X.tr pn xe) W → PassesOwn (model X.prog X.w) X.A X.env xe → JSs (X.tr pn xe) G' body (ab Ξ))
    (hsu : ∀ (a : Addr) (oe : Obj) (pn : List (Addr × Obj)), L2N.Zn cls none oe → (∃ vs, oe.data = .fields vs) → JSs (X.suite a ((a, oe) :: pn)) G (b₀ :: suite) (su a)) :
    JS X G (.Try body [.ExceptHandler (some (.Name x np)) (some n) (b₀ :: suite) pos'] [] [] pos) (aTry i cls ab su) := by
  refine ⟨_, L2N.ps_try_as (i := i) (Wout := fun _ _ _ _ => False)
    (tb := fun W D σ H => ∃ (G' : Gn) (Ξ : Rho → XA) (hg : ∀ a, G'.H0 a = none → G.H0 a = none) (hx : XOk X G' (WE W) Ξ), ∀ pn xe (tk : L2N.Takes (X.tr pn xe) W) (po : PassesOwn (model X.prog X.w) X.A X.env xe), Classical.choose (hb G' Ξ W pn xe hg hx tk po) D σ H)
    (ts := fun a cl d D σ H => cl = cls ∧ d = none ∧ ∀ oe pn (hz : L2N.Zn cls none oe) (hf : ∃ vs, oe.data = .fields vs), Classical.choose (hsu a oe pn hz hf) D σ H)
    hs hf hN hi hln hc noTakes (fun W pn xe tk po => ⟨fun pins s σ H D I h => ?_⟩) (fun a oe cl d pn hz hf => ⟨fun pins s σ H D I h => ?_⟩), ⟨fun {D ρ Ω} h {P F H σ D'} k o rp => ?_⟩⟩
  · obtain ⟨G', Ξ, hg, hx, h⟩ := h
    exact (Classical.choose_spec (hb G' Ξ W pn xe hg hx tk po)).1.run pins s σ H D I (h pn xe tk po)
  · obtain ⟨rfl, rfl, h⟩ := h
    exact (Classical.choose_spec (hsu a oe pn hz hf)).1.run pins s σ H D I (h oe pn hz hf)
  · have hg : ∀ a, H a = none → G.H0 a = none := fun a e => o.dm a e
    have hX : XOk X ⟨F, H, P⟩ (WE (wAs X.K c i (fun a cl d D σ H => cl = cls ∧ d = none ∧ ∀ oe pn (hz : L2N.Zn cls none oe) (hf : ∃ vs, oe.data = .fields vs), Classical.choose (hsu a oe pn hz hf) D σ H) (fun _ _ _ _ => False) D'))
        (fun ρ' x Ω' => x = (cls, none) ∧ ∀ a, su a { D with nx := fun ρ2 Ω2 => D.nx (ρ2.set i none) Ω2, bk := fun ρ2 Ω2 => D.bk (ρ2.set i none) Ω2, ct := fun ρ2 Ω2 => D.ct (ρ2.set i none) Ω2 } (ρ'.set i (some (.r (.ref a)))) Ω') := by
      intro σ1 ρ1 y Ω1 P1 F1 H1 cl d hy o1 rp1 rx
      obtain ⟨rfl, hy⟩ := hy
      have s1 : Same F F1 := o1.f0
      have o2 := o.leave o1
      have dn : d = none := by
        cases d with
        | none => rfl
        | some _ => exact rx.2.elim
      refine ⟨true, by rw [rx.1]; exact hx, fun _ a _ => ⟨rx.1, dn, fun oe pn hz hf => ?_⟩, fun z => by cases z⟩
      exact (Classical.choose_spec (hsu a oe pn hz hf)).2.go (hy a)
        ⟨fun q o' s' r => k.nx q o' (s1.trans s') (pr_set (R := RpS X.K _) (x := none) (y := none) trivial i r), fun q o' s' r => k.rt q o' (s1.trans s') r, fun q o' s' r => k.bk q o' (s1.trans s') (pr_set (R := RpS X.K _) (x := none) (y := none) trivial i r), fun q o' s' r => k.ct q o' (s1.trans s') (pr_set (R := RpS X.K _) (x := none) (y := none) trivial i r)⟩ o2
        (pr_set (R := RpS X.K _) (y := some (SV.r (.ref a))) ⟨V.ref a, rfl, rfl⟩ i rp1)
    exact ⟨⟨F, H, P⟩, _, hg, hX, fun pn xe tk po => (Classical.choose_spec (hb ⟨F, H, P⟩ _ _ pn xe hg hX tk po)).2.go h
      ⟨fun q o' s' r => k.nx q (o.leave o') s' r, fun q o' s' r => k.rt q (o.leave o') s' r, fun q o' s' r => k.bk q (o.leave o') s' r, fun q o' s' r => k.ct q (o.leave o') s' r⟩ o.enter rp⟩
end
/-! ### isinstance(e, C), e the exception in hand -/
def acIsE (a : Addr) (cv : V) (b : Bool) : AC := fun xs Ω Φ => match xs with
  | [.r (.ref a'), .r c] => a' = a ∧ c = cv ∧ Φ (.d (.bool b)) Ω
  | _ => False
section
variable {X : Cx} {G : Gn} {D a : Addr} {oe : Obj} {cv : V} {b : Bool} {cw : Value}
theorem jc_isE (hp : (a, oe) ∈ X.pn) (C : ExcC X.K D) (hz : L2N.Zn (.ref D) none oe) (hf : ∃ vs, oe.data = .fields vs) (hv : ∀ u, RelV cv u → u = cw) (hk : PySem.W.kitOne X.K (.ref D) cw = some b) : JC X G (.builtin "isinstance") (acIsE a cv b) := by
  refine ⟨fun xs H Q => xs = [.ref a, cv] ∧ Q (.bl b) H, fun pins s σ H xs us Q I r h => ?_, ⟨fun {svs Ω Φ} h {P F H vs Q} o r k => ?_⟩⟩
  · obtain ⟨rfl, q⟩ := h
    obtain ⟨u, w, rfl, ru, rw_⟩ : ∃ u w, us = [u, w] ∧ RelV (.ref a) u ∧ RelV cv w := by
      cases r with
      | cons h1 r =>
        cases r with
        | cons h2 r => cases r; exact ⟨_, _, rfl, h1, h2⟩
    obtain rfl : u = Value.ref a := ru
    obtain rfl := hv _ rw_
    have there := (I.pin (a, oe) (List.mem_append_left _ hp)).1
    obtain ⟨vs, hd⟩ := hf
    have J : PySem.W.InstAt s.heap a oe D none := by
      obtain ⟨c0, d0, t0, l0⟩ := oe
      obtain ⟨z1, z2, -⟩ := hz
      cases (show c0 = _ from z1)
      cases (show d0 = _ from z2)
      cases (show t0 = _ from hd)
      exact ⟨there, rfl, rfl, trivial⟩
    exact PySem.W.kia_one (PySem.W.handS_kitx_exc C.hg C.hk C.hs C.hd C.ha C.hn C.ht C.hm) I.kIn J hk (fun z => by cases z) fun tk => ⟨.bl b, H, I.kept (t' := tk) fun _ _ z => z, rfl, q⟩
  · unfold acIsE at h
    split at h
    · obtain ⟨rfl, rfl, h⟩ := h
      obtain ⟨v, w, rfl, r1, r2⟩ := pr2 r
      cases (show v = _ from r1)
      cases (show w = _ from r2)
      exact ⟨rfl, k h o (Same.refl F) (.bl _)⟩
    · exact h.elim
end
/-! ### a def that is called with the exception in hand -/
inductive IsC (a : Addr) (c : Bool) : Con where
  | mk {Ω : Om} {Φ : PhiE} {Ξ : XA} : Φ (.d (.bool c)) Ω → IsC a c [.r (.ref a)] Ω Φ Ξ
structure FnE (P : Program) (w : World) (K : Frag) (mg : Str → Option Value) (base : Heap) (D : Addr) (k : Nat) (f : Addr) (fd : FuncData) (ps : List Str) (c : Bool) : Prop where
  one : ps.length = 1
  go : ∀ (A : Around) (outer : List Env) (s : Shared) (H : Hp) (args : Args) (Q : VK) (E : XK) (p : Addr × Obj), L2H.RoomH k A → A.guards = some [] → L2H.Hot1 A p → L2H.PinOk outer H s p → L2N.Zn (.ref D) none p.2 → Env0 P w K mg base A outer s H → BindsTo s fd args (ps.zip [.ref p.1]) →
    spOf K (IsC p.1 c) [.ref p.1] H Q E → codeAny (model P w) A (.call (.ref f) args) (CR CX0 outer P w H s Q E) s
section
variable {P : Program} {w : World} {K : Frag} {mg : Str → Option Value} {base : Heap} {D : Addr} {k : Nat} {f : Addr} {fd : FuncData} {ps N : List Str} {c : Bool} {x qual : Str} {st : Stmt} {as : Addr → AS}
theorem fnE_of (Fu : Fun K x qual st f fd) (S : FnScope N ps (defScope st)) (h1 : ps.length = 1)
    (hb : ∀ (cdv : Value) (A : Around) (outer : List Env) (s : Shared) (H : Hp) (E : XK) (G : Gn) (p : Addr × Obj), A.guards = some [] → L2H.Hot1 A p → L2N.Zn (.ref D) none p.2 → L2H.RoomH k (A.deeper (envOfC qual (defScope st) s.heap.objs.size f cdv)) →
      JSs (L2H.cxH CX0 P w K mg base N qual (defScope st) f cdv A outer s H E p) G (defBody st) (as p.1))
    (hw : ∀ (a : Addr) (Ω : Om) (Φ : PhiE), Φ (.d (.bool c)) Ω → as a { nx := fun _ Ω => Φ (.d .none) Ω, rt := Φ } (startR N [.r (.ref a)]) Ω) : FnE P w K mg base D (k + 1) f fd ps c := by
  obtain ⟨oc, od, kV, doc, pm, an, cdv, ct, osl, rfl, lk, hcd⟩ := Fu.ex
  refine ⟨h1, fun A outer s H args Q E p hr hgd hot hpin hz e0 hbd hsp => ?_⟩
  have old := fun b o e => (e0.bs b o e).1
  have kin : K.In s.heap := e0.mod.kin.keeps old
  have nol : s.heap.NoLimit := e0.mod.nolimit.keeps old
  have kinds : ∀ y ∈ ps.zip [Value.ref p.1], (defScope st).names.lookup y.1 = some .local ∨ ((defScope st).names.lookup y.1 = some .cell ∧ ((cellsFrom (s.heap.objs.size + 1) (defScope st).names []).lookup y.1).isSome = true) := by
    rintro ⟨n, v⟩ hy
    exact (S.par n (List.of_mem_zip hy).1).elim .inl fun q => .inr ⟨q, PySem.W.cellsFrom_some _ _ _ (.inl q)⟩
  refine codeAny_call_function hr.depth (kin _ _ lk) rfl S.co S.gen rfl (PySem.W.codeRec_of kin hcd) (hbd _ _ _ _ (wpAny_newFunctionEnv_cells S.kind kinds fun env he s1 x => ?_))
  cases he
  refine ⟨nol.keeps x.toInCall.keep, codeAny_func ?_⟩
  obtain ⟨P0, F, Ω, svs, Φ, Ξ, o, r, h, k1, k2⟩ := hsp
  obtain ⟨hΦ⟩ := h
  obtain ⟨t, pt, sn⟩ := hb cdv A outer s H E ⟨F, H, P0⟩ p hgd hot hz (hr.deeper _)
  have rv : Vals [V.ref p.1] [Value.ref p.1] := .cons rfl .nil
  have I0 := L2H.inv_startH (CX := CX0) (P := P) (w := w) (mg := mg) (N := N) (E := E) (vs := [V.ref p.1]) S hpin e0 (by rw [h1]; rfl) rv x
  have q0 := sn.go (hw p.1 Ω Φ hΦ) (D' := { nx := fun _ H' => Q .non H', rt := Q }) ⟨fun z o' _ _ => k1 _ _ _ _ _ _ z o' Dq.non, fun z o' _ r' => k1 _ _ _ _ _ _ z o' r', fun z _ _ _ => z.elim, fun z _ _ _ => z.elim⟩ o (start_ok r)
  refine wpAny_mono (pt.run [] s1 _ H _ I0 q0) (fun fl s' hs => ?_) fun _ _ z => z
  cases fl with
  | ret u => obtain ⟨v, σ', H', J, rv, q⟩ := hs; exact ⟨v, H', J.os, J.bare, J.base, J.hok, rv, q⟩
  | next => obtain ⟨σ', H', J, q⟩ := hs; exact ⟨.non, H', J.os, J.bare, J.base, J.hok, rfl, q⟩
  | brk => obtain ⟨_, _, _, q⟩ := hs; exact q.elim
  | cont => obtain ⟨_, _, _, q⟩ := hs; exact q.elim
end
section
variable {X : Cx} {G : Gn} {D a : Addr} {oe : Obj} {k : Nat} {f : Addr} {fd : FuncData} {ps : List Str} {c : Bool} {x : Str} {e : Expr} {aa : AE} {p pos : Pos}
/-- f(e), e the exception that the suite holds -/
def aCallE (a : Addr) (c : Bool) (aa : AE) : AE := fun ρ Ω Φ => aa ρ Ω fun x Ω' => x = .r (.ref a) ∧ Φ (.d (.bool c)) Ω'
theorem je_callE (F : FnE X.prog X.w X.K X.mg X.base D k f fd ps c) (hr : L2H.RoomH k X.A) (hgd : X.A.guards = some []) (hot : L2H.Hot1 X.A (a, oe)) (hp : (a, oe) ∈ X.pn) (hz : L2N.Zn (.ref D) none oe) (hg : Gl X x) (hm : X.mg x = some (.ref f)) (hk : PySem.W.keepIn X.K (.ref f) = true)
    (hb : Binds X.K fd ps []) (ha : JE X G e aa) (hdb : (x == ("__debug__" : Str)) = false := by decide)
    (he : starEach [e] X.env = (false, eval e X.env) :: starEach [] X.env := by rfl) (hpl : (backTo pos (starEach [] X.env)).any (·.1) = false := by rfl) :
    JE X G (.Call (.Name x p) [e] [] pos) (aCallE a c aa) := by
  obtain ⟨t, h1, h2⟩ := ha
  refine ⟨fun σ H Q => t σ H fun v H1 => v = .ref a ∧ spOf X.K (IsC a c) [.ref a] H1 Q fun _ _ _ => False, ⟨fun pins s σ H Q I h => ?_⟩, ⟨fun {ρ Ω Φ} h {P F H σ Q} o rp k => ?_⟩⟩
  · refine wpAny_Call_Name_kw (ld_glob I hg hm (PySem.W.callWith_K (h₀ := X.base) I.ok.mod.kin hk ?_ he hpl) hdb)
    rw [he]
    refine Calls.spliced_cons (thn (h1.run pins s σ H _ I h) fun u s1 ⟨v, H1, I1, r, ev, q⟩ => ?_)
    refine Calls.spliced_nil ⟨I1.kIn, ?_⟩
    subst ev
    obtain rfl : u = Value.ref a := r
    have there := I1.pin (a, oe) (List.mem_append_left _ hp)
    have pin : L2H.PinOk X.stack H1 s1 (a, oe) := ⟨there.1, there.2.1, fun z => (List.mem_cons.mp (I1.stkSub a z)).elim there.2.2.1 there.2.2.2.1, there.2.2.2.2⟩
    refine wp_of_code (codeAny_mono (F.go X.A X.stack s1 H1 ⟨[.ref a], []⟩ Q _ (a, oe) hr hgd hot pin hz I1.env0 ?_ q) fun r s' hq => ?_)
    · have b := hb s1 [.ref a] I1.kIn (by rw [List.append_nil]; exact F.one.symm)
      rw [List.append_nil] at b
      exact b
    · match r, hq with
      | .error e, hq => exact hq.elim
      | .ok (.ret u), hq => exact I1.after hq
      | .ok .next, hq => exact hq
      | .ok .brk, hq => exact hq
      | .ok .cont, hq => exact hq
  · refine h2.go h o rp fun {v sv Ω1 F1 H1} q o1 s1 r1 => ?_
    obtain ⟨rfl, q⟩ := q
    cases (show v = _ from r1)
    exact ⟨rfl, _, F1, Ω1, _, Φ, fun _ _ => False, o1.enter, .cons (show Rp X.K F1 (V.ref a) (.r (.ref a)) from rfl) .nil, .mk q, fun v sv Ω' P' F' H' z o' r' => k z (o1.leave o') (s1.trans o'.f0) r', fun _ _ _ _ _ _ _ z => z.elim⟩
theorem hot_of {A : Around} {a : Addr} {oe : Obj} {cls : Value} {d : Option Addr} (hz : L2N.Zn cls d oe) (hf : ∃ vs, oe.data = .fields vs) (h : A.handled = some (.ref a)) : L2H.Hot1 A (a, oe) := by
  obtain ⟨vs, e⟩ := hf
  exact ⟨h, vs, e, hz.2.2 vs e⟩
end
/-! ### any(bs) with an exception in hand -/
section
variable {prog : Program} {w : World} {A : Around} {E : Value → Shared → Prop} {s : Shared}
theorem list_end_hot {it l x1 : Addr} {i : Nat} {items : Array Value} {Q : Option Value → Shared → Prop} (hot : HotX.HotAt A x1 s.heap) (ne : x1 ≠ it) (hit : s.heap.IsListIter it l i) (hl : s.heap.IsList l items) (hx : items[i]? = none)
    (k : ∀ h', (∀ b o, b ≠ it → s.heap.get? b = some o → h'.get? b = some o) → Q none { s with heap := h' }) : wpAny (model prog w) A (pyNext (.ref it)) Q E s := by
  obtain ⟨o, ho, _, hd⟩ := id hit
  obtain ⟨ol, hol, _, _, hdl⟩ := hl
  obtain ⟨hh, o1, vs1, g1, d1, c1⟩ := hot
  unfold pyNext
  refine wpAny_bind (wpAny_attempt (wpAny_callSpecial?_slot (name := Str.ofString "__next__") hit.typeIs slot_listiter_next (wpAny_call_entry slot_listiter_next hit.typeIs entry_listiter_next ?_ (args_listiter_next _))))
  show wpAny _ _ (field (.ref it) 0 >>= _) _ _ _
  refine wpAny_bind (wpAny_field ho hd (x := Value.ref l) rfl ?_)
  show wpAny _ _ (if (Value.ref l == Value.none) = true then _ else _) _ _ _
  rw [if_neg (by exact Bool.false_ne_true : ¬ ((Value.ref l == Value.none) = true))]
  show wpAny _ _ (field (.ref it) 1 >>= _) _ _ _
  refine wpAny_bind (wpAny_field ho hd (x := Value.int i 0) rfl ?_)
  show wpAny _ _ (seqItems? (.ref l) >>= _) _ _ _
  refine wpAny_bind (wpAny_seqItems hol hdl ?_)
  simp only [hx, Int.toNat_natCast]
  refine wpAny_bind (wpAny_rule (wpAny_bind (wpAny_setField ho hd (by simp) ?_)))
  show wpAny _ _ (newExc (.type "StopIteration") [] >>= _) _ _ (_ : Shared)
  refine wpAny_bind ?_
  simp only [newTuple, newExc]
  refine wpAny_bind (wpAny_newObj_type ?_ (by size_fits))
  refine wpAny_bind (m := firstArgMember _ _) (wpAny_of_eq (a := Value.none) (by first | rfl | (simp only [firstArgMember]; rfl)) (wpAny_newObj_type ?_ (by size_fits)))
  have g2 : (s.heap.update it (Obj.mapFields (·.setIfInBounds 0 Value.none))).get? x1 = some o1 := (Heap.get?_update_other _ _ (Ne.symm ne)).trans g1
  refine HotX.raiseNew_hot ⟨hh, o1, vs1, Heap.get?_push_of_some _ (Heap.get?_push_of_some _ g2), d1, c1⟩ (Nat.ne_of_lt (Heap.lt_size (Heap.get?_push_of_some _ g2))) (Heap.get?_push_size _ rfl) rfl (by first | (simp; done) | (simp; omega) | (simp only [Array.size_append]; simp; omega)) ?_
  refine wpAny_bind (wpAny_isInstance (T := "StopIteration") (b := true) ⟨_, Heap.get?_update_self _ (Heap.get?_push_size _ rfl) rfl, rfl⟩ isSubtype_stop (wpAny_pure (k _ fun b o hb e => ?_)))
  have g3 : (s.heap.update it (Obj.mapFields (·.setIfInBounds 0 Value.none))).get? b = some o := (Heap.get?_update_other _ _ (Ne.symm hb)).trans e
  rw [Heap.get?_update_other _ _ (Nat.ne_of_gt (Heap.lt_size (Heap.get?_push_of_some _ g3)))]
  exact Heap.get?_push_of_some _ (Heap.get?_push_of_some _ g3)
theorem walks_hot (I ax x1 : Addr) (h1 : ax ≠ I) (h2 : x1 ≠ I) (items : Array Value) : Walks prog w A I [I, ax, x1] [I] items.size (fun i v => items[i]? = some v) (fun i h => h.IsListIter I ax i ∧ h.IsList ax items ∧ HotX.HotAt A x1 h) where
  sub := fun b hb => by simp at hb; simp [hb]
  frame := fun i h h' st hk => ⟨st.1.at fun o e => hk I (by simp) o e, st.2.1.at fun o e => hk ax (by simp) o e, by
    obtain ⟨_, _, hh, o, vs, e, d, c⟩ := st
    exact ⟨hh, o, vs, hk x1 (by simp) o e, d, c⟩⟩
  item := fun i s Q E hi st hQ => by
    refine wpAny_pyNext_list_item st.1 st.2.1 (x := items[i]) (by simp [hi]) fun h' hit' hs' => ?_
    obtain ⟨_, _, hh, o, vs, e, d, c⟩ := st
    exact hQ _ h' s.toks (by simp [hi]) ⟨hit', (‹s.heap.IsList ax items›).extBut hs'.extBut h1, hh, o, vs, hs'.extBut x1 o h2 e, d, c⟩ fun b o hb e => hs'.extBut b o (fun z => hb (by simp [z])) e
  done := fun s Q E st hQ => list_end_hot st.2.2 h2 st.1 st.2.1 (by simp) fun h' he' => hQ h' s.toks fun b o hb e => he' b o (fun z => hb (by simp [z])) e
  self := fun _ _ _ _ st hQ => wpAny_pyIter_listiter st.1 hQ
end
section
variable {X : Cx} {G : Gn} {a : Addr} {oe : Obj}
theorem cr_anyH (hot : L2H.Hot1 X.A (a, oe)) (hp : (a, oe) ∈ X.pn) : CallR X (.builtin "any") (rAny X.K) := by
  intro pins s σ H vs us Q I r h
  obtain ⟨l, bs, rfl, hs, q⟩ := h
  obtain ⟨its, rv, hl, _⟩ := I.list hs
  rw [Vals.ref1 r]
  have hb := rv.bls
  have there := (I.pin (a, oe) (List.mem_append_left _ hp)).1
  obtain ⟨hh, fv, d, c⟩ := hot
  refine call_any_walk (iter_any hl.isList fun s₂ e2 st hne => ?_)
  subst e2
  have lt : a ≠ s.heap.objs.size := Nat.ne_of_lt (Heap.lt_size there)
  refine ⟨_, _, _, _, _, _, _, rfl, walks_hot (A := X.A.in1) _ l a hne lt its.toArray, ⟨st.1, st.2, hh, oe, fv, Heap.get?_push_of_some _ there, d, c⟩, truth_bools hb, fun h' tk hk => ⟨.bl _, H, I.kept fun b o eo => hk b o (fun z => ?_) (Heap.get?_push_of_some _ eo), ?_, q⟩⟩
  · cases List.mem_singleton.mp z
    exact absurd (Heap.lt_size eo) (Nat.lt_irrefl _)
  · show Value.bool _ = Value.bool _
    rw [← L2.any_range, hb, List.size_toArray, List.length_map]
theorem jc_anyH (hot : L2H.Hot1 X.A (a, oe)) (hp : (a, oe) ∈ X.pn) : JC X G (.builtin "any") (ac1 fAny) := by
  refine ⟨_, cr_anyH hot hp, ac1_ok fun {x Ω Φ} h {P F H v Q} o r k => ?_⟩
  obtain ⟨ns, h⟩ := h
  obtain ⟨l, vs, ds, rfl, hs, da, rfl, q⟩ := rdL_of_S h o r
  rw [dqa_bools da] at hs
  exact ⟨l, ns, rfl, hs, k q o (Same.refl F) (.bl _)⟩
end
end Z
namespace Z
open PySem PySem.Spec PyProof.Rows L2
theorem mok2 {G G' : Gn} {K : Frag} (hg : ∀ a, G'.H0 a = none → G.H0 a = none) : MOk ⟨G', K⟩ (some fun a => G.H0 a = none) := fun _ h a e => by cases h; exact hg a e
theorem xok_of {X : Cx} {G : Gn} {E : XK} {Ξ : XA} (hX : ∀ {x : XI} {Ω : Om} {P' F H : Hp} {cls : Value} {d : Option Addr}, Ξ x Ω → Ok ⟨G, X.K⟩ P' F H Ω → RpX X.K F H cls d x → E cls d H) : XOk X G (WE fun cls d _ H => E cls d H) (fun _ => Ξ) := fun h o _ r => hX h o r
theorem xokF {X : Cx} {G : Gn} : XOk X G (WE fun _ _ _ _ => False) xno := fun h => h.elim
theorem is_ref {a : Addr} : ∀ u, RelV (.ref a) u → u = Value.ref a := fun _ h => h
theorem is_ty {t : String} : ∀ u, RelV (.ty t) u → u = Value.type t := fun _ h => h
end Z
namespace Z
open PySem PySem.Spec PyProof.Rows L2
/-! ### a list of the def's own, read as data: from here on it never changes -/
def fzF (Fr : Addr → Prop) (k : PhiE) (x : SV) (Ω : Om) : Prop := match x with
  | .r (.ref p) => ∃ ds f, At Ω p (.lst ds) f ∧ Fr p ∧ ∃ Ω2, Cut Ω p Ω2 ∧ k (.d (.list ds)) Ω2
  | _ => False
def aFrz (Fr : Addr → Prop) (a : AE) : AE := fun ρ Ω Φ => a ρ Ω (fzF Fr Φ)
theorem je_frz {X : Cx} {G : Gn} {e : Expr} {aa : AE} (ha : JE X G e aa) : JE X G e (aFrz (fun p => G.H0 p = none) aa) := by
  obtain ⟨t, p1, q1⟩ := ha
  refine ⟨t, p1, ⟨fun {ρ Ω Φ} h {P F H σ Q} o rp k => q1.go h o rp fun {v sv Ω1 F1 H1} q o1 s1 r1 => ?_⟩⟩
  unfold fzF at q
  split at q
  · obtain ⟨ds, f, t, fr, Ω2, c, q⟩ := q
    cases (show v = _ from r1)
    obtain ⟨nF, _⟩ := o1.at_ t
    obtain ⟨vs, h1, h2⟩ := o1.lst t
    obtain ⟨c1, c2⟩ := c.addr o1.nd
    obtain ⟨o2, s2⟩ := o1.frz (c := .lst ds) h1 fr nF (o1.pd _ t.mem) c1 c2
    exact k q o2 (s1.trans s2) (Dq.lst upd_same (dqa_same s2 _ _ h2))
  · exact q.elim
end Z
/-! Zb: the bag of a law, as a pair of cells. -/
namespace Z
open PySem PySem.Spec PyProof.Rows L2
theorem At.app {Ω : Om} {a : Addr} {c : OC} {f : OC → Om} (t : At Ω a c f) : ∀ L : Om, At (L ++ Ω) a c (fun z => L ++ f z)
  | [] => t
  | p :: L => .there (At.app t L)
abbrev I (i : Int) : SV := .d (.int i)
abbrev T (ds : List PyData) : SV := .d (.tuple ds)
abbrev isD (is : List Int) : List PyData := is.map PyData.int
structure BagOk (n m : Int) (is : List Int) : Prop where
  n0 : 0 ≤ n
  m0 : 0 ≤ m
  m1 : m < 2147483647
  i0 : ∀ i ∈ is, 0 ≤ i
/-- the bag x: [cells, n, m] and its cells, behind L and before R -/
inductive Bag (x : SV) (L R : Om) : Om → Prop where
  | mk {b c : Addr} {n m : Int} {is : List Int} : x = .r (.ref b) → BagOk n m is → Bag x L R (L ++ (b, .lx [.r (.ref c), I n, I m]) :: (c, .lst (isD is)) :: R)
theorem Bag.push {x : SV} {L R Ω : Om} (h : Bag x L R Ω) (p : Addr × OC) : Bag x (p :: L) R (p :: Ω) := by
  obtain ⟨h1, h2⟩ := h
  exact .mk (L := p :: L) h1 h2
theorem Bag.pop {x : SV} {p : Addr × OC} {L R Ω : Om} (h : Bag x (p :: L) R Ω) : ∃ Ω2, Ω = p :: Ω2 ∧ Bag x L R Ω2 := by
  obtain ⟨h1, h2⟩ := h
  exact ⟨_, rfl, .mk h1 h2⟩
/-- _law_draw: anything below -/
inductive DrawC : Con where
  | mk {x : SV} {below : Int} {L R Ω : Om} {Φ : PhiE} {Ξ : XA} : Bag x L R Ω → 0 < below → below.natAbs.log2 < 9000 → (∀ r Ω', 0 ≤ r → r < below → Bag x L R Ω' → Φ (I r) Ω') → DrawC [x, I below] Ω Φ Ξ
theorem DrawC.ari : Ari DrawC 2 := by rintro _ _ _ _ ⟨_, _, _, _⟩; rfl
/-- _law_pick: any item of a list of data -/
inductive PickC : Con where
  | mk {x : SV} {ds : List PyData} {L R Ω : Om} {Φ : PhiE} {Ξ : XA} : Bag x L R Ω → ds ≠ [] → ds.length < 2 ^ 60 → (∀ d ∈ ds, ∀ Ω', Bag x L R Ω' → Φ (.d d) Ω') → PickC [x, .d (.list ds)] Ω Φ Ξ
theorem PickC.ari : Ari PickC 2 := by rintro _ _ _ _ ⟨_, _, _, _⟩; rfl
/-- _law_own_bag -/
inductive OwnC (k : Nat) : Con where
  | mk {ns : List Int} {Φ : PhiE} {Ξ : XA} : ScrOk k ns → (∀ x Ω, Bag x [] [] Ω → Φ x Ω) → OwnC k [.l (isD ns)] [] Φ Ξ
theorem OwnC.ari {k : Nat} : Ari (OwnC k) 1 := by rintro _ _ _ _ ⟨_, _⟩; rfl
/-- _law_great: anything below -/
inductive GreatC : Con where
  | mk {x : SV} {below : Int} {L R Ω : Om} {Φ : PhiE} {Ξ : XA} : Bag x L R Ω → 0 < below → below ≤ 10 ^ 60 → (∀ r Ω', 0 ≤ r → r < below → Bag x L R Ω' → Φ (I r) Ω') → GreatC [x, I below] Ω Φ Ξ
theorem GreatC.ari : Ari GreatC 2 := by rintro _ _ _ _ ⟨_, _, _, _⟩; rfl
end Z
/-! Zd: facts on data of ints: what can be told as text and compared. -/
namespace Z
open PySem PySem.Spec PyProof.Rows L2
theorem depthAll_isD : ∀ is : List Int, PyData.depthAll (isD is) ≤ 1
  | [] => by simp [isD, PyData.depthAll]
  | i :: r => by
    have h := depthAll_isD r
    simp only [isD, List.map_cons, PyData.depthAll, PyData.depth] at h ⊢
    omega
theorem depth_isD (is : List Int) : PyData.depth (.tuple (isD is)) ≤ 2 ∧ PyData.depth (.list (isD is)) ≤ 2 := by
  have h := depthAll_isD is
  simp only [PyData.depth]
  omega
theorem shaped_isD (is : List Int) : SeqAt.shaped (.tuple (isD is)) = true ∧ SeqAt.shaped (.list (isD is)) = true := by
  have h := depth_isD is
  have c := canLayAll_ints is
  unfold SeqAt.shaped
  simp only [PyData.canLay0, Bool.and_eq_true, decide_eq_true_eq]
  exact ⟨⟨c, by omega⟩, ⟨c, by omega⟩⟩
theorem showAll_isD : ∀ {is : List Int}, (∀ i ∈ is, i.natAbs.log2 < 1920) → PyData.showableAll (isD is) = true
  | [], _ => rfl
  | i :: r, h => by
    simp only [isD, List.map_cons, PyData.showableAll, PyData.showable, Bool.and_eq_true, decide_eq_true_eq]
    exact ⟨h i List.mem_cons_self, showAll_isD fun j hj => h j (List.mem_cons_of_mem _ hj)⟩
theorem noDict_isD : ∀ is : List Int, PyData.hasDictAll (isD is) = false
  | [] => rfl
  | i :: r => by
    simp only [isD, List.map_cons, PyData.hasDictAll, PyData.hasDict, Bool.false_or]
    exact noDict_isD r
theorem join_le {B : Nat} : ∀ {ts : List Str}, (∀ t ∈ ts, t.length ≤ B) → (Str.join ", " ts).length ≤ ts.length * (B + 2)
  | [], _ => Nat.zero_le _
  | [x], h => by
    have h1 := h x List.mem_cons_self
    show x.length ≤ 1 * (B + 2)
    omega
  | x :: y :: r, h => by
    have h1 := h x List.mem_cons_self
    have h2 := join_le (ts := y :: r) fun t ht => h t (List.mem_cons_of_mem _ ht)
    show (x ++ ", " ++ Str.join ", " (y :: r)).length ≤ _
    rw [strLen_append, strLen_append]
    have e : (Str.ofString ", ").length = 2 := by decide +kernel
    rw [e]
    simp only [List.length_cons] at h2 ⊢
    have e3 : (r.length + 1 + 1) * (B + 2) = (r.length + 1) * (B + 2) + (B + 2) := Nat.succ_mul _ _
    omega
theorem shown_isD : ∀ {is : List Int}, (∀ i ∈ is, i.natAbs.log2 < 1920) → (PyData.shownAll (isD is)).length = is.length ∧ ∀ t ∈ PyData.shownAll (isD is), t.length ≤ 1921
  | [], _ => ⟨rfl, fun _ h => by cases h⟩
  | i :: r, h => by
    obtain ⟨h1, h2⟩ := shown_isD (is := r) fun j hj => h j (List.mem_cons_of_mem _ hj)
    refine ⟨by simp only [isD, List.map_cons, PyData.shownAll, List.length_cons]; exact congrArg (· + 1) h1, fun t ht => ?_⟩
    simp only [isD, List.map_cons, PyData.shownAll, List.mem_cons] at ht
    rcases ht with rfl | ht
    · simp only [PyData.shown]; exact int_text_len_1921 (h i List.mem_cons_self)
    · exact h2 t ht
/-- what a law holds beside what is due -/
structure SameOk (d : PyData) : Prop where
  kind : (∃ i, d = .int i) ∨ (∃ ds, d = .tuple ds)
  sh : d.showable = true
  nd : d.hasDict = false
  dp : d.depth ≤ 60
  ln : d.shown.length ≤ sizeLine
  fm : SeqAt.shaped d = true
theorem SameOk.eq {d : PyData} (h : SameOk d) : PyData.eqv d d = true := SeqAt.eqv_refl d (SeqAt.canLay_of_shaped h.fm)
theorem log2_lt {n k : Nat} (h : n < 2 ^ k) (hk : 0 < k) : n.log2 < k := by
  rcases Nat.eq_zero_or_pos n with rfl | hn
  · simpa using hk
  · exact (Nat.log2_lt (by omega)).mpr h
theorem sameInt {i : Int} (h : i.natAbs < 2 ^ 1900) : SameOk (.int i) := by
  have h2 : i.natAbs.log2 < 1900 := log2_lt h (by decide)
  exact ⟨.inl ⟨_, rfl⟩, by simp only [PyData.showable, decide_eq_true_eq]; omega, rfl, by simp [PyData.depth], by
    have := int_text_len_1921 (i := i) (by omega)
    simp only [PyData.shown]
    have e : sizeLine = 16777216 := by decide
    omega, by unfold SeqAt.shaped; simp [PyData.canLay0, PyData.depth]⟩
theorem sameTup {is : List Int} (h : ∀ i ∈ is, i.natAbs < 2 ^ 1900) (hl : is.length ≤ 8000) : SameOk (.tuple (isD is)) := by
  have h2 : ∀ i ∈ is, i.natAbs.log2 < 1920 := fun i hi => by
    have := log2_lt (h i hi) (by decide)
    omega
  obtain ⟨a, b⟩ := shown_isD h2
  exact ⟨.inr ⟨_, rfl⟩, by simp only [PyData.showable]; exact showAll_isD h2, by simp only [PyData.hasDict]; exact noDict_isD is, by have := (depth_isD is).1; omega, by
    have e : sizeLine = 16777216 := by decide
    have j := join_le b
    simp only [PyData.shown, tupleText]
    rw [strLen_append, strLen_append]
    have e1 : (Str.ofString "(").length = 1 := by decide +kernel
    have e2 : (Str.ofString (if (PyData.shownAll (isD is)).length == 1 then ",)" else ")" : String)).length ≤ 2 := by split <;> decide +kernel
    rw [e1]
    rw [a] at j
    have : is.length * (1921 + 2) ≤ 8000 * (1921 + 2) := Nat.mul_le_mul_right _ hl
    omega, (shaped_isD is).1⟩
theorem eqvAll_isD : ∀ is js : List Int, PyData.eqvAll (isD is) (isD js) = decide (is = js)
  | [], [] => by simp [isD, PyData.eqvAll]
  | [], _ :: _ => by simp [isD, PyData.eqvAll]
  | _ :: _, [] => by simp [isD, PyData.eqvAll]
  | i :: r, j :: t => by
    have h := eqvAll_isD r t
    simp only [isD] at h
    simp only [isD, List.map_cons, PyData.eqvAll, PyData.eqv, h]
    by_cases e : i = j <;> by_cases e2 : r = t <;> simp [e, e2]
theorem eqv_nil (is : List Int) : PyData.eqv (.list (isD is)) (.list []) = decide (is = []) := by
  rw [PyData.eqv]
  exact eqvAll_isD is []
theorem shaped_nil : SeqAt.shaped (.list []) = true := (shaped_isD []).2
/-- _law_same: what is held beside itself -/
inductive SameC : Con where
  | mk {d : PyData} {Ω : Om} {Φ : PhiE} {Ξ : XA} : SameOk d → Φ (.d (.bool true)) Ω → SameC [.d d, .d d] Ω Φ Ξ
theorem SameC.ari : Ari SameC 2 := by rintro _ _ _ _ ⟨_, _⟩; rfl
/-! ### items -/
theorem erase_isD : ∀ (is : List Int) (k : Nat), (isD is).eraseIdx k = isD (is.eraseIdx k)
  | [], _ => rfl
  | _ :: _, 0 => rfl
  | i :: r, k + 1 => congrArg (PyData.int i :: ·) (erase_isD r k)
theorem app_isD (is js : List Int) : isD is ++ isD js = isD (is ++ js) := (List.map_append).symm
theorem dataOf_map : ∀ ds : List PyData, dataOf (ds.map SV.d) = some ds
  | [] => rfl
  | d :: r => by
    show (match dataOf (r.map SV.d) with | some ds => some (d :: ds) | none => none) = _
    rw [dataOf_map r]
theorem newX_d {m : Mode} {ds : List PyData} {Ω : Om} {Φ : PhiE} (h : newL m ds Ω Φ) : newX m (ds.map SV.d) Ω Φ := by
  cases m with
  | none =>
    show (match dataOf (ds.map SV.d) with | some ds => Φ (.d (.list ds)) Ω | none => False)
    rw [dataOf_map]
    exact h
  | some Fr =>
    intro a fa
    have e : mkL (ds.map SV.d) = .lst ds := by unfold mkL; rw [dataOf_map]
    rw [e]
    exact h a fa
theorem cutD_isD (is : List Int) (lo hi : Option Int) : cutD (isD is) lo hi = isD (cutD is lo hi) := by
  unfold cutD
  rw [isD, List.length_map, isD, List.map_take, List.map_drop]
theorem cutD_len {α : Type} (xs : List α) (lo hi : Option Int) : (cutD xs lo hi).length ≤ xs.length := by
  unfold cutD
  rw [List.length_take, List.length_drop]
  omega
theorem get_mapD {ds : List PyData} {i : Nat} {x : SV} (h : (ds.map SV.d)[i]? = some x) : ∃ d, ds[i]? = some d ∧ x = .d d := by
  rw [List.getElem?_map] at h
  cases e : ds[i]? with
  | none => rw [e] at h; cases h
  | some d => rw [e] at h; cases h; exact ⟨d, rfl, rfl⟩
theorem get_isD {is : List Int} {i : Nat} {x : SV} (h : ((isD is).map SV.d)[i]? = some x) : ∃ z, is[i]? = some z ∧ x = I z := by
  obtain ⟨d, h1, rfl⟩ := get_mapD h
  rw [isD, List.getElem?_map] at h1
  cases e : is[i]? with
  | none => rw [e] at h1; cases h1
  | some z => rw [e] at h1; cases h1; exact ⟨z, rfl, rfl⟩
theorem nat_bd {i : Int} {k : Nat} (h1 : -(2 ^ k) < i) (h2 : i < 2 ^ k) : i.natAbs < 2 ^ k := by
  have e : ((2 ^ k : Nat) : Int) = 2 ^ k := by simp
  omega
theorem cmul {i j : Int} (h1 : -(2 ^ 240) < i) (h2 : i < 2 ^ 240) (h3 : -(2 ^ 240) < j) (h4 : j < 2 ^ 240) : CMulX i j := mulx_ok (nat_bd h1 h2) (nat_bd h3 h4) (by decide)
theorem cdiv {i j : Int} (h1 : 0 < j) (h2 : j < 2 ^ 240) : CDivW i j := ⟨h1, by
  have := log2_lt (nat_bd (k := 240) (by omega) h2) (by decide)
  omega⟩
theorem bel {b : Int} (h0 : 0 < b) (h1 : b < 2 ^ 240) : b.natAbs.log2 < 9000 := (cdiv (i := 0) h0 h1).2
theorem atI_i {α : Type} {xs : List α} {i : Int} {a : α} (h0 : 0 ≤ i) (h : xs[i.toNat]? = some a) : atI xs i = some a := by
  have := atI_nat h
  rwa [Int.toNat_of_nonneg h0] at this
theorem atI_end {α : Type} {xs : List α} {a : α} (h : xs.getLast? = some a) : atI xs (-1) = some a := by
  obtain ⟨ys, rfl⟩ := List.getLast?_eq_some_iff.mp h
  exact atI_last ys a
end Z
namespace KK
open PySem PySem.Spec PyProof.Rows L2 Z
structure Cls where
  BaseError : Addr
  Unfit : Addr
  TooMany : Addr
  BadText : Addr
  BadWord : Addr
  BadLog : Addr
  Refused : Addr
  NothingToUndo : Addr
  NothingToRedo : Addr
  NoName : Addr
  NoVersion : Addr
end KK
/-! M83: the plain law of the trees. -/
namespace KK
open PySem PySem.Spec PyProof.Rows L2 Z
def PAIRS : List (Int × Int) := [(3, 2), (4, 3), (5, 2), (5, 3), (5, 4), (6, 5), (7, 2), (7, 3), (7, 4), (7, 5), (7, 6), (8, 3), (8, 5), (8, 7), (9, 2), (9, 4), (9, 5), (9, 7), (9, 8), (10, 3), (10, 7), (10, 9)]
def Pq (p q : Int) : Prop := (p, q) ∈ PAIRS
theorem Pq.lits {p q : Int} (h : Pq p q) : (p = 3 ∧ q = 2) ∨ (p = 4 ∧ q = 3) ∨ (p = 5 ∧ q = 2) ∨ (p = 5 ∧ q = 3) ∨ (p = 5 ∧ q = 4) ∨ (p = 6 ∧ q = 5) ∨ (p = 7 ∧ q = 2) ∨ (p = 7 ∧ q = 3) ∨ (p = 7 ∧ q = 4) ∨ (p = 7 ∧ q = 5) ∨ (p = 7 ∧ q = 6) ∨ (p = 8 ∧ q = 3) ∨ (p = 8 ∧ q = 5) ∨ (p = 8 ∧ q = 7) ∨ (p = 9 ∧ q = 2) ∨ (p = 9 ∧ q = 4) ∨ (p = 9 ∧ q = 5) ∨ (p = 9 ∧ q = 7) ∨ (p = 9 ∧ q = 8) ∨ (p = 10 ∧ q = 3) ∨ (p = 10 ∧ q = 7) ∨ (p = 10 ∧ q = 9) := by
  unfold Pq PAIRS at h
  simpa using h
theorem Pq.rng {p q : Int} (h : Pq p q) : 3 ≤ p ∧ p ≤ 10 ∧ 2 ≤ q ∧ q ≤ 9 ∧ q < p := by
  rcases h.lits with ⟨rfl, rfl⟩ | ⟨rfl, rfl⟩ | ⟨rfl, rfl⟩ | ⟨rfl, rfl⟩ | ⟨rfl, rfl⟩ | ⟨rfl, rfl⟩ | ⟨rfl, rfl⟩ | ⟨rfl, rfl⟩ | ⟨rfl, rfl⟩ | ⟨rfl, rfl⟩ | ⟨rfl, rfl⟩ | ⟨rfl, rfl⟩ | ⟨rfl, rfl⟩ | ⟨rfl, rfl⟩ | ⟨rfl, rfl⟩ | ⟨rfl, rfl⟩ | ⟨rfl, rfl⟩ | ⟨rfl, rfl⟩ | ⟨rfl, rfl⟩ | ⟨rfl, rfl⟩ | ⟨rfl, rfl⟩ | ⟨rfl, rfl⟩ <;> decide
theorem Pq.co {p q : Int} (h : Pq p q) : Nat.Coprime q.toNat p.toNat := by
  rcases h.lits with ⟨rfl, rfl⟩ | ⟨rfl, rfl⟩ | ⟨rfl, rfl⟩ | ⟨rfl, rfl⟩ | ⟨rfl, rfl⟩ | ⟨rfl, rfl⟩ | ⟨rfl, rfl⟩ | ⟨rfl, rfl⟩ | ⟨rfl, rfl⟩ | ⟨rfl, rfl⟩ | ⟨rfl, rfl⟩ | ⟨rfl, rfl⟩ | ⟨rfl, rfl⟩ | ⟨rfl, rfl⟩ | ⟨rfl, rfl⟩ | ⟨rfl, rfl⟩ | ⟨rfl, rfl⟩ | ⟨rfl, rfl⟩ | ⟨rfl, rfl⟩ | ⟨rfl, rfl⟩ | ⟨rfl, rfl⟩ | ⟨rfl, rfl⟩ <;> decide
def upq (p q x : Int) : Int := -(-p * x / q)
def dnq (p q x : Int) : Int := (p * x + p - 1) / q
theorem ud_all {p q x : Int} (h : Pq p q) (hx : 0 ≤ x) : (p * x + q - 1) / q = upq p q x ∧ 0 ≤ upq p q x ∧ x ≤ upq p q x ∧ upq p q (x + 1) = dnq p q x + 1 ∧ 0 ≤ dnq p q x ∧ x ≤ dnq p q x ∧ upq p q x ≤ dnq p q x + 1 := by
  unfold upq dnq
  rcases h.lits with ⟨rfl, rfl⟩ | ⟨rfl, rfl⟩ | ⟨rfl, rfl⟩ | ⟨rfl, rfl⟩ | ⟨rfl, rfl⟩ | ⟨rfl, rfl⟩ | ⟨rfl, rfl⟩ | ⟨rfl, rfl⟩ | ⟨rfl, rfl⟩ | ⟨rfl, rfl⟩ | ⟨rfl, rfl⟩ | ⟨rfl, rfl⟩ | ⟨rfl, rfl⟩ | ⟨rfl, rfl⟩ | ⟨rfl, rfl⟩ | ⟨rfl, rfl⟩ | ⟨rfl, rfl⟩ | ⟨rfl, rfl⟩ | ⟨rfl, rfl⟩ | ⟨rfl, rfl⟩ | ⟨rfl, rfl⟩ | ⟨rfl, rfl⟩ <;> omega
theorem ud_bd {p q x B : Int} (h : Pq p q) (hx : 0 ≤ x) (hb : x ≤ B) (h1 : 1 ≤ B) : upq p q x ≤ 10 * B ∧ dnq p q x ≤ 10 * B := by
  unfold upq dnq
  rcases h.lits with ⟨rfl, rfl⟩ | ⟨rfl, rfl⟩ | ⟨rfl, rfl⟩ | ⟨rfl, rfl⟩ | ⟨rfl, rfl⟩ | ⟨rfl, rfl⟩ | ⟨rfl, rfl⟩ | ⟨rfl, rfl⟩ | ⟨rfl, rfl⟩ | ⟨rfl, rfl⟩ | ⟨rfl, rfl⟩ | ⟨rfl, rfl⟩ | ⟨rfl, rfl⟩ | ⟨rfl, rfl⟩ | ⟨rfl, rfl⟩ | ⟨rfl, rfl⟩ | ⟨rfl, rfl⟩ | ⟨rfl, rfl⟩ | ⟨rfl, rfl⟩ | ⟨rfl, rfl⟩ | ⟨rfl, rfl⟩ | ⟨rfl, rfl⟩ <;> omega
def lo (p q n : Int) : Nat → Int
  | 0 => n
  | k + 1 => upq p q (lo p q n k)
def hi (p q n : Int) : Nat → Int
  | 0 => n
  | k + 1 => dnq p q (hi p q n k)
theorem ten_pos (j : Nat) : (1 : Int) ≤ 10 ^ j := by
  have : (0 : Int) < 10 ^ j := Int.pow_pos (by decide)
  omega
theorem ten_succ (j : Nat) : (10 : Int) ^ (j + 1) = 10 * 10 ^ j := by rw [Int.pow_succ, Int.mul_comm]
theorem ten_le {j k : Nat} (h : j ≤ k) : (10 : Int) ^ j ≤ 10 ^ k := by
  induction h with
  | refl => exact Int.le_refl _
  | @step k _ ih =>
    rw [ten_succ]
    have := ten_pos k
    omega
theorem lohi_bd {p q n : Int} (h : Pq p q) (h0 : 0 ≤ n) {e : Nat} (hn : n ≤ 10 ^ e) : ∀ k, 0 ≤ lo p q n k ∧ lo p q n k ≤ 10 ^ (e + k) ∧ 0 ≤ hi p q n k ∧ hi p q n k ≤ 10 ^ (e + k)
  | 0 => ⟨h0, hn, h0, hn⟩
  | k + 1 => by
    obtain ⟨a, b, c, d⟩ := lohi_bd h h0 hn k
    have z := ten_pos (e + k)
    have e2 : (10 : Int) ^ (e + (k + 1)) = 10 * 10 ^ (e + k) := ten_succ (e + k)
    rw [e2]
    exact ⟨(ud_all h a).2.1, (ud_bd h a b z).1, (ud_all h c).2.2.2.2.1, (ud_bd h c d z).2⟩
theorem lo_ge {p q n : Int} (h : Pq p q) (h0 : 0 ≤ n) : ∀ k, n ≤ lo p q n k
  | 0 => Int.le_refl n
  | k + 1 => by
    have a := lo_ge h h0 k
    have b := (ud_all h (x := lo p q n k) (by omega)).2.2.1
    show n ≤ upq p q (lo p q n k)
    omega
theorem lo_next {p q n : Int} (h : Pq p q) (h0 : 0 ≤ n) : ∀ k, lo p q (n + 1) k = hi p q n k + 1
  | 0 => rfl
  | k + 1 => by
    show upq p q (lo p q (n + 1) k) = dnq p q (hi p q n k) + 1
    rw [lo_next h h0 k]
    exact (ud_all h (lohi_bd h h0 (e := n.toNat) (by
      have : (n.toNat : Int) ≤ 10 ^ n.toNat := by
        generalize n.toNat = m
        induction m with
        | zero => decide
        | succ m ih => rw [ten_succ]; have := ten_pos m; omega
      omega) k).2.2.1).2.2.2.1
theorem lo_hi {p q n : Int} (h : Pq p q) (h0 : 0 ≤ n) : ∀ k, lo p q n k ≤ hi p q n k
  | 0 => Int.le_refl n
  | k + 1 => by
    show upq p q (lo p q n k) ≤ dnq p q (hi p q n k)
    have a := lo_hi h h0 k
    have l0 := lo_ge h h0 k
    generalize lo p q n k = x at *
    generalize hi p q n k = y at *
    unfold upq dnq
    rcases h.lits with ⟨rfl, rfl⟩ | ⟨rfl, rfl⟩ | ⟨rfl, rfl⟩ | ⟨rfl, rfl⟩ | ⟨rfl, rfl⟩ | ⟨rfl, rfl⟩ | ⟨rfl, rfl⟩ | ⟨rfl, rfl⟩ | ⟨rfl, rfl⟩ | ⟨rfl, rfl⟩ | ⟨rfl, rfl⟩ | ⟨rfl, rfl⟩ | ⟨rfl, rfl⟩ | ⟨rfl, rfl⟩ | ⟨rfl, rfl⟩ | ⟨rfl, rfl⟩ | ⟨rfl, rfl⟩ | ⟨rfl, rfl⟩ | ⟨rfl, rfl⟩ | ⟨rfl, rfl⟩ | ⟨rfl, rfl⟩ | ⟨rfl, rfl⟩ <;> omega
/-! ### figures ahead -/
def good (n p q a : Int) : Bool := decide ((p * n + a) % q = 0) && decide (0 < n + a)
def aheadTo (n p q : Int) (m : Nat) : List Int := ((List.range m).map fun i : Nat => (i : Int)).filter (good n p q)
abbrev ahead (n p q : Int) : List Int := aheadTo n p q p.toNat
theorem aheadTo_succ {n p q : Int} (m : Nat) : aheadTo n p q (m + 1) = aheadTo n p q m ++ (if good n p q m then [(m : Int)] else []) := by
  unfold aheadTo
  rw [List.range_succ, List.map_append, List.filter_append]
  simp only [List.map_cons, List.map_nil, List.filter_cons, List.filter_nil]
theorem aheadTo_mem {n p q a : Int} {m : Nat} (h : a ∈ aheadTo n p q m) : 0 ≤ a ∧ a < m ∧ (p * n + a) % q = 0 ∧ 0 < n + a := by
  unfold aheadTo at h
  obtain ⟨h1, h2⟩ := List.mem_filter.mp h
  obtain ⟨i, hi, rfl⟩ := List.mem_map.mp h1
  unfold good at h2
  simp only [Bool.and_eq_true, decide_eq_true_eq] at h2
  have := List.mem_range.mp hi
  exact ⟨by omega, by omega, h2.1, h2.2⟩
theorem aheadTo_len {n p q : Int} (m : Nat) : (aheadTo n p q m).length ≤ m := by
  unfold aheadTo
  refine Nat.le_trans (List.length_filter_le _ _) ?_
  simp
theorem ahead_in {n p q a : Int} (h : Pq p q) (h0 : 0 ≤ a) (h1 : a < p) (h2 : (p * n + a) % q = 0) (h3 : 0 < n + a) : a ∈ ahead n p q := by
  unfold ahead aheadTo
  refine List.mem_filter.mpr ⟨List.mem_map.mpr ⟨a.toNat, List.mem_range.mpr (by omega), by omega⟩, ?_⟩
  unfold good
  rw [decide_eq_true h2, decide_eq_true h3]
  rfl
theorem ahead_ne {n p q : Int} (h : Pq p q) (h1 : 1 ≤ n) : ahead n p q ≠ [] := by
  have r := h.rng
  have : (q - (p * n) % q) % q ∈ ahead n p q := by
    have a := Int.emod_nonneg (q - (p * n) % q) (show q ≠ 0 by omega)
    have b := Int.emod_lt_of_pos (q - (p * n) % q) (show 0 < q by omega)
    refine ahead_in h a (by omega) ?_ (by omega)
    generalize p * n = x
    rcases h.lits with ⟨rfl, rfl⟩ | ⟨rfl, rfl⟩ | ⟨rfl, rfl⟩ | ⟨rfl, rfl⟩ | ⟨rfl, rfl⟩ | ⟨rfl, rfl⟩ | ⟨rfl, rfl⟩ | ⟨rfl, rfl⟩ | ⟨rfl, rfl⟩ | ⟨rfl, rfl⟩ | ⟨rfl, rfl⟩ | ⟨rfl, rfl⟩ | ⟨rfl, rfl⟩ | ⟨rfl, rfl⟩ | ⟨rfl, rfl⟩ | ⟨rfl, rfl⟩ | ⟨rfl, rfl⟩ | ⟨rfl, rfl⟩ | ⟨rfl, rfl⟩ | ⟨rfl, rfl⟩ | ⟨rfl, rfl⟩ | ⟨rfl, rfl⟩ <;> omega
  intro z
  rw [z] at this
  cases this
/-- a, a + 1, .., b -/
def seg (a b : Int) : List Int := (List.range (b + 1 - a).toNat).map fun i : Nat => a + i
theorem seg_len {a b : Int} : (seg a b).length = (b + 1 - a).toNat := by simp [seg]
theorem seg_get {a b : Int} {i : Nat} (h : i < (b + 1 - a).toNat) : (seg a b)[i]? = some (a + i) := by
  unfold seg
  rw [List.getElem?_map, List.getElem?_range h]
  rfl
theorem seg_app {a b c : Int} (h1 : a ≤ b + 1) (h2 : b ≤ c) : seg a b ++ seg (b + 1) c = seg a c := by
  refine List.ext_getElem? fun i => ?_
  rcases Nat.lt_or_ge i (b + 1 - a).toNat with z | z
  · rw [List.getElem?_append_left (by rw [seg_len]; exact z), seg_get z, seg_get (by omega)]
  · rw [List.getElem?_append_right (by rw [seg_len]; exact z), seg_len]
    rcases Nat.lt_or_ge i (c + 1 - a).toNat with y | y
    · rw [seg_get y, seg_get (by omega)]
      congr 1
      omega
    · rw [List.getElem?_eq_none (by rw [seg_len]; omega), List.getElem?_eq_none (by rw [seg_len]; omega)]
theorem seg_one (a : Int) : seg a a = [a] := by
  unfold seg
  rw [show (a + 1 - a).toNat = 1 by omega]
  simp
theorem seg_nil {a b : Int} (h : b < a) : seg a b = [] := by
  unfold seg
  rw [show (b + 1 - a).toNat = 0 by omega]
  rfl
theorem seg_mem {a b x : Int} (h : x ∈ seg a b) : a ≤ x ∧ x ≤ b := by
  unfold seg at h
  obtain ⟨i, hi, rfl⟩ := List.mem_map.mp h
  have := List.mem_range.mp hi
  omega
def kids (n p q : Int) : List Int := (ahead n p q).map fun a => (p * n + a) / q
theorem kids_to {n p q : Int} (h : Pq p q) (h1 : 1 ≤ n) : ∀ m : Nat, (aheadTo n p q m).map (fun a => (p * n + a) / q) = seg (upq p q n) ((p * n + m - 1) / q)
  | 0 => by
    rw [seg_nil]
    · rfl
    · unfold upq
      rcases h.lits with ⟨rfl, rfl⟩ | ⟨rfl, rfl⟩ | ⟨rfl, rfl⟩ | ⟨rfl, rfl⟩ | ⟨rfl, rfl⟩ | ⟨rfl, rfl⟩ | ⟨rfl, rfl⟩ | ⟨rfl, rfl⟩ | ⟨rfl, rfl⟩ | ⟨rfl, rfl⟩ | ⟨rfl, rfl⟩ | ⟨rfl, rfl⟩ | ⟨rfl, rfl⟩ | ⟨rfl, rfl⟩ | ⟨rfl, rfl⟩ | ⟨rfl, rfl⟩ | ⟨rfl, rfl⟩ | ⟨rfl, rfl⟩ | ⟨rfl, rfl⟩ | ⟨rfl, rfl⟩ | ⟨rfl, rfl⟩ | ⟨rfl, rfl⟩ <;> omega
  | m + 1 => by
    have u : upq p q n ≤ (p * n + m - 1) / q + 1 := by
      unfold upq
      rcases h.lits with ⟨rfl, rfl⟩ | ⟨rfl, rfl⟩ | ⟨rfl, rfl⟩ | ⟨rfl, rfl⟩ | ⟨rfl, rfl⟩ | ⟨rfl, rfl⟩ | ⟨rfl, rfl⟩ | ⟨rfl, rfl⟩ | ⟨rfl, rfl⟩ | ⟨rfl, rfl⟩ | ⟨rfl, rfl⟩ | ⟨rfl, rfl⟩ | ⟨rfl, rfl⟩ | ⟨rfl, rfl⟩ | ⟨rfl, rfl⟩ | ⟨rfl, rfl⟩ | ⟨rfl, rfl⟩ | ⟨rfl, rfl⟩ | ⟨rfl, rfl⟩ | ⟨rfl, rfl⟩ | ⟨rfl, rfl⟩ | ⟨rfl, rfl⟩ <;> omega
    have u1 : (p * n + m - 1) / q ≤ (p * n + (m + 1 : Nat) - 1) / q := by
      rcases h.lits with ⟨rfl, rfl⟩ | ⟨rfl, rfl⟩ | ⟨rfl, rfl⟩ | ⟨rfl, rfl⟩ | ⟨rfl, rfl⟩ | ⟨rfl, rfl⟩ | ⟨rfl, rfl⟩ | ⟨rfl, rfl⟩ | ⟨rfl, rfl⟩ | ⟨rfl, rfl⟩ | ⟨rfl, rfl⟩ | ⟨rfl, rfl⟩ | ⟨rfl, rfl⟩ | ⟨rfl, rfl⟩ | ⟨rfl, rfl⟩ | ⟨rfl, rfl⟩ | ⟨rfl, rfl⟩ | ⟨rfl, rfl⟩ | ⟨rfl, rfl⟩ | ⟨rfl, rfl⟩ | ⟨rfl, rfl⟩ | ⟨rfl, rfl⟩ <;> omega
    rw [aheadTo_succ, List.map_append, kids_to h h1 m]
    by_cases g : (p * n + m) % q = 0
    · have e : good n p q m = true := by
        unfold good
        rw [decide_eq_true g, decide_eq_true (by omega)]
        rfl
      rw [e]
      have e2 : (p * n + (m + 1 : Nat) - 1) / q = (p * n + m - 1) / q + 1 ∧ (p * n + m) / q = (p * n + m - 1) / q + 1 := by
        generalize p * n = y at *
        rcases h.lits with ⟨rfl, rfl⟩ | ⟨rfl, rfl⟩ | ⟨rfl, rfl⟩ | ⟨rfl, rfl⟩ | ⟨rfl, rfl⟩ | ⟨rfl, rfl⟩ | ⟨rfl, rfl⟩ | ⟨rfl, rfl⟩ | ⟨rfl, rfl⟩ | ⟨rfl, rfl⟩ | ⟨rfl, rfl⟩ | ⟨rfl, rfl⟩ | ⟨rfl, rfl⟩ | ⟨rfl, rfl⟩ | ⟨rfl, rfl⟩ | ⟨rfl, rfl⟩ | ⟨rfl, rfl⟩ | ⟨rfl, rfl⟩ | ⟨rfl, rfl⟩ | ⟨rfl, rfl⟩ | ⟨rfl, rfl⟩ | ⟨rfl, rfl⟩ <;> omega
      rw [e2.1, ← seg_app u (Int.le_add_one (Int.le_refl _)), seg_one]
      simp only [if_true, List.map_cons, List.map_nil]
      rw [e2.2]
    · have e : good n p q m = false := by
        unfold good
        rw [decide_eq_false g]
        rfl
      rw [e]
      have e2 : (p * n + (m + 1 : Nat) - 1) / q = (p * n + m - 1) / q := by
        generalize p * n = y at *
        rcases h.lits with ⟨rfl, rfl⟩ | ⟨rfl, rfl⟩ | ⟨rfl, rfl⟩ | ⟨rfl, rfl⟩ | ⟨rfl, rfl⟩ | ⟨rfl, rfl⟩ | ⟨rfl, rfl⟩ | ⟨rfl, rfl⟩ | ⟨rfl, rfl⟩ | ⟨rfl, rfl⟩ | ⟨rfl, rfl⟩ | ⟨rfl, rfl⟩ | ⟨rfl, rfl⟩ | ⟨rfl, rfl⟩ | ⟨rfl, rfl⟩ | ⟨rfl, rfl⟩ | ⟨rfl, rfl⟩ | ⟨rfl, rfl⟩ | ⟨rfl, rfl⟩ | ⟨rfl, rfl⟩ | ⟨rfl, rfl⟩ | ⟨rfl, rfl⟩ <;> omega
      rw [e2]
      simp
theorem kids_seg {n p q : Int} (h : Pq p q) (h1 : 1 ≤ n) : kids n p q = seg (upq p q n) (dnq p q n) := by
  have r := h.rng
  have := kids_to h h1 p.toNat
  rw [show ((p.toNat : Nat) : Int) = p by omega] at this
  exact this
/-! ### ways -/
def way (p q : Int) : Int → List Int → Option Int
  | n, [] => some n
  | n, f :: r => if p * n + f = 0 ∨ (p * n + f) % q ≠ 0 then none else way p q ((p * n + f) / q) r
theorem way_app {p q : Int} : ∀ (fs gs : List Int) (n : Int), way p q n (fs ++ gs) = (way p q n fs).bind fun m => way p q m gs
  | [], _, _ => rfl
  | f :: r, gs, n => by
    show (if p * n + f = 0 ∨ (p * n + f) % q ≠ 0 then none else way p q ((p * n + f) / q) (r ++ gs)) = (if p * n + f = 0 ∨ (p * n + f) % q ≠ 0 then none else way p q ((p * n + f) / q) r).bind _
    split
    · rfl
    · exact way_app r gs _
theorem way_bad {p q n m f : Int} {fs gs : List Int} (h : way p q n fs = some m) (hb : p * m + f = 0 ∨ (p * m + f) % q ≠ 0) : way p q n (fs ++ f :: gs) = none := by
  rw [way_app, h]
  exact if_pos hb
theorem way_snoc {p q n m f : Int} {fs : List Int} (h : way p q n fs = some m) (h1 : p * m + f ≠ 0) (h2 : (p * m + f) % q = 0) : way p q n (fs ++ [f]) = some ((p * m + f) / q) := by
  rw [way_app, h]
  show (if p * m + f = 0 ∨ (p * m + f) % q ≠ 0 then none else some ((p * m + f) / q)) = _
  rw [if_neg (by omega)]
theorem way_at {p q n r f : Int} {fs gs : List Int} (h : way p q n (fs ++ f :: gs) = some r) : ∃ m, way p q n fs = some m ∧ p * m + f ≠ 0 ∧ (p * m + f) % q = 0 := by
  rw [way_app] at h
  cases e : way p q n fs with
  | none => rw [e] at h; cases h
  | some m =>
    rw [e] at h
    refine ⟨m, rfl, ?_⟩
    have h' : (if p * m + f = 0 ∨ (p * m + f) % q ≠ 0 then none else way p q ((p * m + f) / q) gs) = some r := h
    split at h'
    · cases h'
    · omega
theorem way_near {p q n r f g : Int} {fs gs : List Int} (hq : Pq p q) (h : way p q n (fs ++ f :: gs) = some r) (hg : g = f - 1 ∨ g = f + 1) : way p q n (fs ++ g :: gs) = none := by
  obtain ⟨m, h1, _, h2⟩ := way_at h
  refine way_bad h1 (Or.inr ?_)
  generalize p * m = y at *
  rcases hq.lits with ⟨rfl, rfl⟩ | ⟨rfl, rfl⟩ | ⟨rfl, rfl⟩ | ⟨rfl, rfl⟩ | ⟨rfl, rfl⟩ | ⟨rfl, rfl⟩ | ⟨rfl, rfl⟩ | ⟨rfl, rfl⟩ | ⟨rfl, rfl⟩ | ⟨rfl, rfl⟩ | ⟨rfl, rfl⟩ | ⟨rfl, rfl⟩ | ⟨rfl, rfl⟩ | ⟨rfl, rfl⟩ | ⟨rfl, rfl⟩ | ⟨rfl, rfl⟩ | ⟨rfl, rfl⟩ | ⟨rfl, rfl⟩ | ⟨rfl, rfl⟩ | ⟨rfl, rfl⟩ | ⟨rfl, rfl⟩ | ⟨rfl, rfl⟩ <;> omega
theorem way_bd {p q : Int} (hq : Pq p q) : ∀ {fs : List Int} {n r : Int} {e : Nat}, way p q n fs = some r → (∀ f ∈ fs, 0 ≤ f ∧ f < p) → 0 ≤ n → n ≤ 10 ^ e → 0 ≤ r ∧ r ≤ 10 ^ (e + fs.length)
  | [], n, r, e, h, _, h0, h1 => by
    cases h
    exact ⟨h0, h1⟩
  | f :: t, n, r, e, h, hf, h0, h1 => by
    have h' : (if p * n + f = 0 ∨ (p * n + f) % q ≠ 0 then none else way p q ((p * n + f) / q) t) = some r := h
    split at h'
    · cases h'
    · have f1 := hf f List.mem_cons_self
      have z := ten_pos e
      have b : 0 ≤ (p * n + f) / q ∧ (p * n + f) / q ≤ 10 * 10 ^ e := by
        rcases hq.lits with ⟨rfl, rfl⟩ | ⟨rfl, rfl⟩ | ⟨rfl, rfl⟩ | ⟨rfl, rfl⟩ | ⟨rfl, rfl⟩ | ⟨rfl, rfl⟩ | ⟨rfl, rfl⟩ | ⟨rfl, rfl⟩ | ⟨rfl, rfl⟩ | ⟨rfl, rfl⟩ | ⟨rfl, rfl⟩ | ⟨rfl, rfl⟩ | ⟨rfl, rfl⟩ | ⟨rfl, rfl⟩ | ⟨rfl, rfl⟩ | ⟨rfl, rfl⟩ | ⟨rfl, rfl⟩ | ⟨rfl, rfl⟩ | ⟨rfl, rfl⟩ | ⟨rfl, rfl⟩ | ⟨rfl, rfl⟩ | ⟨rfl, rfl⟩ <;> omega
      rw [← ten_succ] at b
      have w := way_bd hq (fs := t) (e := e + 1) h' (fun x hx => hf x (List.mem_cons_of_mem _ hx)) b.1 b.2
      rw [show e + (f :: t).length = e + 1 + t.length by simp; omega]
      exact w
/-- the number told by figures, without a look -/
def run (p q : Int) (n : Int) (fs : List Int) : Int := fs.foldl (fun n f => (p * n + f) / q) n
theorem run_way {p q : Int} : ∀ {fs : List Int} {n r : Int}, way p q n fs = some r → run p q n fs = r
  | [], n, r, h => by cases h; rfl
  | f :: t, n, r, h => by
    have h' : (if p * n + f = 0 ∨ (p * n + f) % q ≠ 0 then none else way p q ((p * n + f) / q) t) = some r := h
    split at h'
    · cases h'
    · exact run_way (fs := t) h'
theorem way_take {p q n r : Int} {fs : List Int} (h : way p q n fs = some r) (k : Nat) : ∃ m, way p q n (fs.take k) = some m := by
  rw [← List.take_append_drop k fs, way_app] at h
  cases e : way p q n (fs.take k) with
  | none => rw [e] at h; cases h
  | some m => exact ⟨m, rfl⟩
/-- the figures of n so far, least first, and what is left -/
inductive Dg (p q n : Int) : List Int → Int → Prop where
  | nil : Dg p q n [] n
  | snoc {ws : List Int} {r : Int} : Dg p q n ws r → 0 < r → Dg p q n (ws ++ [q * r % p]) (q * r / p)
theorem Dg.way {p q n r : Int} {ws : List Int} (hq : Pq p q) (h : Dg p q n ws r) : KK.way p q r ws.reverse = some n := by
  induction h with
  | nil => rfl
  | @snoc ws r _ hr ih =>
    rw [List.reverse_append]
    have e : p * (q * r / p) + q * r % p = q * r := by have := Int.mul_ediv_add_emod (q * r) p; omega
    have rr := hq.rng
    show (if p * (q * r / p) + q * r % p = 0 ∨ (p * (q * r / p) + q * r % p) % q ≠ 0 then none else KK.way p q ((p * (q * r / p) + q * r % p) / q) ws.reverse) = _
    rw [e]
    have e1 : q * r % q = 0 := Int.mul_emod_right q r
    have e2 : q * r / q = r := Int.mul_ediv_cancel_left r (by omega)
    have e3 : 0 < q * r := Int.mul_pos (by omega) hr
    rw [if_neg (by omega), e2]
    exact ih
theorem Dg.fig {p q n r : Int} {ws : List Int} (hq : Pq p q) (h : Dg p q n ws r) : ∀ f ∈ ws, 0 ≤ f ∧ f < p := by
  have rr := hq.rng
  induction h with
  | nil => intro f hf; cases hf
  | @snoc ws r _ hr ih =>
    intro f hf
    rcases List.mem_append.mp hf with z | z
    · exact ih f z
    · obtain rfl := List.mem_singleton.mp z
      exact ⟨Int.emod_nonneg _ (by omega), Int.emod_lt_of_pos _ (by omega)⟩
theorem Dg.bd {p q n r : Int} {ws : List Int} (hq : Pq p q) (h : Dg p q n ws r) (h0 : 0 ≤ n) : 0 ≤ r ∧ r ≤ n ∧ 10 ^ ws.length * r ≤ 9 ^ ws.length * n := by
  induction h with
  | nil => exact ⟨h0, Int.le_refl n, by simp⟩
  | @snoc ws r _ hr ih =>
    obtain ⟨a, b, c⟩ := ih
    have d : 0 ≤ q * r / p ∧ q * r / p ≤ r ∧ 10 * (q * r / p) ≤ 9 * r := by
      rcases hq.lits with ⟨rfl, rfl⟩ | ⟨rfl, rfl⟩ | ⟨rfl, rfl⟩ | ⟨rfl, rfl⟩ | ⟨rfl, rfl⟩ | ⟨rfl, rfl⟩ | ⟨rfl, rfl⟩ | ⟨rfl, rfl⟩ | ⟨rfl, rfl⟩ | ⟨rfl, rfl⟩ | ⟨rfl, rfl⟩ | ⟨rfl, rfl⟩ | ⟨rfl, rfl⟩ | ⟨rfl, rfl⟩ | ⟨rfl, rfl⟩ | ⟨rfl, rfl⟩ | ⟨rfl, rfl⟩ | ⟨rfl, rfl⟩ | ⟨rfl, rfl⟩ | ⟨rfl, rfl⟩ | ⟨rfl, rfl⟩ | ⟨rfl, rfl⟩ <;> omega
    refine ⟨d.1, by omega, ?_⟩
    rw [List.length_append, List.length_singleton, Int.pow_succ, Int.pow_succ]
    have e1 : (10 : Int) ^ ws.length * 10 * (q * r / p) = 10 ^ ws.length * (10 * (q * r / p)) := Int.mul_assoc _ _ _
    have e2 : (10 : Int) ^ ws.length * (9 * r) = 9 * (10 ^ ws.length * r) := by rw [← Int.mul_assoc, Int.mul_comm _ 9, Int.mul_assoc]
    have e3 : (9 : Int) ^ ws.length * 9 * n = 9 * (9 ^ ws.length * n) := by rw [Int.mul_comm _ 9, Int.mul_assoc]
    have tp := ten_pos ws.length
    have g := Int.mul_le_mul_of_nonneg_left (c := (10 : Int) ^ ws.length) d.2.2 (by omega)
    omega
theorem Dg.len {p q n r : Int} {ws : List Int} (hq : Pq p q) (h : Dg p q n ws r) (h0 : 0 ≤ n) (hn : n ≤ 10 ^ 30) (hr : 1 ≤ r) : ws.length < 701 := by
  refine Nat.lt_of_not_le fun z => ?_
  have key : ∀ (ws : List Int) (r : Int), Dg p q n ws r → 1 ≤ r → 701 ≤ ws.length → False := by
    intro ws r h
    induction h with
    | nil => intro _ z; simp at z
    | @snoc ws r d hr ih =>
      intro h1 z
      by_cases y : 701 ≤ ws.length
      · exact ih (by omega) y
      · have b := (Dg.snoc d hr).bd hq h0
        have e : (ws ++ [q * r % p]).length = 701 := by
          rw [List.length_append, List.length_singleton] at z ⊢
          omega
        rw [e] at b
        have b1 : (9 : Int) ^ 701 * n ≤ 9 ^ 701 * 10 ^ 30 := Int.mul_le_mul_of_nonneg_left hn (by decide +kernel)
        have b2 : (10 : Int) ^ 701 * 1 ≤ 10 ^ 701 * (q * r / p) := Int.mul_le_mul_of_nonneg_left h1 (by decide +kernel)
        have b3 : (9 : Int) ^ 701 * 10 ^ 30 < 10 ^ 701 * 1 := by decide +kernel
        exact absurd (Int.lt_of_lt_of_le b3 (Int.le_trans b2 (Int.le_trans b.2.2 b1))) (Int.lt_irrefl _)
  exact key ws r h hr z
/-! ### how deep two trees are alike -/
def Vq (q x : Int) (d : Nat) : Prop := ∃ c : Int, x = q ^ d * c ∧ c % q ≠ 0
theorem Vq.uniq {q x : Int} (hq : 2 ≤ q) {d d' : Nat} (h : Vq q x d) (h' : Vq q x d') : d = d' := by
  have key : ∀ {a b : Nat}, Vq q x a → Vq q x b → ¬ a < b := by
    intro a b ⟨c, e, n⟩ ⟨c', e', n'⟩ lt
    obtain ⟨k, rfl⟩ : ∃ k, b = a + 1 + k := ⟨b - a - 1, by omega⟩
    rw [e, Int.pow_add, Int.pow_add, Int.pow_one, Int.mul_assoc, Int.mul_assoc] at e'
    have p : (q : Int) ^ a ≠ 0 := Int.ne_of_gt (Int.pow_pos (by omega))
    have := Int.eq_of_mul_eq_mul_left p e'
    rw [this] at n
    exact n (Int.mul_emod_right _ _)
  rcases Nat.lt_trichotomy d d' with z | z | z
  · exact absurd z (key h h')
  · exact z
  · exact absurd z (key h' h)
theorem co_dvd {p q : Int} (h : Pq p q) {c : Int} (h0 : 0 ≤ c) (t : Nat) : (p ^ t * c) % q = 0 ↔ c % q = 0 := by
  have r := h.rng
  obtain ⟨P, hP⟩ := Int.eq_ofNat_of_zero_le (show 0 ≤ p by omega)
  obtain ⟨Q, hQ⟩ := Int.eq_ofNat_of_zero_le (show 0 ≤ q by omega)
  obtain ⟨C, hC⟩ := Int.eq_ofNat_of_zero_le h0
  have co := h.co
  subst hP hQ hC
  rw [Int.toNat_natCast, Int.toNat_natCast] at co
  have e1 : ((P : Int) ^ t * C) % Q = (((P ^ t * C) % Q : Nat) : Int) := by simp
  have e2 : (C : Int) % Q = ((C % Q : Nat) : Int) := by simp
  rw [e1, e2]
  constructor
  · intro z
    have z' : (P ^ t * C) % Q = 0 := by omega
    have d := (Nat.Coprime.pow_right t co).dvd_of_dvd_mul_left (Nat.dvd_of_mod_eq_zero z')
    rw [Nat.mod_eq_zero_of_dvd d]
    rfl
  · intro z
    have z' : C % Q = 0 := by omega
    rw [Nat.mod_eq_zero_of_dvd (Nat.dvd_trans (Nat.dvd_of_mod_eq_zero z') (Nat.dvd_mul_left _ _))]
    rfl
theorem ahead_eq {p q a b : Int} (h : Pq p q) (ha : 1 ≤ a) (hb : 1 ≤ b) : ahead a p q = ahead b p q ↔ (a - b) % q = 0 := by
  have cop : ∀ x y : Int, (p * x + y) % q = 0 → ∀ z, (p * z + y) % q = 0 → (x - z) % q = 0 := by
    intro x y h1 z h2
    rcases h.lits with ⟨rfl, rfl⟩ | ⟨rfl, rfl⟩ | ⟨rfl, rfl⟩ | ⟨rfl, rfl⟩ | ⟨rfl, rfl⟩ | ⟨rfl, rfl⟩ | ⟨rfl, rfl⟩ | ⟨rfl, rfl⟩ | ⟨rfl, rfl⟩ | ⟨rfl, rfl⟩ | ⟨rfl, rfl⟩ | ⟨rfl, rfl⟩ | ⟨rfl, rfl⟩ | ⟨rfl, rfl⟩ | ⟨rfl, rfl⟩ | ⟨rfl, rfl⟩ | ⟨rfl, rfl⟩ | ⟨rfl, rfl⟩ | ⟨rfl, rfl⟩ | ⟨rfl, rfl⟩ | ⟨rfl, rfl⟩ | ⟨rfl, rfl⟩ <;> omega
  constructor
  · intro e
    obtain ⟨f, hf⟩ := List.exists_mem_of_ne_nil _ (ahead_ne h ha)
    have m1 := aheadTo_mem hf
    have hf2 : f ∈ ahead b p q := by rw [← e]; exact hf
    have m2 := aheadTo_mem hf2
    exact cop _ _ m1.2.2.1 _ m2.2.2.1
  · intro e
    unfold ahead aheadTo
    refine List.filter_congr fun x hx => ?_
    obtain ⟨i, _, rfl⟩ := List.mem_map.mp hx
    unfold good
    rw [show decide (0 < a + (i : Int)) = decide (0 < b + (i : Int)) by rw [decide_eq_true (by omega), decide_eq_true (by omega)]]
    congr 1
    have : (p * a + i) % q = (p * b + i) % q := by
      rcases h.lits with ⟨rfl, rfl⟩ | ⟨rfl, rfl⟩ | ⟨rfl, rfl⟩ | ⟨rfl, rfl⟩ | ⟨rfl, rfl⟩ | ⟨rfl, rfl⟩ | ⟨rfl, rfl⟩ | ⟨rfl, rfl⟩ | ⟨rfl, rfl⟩ | ⟨rfl, rfl⟩ | ⟨rfl, rfl⟩ | ⟨rfl, rfl⟩ | ⟨rfl, rfl⟩ | ⟨rfl, rfl⟩ | ⟨rfl, rfl⟩ | ⟨rfl, rfl⟩ | ⟨rfl, rfl⟩ | ⟨rfl, rfl⟩ | ⟨rfl, rfl⟩ | ⟨rfl, rfl⟩ | ⟨rfl, rfl⟩ | ⟨rfl, rfl⟩ <;> omega
    rw [this]
theorem apart {p q a b f : Int} (h : Pq p q) (n : (a - b) % q ≠ 0) (hf : (p * a + f) % q = 0) : (p * b + f) % q ≠ 0 := by
  rcases h.lits with ⟨rfl, rfl⟩ | ⟨rfl, rfl⟩ | ⟨rfl, rfl⟩ | ⟨rfl, rfl⟩ | ⟨rfl, rfl⟩ | ⟨rfl, rfl⟩ | ⟨rfl, rfl⟩ | ⟨rfl, rfl⟩ | ⟨rfl, rfl⟩ | ⟨rfl, rfl⟩ | ⟨rfl, rfl⟩ | ⟨rfl, rfl⟩ | ⟨rfl, rfl⟩ | ⟨rfl, rfl⟩ | ⟨rfl, rfl⟩ | ⟨rfl, rfl⟩ | ⟨rfl, rfl⟩ | ⟨rfl, rfl⟩ | ⟨rfl, rfl⟩ | ⟨rfl, rfl⟩ | ⟨rfl, rfl⟩ | ⟨rfl, rfl⟩ <;> omega
end KK
/-! C83: what the defs of k83 keep. -/
namespace KK
open PySem PySem.Spec PyProof.Rows L2 Z
theorem cmulP {i j : Int} (h1 : -100 ≤ i) (h2 : i ≤ 100) (h3 : 0 ≤ j) (h4 : j ≤ 10 ^ 240) : CMulX i j :=
  mulx_ok (a := 10) (b := 1000) (nat_bd (by omega) (by omega)) (nat_bd (Int.lt_of_lt_of_le (by decide +kernel : -(2 ^ 1000 : Int) < 0) h3) (Int.lt_of_le_of_lt h4 (by decide +kernel))) (by decide)
theorem bigSame {i : Int} (h0 : 0 ≤ i) (h1 : i ≤ 10 ^ 240) : SameOk (.int i) := sameInt (nat_bd (Int.lt_of_lt_of_le (by decide +kernel : -(2 ^ 1900 : Int) < 0) h0) (Int.lt_of_le_of_lt h1 (by decide +kernel)))
theorem listSame {is : List Int} (h : ∀ i ∈ is, 0 ≤ i ∧ i ≤ 10 ^ 240) (hl : is.length ≤ 8000) : SameOk (.tuple (isD is)) :=
  sameTup (fun i hi => nat_bd (Int.lt_of_lt_of_le (by decide +kernel : -(2 ^ 1900 : Int) < 0) (h i hi).1) (Int.lt_of_le_of_lt (h i hi).2 (by decide +kernel))) hl
def Figs (p : Int) (fs : List Int) : Prop := ∀ f ∈ fs, 0 ≤ f ∧ f < p
inductive c_figures_ahead : Con where
  | mk {n p q : Int} {Ω : Om} {Φ : PhiE} {Ξ : XA} : Pq p q → 0 ≤ n → n ≤ 10 ^ 60 → Φ (T (isD (ahead n p q))) Ω → c_figures_ahead [I n, I p, I q] Ω Φ Ξ
inductive c_numbers_ahead : Con where
  | mk {n p q : Int} {Ω : Om} {Φ : PhiE} {Ξ : XA} : Pq p q → 0 ≤ n → n ≤ 10 ^ 60 → Φ (T (isD (kids n p q))) Ω → c_numbers_ahead [I n, I p, I q] Ω Φ Ξ
inductive c_l_ahead : Con where
  | mk {n p q : Int} {Ω : Om} {Φ : PhiE} {Ξ : XA} : Pq p q → 0 ≤ n → n ≤ 10 ^ 240 → Φ (.d (.list (isD (ahead n p q)))) Ω → c_l_ahead [I n, I p, I q] Ω Φ Ξ
inductive c_least_branch : Con where
  | mk {n k p q : Int} {Ω : Om} {Φ : PhiE} {Ξ : XA} : Pq p q → 0 ≤ n → n ≤ 10 ^ 31 → 0 ≤ k → k ≤ 200 → Φ (I (lo p q n k.toNat)) Ω → c_least_branch [I n, I k, I p, I q] Ω Φ Ξ
inductive c_greatest_branch : Con where
  | mk {n k p q : Int} {Ω : Om} {Φ : PhiE} {Ξ : XA} : Pq p q → 0 ≤ n → n ≤ 10 ^ 31 → 0 ≤ k → k ≤ 200 → Φ (I (hi p q n k.toNat)) Ω → c_greatest_branch [I n, I k, I p, I q] Ω Φ Ξ
inductive c_branch_count : Con where
  | mk {n k p q : Int} {Ω : Om} {Φ : PhiE} {Ξ : XA} : Pq p q → 0 ≤ n → n ≤ 10 ^ 31 → 0 ≤ k → k ≤ 200 → Φ (I (hi p q n k.toNat - lo p q n k.toNat + 1)) Ω → c_branch_count [I n, I k, I p, I q] Ω Φ Ξ
inductive c_l_ends : Con where
  | mk {n k p q : Int} {Ω : Om} {Φ : PhiE} {Ξ : XA} : Pq p q → 0 ≤ n → n ≤ 10 ^ 31 → 0 ≤ k → k ≤ 200 → Φ (T [.int (lo p q n k.toNat), .int (hi p q n k.toNat)]) Ω → c_l_ends [I n, I k, I p, I q] Ω Φ Ξ
inductive c_branch_number (Cl : Cls) : Con where
  | mk {n p q : Int} {fs : List Int} {Ω : Om} {Φ : PhiE} {Ξ : XA} : Pq p q → 0 ≤ n → n ≤ 10 ^ 31 → fs.length ≤ 205 → Figs p fs → (∀ r, way p q n fs = some r → Φ (I r) Ω) → (way p q n fs = none → Ξ (.ref Cl.Unfit, none) Ω) → c_branch_number Cl [I n, T (isD fs), I p, I q] Ω Φ Ξ
inductive c_l_way_told : Con where
  | mk {n p q : Int} {fs : List Int} {Ω : Om} {Φ : PhiE} {Ξ : XA} : Pq p q → 0 ≤ n → n ≤ 10 ^ 31 → fs.length ≤ 205 → Figs p fs → (∀ r, way p q n fs = some r → Φ (I r) Ω) → (way p q n fs = none → Φ (.d (.str "Unfit")) Ω) → c_l_way_told [I n, .d (.list (isD fs)), I p, I q] Ω Φ Ξ
inductive c_alike_depth : Con where
  | mk {a b p q : Int} {Ω : Om} {Φ : PhiE} {Ξ : XA} : Pq p q → 0 ≤ a → a ≤ 10 ^ 30 → 0 ≤ b → b ≤ 10 ^ 30 → a ≠ b → (∀ d : Nat, Vq q (if a - b < 0 then -(a - b) else a - b) d → Φ (I d) Ω) → c_alike_depth [I a, I b, I p, I q] Ω Φ Ξ
abbrev c_l_own_bag : Con := OwnC 63
abbrev c_l_draw : Con := DrawC
abbrev c_l_pick : Con := PickC
abbrev c_l_great : Con := GreatC
abbrev c_l_same : Con := SameC
inductive c_l_pairs : Con where
  | mk {Ω : Om} {Φ : PhiE} {Ξ : XA} : Φ (.d (.list (PAIRS.map fun x => .tuple [.int x.1, .int x.2]))) Ω → c_l_pairs [] Ω Φ Ξ
inductive c_l_number : Con where
  | mk {x : SV} {L R Ω : Om} {Φ : PhiE} {Ξ : XA} : Bag x L R Ω → (∀ n Ω', 0 ≤ n → n ≤ 10 ^ 30 → Bag x L R Ω' → Φ (I n) Ω') → c_l_number [x] Ω Φ Ξ
inductive c_l_some_k : Con where
  | mk {x : SV} {L R Ω : Om} {Φ : PhiE} {Ξ : XA} : Bag x L R Ω → (∀ n Ω', 0 ≤ n → n ≤ 200 → Bag x L R Ω' → Φ (I n) Ω') → c_l_some_k [x] Ω Φ Ξ
inductive c_l_path : Con where
  | mk {x : SV} {n k p q : Int} {L R Ω : Om} {Φ : PhiE} {Ξ : XA} : Bag x L R Ω → Pq p q → 0 ≤ n → n ≤ 10 ^ 30 → 0 ≤ k → k ≤ 200 → (1 ≤ n ∨ k = 0) →
      (∀ fs r Ω', (fs.length : Int) = k → Figs p fs → way p q n fs = some r → Bag x L R Ω' → Φ (T [.list (isD fs), .int r]) Ω') → c_l_path [x, I n, I k, I p, I q] Ω Φ Ξ
inductive Asks : Con where
  | mk {x : SV} {p q : Int} {L R Ω : Om} {Φ : PhiE} {Ξ : XA} : Bag x L R Ω → Pq p q → (∀ Ω', Bag x L R Ω' → Φ (.d (.bool true)) Ω') → Asks [x, I p, I q] Ω Φ Ξ
abbrev c_l_are_ahead_right : Con := Asks
abbrev c_l_are_levels_right : Con := Asks
abbrev c_l_are_far_right : Con := Asks
abbrev c_l_are_ways_right : Con := Asks
abbrev c_l_are_words_right : Con := Asks
abbrev c_l_are_depths_right : Con := Asks
inductive c_l_depth : Con where
  | mk {a b p q : Int} {Ω : Om} {Φ : PhiE} {Ξ : XA} : Pq p q → 1 ≤ a → a ≤ 10 ^ 30 → 1 ≤ b → b ≤ 10 ^ 30 → a ≠ b →
      (∀ (d : Nat) fs r, Vq q (if a - b < 0 then -(a - b) else a - b) d → fs.length = d + 1 → d ≤ 100 → Figs p fs → way p q a fs = some r → way p q b fs = none → Φ (.d (.list (isD fs))) Ω) → c_l_depth [I a, I b, I p, I q] Ω Φ Ξ
inductive c_l_some_pair : Con where
  | mk {x : SV} {p q : Int} {L R Ω : Om} {Φ : PhiE} {Ξ : XA} : Bag x L R Ω → Pq p q → (∀ a b Ω', 1 ≤ a → a ≤ 10 ^ 30 → 1 ≤ b → b ≤ 10 ^ 30 → a ≠ b → Bag x L R Ω' → Φ (T [.int a, .int b]) Ω') → c_l_some_pair [x, I p, I q] Ω Φ Ξ
abbrev c_law : Con := LawC 63
theorem ari_figures_ahead : Ari c_figures_ahead 3 := by rintro _ _ _ _ ⟨_, _⟩; rfl
theorem ari_numbers_ahead : Ari c_numbers_ahead 3 := by rintro _ _ _ _ ⟨_, _⟩; rfl
theorem ari_l_ahead : Ari c_l_ahead 3 := by rintro _ _ _ _ ⟨_, _⟩; rfl
theorem ari_least_branch : Ari c_least_branch 4 := by rintro _ _ _ _ ⟨_, _⟩; rfl
theorem ari_greatest_branch : Ari c_greatest_branch 4 := by rintro _ _ _ _ ⟨_, _⟩; rfl
theorem ari_branch_count : Ari c_branch_count 4 := by rintro _ _ _ _ ⟨_, _⟩; rfl
theorem ari_l_ends : Ari c_l_ends 4 := by rintro _ _ _ _ ⟨_, _⟩; rfl
theorem ari_branch_number (Cl : Cls) : Ari (c_branch_number Cl) 4 := by rintro _ _ _ _ ⟨_, _⟩; rfl
theorem ari_l_way_told : Ari c_l_way_told 4 := by rintro _ _ _ _ ⟨_, _⟩; rfl
theorem ari_alike_depth : Ari c_alike_depth 4 := by rintro _ _ _ _ ⟨_, _⟩; rfl
theorem ari_l_own_bag : Ari c_l_own_bag 1 := OwnC.ari
theorem ari_l_draw : Ari c_l_draw 2 := DrawC.ari
theorem ari_l_pick : Ari c_l_pick 2 := PickC.ari
theorem ari_l_great : Ari c_l_great 2 := GreatC.ari
theorem ari_l_same : Ari c_l_same 2 := SameC.ari
theorem ari_l_pairs : Ari c_l_pairs 0 := by rintro _ _ _ _ ⟨_⟩; rfl
theorem ari_l_number : Ari c_l_number 1 := by rintro _ _ _ _ ⟨_, _⟩; rfl
theorem ari_l_some_k : Ari c_l_some_k 1 := by rintro _ _ _ _ ⟨_, _⟩; rfl
theorem ari_l_path : Ari c_l_path 5 := by rintro _ _ _ _ ⟨_, _⟩; rfl
theorem ari_asks : Ari Asks 3 := by rintro _ _ _ _ ⟨_, _⟩; rfl
theorem ari_l_are_ahead_right : Ari c_l_are_ahead_right 3 := ari_asks
theorem ari_l_are_levels_right : Ari c_l_are_levels_right 3 := ari_asks
theorem ari_l_are_far_right : Ari c_l_are_far_right 3 := ari_asks
theorem ari_l_are_ways_right : Ari c_l_are_ways_right 3 := ari_asks
theorem ari_l_are_words_right : Ari c_l_are_words_right 3 := ari_asks
theorem ari_l_are_depths_right : Ari c_l_are_depths_right 3 := ari_asks
theorem ari_l_depth : Ari c_l_depth 4 := by rintro _ _ _ _ ⟨_, _⟩; rfl
theorem ari_l_some_pair : Ari c_l_some_pair 3 := by rintro _ _ _ _ ⟨_, _⟩; rfl
theorem ari_law : Ari c_law 1 := LawC.ari
end KK
namespace KK
open PySem PySem.Spec PyProof.Rows L2 Z
def topS (i : Nat) : Stmt := PySem.Challenge.pw_manybases_k83_whole_main_levels.main.body.getD i (.Pass ⟨0, 0, 0, 0⟩)
abbrev s_figures_ahead : Stmt := topS 13
abbrev N_figures_ahead : List Str := ["number", "p", "q", "least", "figure"]
theorem sc_figures_ahead : FnScope N_figures_ahead ["number", "p", "q"] (defScope s_figures_ahead) := ⟨rfl, rfl, rfl, by decide +kernel, rfl, by decide +kernel, by decide +kernel⟩
abbrev s_numbers_ahead : Stmt := topS 14
abbrev N_numbers_ahead : List Str := ["number", "p", "q", "figure"]
theorem sc_numbers_ahead : FnScope N_numbers_ahead ["number", "p", "q"] (defScope s_numbers_ahead) := ⟨rfl, rfl, rfl, by decide +kernel, rfl, by decide +kernel, by decide +kernel⟩
abbrev s_least_branch : Stmt := topS 15
abbrev N_least_branch : List Str := ["number", "k", "p", "q", "turn"]
theorem sc_least_branch : FnScope N_least_branch ["number", "k", "p", "q"] (defScope s_least_branch) := ⟨rfl, rfl, rfl, by decide +kernel, rfl, by decide +kernel, by decide +kernel⟩
abbrev s_greatest_branch : Stmt := topS 16
abbrev N_greatest_branch : List Str := ["number", "k", "p", "q", "turn"]
theorem sc_greatest_branch : FnScope N_greatest_branch ["number", "k", "p", "q"] (defScope s_greatest_branch) := ⟨rfl, rfl, rfl, by decide +kernel, rfl, by decide +kernel, by decide +kernel⟩
abbrev s_branch_count : Stmt := topS 17
abbrev N_branch_count : List Str := ["number", "k", "p", "q"]
theorem sc_branch_count : FnScope N_branch_count ["number", "k", "p", "q"] (defScope s_branch_count) := ⟨rfl, rfl, rfl, by decide +kernel, rfl, by decide +kernel, by decide +kernel⟩
abbrev s_branch_number : Stmt := topS 18
abbrev N_branch_number : List Str := ["number", "figures", "p", "q", "figure", "total"]
theorem sc_branch_number : FnScope N_branch_number ["number", "figures", "p", "q"] (defScope s_branch_number) := ⟨rfl, rfl, rfl, by decide +kernel, rfl, by decide +kernel, by decide +kernel⟩
abbrev s_alike_depth : Stmt := topS 19
abbrev N_alike_depth : List Str := ["one", "other", "p", "q", "found", "rest"]
theorem sc_alike_depth : FnScope N_alike_depth ["one", "other", "p", "q"] (defScope s_alike_depth) := ⟨rfl, rfl, rfl, by decide +kernel, rfl, by decide +kernel, by decide +kernel⟩
abbrev s_l_own_bag : Stmt := topS 21
abbrev N_l_own_bag : List Str := ["script", "cells", "mixed", "cell"]
theorem sc_l_own_bag : FnScope N_l_own_bag ["script"] (defScope s_l_own_bag) := ⟨rfl, rfl, rfl, by decide +kernel, rfl, by decide +kernel, by decide +kernel⟩
abbrev s_l_draw : Stmt := topS 22
abbrev N_l_draw : List Str := ["bag", "below", "cell", "found"]
theorem sc_l_draw : FnScope N_l_draw ["bag", "below"] (defScope s_l_draw) := ⟨rfl, rfl, rfl, by decide +kernel, rfl, by decide +kernel, by decide +kernel⟩
abbrev s_l_pick : Stmt := topS 23
abbrev N_l_pick : List Str := ["bag", "some"]
theorem sc_l_pick : FnScope N_l_pick ["bag", "some"] (defScope s_l_pick) := ⟨rfl, rfl, rfl, by decide +kernel, rfl, by decide +kernel, by decide +kernel⟩
abbrev s_l_great : Stmt := topS 24
abbrev N_l_great : List Str := ["bag", "below", "found", "room"]
theorem sc_l_great : FnScope N_l_great ["bag", "below"] (defScope s_l_great) := ⟨rfl, rfl, rfl, by decide +kernel, rfl, by decide +kernel, by decide +kernel⟩
abbrev s_l_same : Stmt := topS 25
abbrev N_l_same : List Str := ["found", "due"]
theorem sc_l_same : FnScope N_l_same ["found", "due"] (defScope s_l_same) := ⟨rfl, rfl, rfl, by decide +kernel, rfl, by decide +kernel, by decide +kernel⟩
abbrev s_l_pairs : Stmt := topS 26
abbrev N_l_pairs : List Str := ["found", "p", "q", "r"]
theorem sc_l_pairs : FnScope N_l_pairs [] (defScope s_l_pairs) := ⟨rfl, rfl, rfl, by decide +kernel, rfl, by decide +kernel, by decide +kernel⟩
abbrev s_l_number : Stmt := topS 27
abbrev N_l_number : List Str := ["bag", "kind", "top", "turn"]
theorem sc_l_number : FnScope N_l_number ["bag"] (defScope s_l_number) := ⟨rfl, rfl, rfl, by decide +kernel, rfl, by decide +kernel, by decide +kernel⟩
abbrev s_l_is_unfit : Stmt := topS 28
abbrev N_l_is_unfit : List Str := ["error", "others"]
theorem sc_l_is_unfit : FnScope N_l_is_unfit ["error"] (defScope s_l_is_unfit) := ⟨rfl, rfl, rfl, by decide +kernel, rfl, by decide +kernel, by decide +kernel⟩
abbrev s_l_ahead : Stmt := topS 29
abbrev N_l_ahead : List Str := ["number", "p", "q", "a"]
theorem sc_l_ahead : FnScope N_l_ahead ["number", "p", "q"] (defScope s_l_ahead) := ⟨rfl, rfl, rfl, by decide +kernel, rfl, by decide +kernel, by decide +kernel⟩
abbrev s_l_ends : Stmt := topS 30
abbrev N_l_ends : List Str := ["number", "k", "p", "q", "low", "high", "turn"]
theorem sc_l_ends : FnScope N_l_ends ["number", "k", "p", "q"] (defScope s_l_ends) := ⟨rfl, rfl, rfl, by decide +kernel, rfl, by decide +kernel, by decide +kernel⟩
abbrev s_l_path : Stmt := topS 31
abbrev N_l_path : List Str := ["bag", "number", "k", "p", "q", "turns", "row", "j", "may", "turn"]
theorem sc_l_path : FnScope N_l_path ["bag", "number", "k", "p", "q"] (defScope s_l_path) := ⟨rfl, rfl, rfl, by decide +kernel, rfl, by decide +kernel, by decide +kernel⟩
abbrev s_l_some_k : Stmt := topS 32
abbrev N_l_some_k : List Str := ["bag"]
theorem sc_l_some_k : FnScope N_l_some_k ["bag"] (defScope s_l_some_k) := ⟨rfl, rfl, rfl, by decide +kernel, rfl, by decide +kernel, by decide +kernel⟩
abbrev s_l_way_told : Stmt := topS 33
abbrev N_l_way_told : List Str := ["number", "row", "p", "q", "error"]
theorem sc_l_way_told : FnScope N_l_way_told ["number", "row", "p", "q"] (defScope s_l_way_told) := ⟨rfl, rfl, rfl, by decide +kernel, rfl, by decide +kernel, by decide +kernel⟩
abbrev s_l_are_ahead_right : Stmt := topS 34
abbrev N_l_are_ahead_right : List Str := ["bag", "p", "q", "numbers", "number", "may", "due", "a"]
theorem sc_l_are_ahead_right : FnScope N_l_are_ahead_right ["bag", "p", "q"] (defScope s_l_are_ahead_right) := ⟨rfl, rfl, rfl, by decide +kernel, rfl, by decide +kernel, by decide +kernel⟩
abbrev s_l_are_levels_right : Stmt := topS 35
abbrev N_l_are_levels_right : List Str := ["bag", "p", "q", "number", "level", "k", "further", "one", "due", "a"]
theorem sc_l_are_levels_right : FnScope N_l_are_levels_right ["bag", "p", "q"] (defScope s_l_are_levels_right) := ⟨rfl, rfl, rfl, by decide +kernel, rfl, by decide +kernel, by decide +kernel⟩
abbrev s_l_are_far_right : Stmt := topS 36
abbrev N_l_are_far_right : List Str := ["bag", "p", "q", "number", "k", "turn", "low", "high"]
theorem sc_l_are_far_right : FnScope N_l_are_far_right ["bag", "p", "q"] (defScope s_l_are_far_right) := ⟨rfl, rfl, rfl, by decide +kernel, rfl, by decide +kernel, by decide +kernel⟩
abbrev s_l_are_ways_right : Stmt := topS 37
abbrev N_l_are_ways_right : List Str := ["bag", "p", "q", "number", "k", "row", "due", "at", "near"]
theorem sc_l_are_ways_right : FnScope N_l_are_ways_right ["bag", "p", "q"] (defScope s_l_are_ways_right) := ⟨rfl, rfl, rfl, by decide +kernel, rfl, by decide +kernel, by decide +kernel⟩
abbrev s_l_are_words_right : Stmt := topS 38
abbrev N_l_are_words_right : List Str := ["bag", "p", "q", "rest", "word", "number", "row", "figure", "wrong", "a"]
theorem sc_l_are_words_right : FnScope N_l_are_words_right ["bag", "p", "q"] (defScope s_l_are_words_right) := ⟨rfl, rfl, rfl, by decide +kernel, rfl, by decide +kernel, by decide +kernel⟩
abbrev s_l_depth : Stmt := topS 39
abbrev N_l_depth : List Str := ["one", "other", "p", "q", "row"]
theorem sc_l_depth : FnScope N_l_depth ["one", "other", "p", "q"] (defScope s_l_depth) := ⟨rfl, rfl, rfl, by decide +kernel, rfl, by decide +kernel, by decide +kernel⟩
abbrev s_l_some_pair : Stmt := topS 40
abbrev N_l_some_pair : List Str := ["bag", "p", "q", "one", "power", "many", "step"]
theorem sc_l_some_pair : FnScope N_l_some_pair ["bag", "p", "q"] (defScope s_l_some_pair) := ⟨rfl, rfl, rfl, by decide +kernel, rfl, by decide +kernel, by decide +kernel⟩
abbrev s_l_are_depths_right : Stmt := topS 41
abbrev N_l_are_depths_right : List Str := ["bag", "p", "q", "one", "other", "row", "turn", "depth", "ends", "figure"]
theorem sc_l_are_depths_right : FnScope N_l_are_depths_right ["bag", "p", "q"] (defScope s_l_are_depths_right) := ⟨rfl, rfl, rfl, by decide +kernel, rfl, by decide +kernel, by decide +kernel⟩
abbrev s_law : Stmt := topS 42
abbrev N_law : List Str := ["script", "bag", "every", "first", "second", "p", "q"]
theorem sc_law : FnScope N_law ["script"] (defScope s_law) := ⟨rfl, rfl, rfl, by decide +kernel, rfl, by decide +kernel, by decide +kernel⟩
structure Top (K : PySem.W.Frag) (mg : Str → Option Value) where
  cl : Cls
  g_BaseError : mg "BaseError" = some (.ref cl.BaseError)
  g_Unfit : mg "Unfit" = some (.ref cl.Unfit)
  g_TooMany : mg "TooMany" = some (.ref cl.TooMany)
  g_BadText : mg "BadText" = some (.ref cl.BadText)
  g_BadWord : mg "BadWord" = some (.ref cl.BadWord)
  g_BadLog : mg "BadLog" = some (.ref cl.BadLog)
  g_Refused : mg "Refused" = some (.ref cl.Refused)
  g_NothingToUndo : mg "NothingToUndo" = some (.ref cl.NothingToUndo)
  g_NothingToRedo : mg "NothingToRedo" = some (.ref cl.NothingToRedo)
  g_NoName : mg "NoName" = some (.ref cl.NoName)
  g_NoVersion : mg "NoVersion" = some (.ref cl.NoVersion)
  xi_Unfit : PySem.W.excIn K cl.Unfit [.type "ValueError", .type "Exception", .type "BaseException", .type "object"] "ValueError.__new__" = true
  kp_Unfit : PySem.W.keepIn K (.ref cl.Unfit) = true
  be_Unfit : PySem.W.subIn K (.ref cl.Unfit) (.type "BaseException") = some true
  ty_Unfit : PySem.W.typeIn K (.ref cl.Unfit) = some (.type "type")
  ec_Unfit : ExcC K cl.Unfit
  ex_Unfit_BaseError : PySem.W.exmOne K (.ref cl.Unfit) (.ref cl.BaseError) = some true
  is_Unfit_BadLog : PySem.W.kitOne K (.ref cl.Unfit) (.ref cl.BadLog) = some false
  is_Unfit_BadText : PySem.W.kitOne K (.ref cl.Unfit) (.ref cl.BadText) = some false
  is_Unfit_BadWord : PySem.W.kitOne K (.ref cl.Unfit) (.ref cl.BadWord) = some false
  is_Unfit_NoName : PySem.W.kitOne K (.ref cl.Unfit) (.ref cl.NoName) = some false
  is_Unfit_NoVersion : PySem.W.kitOne K (.ref cl.Unfit) (.ref cl.NoVersion) = some false
  is_Unfit_NothingToRedo : PySem.W.kitOne K (.ref cl.Unfit) (.ref cl.NothingToRedo) = some false
  is_Unfit_NothingToUndo : PySem.W.kitOne K (.ref cl.Unfit) (.ref cl.NothingToUndo) = some false
  is_Unfit_Refused : PySem.W.kitOne K (.ref cl.Unfit) (.ref cl.Refused) = some false
  is_Unfit_TooMany : PySem.W.kitOne K (.ref cl.Unfit) (.ref cl.TooMany) = some false
  is_Unfit_Unfit : PySem.W.kitOne K (.ref cl.Unfit) (.ref cl.Unfit) = some true
  is_Unfit_ValueError : PySem.W.kitOne K (.ref cl.Unfit) (.type "ValueError") = some true
  f_figures_ahead : Addr
  fd_figures_ahead : FuncData
  F_figures_ahead : Fun K "figures_ahead" "figures_ahead" s_figures_ahead f_figures_ahead fd_figures_ahead
  m_figures_ahead : mg "figures_ahead" = some (.ref f_figures_ahead)
  f_numbers_ahead : Addr
  fd_numbers_ahead : FuncData
  F_numbers_ahead : Fun K "numbers_ahead" "numbers_ahead" s_numbers_ahead f_numbers_ahead fd_numbers_ahead
  m_numbers_ahead : mg "numbers_ahead" = some (.ref f_numbers_ahead)
  f_least_branch : Addr
  fd_least_branch : FuncData
  F_least_branch : Fun K "least_branch" "least_branch" s_least_branch f_least_branch fd_least_branch
  m_least_branch : mg "least_branch" = some (.ref f_least_branch)
  f_greatest_branch : Addr
  fd_greatest_branch : FuncData
  F_greatest_branch : Fun K "greatest_branch" "greatest_branch" s_greatest_branch f_greatest_branch fd_greatest_branch
  m_greatest_branch : mg "greatest_branch" = some (.ref f_greatest_branch)
  f_branch_count : Addr
  fd_branch_count : FuncData
  F_branch_count : Fun K "branch_count" "branch_count" s_branch_count f_branch_count fd_branch_count
  m_branch_count : mg "branch_count" = some (.ref f_branch_count)
  f_branch_number : Addr
  fd_branch_number : FuncData
  F_branch_number : Fun K "branch_number" "branch_number" s_branch_number f_branch_number fd_branch_number
  m_branch_number : mg "branch_number" = some (.ref f_branch_number)
  f_alike_depth : Addr
  fd_alike_depth : FuncData
  F_alike_depth : Fun K "alike_depth" "alike_depth" s_alike_depth f_alike_depth fd_alike_depth
  m_alike_depth : mg "alike_depth" = some (.ref f_alike_depth)
  f_l_own_bag : Addr
  fd_l_own_bag : FuncData
  F_l_own_bag : Fun K "_law_own_bag" "_law_own_bag" s_l_own_bag f_l_own_bag fd_l_own_bag
  m_l_own_bag : mg "_law_own_bag" = some (.ref f_l_own_bag)
  f_l_draw : Addr
  fd_l_draw : FuncData
  F_l_draw : Fun K "_law_draw" "_law_draw" s_l_draw f_l_draw fd_l_draw
  m_l_draw : mg "_law_draw" = some (.ref f_l_draw)
  f_l_pick : Addr
  fd_l_pick : FuncData
  F_l_pick : Fun K "_law_pick" "_law_pick" s_l_pick f_l_pick fd_l_pick
  m_l_pick : mg "_law_pick" = some (.ref f_l_pick)
  f_l_great : Addr
  fd_l_great : FuncData
  F_l_great : Fun K "_law_great" "_law_great" s_l_great f_l_great fd_l_great
  m_l_great : mg "_law_great" = some (.ref f_l_great)
  f_l_same : Addr
  fd_l_same : FuncData
  F_l_same : Fun K "_law_same" "_law_same" s_l_same f_l_same fd_l_same
  m_l_same : mg "_law_same" = some (.ref f_l_same)
  f_l_pairs : Addr
  fd_l_pairs : FuncData
  F_l_pairs : Fun K "_law_pairs" "_law_pairs" s_l_pairs f_l_pairs fd_l_pairs
  m_l_pairs : mg "_law_pairs" = some (.ref f_l_pairs)
  f_l_number : Addr
  fd_l_number : FuncData
  F_l_number : Fun K "_law_number" "_law_number" s_l_number f_l_number fd_l_number
  m_l_number : mg "_law_number" = some (.ref f_l_number)
  f_l_is_unfit : Addr
  fd_l_is_unfit : FuncData
  F_l_is_unfit : Fun K "_law_is_unfit" "_law_is_unfit" s_l_is_unfit f_l_is_unfit fd_l_is_unfit
  m_l_is_unfit : mg "_law_is_unfit" = some (.ref f_l_is_unfit)
  f_l_ahead : Addr
  fd_l_ahead : FuncData
  F_l_ahead : Fun K "_law_ahead" "_law_ahead" s_l_ahead f_l_ahead fd_l_ahead
  m_l_ahead : mg "_law_ahead" = some (.ref f_l_ahead)
  f_l_ends : Addr
  fd_l_ends : FuncData
  F_l_ends : Fun K "_law_ends" "_law_ends" s_l_ends f_l_ends fd_l_ends
  m_l_ends : mg "_law_ends" = some (.ref f_l_ends)
  f_l_path : Addr
  fd_l_path : FuncData
  F_l_path : Fun K "_law_path" "_law_path" s_l_path f_l_path fd_l_path
  m_l_path : mg "_law_path" = some (.ref f_l_path)
  f_l_some_k : Addr
  fd_l_some_k : FuncData
  F_l_some_k : Fun K "_law_some_k" "_law_some_k" s_l_some_k f_l_some_k fd_l_some_k
  m_l_some_k : mg "_law_some_k" = some (.ref f_l_some_k)
  f_l_way_told : Addr
  fd_l_way_told : FuncData
  F_l_way_told : Fun K "_law_way_told" "_law_way_told" s_l_way_told f_l_way_told fd_l_way_told
  m_l_way_told : mg "_law_way_told" = some (.ref f_l_way_told)
  f_l_are_ahead_right : Addr
  fd_l_are_ahead_right : FuncData
  F_l_are_ahead_right : Fun K "_law_are_ahead_right" "_law_are_ahead_right" s_l_are_ahead_right f_l_are_ahead_right fd_l_are_ahead_right
  m_l_are_ahead_right : mg "_law_are_ahead_right" = some (.ref f_l_are_ahead_right)
  f_l_are_levels_right : Addr
  fd_l_are_levels_right : FuncData
  F_l_are_levels_right : Fun K "_law_are_levels_right" "_law_are_levels_right" s_l_are_levels_right f_l_are_levels_right fd_l_are_levels_right
  m_l_are_levels_right : mg "_law_are_levels_right" = some (.ref f_l_are_levels_right)
  f_l_are_far_right : Addr
  fd_l_are_far_right : FuncData
  F_l_are_far_right : Fun K "_law_are_far_right" "_law_are_far_right" s_l_are_far_right f_l_are_far_right fd_l_are_far_right
  m_l_are_far_right : mg "_law_are_far_right" = some (.ref f_l_are_far_right)
  f_l_are_ways_right : Addr
  fd_l_are_ways_right : FuncData
  F_l_are_ways_right : Fun K "_law_are_ways_right" "_law_are_ways_right" s_l_are_ways_right f_l_are_ways_right fd_l_are_ways_right
  m_l_are_ways_right : mg "_law_are_ways_right" = some (.ref f_l_are_ways_right)
  f_l_are_words_right : Addr
  fd_l_are_words_right : FuncData
  F_l_are_words_right : Fun K "_law_are_words_right" "_law_are_words_right" s_l_are_words_right f_l_are_words_right fd_l_are_words_right
  m_l_are_words_right : mg "_law_are_words_right" = some (.ref f_l_are_words_right)
  f_l_depth : Addr
  fd_l_depth : FuncData
  F_l_depth : Fun K "_law_depth" "_law_depth" s_l_depth f_l_depth fd_l_depth
  m_l_depth : mg "_law_depth" = some (.ref f_l_depth)
  f_l_some_pair : Addr
  fd_l_some_pair : FuncData
  F_l_some_pair : Fun K "_law_some_pair" "_law_some_pair" s_l_some_pair f_l_some_pair fd_l_some_pair
  m_l_some_pair : mg "_law_some_pair" = some (.ref f_l_some_pair)
  f_l_are_depths_right : Addr
  fd_l_are_depths_right : FuncData
  F_l_are_depths_right : Fun K "_law_are_depths_right" "_law_are_depths_right" s_l_are_depths_right f_l_are_depths_right fd_l_are_depths_right
  m_l_are_depths_right : mg "_law_are_depths_right" = some (.ref f_l_are_depths_right)
  f_law : Addr
  fd_law : FuncData
  F_law : Fun K "law" "law" s_law f_law fd_law
  m_law : mg "law" = some (.ref f_law)
  n_ValueError : mg "ValueError" = none
  n_abs : mg "abs" = none
  n_all : mg "all" = none
  n_any : mg "any" = none
  n_int : mg "int" = none
  n_isinstance : mg "isinstance" = none
  n_len : mg "len" = none
  n_list : mg "list" = none
  n_max : mg "max" = none
  n_range : mg "range" = none
  n_repr : mg "repr" = none
  n_reversed : mg "reversed" = none
  n_str : mg "str" = none
  n_tuple : mg "tuple" = none
section
variable {K : PySem.W.Frag} {mg : Str → Option Value}
theorem b_figures_ahead (T : Top K mg) : Binds K T.fd_figures_ahead ["number", "p", "q"] [] := T.F_figures_ahead.binds (ps := ["number", "p", "q"]) fun _ _ _ _ _ _ us hl => match us, hl with | [_, _, _], _ => rfl
theorem b_numbers_ahead (T : Top K mg) : Binds K T.fd_numbers_ahead ["number", "p", "q"] [] := T.F_numbers_ahead.binds (ps := ["number", "p", "q"]) fun _ _ _ _ _ _ us hl => match us, hl with | [_, _, _], _ => rfl
theorem b_least_branch (T : Top K mg) : Binds K T.fd_least_branch ["number", "k", "p", "q"] [] := T.F_least_branch.binds (ps := ["number", "k", "p", "q"]) fun _ _ _ _ _ _ us hl => match us, hl with | [_, _, _, _], _ => rfl
theorem b_greatest_branch (T : Top K mg) : Binds K T.fd_greatest_branch ["number", "k", "p", "q"] [] := T.F_greatest_branch.binds (ps := ["number", "k", "p", "q"]) fun _ _ _ _ _ _ us hl => match us, hl with | [_, _, _, _], _ => rfl
theorem b_branch_count (T : Top K mg) : Binds K T.fd_branch_count ["number", "k", "p", "q"] [] := T.F_branch_count.binds (ps := ["number", "k", "p", "q"]) fun _ _ _ _ _ _ us hl => match us, hl with | [_, _, _, _], _ => rfl
theorem b_branch_number (T : Top K mg) : Binds K T.fd_branch_number ["number", "figures", "p", "q"] [] := T.F_branch_number.binds (ps := ["number", "figures", "p", "q"]) fun _ _ _ _ _ _ us hl => match us, hl with | [_, _, _, _], _ => rfl
theorem b_alike_depth (T : Top K mg) : Binds K T.fd_alike_depth ["one", "other", "p", "q"] [] := T.F_alike_depth.binds (ps := ["one", "other", "p", "q"]) fun _ _ _ _ _ _ us hl => match us, hl with | [_, _, _, _], _ => rfl
theorem b_l_own_bag (T : Top K mg) : Binds K T.fd_l_own_bag ["script"] [] := T.F_l_own_bag.binds (ps := ["script"]) fun _ _ _ _ _ _ us hl => match us, hl with | [_], _ => rfl
theorem b_l_draw (T : Top K mg) : Binds K T.fd_l_draw ["bag", "below"] [] := T.F_l_draw.binds (ps := ["bag", "below"]) fun _ _ _ _ _ _ us hl => match us, hl with | [_, _], _ => rfl
theorem b_l_pick (T : Top K mg) : Binds K T.fd_l_pick ["bag", "some"] [] := T.F_l_pick.binds (ps := ["bag", "some"]) fun _ _ _ _ _ _ us hl => match us, hl with | [_, _], _ => rfl
theorem b_l_great (T : Top K mg) : Binds K T.fd_l_great ["bag", "below"] [] := T.F_l_great.binds (ps := ["bag", "below"]) fun _ _ _ _ _ _ us hl => match us, hl with | [_, _], _ => rfl
theorem b_l_same (T : Top K mg) : Binds K T.fd_l_same ["found", "due"] [] := T.F_l_same.binds (ps := ["found", "due"]) fun _ _ _ _ _ _ us hl => match us, hl with | [_, _], _ => rfl
theorem b_l_pairs (T : Top K mg) : Binds K T.fd_l_pairs [] [] := T.F_l_pairs.binds (ps := []) fun _ _ _ _ _ _ us hl => match us, hl with | [], _ => rfl
theorem b_l_number (T : Top K mg) : Binds K T.fd_l_number ["bag"] [] := T.F_l_number.binds (ps := ["bag"]) fun _ _ _ _ _ _ us hl => match us, hl with | [_], _ => rfl
theorem b_l_is_unfit (T : Top K mg) : Binds K T.fd_l_is_unfit ["error"] [] := T.F_l_is_unfit.binds (ps := ["error"]) fun _ _ _ _ _ _ us hl => match us, hl with | [_], _ => rfl
theorem b_l_ahead (T : Top K mg) : Binds K T.fd_l_ahead ["number", "p", "q"] [] := T.F_l_ahead.binds (ps := ["number", "p", "q"]) fun _ _ _ _ _ _ us hl => match us, hl with | [_, _, _], _ => rfl
theorem b_l_ends (T : Top K mg) : Binds K T.fd_l_ends ["number", "k", "p", "q"] [] := T.F_l_ends.binds (ps := ["number", "k", "p", "q"]) fun _ _ _ _ _ _ us hl => match us, hl with | [_, _, _, _], _ => rfl
theorem b_l_path (T : Top K mg) : Binds K T.fd_l_path ["bag", "number", "k", "p", "q"] [] := T.F_l_path.binds (ps := ["bag", "number", "k", "p", "q"]) fun _ _ _ _ _ _ us hl => match us, hl with | [_, _, _, _, _], _ => rfl
theorem b_l_some_k (T : Top K mg) : Binds K T.fd_l_some_k ["bag"] [] := T.F_l_some_k.binds (ps := ["bag"]) fun _ _ _ _ _ _ us hl => match us, hl with | [_], _ => rfl
theorem b_l_way_told (T : Top K mg) : Binds K T.fd_l_way_told ["number", "row", "p", "q"] [] := T.F_l_way_told.binds (ps := ["number", "row", "p", "q"]) fun _ _ _ _ _ _ us hl => match us, hl with | [_, _, _, _], _ => rfl
theorem b_l_are_ahead_right (T : Top K mg) : Binds K T.fd_l_are_ahead_right ["bag", "p", "q"] [] := T.F_l_are_ahead_right.binds (ps := ["bag", "p", "q"]) fun _ _ _ _ _ _ us hl => match us, hl with | [_, _, _], _ => rfl
theorem b_l_are_levels_right (T : Top K mg) : Binds K T.fd_l_are_levels_right ["bag", "p", "q"] [] := T.F_l_are_levels_right.binds (ps := ["bag", "p", "q"]) fun _ _ _ _ _ _ us hl => match us, hl with | [_, _, _], _ => rfl
theorem b_l_are_far_right (T : Top K mg) : Binds K T.fd_l_are_far_right ["bag", "p", "q"] [] := T.F_l_are_far_right.binds (ps := ["bag", "p", "q"]) fun _ _ _ _ _ _ us hl => match us, hl with | [_, _, _], _ => rfl
theorem b_l_are_ways_right (T : Top K mg) : Binds K T.fd_l_are_ways_right ["bag", "p", "q"] [] := T.F_l_are_ways_right.binds (ps := ["bag", "p", "q"]) fun _ _ _ _ _ _ us hl => match us, hl with | [_, _, _], _ => rfl
theorem b_l_are_words_right (T : Top K mg) : Binds K T.fd_l_are_words_right ["bag", "p", "q"] [] := T.F_l_are_words_right.binds (ps := ["bag", "p", "q"]) fun _ _ _ _ _ _ us hl => match us, hl with | [_, _, _], _ => rfl
theorem b_l_depth (T : Top K mg) : Binds K T.fd_l_depth ["one", "other", "p", "q"] [] := T.F_l_depth.binds (ps := ["one", "other", "p", "q"]) fun _ _ _ _ _ _ us hl => match us, hl with | [_, _, _, _], _ => rfl
theorem b_l_some_pair (T : Top K mg) : Binds K T.fd_l_some_pair ["bag", "p", "q"] [] := T.F_l_some_pair.binds (ps := ["bag", "p", "q"]) fun _ _ _ _ _ _ us hl => match us, hl with | [_, _, _], _ => rfl
theorem b_l_are_depths_right (T : Top K mg) : Binds K T.fd_l_are_depths_right ["bag", "p", "q"] [] := T.F_l_are_depths_right.binds (ps := ["bag", "p", "q"]) fun _ _ _ _ _ _ us hl => match us, hl with | [_, _, _], _ => rfl
theorem b_law (T : Top K mg) : Binds K T.fd_law ["script"] [] := T.F_law.binds (ps := ["script"]) fun _ _ _ _ _ _ us hl => match us, hl with | [_], _ => rfl
end
def a_figures_ahead (Cl : Cls) (Fr : Addr → Prop) : AS :=
    (aSeq (aAsg (aIfE (aB (aBin arEq (aVar 0) (aC (.d (.int 0))))) (aC (.d (.int 1))) (aC (.d (.int 0)))) (gN 3))
    (aRet (aCB acTupOf (aCons (aLc none (aRng2 (aCons (aVar 3) (aCons (aVar 1) aNil))) (gN 4) (aB (aBin arEq (aBin arMod (aBin (arAdd none) (aBin arMul (aVar 1) (aVar 0)) (aVar 4)) (aVar 2)) (aC (.d (.int 0))))) (aVar 4) [4]) aNil))))
def a_numbers_ahead (Cl : Cls) (Fr : Addr → Prop) : AS :=
    (aRet (aCB acTupOf (aCons (aLc none (aIt (aCall c_figures_ahead xno (aCons (aVar 0) (aCons (aVar 1) (aCons (aVar 2) aNil))))) (gN 3) aYes (aBin arDiv (aBin (arAdd none) (aBin arMul (aVar 1) (aVar 0)) (aVar 3)) (aVar 2)) [3]) aNil)))
def a_least_branch (Cl : Cls) (Fr : Addr → Prop) : AS :=
    (aSeq (aFor (aRng1 (aCons (aVar 1) aNil)) (gN 4) (aAsg (aUn arNeg (aBin arDiv (aBin arMul (aUn arNeg (aVar 2)) (aVar 0)) (aVar 3))) (gN 0)))
    (aRet (aVar 0)))
def a_greatest_branch (Cl : Cls) (Fr : Addr → Prop) : AS :=
    (aSeq (aFor (aRng1 (aCons (aVar 1) aNil)) (gN 4) (aAsg (aBin arDiv (aBin arSub (aBin (arAdd none) (aBin arMul (aVar 2) (aVar 0)) (aVar 2)) (aC (.d (.int 1)))) (aVar 3)) (gN 0)))
    (aRet (aVar 0)))
def a_branch_count (Cl : Cls) (Fr : Addr → Prop) : AS :=
    (aRet (aBin (arAdd none) (aBin arSub (aCall c_greatest_branch xno (aCons (aVar 0) (aCons (aVar 1) (aCons (aVar 2) (aCons (aVar 3) aNil))))) (aCall c_least_branch xno (aCons (aVar 0) (aCons (aVar 1) (aCons (aVar 2) (aCons (aVar 3) aNil)))))) (aC (.d (.int 1)))))
def a_branch_number (Cl : Cls) (Fr : Addr → Prop) (Ξ : XA) : AS :=
    (aSeq (aFor (aIt (aVar 1)) (gN 4) (aSeq (aAsg (aBin (arAdd none) (aBin arMul (aVar 2) (aVar 0)) (aVar 4)) (gN 5))
    (aSeq (aIf (aOr (aB (aBin arEq (aVar 5) (aC (.d (.int 0))))) (aB (aBin arNe (aBin arMod (aVar 5) (aVar 3)) (aC (.d (.int 0)))))) (aRaise (fun _ => Ξ) (.ref Cl.Unfit)) aNx)
    (aAsg (aBin arDiv (aVar 5) (aVar 3)) (gN 0)))))
    (aRet (aVar 0)))
def a_alike_depth (Cl : Cls) (Fr : Addr → Prop) : AS :=
    (aSeq (aPar2 4 5 (aCons (aC (.d (.int 0))) (aCons (aCB acAbs (aCons (aBin arSub (aVar 0) (aVar 1)) aNil)) aNil)))
    (aSeq (aWhile (aB (aBin arEq (aBin arMod (aVar 5) (aVar 3)) (aC (.d (.int 0))))) (aPar2 4 5 (aCons (aBin (arAdd none) (aVar 4) (aC (.d (.int 1)))) (aCons (aBin arDiv (aVar 5) (aVar 3)) aNil))))
    (aRet (aVar 4))))
def a_l_own_bag (Cl : Cls) (Fr : Addr → Prop) : AS :=
    (aSeq (aAsg (aLc none (aIt (aSl none (aVar 0) aNoP (aPart (aC (.d (.int 63)))))) (gN 3) aYes (aCB acAbs (aCons (aVar 3) aNil)) [3]) (gN 1))
    (aSeq (aAsg (aBin (arAdd none) (aC (.d (.int 2468))) (aCB acLen (aCons (aVar 1) aNil))) (gN 2))
    (aSeq (aFor (aIt (aVar 1)) (gN 3) (aAsg (aBin arMod (aBin (arAdd none) (aBin (arAdd none) (aBin arMul (aVar 2) (aC (.d (.int 48271)))) (aBin arMod (aCB acInt (aCons (aVar 3) aNil)) (aC (.d (.int 2147483629))))) (aC (.d (.int 7)))) (aC (.d (.int 2147483647)))) (gN 2)))
    (aRet (aLst (some Fr) (aCons (aLstRev (some Fr) (aCB (acLstOf none) (aCons (aVar 1) aNil))) (aCons (aC (.d (.int 0))) (aCons (aVar 2) aNil))))))))
def a_l_draw (Cl : Cls) (Fr : Addr → Prop) : AS :=
    (aSeq (aWhile (aAnd (aB (aBin arEq (aBin arIx (aVar 0) (aC (.d (.int 1)))) (aC (.d (.int 0))))) (aB (aBin arNe (aBin arIx (aVar 0) (aC (.d (.int 0)))) (aLst none aNil)))) (aSeq (aAsg (aMl0 amPop (aBin arIx (aVar 0) (aC (.d (.int 0))))) (gN 2))
    (aSetIx (aIfE (aB (aBin arGt (aVar 2) (aBin arPow (aC (.d (.int 10))) (aC (.d (.int 9)))))) (aVar 2) (aC (.d (.int 0)))) (aVar 0) (aC (.d (.int 1))))))
    (aSeq (aIf (aB (aBin arGt (aBin arIx (aVar 0) (aC (.d (.int 1)))) (aC (.d (.int 0))))) (aSeq (aAsg (aBin arMod (aCB acInt (aCons (aBin arIx (aVar 0) (aC (.d (.int 1)))) aNil)) (aVar 1)) (gN 3))
    (aSeq (aSetIx (aBin arDiv (aBin arIx (aVar 0) (aC (.d (.int 1)))) (aVar 1)) (aVar 0) (aC (.d (.int 1))))
    (aRet (aVar 3)))) aNx)
    (aSeq (aSetIx (aBin arMod (aBin (arAdd none) (aBin arMul (aBin arIx (aVar 0) (aC (.d (.int 2)))) (aC (.d (.int 48271)))) (aC (.d (.int 11)))) (aC (.d (.int 2147483647)))) (aVar 0) (aC (.d (.int 2))))
    (aRet (aBin arMod (aBin arDiv (aBin arMod (aCB acInt (aCons (aBin arMul (aBin arIx (aVar 0) (aC (.d (.int 2)))) (aBin arIx (aVar 0) (aC (.d (.int 2))))) aNil)) (aC (.d (.int 2147483629)))) (aC (.d (.int 7)))) (aVar 1))))))
def a_l_pick (Cl : Cls) (Fr : Addr → Prop) : AS :=
    (aRet (aBin arIx (aVar 1) (aCall c_l_draw xno (aCons (aVar 0) (aCons (aCB acLen (aCons (aVar 1) aNil)) aNil)))))
def a_l_great (Cl : Cls) (Fr : Addr → Prop) : AS :=
    (aSeq (aAsg (aTup (aCons (aC (.d (.int 0))) (aCons (aC (.d (.int 1))) aNil))) (gT 2 (gs1 (gN 2) (gs1 (gN 3) gs0))))
    (aSeq (aWhile (aB (aBin arLt (aVar 3) (aBin arMul (aVar 1) (aC (.d (.int 1000)))))) (aPar2 2 3 (aCons (aBin (arAdd none) (aBin arMul (aVar 2) (aC (.d (.int 1000000)))) (aCall c_l_draw xno (aCons (aVar 0) (aCons (aC (.d (.int 1000000))) aNil)))) (aCons (aBin arMul (aVar 3) (aC (.d (.int 1000000)))) aNil))))
    (aRet (aBin arMod (aCB acInt (aCons (aVar 2) aNil)) (aVar 1)))))
def a_l_same (Cl : Cls) (Fr : Addr → Prop) : AS :=
    (aSeq (aIf (aB (aBin arIs (aVar 1) (aC (.d .none)))) (aRet (aBin arIs (aVar 0) (aC (.d .none)))) aNx)
    (aSeq (aIf (aTru (aCB (ac2 fIsi) (aCons (aVar 1) (aCons (aC (.r (.ty "tuple"))) aNil)))) (aRet (aAndV (aCB (ac2 fIsi) (aCons (aVar 0) (aCons (aC (.r (.ty "tuple"))) aNil))) (aAndV (aBin arEq (aCB (ac1 fRepr) (aCons (aVar 0) aNil)) (aCB (ac1 fRepr) (aCons (aVar 1) aNil))) (aBin arEq (aVar 0) (aVar 1))))) aNx)
    (aSeq (aIf (aTru (aCB (ac2 fIsi) (aCons (aVar 1) (aCons (aC (.r (.ty "str"))) aNil)))) (aRet (aAndV (aCB (ac2 fIsi) (aCons (aVar 0) (aCons (aC (.r (.ty "str"))) aNil))) (aBin arEq (aCB (ac1 fRepr) (aCons (aVar 0) aNil)) (aCB (ac1 fRepr) (aCons (aVar 1) aNil))))) aNx)
    (aRet (aAndV (aCB (ac2 fIsi) (aCons (aVar 0) (aCons (aC (.r (.ty "int"))) aNil))) (aAndV (aBin arEq (aCB (ac1 fRepr) (aCons (aVar 0) aNil)) (aCB (ac1 fRepr) (aCons (aVar 1) aNil))) (aBin arEq (aVar 0) (aVar 1))))))))
def a_l_pairs (Cl : Cls) (Fr : Addr → Prop) : AS :=
    (aSeq (aAsg (aLst (some Fr) aNil) (gN 0))
    (aSeq (aFor (aRng2 (aCons (aC (.d (.int 3))) (aCons (aC (.d (.int 11))) aNil))) (gN 1) (aExp (aMl amExtend (aVar 0) (aCons (aLc none (aRng2 (aCons (aC (.d (.int 2))) (aCons (aVar 1) aNil))) (gN 2) (aTru (aCB (ac1 fAll) (aCons (aLc none (aIt (aTup (aCons (aC (.d (.int 2))) (aCons (aC (.d (.int 3))) (aCons (aC (.d (.int 5))) (aCons (aC (.d (.int 7))) aNil)))))) (gN 3) aYes (aOrV (aBin arGt (aBin arMod (aCB acInt (aCons (aVar 1) aNil)) (aVar 3)) (aC (.d (.int 0)))) (aBin arGt (aBin arMod (aCB acInt (aCons (aVar 2) aNil)) (aVar 3)) (aC (.d (.int 0))))) [3]) aNil))) (aTup (aCons (aVar 1) (aCons (aVar 2) aNil))) [2]) aNil))))
    (aRetF Fr (aVar 0))))
def a_l_number (Cl : Cls) (Fr : Addr → Prop) : AS :=
    (aSeq (aPar2 1 2 (aCons (aCall c_l_draw xno (aCons (aVar 0) (aCons (aC (.d (.int 6))) aNil))) (aCons (aC (.d (.int 1))) aNil)))
    (aSeq (aIf (aB (aBin arEq (aVar 1) (aC (.d (.int 0))))) (aRet (aCall c_l_draw xno (aCons (aVar 0) (aCons (aC (.d (.int 40))) aNil)))) aNx)
    (aSeq (aIf (aB (aBin arEq (aVar 1) (aC (.d (.int 1))))) (aRet (aBin arSub (aBin arPow (aC (.d (.int 10))) (aC (.d (.int 30)))) (aCall c_l_draw xno (aCons (aVar 0) (aCons (aC (.d (.int 3))) aNil))))) aNx)
    (aSeq (aFor (aRng1 (aCons (aBin (arAdd none) (aC (.d (.int 1))) (aCall c_l_draw xno (aCons (aVar 0) (aCons (aC (.d (.int 30))) aNil)))) aNil)) (gN 3) (aAsg (aBin arMul (aVar 2) (aC (.d (.int 10)))) (gN 2)))
    (aRet (aBin (arAdd none) (aCall c_l_great xno (aCons (aVar 0) (aCons (aVar 2) aNil))) (aBin arDiv (aVar 1) (aC (.d (.int 5))))))))))
def a_l_is_unfit (Cl : Cls) (e1 : Addr) : AS :=
    (aSeq (aAsg (aLst none (aCons (aCB (acIsE e1 (.ref Cl.TooMany) false) (aCons (aVar 0) (aCons (aC (.r (.ref Cl.TooMany))) aNil))) (aCons (aCB (acIsE e1 (.ref Cl.BadText) false) (aCons (aVar 0) (aCons (aC (.r (.ref Cl.BadText))) aNil))) (aCons (aCB (acIsE e1 (.ref Cl.BadWord) false) (aCons (aVar 0) (aCons (aC (.r (.ref Cl.BadWord))) aNil))) (aCons (aCB (acIsE e1 (.ref Cl.BadLog) false) (aCons (aVar 0) (aCons (aC (.r (.ref Cl.BadLog))) aNil))) (aCons (aCB (acIsE e1 (.ref Cl.Refused) false) (aCons (aVar 0) (aCons (aC (.r (.ref Cl.Refused))) aNil))) (aCons (aCB (acIsE e1 (.ref Cl.NothingToUndo) false) (aCons (aVar 0) (aCons (aC (.r (.ref Cl.NothingToUndo))) aNil))) (aCons (aCB (acIsE e1 (.ref Cl.NothingToRedo) false) (aCons (aVar 0) (aCons (aC (.r (.ref Cl.NothingToRedo))) aNil))) (aCons (aCB (acIsE e1 (.ref Cl.NoName) false) (aCons (aVar 0) (aCons (aC (.r (.ref Cl.NoName))) aNil))) (aCons (aCB (acIsE e1 (.ref Cl.NoVersion) false) (aCons (aVar 0) (aCons (aC (.r (.ref Cl.NoVersion))) aNil))) aNil)))))))))) (gN 1))
    (aRet (aAndV (aCB (acIsE e1 (.ref Cl.Unfit) true) (aCons (aVar 0) (aCons (aC (.r (.ref Cl.Unfit))) aNil))) (aAndV (aCB (acIsE e1 (.ty "ValueError") true) (aCons (aVar 0) (aCons (aC (.r (.ty "ValueError"))) aNil))) (aNotV (aCB (ac1 fAny) (aCons (aVar 1) aNil)))))))
def a_l_ahead (Cl : Cls) (Fr : Addr → Prop) : AS :=
    (aRet (aLc none (aRng1 (aCons (aVar 1) aNil)) (gN 3) (aAnd (aB (aBin arEq (aBin arMod (aCB acInt (aCons (aBin (arAdd none) (aBin arMul (aVar 1) (aVar 0)) (aVar 3)) aNil)) (aVar 2)) (aC (.d (.int 0))))) (aB (aBin arGt (aBin (arAdd none) (aVar 0) (aVar 3)) (aC (.d (.int 0)))))) (aVar 3) [3]))
def a_l_ends (Cl : Cls) (Fr : Addr → Prop) : AS :=
    (aSeq (aPar2 4 5 (aCons (aVar 0) (aCons (aVar 0) aNil)))
    (aSeq (aFor (aRng1 (aCons (aVar 1) aNil)) (gN 6) (aPar2 4 5 (aCons (aBin arDiv (aBin arSub (aBin (arAdd none) (aBin arMul (aVar 2) (aVar 4)) (aVar 3)) (aC (.d (.int 1)))) (aVar 3)) (aCons (aBin arDiv (aBin arSub (aBin (arAdd none) (aBin arMul (aVar 2) (aVar 5)) (aVar 2)) (aC (.d (.int 1)))) (aVar 3)) aNil))))
    (aRet (aTup (aCons (aVar 4) (aCons (aVar 5) aNil))))))
def a_l_path (Cl : Cls) (Fr : Addr → Prop) : AS :=
    (aSeq (aPar2 5 6 (aCons (aLc none (aRng1 (aCons (aC (.d (.int 13))) aNil)) (gN 9) aYes (aCall c_l_draw xno (aCons (aVar 0) (aCons (aC (.d (.int 5))) aNil))) [9]) (aCons (aLst (some Fr) aNil) aNil)))
    (aSeq (aFor (aRng1 (aCons (aVar 2) aNil)) (gN 7) (aSeq (aAsg (aCall c_l_ahead xno (aCons (aVar 1) (aCons (aVar 3) (aCons (aVar 4) aNil)))) (gN 8))
    (aSeq (aExp (aMl amAppend (aVar 6) (aCons (aBin arIx (aVar 8) (aBin arMod (aBin arIx (aVar 5) (aBin arMod (aVar 7) (aC (.d (.int 13))))) (aCB acLen (aCons (aVar 8) aNil)))) aNil)))
    (aAsg (aBin arDiv (aBin (arAdd none) (aBin arMul (aVar 3) (aVar 1)) (aBin arIx (aVar 6) (aUn arNeg (aC (.d (.int 1)))))) (aVar 4)) (gN 1)))))
    (aRetD (aTup (aCons (aFrz Fr (aVar 6)) (aCons (aVar 1) aNil))))))
def a_l_some_k (Cl : Cls) (Fr : Addr → Prop) : AS :=
    (aRet (aCall c_l_pick xno (aCons (aVar 0) (aCons (aLst none (aCons (aC (.d (.int 0))) (aCons (aC (.d (.int 1))) (aCons (aC (.d (.int 200))) (aCons (aCall c_l_draw xno (aCons (aVar 0) (aCons (aC (.d (.int 9))) aNil))) (aCons (aCall c_l_draw xno (aCons (aVar 0) (aCons (aC (.d (.int 70))) aNil))) (aCons (aBin (arAdd none) (aC (.d (.int 60))) (aCall c_l_draw xno (aCons (aVar 0) (aCons (aC (.d (.int 141))) aNil)))) aNil))))))) aNil))))
def a_l_way_told (Cl : Cls) (Fr : Addr → Prop) : AS :=
    (aTry 4 (.ref Cl.Unfit) (fun Ξ1 => (aRet (aCall (c_branch_number Cl) Ξ1 (aCons (aVar 0) (aCons (aCB acTupOf (aCons (aVar 1) aNil)) (aCons (aVar 2) (aCons (aVar 3) aNil))))))) (fun e1 => (aRet (aIfE (aTru (aCallE e1 true (aVar 4))) (aC (.d (.str "Unfit"))) (aC (.d (.str "other")))))))
def a_l_are_ahead_right (Cl : Cls) (Fr : Addr → Prop) : AS :=
    (aSeq (aAsg (aLst none (aCons (aC (.d (.int 0))) (aCons (aC (.d (.int 1))) (aCons (aBin (arAdd none) (aC (.d (.int 1))) (aCall c_l_draw xno (aCons (aVar 0) (aCons (aC (.d (.int 40))) aNil)))) (aCons (aCall c_l_number xno (aCons (aVar 0) aNil)) (aCons (aBin arPow (aC (.d (.int 10))) (aC (.d (.int 30)))) aNil)))))) (gN 3))
    (aSeq (aFor (aIt (aVar 3)) (gN 4) (aSeq (aAsg (aCall c_l_ahead xno (aCons (aVar 4) (aCons (aVar 1) (aCons (aVar 2) aNil)))) (gN 5))
    (aSeq (aAsg (aCB acTupOf (aCons (aLc none (aIt (aVar 5)) (gN 7) aYes (aBin arDiv (aBin (arAdd none) (aBin arMul (aVar 1) (aVar 4)) (aVar 7)) (aVar 2)) [7]) aNil)) (gN 6))
    (aIf (aOr (aNot (aTru (aCall c_l_same xno (aCons (aCall c_figures_ahead xno (aCons (aVar 4) (aCons (aVar 1) (aCons (aVar 2) aNil)))) (aCons (aCB acTupOf (aCons (aVar 5) aNil)) aNil))))) (aNot (aTru (aCall c_l_same xno (aCons (aCall c_numbers_ahead xno (aCons (aVar 4) (aCons (aVar 1) (aCons (aVar 2) aNil)))) (aCons (aVar 6) aNil)))))) (aRet (aC (.d (.bool false)))) aNx))))
    (aSeq (aAsg (aCall c_l_pick xno (aCons (aVar 0) (aCons (aVar 3) aNil))) (gN 4))
    (aSeq (aAsg (aCall c_l_ahead xno (aCons (aVar 4) (aCons (aVar 1) (aCons (aVar 2) aNil)))) (gN 5))
    (aSeq (aIf (aNot (aTru (aCall c_l_same xno (aCons (aCallK c_figures_ahead xno 0 3 [0, 1, 2] aNil (aCons (aVar 4) (aCons (aVar 1) (aCons (aVar 2) aNil)))) (aCons (aCB acTupOf (aCons (aVar 5) aNil)) aNil))))) (aRet (aC (.d (.bool false)))) aNx)
    (aRet (aCall c_l_same xno (aCons (aCallK c_numbers_ahead xno 0 3 [0, 1, 2] aNil (aCons (aVar 4) (aCons (aVar 1) (aCons (aVar 2) aNil)))) (aCons (aCB acTupOf (aCons (aLc none (aIt (aVar 5)) (gN 7) aYes (aBin arDiv (aBin (arAdd none) (aBin arMul (aVar 1) (aVar 4)) (aVar 7)) (aVar 2)) [7]) aNil)) aNil)))))))))
def a_l_are_levels_right (Cl : Cls) (Fr : Addr → Prop) : AS :=
    (aSeq (aAsg (aCB acMax2 (aCons (aC (.d (.int 1))) (aCons (aCall c_l_pick xno (aCons (aVar 0) (aCons (aLst none (aCons (aC (.d (.int 1))) (aCons (aCall c_l_draw xno (aCons (aVar 0) (aCons (aC (.d (.int 60))) aNil))) (aCons (aCall c_l_number xno (aCons (aVar 0) aNil)) aNil)))) aNil))) aNil))) (gN 3))
    (aSeq (aPar2 4 5 (aCons (aLst none (aCons (aVar 3) aNil)) (aCons (aC (.d (.int 0))) aNil)))
    (aSeq (aWhile (aAnd (aB (aBin arLe (aCB acLen (aCons (aVar 4) aNil)) (aC (.d (.int 100))))) (aB (aBin arLt (aVar 5) (aC (.d (.int 30)))))) (aSeq (aIf (aNot (aTru (aCall c_l_same xno (aCons (aCall c_least_branch xno (aCons (aVar 3) (aCons (aVar 5) (aCons (aVar 1) (aCons (aVar 2) aNil))))) (aCons (aBin arIx (aVar 4) (aC (.d (.int 0)))) aNil))))) (aRetD (aC (.d (.bool false)))) aNx)
    (aSeq (aIf (aNot (aTru (aCall c_l_same xno (aCons (aCall c_greatest_branch xno (aCons (aVar 3) (aCons (aVar 5) (aCons (aVar 1) (aCons (aVar 2) aNil))))) (aCons (aBin arIx (aVar 4) (aUn arNeg (aC (.d (.int 1))))) aNil))))) (aRetD (aC (.d (.bool false)))) aNx)
    (aSeq (aIf (aNot (aTru (aCall c_l_same xno (aCons (aCall c_branch_count xno (aCons (aVar 3) (aCons (aVar 5) (aCons (aVar 1) (aCons (aVar 2) aNil))))) (aCons (aCB acLen (aCons (aVar 4) aNil)) aNil))))) (aRetD (aC (.d (.bool false)))) aNx)
    (aSeq (aIf (aAnd (aB (aBin arLt (aVar 3) (aBin arPow (aC (.d (.int 10))) (aC (.d (.int 30)))))) (aNot (aTru (aCall c_l_same xno (aCons (aCall c_least_branch xno (aCons (aBin (arAdd none) (aVar 3) (aC (.d (.int 1)))) (aCons (aVar 5) (aCons (aVar 1) (aCons (aVar 2) aNil))))) (aCons (aBin (arAdd none) (aBin arIx (aVar 4) (aUn arNeg (aC (.d (.int 1))))) (aC (.d (.int 1)))) aNil)))))) (aRetD (aC (.d (.bool false)))) aNx)
    (aSeq (aAsg (aLst (some Fr) aNil) (gN 6))
    (aSeq (aFor (aIt (aVar 4)) (gN 7) (aSeq (aAsg (aLc none (aIt (aCall c_l_ahead xno (aCons (aVar 7) (aCons (aVar 1) (aCons (aVar 2) aNil))))) (gN 9) aYes (aBin arDiv (aBin (arAdd none) (aBin arMul (aVar 1) (aVar 7)) (aVar 9)) (aVar 2)) [9]) (gN 8))
    (aSeq (aIf (aAnd (aB (aBin arLt (aCB acLen (aCons (aVar 4) aNil)) (aC (.d (.int 30))))) (aAnd (aB (aBin arLe (aVar 7) (aBin arPow (aC (.d (.int 10))) (aC (.d (.int 30)))))) (aNot (aTru (aCall c_l_same xno (aCons (aCall c_numbers_ahead xno (aCons (aVar 7) (aCons (aVar 1) (aCons (aVar 2) aNil)))) (aCons (aCB acTupOf (aCons (aVar 8) aNil)) aNil))))))) (aRetD (aC (.d (.bool false)))) aNx)
    (aExp (aMl amExtend (aVar 6) (aCons (aVar 8) aNil))))))
    (aPar2 4 5 (aCons (aFrz Fr (aVar 6)) (aCons (aBin (arAdd none) (aVar 5) (aC (.d (.int 1)))) aNil))))))))))
    (aRetD (aC (.d (.bool true)))))))
def a_l_are_far_right (Cl : Cls) (Fr : Addr → Prop) : AS :=
    (aSeq (aPar2 3 4 (aCons (aCB acMax2 (aCons (aC (.d (.int 1))) (aCons (aCall c_l_number xno (aCons (aVar 0) aNil)) aNil))) (aCons (aCall c_l_some_k xno (aCons (aVar 0) aNil)) aNil)))
    (aSeq (aFor (aRng1 (aCons (aC (.d (.int 2))) aNil)) (gN 5) (aSeq (aAsg (aCall c_l_ends xno (aCons (aVar 3) (aCons (aVar 4) (aCons (aVar 1) (aCons (aVar 2) aNil))))) (gT 2 (gs1 (gN 6) (gs1 (gN 7) gs0))))
    (aSeq (aIf (aNot (aTru (aCall c_l_same xno (aCons (aCallK c_least_branch xno 0 4 [0, 1, 2, 3] aNil (aCons (aVar 3) (aCons (aVar 4) (aCons (aVar 1) (aCons (aVar 2) aNil))))) (aCons (aVar 6) aNil))))) (aRet (aC (.d (.bool false)))) aNx)
    (aSeq (aIf (aNot (aTru (aCall c_l_same xno (aCons (aCallK c_greatest_branch xno 0 4 [0, 1, 2, 3] aNil (aCons (aVar 3) (aCons (aVar 4) (aCons (aVar 1) (aCons (aVar 2) aNil))))) (aCons (aVar 7) aNil))))) (aRet (aC (.d (.bool false)))) aNx)
    (aSeq (aIf (aNot (aTru (aCall c_l_same xno (aCons (aCallK c_branch_count xno 0 4 [0, 1, 2, 3] aNil (aCons (aVar 3) (aCons (aVar 4) (aCons (aVar 1) (aCons (aVar 2) aNil))))) (aCons (aBin (arAdd none) (aBin arSub (aVar 7) (aVar 6)) (aC (.d (.int 1)))) aNil))))) (aRet (aC (.d (.bool false)))) aNx)
    (aSeq (aIf (aAnd (aB (aBin arLt (aVar 3) (aBin arPow (aC (.d (.int 10))) (aC (.d (.int 30)))))) (aNot (aTru (aCall c_l_same xno (aCons (aCall c_least_branch xno (aCons (aBin (arAdd none) (aVar 3) (aC (.d (.int 1)))) (aCons (aVar 4) (aCons (aVar 1) (aCons (aVar 2) aNil))))) (aCons (aBin (arAdd none) (aVar 7) (aC (.d (.int 1)))) aNil)))))) (aRet (aC (.d (.bool false)))) aNx)
    (aSeq (aIf (aAnd (aB (aBin arGt (aVar 3) (aC (.d (.int 1))))) (aNot (aTru (aCall c_l_same xno (aCons (aCall c_greatest_branch xno (aCons (aBin arSub (aVar 3) (aC (.d (.int 1)))) (aCons (aVar 4) (aCons (aVar 1) (aCons (aVar 2) aNil))))) (aCons (aBin arSub (aVar 6) (aC (.d (.int 1)))) aNil)))))) (aRet (aC (.d (.bool false)))) aNx)
    (aPar2 3 4 (aCons (aBin (arAdd none) (aC (.d (.int 1))) (aCall c_l_draw xno (aCons (aVar 0) (aCons (aC (.d (.int 40))) aNil)))) (aCons (aCall c_l_some_k xno (aCons (aVar 0) aNil)) aNil))))))))))
    (aRet (aC (.d (.bool true))))))
def a_l_are_ways_right (Cl : Cls) (Fr : Addr → Prop) : AS :=
    (aSeq (aPar2 3 4 (aCons (aCall c_l_number xno (aCons (aVar 0) aNil)) (aCons (aCall c_l_some_k xno (aCons (aVar 0) aNil)) aNil)))
    (aSeq (aIf (aB (aBin arEq (aVar 3) (aC (.d (.int 0))))) (aAsg (aC (.d (.int 0))) (gN 4)) aNx)
    (aSeq (aAsg (aCall c_l_path xno (aCons (aVar 0) (aCons (aVar 3) (aCons (aVar 4) (aCons (aVar 1) (aCons (aVar 2) aNil)))))) (gT 2 (gs1 (gN 5) (gs1 (gN 6) gs0))))
    (aSeq (aIf (aNot (aTru (aCall c_l_same xno (aCons (aCall c_l_way_told xno (aCons (aVar 3) (aCons (aVar 5) (aCons (aVar 1) (aCons (aVar 2) aNil))))) (aCons (aVar 6) aNil))))) (aRet (aC (.d (.bool false)))) aNx)
    (aSeq (aIf (aNot (aTru (aCall c_l_same xno (aCons (aCallK (c_branch_number Cl) xno 0 4 [0, 1, 2, 3] aNil (aCons (aVar 3) (aCons (aCB acTupOf (aCons (aVar 5) aNil)) (aCons (aVar 1) (aCons (aVar 2) aNil))))) (aCons (aVar 6) aNil))))) (aRet (aC (.d (.bool false)))) aNx)
    (aSeq (aFor (aIt (aLst none (aCons (aC (.d (.int 0))) (aCons (aBin arSub (aVar 4) (aC (.d (.int 1)))) (aCons (aBin arSub (aCall c_l_draw xno (aCons (aVar 0) (aCons (aBin (arAdd none) (aVar 4) (aC (.d (.int 1)))) aNil))) (aC (.d (.int 1)))) aNil))))) (gN 7) (aIf (aAnd (aB (aBin arGe (aVar 7) (aC (.d (.int 0))))) (aB (aBin arLt (aVar 7) (aVar 4)))) (aSeq (aAsg (aIfE (aAnd (aB (aBin arGt (aBin arIx (aVar 5) (aVar 7)) (aC (.d (.int 0))))) (aOr (aB (aBin arEq (aBin arIx (aVar 5) (aVar 7)) (aBin arSub (aVar 1) (aC (.d (.int 1)))))) (aB (aBin arEq (aCall c_l_draw xno (aCons (aVar 0) (aCons (aC (.d (.int 2))) aNil))) (aC (.d (.int 0))))))) (aBin arSub (aBin arIx (aVar 5) (aVar 7)) (aC (.d (.int 1)))) (aBin (arAdd none) (aBin arIx (aVar 5) (aVar 7)) (aC (.d (.int 1))))) (gN 8))
    (aIf (aB (aBin arNe (aCall c_l_way_told xno (aCons (aVar 3) (aCons (aBin (arAdd none) (aBin (arAdd none) (aSl none (aVar 5) aNoP (aPart (aVar 7))) (aLst none (aCons (aVar 8) aNil))) (aSl none (aVar 5) (aPart (aBin (arAdd none) (aVar 7) (aC (.d (.int 1))))) aNoP)) (aCons (aVar 1) (aCons (aVar 2) aNil))))) (aC (.d (.str "Unfit"))))) (aRet (aC (.d (.bool false)))) aNx)) aNx))
    (aRet (aAndV (aCall c_l_same xno (aCons (aCall c_l_way_told xno (aCons (aVar 3) (aCons (aVar 5) (aCons (aVar 1) (aCons (aVar 2) aNil))))) (aCons (aVar 6) aNil))) (aCall c_l_same xno (aCons (aCall c_l_way_told xno (aCons (aVar 3) (aCons (aLst none aNil) (aCons (aVar 1) (aCons (aVar 2) aNil))))) (aCons (aVar 3) aNil)))))))))))
def a_l_are_words_right (Cl : Cls) (Fr : Addr → Prop) : AS :=
    (aSeq (aPar2 3 4 (aCons (aCB acMax2 (aCons (aC (.d (.int 1))) (aCons (aCall c_l_number xno (aCons (aVar 0) aNil)) aNil))) (aCons (aLst (some Fr) aNil) aNil)))
    (aSeq (aAsg (aVar 3) (gN 5))
    (aSeq (aWhile (aB (aBin arGt (aVar 3) (aC (.d (.int 0))))) (aSeq (aExp (aMl amAppend (aVar 4) (aCons (aBin arMod (aCB acInt (aCons (aBin arMul (aVar 2) (aVar 3)) aNil)) (aVar 1)) aNil)))
    (aAsg (aBin arDiv (aBin arMul (aVar 2) (aVar 3)) (aVar 1)) (gN 3))))
    (aSeq (aAsg (aSl none (aLstRev none (aCB (acLstOf none) (aCons (aVar 4) aNil))) aNoP (aPart (aC (.d (.int 200))))) (gN 6))
    (aSeq (aIf (aB (aBin arGt (aCB acLen (aCons (aVar 4) aNil)) (aC (.d (.int 200))))) (aSeq (aAsg (aC (.d (.int 0))) (gN 5))
    (aFor (aIt (aVar 6)) (gN 7) (aAsg (aBin arDiv (aBin (arAdd none) (aBin arMul (aVar 1) (aVar 5)) (aVar 7)) (aVar 2)) (gN 5)))) aNx)
    (aSeq (aIf (aNot (aTru (aCall c_l_same xno (aCons (aCall c_l_way_told xno (aCons (aC (.d (.int 0))) (aCons (aVar 6) (aCons (aVar 1) (aCons (aVar 2) aNil))))) (aCons (aVar 5) aNil))))) (aRetD (aC (.d (.bool false)))) aNx)
    (aSeq (aIf (aOr (aB (aBin arNe (aCall c_l_way_told xno (aCons (aC (.d (.int 0))) (aCons (aBin (arAdd none) (aLst none (aCons (aC (.d (.int 0))) aNil)) (aSl none (aVar 6) aNoP (aPart (aC (.d (.int 199)))))) (aCons (aVar 1) (aCons (aVar 2) aNil))))) (aC (.d (.str "Unfit"))))) (aB (aBin arNe (aCall c_l_way_told xno (aCons (aC (.d (.int 0))) (aCons (aLst none (aCons (aC (.d (.int 0))) aNil)) (aCons (aVar 1) (aCons (aVar 2) aNil))))) (aC (.d (.str "Unfit")))))) (aRetD (aC (.d (.bool false)))) aNx)
    (aSeq (aAsg (aLc none (aRng1 (aCons (aVar 1) aNil)) (gN 9) (aOr (aB (aBin arEq (aVar 9) (aC (.d (.int 0))))) (aB (aBin arGt (aBin arMod (aCB acInt (aCons (aVar 9) aNil)) (aVar 2)) (aC (.d (.int 0)))))) (aVar 9) [9]) (gN 8))
    (aRetD (aBin arEq (aCall c_l_way_told xno (aCons (aC (.d (.int 0))) (aCons (aBin (arAdd none) (aLst none (aCons (aCall c_l_pick xno (aCons (aVar 0) (aCons (aVar 8) aNil))) aNil)) (aSl none (aVar 6) (aPart (aC (.d (.int 1)))) aNoP)) (aCons (aVar 1) (aCons (aVar 2) aNil))))) (aC (.d (.str "Unfit")))))))))))))
def a_l_depth (Cl : Cls) (Fr : Addr → Prop) : AS :=
    (aSeq (aAsg (aLst (some Fr) aNil) (gN 4))
    (aSeq (aWhile (aB (aBin arEq (aCall c_l_ahead xno (aCons (aVar 0) (aCons (aVar 2) (aCons (aVar 3) aNil)))) (aCall c_l_ahead xno (aCons (aVar 1) (aCons (aVar 2) (aCons (aVar 3) aNil)))))) (aSeq (aExp (aMl amAppend (aVar 4) (aCons (aBin arIx (aCall c_l_ahead xno (aCons (aVar 0) (aCons (aVar 2) (aCons (aVar 3) aNil)))) (aBin arMod (aCB acLen (aCons (aVar 4) aNil)) (aCB acLen (aCons (aCall c_l_ahead xno (aCons (aVar 0) (aCons (aVar 2) (aCons (aVar 3) aNil)))) aNil)))) aNil)))
    (aPar2 0 1 (aCons (aBin arDiv (aBin (arAdd none) (aBin arMul (aVar 2) (aVar 0)) (aBin arIx (aVar 4) (aUn arNeg (aC (.d (.int 1)))))) (aVar 3)) (aCons (aBin arDiv (aBin (arAdd none) (aBin arMul (aVar 2) (aVar 1)) (aBin arIx (aVar 4) (aUn arNeg (aC (.d (.int 1)))))) (aVar 3)) aNil)))))
    (aRetD (aBin (arAdd none) (aVar 4) (aLst none (aCons (aBin arIx (aCall c_l_ahead xno (aCons (aVar 0) (aCons (aVar 2) (aCons (aVar 3) aNil)))) (aC (.d (.int 0)))) aNil))))))
def a_l_some_pair (Cl : Cls) (Fr : Addr → Prop) : AS :=
    (aSeq (aPar3 3 4 5 (aCons (aCB acMax2 (aCons (aC (.d (.int 1))) (aCons (aCall c_l_number xno (aCons (aVar 0) aNil)) aNil))) (aCons (aC (.d (.int 1))) (aCons (aCall c_l_draw xno (aCons (aVar 0) (aCons (aC (.d (.int 100))) aNil))) aNil))))
    (aSeq (aIf (aB (aBin arEq (aCall c_l_draw xno (aCons (aVar 0) (aCons (aC (.d (.int 3))) aNil))) (aC (.d (.int 0))))) (aAsg (aBin (arAdd none) (aC (.d (.int 1))) (aCall c_l_draw xno (aCons (aVar 0) (aCons (aC (.d (.int 40))) aNil)))) (gN 3)) aNx)
    (aSeq (aWhile (aAnd (aB (aBin arGt (aVar 5) (aC (.d (.int 0))))) (aB (aBin arLt (aBin arMul (aVar 4) (aVar 2)) (aBin arPow (aC (.d (.int 10))) (aC (.d (.int 30))))))) (aPar2 4 5 (aCons (aBin arMul (aVar 4) (aVar 2)) (aCons (aBin arSub (aVar 5) (aC (.d (.int 1)))) aNil))))
    (aSeq (aAsg (aBin arMul (aVar 4) (aCall c_l_pick xno (aCons (aVar 0) (aCons (aLst none (aCons (aC (.d (.int 1))) (aCons (aC (.d (.int 1))) (aCons (aC (.d (.int 2))) (aCons (aC (.d (.int 3))) (aCons (aVar 1) (aCons (aBin (arAdd none) (aVar 2) (aC (.d (.int 1)))) (aCons (aBin (arAdd none) (aC (.d (.int 1))) (aCall c_l_draw xno (aCons (aVar 0) (aCons (aC (.d (.int 1000))) aNil)))) aNil)))))))) aNil)))) (gN 6))
    (aSeq (aIf (aB (aBin arLe (aBin (arAdd none) (aVar 3) (aVar 6)) (aBin arPow (aC (.d (.int 10))) (aC (.d (.int 30)))))) (aRet (aTup (aCons (aVar 3) (aCons (aBin (arAdd none) (aVar 3) (aVar 6)) aNil)))) aNx)
    (aSeq (aIf (aB (aBin arGt (aVar 3) (aVar 6))) (aRet (aTup (aCons (aVar 3) (aCons (aBin arSub (aVar 3) (aVar 6)) aNil)))) aNx)
    (aRet (aIfE (aB (aBin arGt (aVar 4) (aC (.d (.int 9))))) (aTup (aCons (aBin (arAdd none) (aC (.d (.int 1))) (aCall c_l_draw xno (aCons (aVar 0) (aCons (aC (.d (.int 9))) aNil)))) (aCons (aBin (arAdd none) (aC (.d (.int 1))) (aVar 4)) aNil))) (aTup (aCons (aVar 3) (aCons (aIfE (aB (aBin arLt (aVar 3) (aBin arPow (aC (.d (.int 10))) (aC (.d (.int 30)))))) (aBin arPow (aC (.d (.int 10))) (aC (.d (.int 30)))) (aC (.d (.int 1)))) aNil)))))))))))
def a_l_are_depths_right (Cl : Cls) (Fr : Addr → Prop) : AS :=
    (aSeq (aAsg (aTup (aCons (aC (.d (.int 0))) (aCons (aC (.d (.int 0))) (aCons (aTup aNil) aNil)))) (gT 3 (gs1 (gN 3) (gs1 (gN 4) (gs1 (gN 5) gs0)))))
    (aSeq (aFor (aRng1 (aCons (aC (.d (.int 3))) aNil)) (gN 6) (aSeq (aAsg (aCall c_l_some_pair xno (aCons (aVar 0) (aCons (aVar 1) (aCons (aVar 2) aNil)))) (gT 2 (gs1 (gN 3) (gs1 (gN 4) gs0))))
    (aSeq (aAsg (aCall c_l_depth xno (aCons (aVar 3) (aCons (aVar 4) (aCons (aVar 1) (aCons (aVar 2) aNil))))) (gN 5))
    (aSeq (aAsg (aBin arSub (aCB acLen (aCons (aVar 5) aNil)) (aC (.d (.int 1)))) (gN 7))
    (aSeq (aIf (aNot (aTru (aCall c_l_same xno (aCons (aCall c_alike_depth xno (aCons (aVar 3) (aCons (aVar 4) (aCons (aVar 1) (aCons (aVar 2) aNil))))) (aCons (aVar 7) aNil))))) (aRet (aC (.d (.bool false)))) aNx)
    (aIf (aNot (aTru (aCall c_l_same xno (aCons (aCallK c_alike_depth xno 0 4 [0, 1, 2, 3] aNil (aCons (aVar 4) (aCons (aVar 3) (aCons (aVar 1) (aCons (aVar 2) aNil))))) (aCons (aVar 7) aNil))))) (aRet (aC (.d (.bool false)))) aNx))))))
    (aSeq (aAsg (aVar 3) (gN 8))
    (aSeq (aFor (aIt (aVar 5)) (gN 9) (aAsg (aBin arDiv (aBin (arAdd none) (aBin arMul (aVar 1) (aVar 8)) (aVar 9)) (aVar 2)) (gN 8)))
    (aRet (aAndV (aCall c_l_same xno (aCons (aCall c_l_way_told xno (aCons (aVar 3) (aCons (aVar 5) (aCons (aVar 1) (aCons (aVar 2) aNil))))) (aCons (aVar 8) aNil))) (aBin arEq (aCall c_l_way_told xno (aCons (aVar 4) (aCons (aVar 5) (aCons (aVar 1) (aCons (aVar 2) aNil))))) (aC (.d (.str "Unfit"))))))))))
def a_law (Cl : Cls) (Fr : Addr → Prop) : AS :=
    (aSeq (aAsg (aCall c_l_own_bag xno (aCons (aVar 0) aNil)) (gN 1))
    (aSeq (aAsg (aCall c_l_pairs xno aNil) (gN 2))
    (aSeq (aPar2 3 4 (aCons (aCall c_l_pick xno (aCons (aVar 1) (aCons (aVar 2) aNil))) (aCons (aCall c_l_pick xno (aCons (aVar 1) (aCons (aVar 2) aNil))) aNil)))
    (aSeq (aFor (aIt (aLst none (aCons (aVar 3) (aCons (aVar 4) aNil)))) (gT 2 (gs1 (gN 5) (gs1 (gN 6) gs0))) (aSeq (aIf (aOr (aNot (aTru (aCall c_l_are_ahead_right xno (aCons (aVar 1) (aCons (aVar 5) (aCons (aVar 6) aNil)))))) (aNot (aTru (aCall c_l_are_far_right xno (aCons (aVar 1) (aCons (aVar 5) (aCons (aVar 6) aNil))))))) (aRet (aC (.d (.bool false)))) aNx)
    (aIf (aOr (aNot (aTru (aCall c_l_are_ways_right xno (aCons (aVar 1) (aCons (aVar 5) (aCons (aVar 6) aNil)))))) (aNot (aTru (aCall c_l_are_depths_right xno (aCons (aVar 1) (aCons (aVar 5) (aCons (aVar 6) aNil))))))) (aRet (aC (.d (.bool false)))) aNx)))
    (aSeq (aAsg (aVar 3) (gT 2 (gs1 (gN 5) (gs1 (gN 6) gs0))))
    (aSeq (aIf (aNot (aTru (aCall c_l_are_words_right xno (aCons (aVar 1) (aCons (aVar 5) (aCons (aVar 6) aNil)))))) (aRet (aC (.d (.bool false)))) aNx)
    (aRet (aCall c_l_are_levels_right xno (aCons (aVar 1) (aCons (aBin arIx (aVar 4) (aC (.d (.int 0)))) (aCons (aBin arIx (aVar 4) (aC (.d (.int 1)))) aNil)))))))))))
theorem w_l_pick (Cl : Cls) (Fr : Addr → Prop) (svs : List SV) (Ω : Om) (Φ : PhiE) (Ξ : XA) (h : c_l_pick svs Ω Φ Ξ) :
    a_l_pick Cl Fr { nx := fun _ Ω => Φ (.d .none) Ω, rt := Φ } (startR N_l_pick svs) Ω := by
  obtain ⟨hB, ne, ln, k⟩ := h
  rename_i x ds L R
  conv => whnf
  refine .mk hB ?_ ?_ fun r Ω' r0 r1 hB' => ?_
  · have := List.length_pos_iff.mpr ne
    omega
  · have := log2_lt (n := ((ds.length : Nat) : Int).natAbs) (k := 60) (by simpa using ln) (by decide)
    omega
  · have lt : r.toNat < ds.length := by omega
    conv => whnf
    exact ⟨_, atI_i r0 (List.getElem?_eq_getElem lt), k _ (List.getElem_mem lt) _ hB'⟩
theorem w_l_same (Cl : Cls) (Fr : Addr → Prop) (svs : List SV) (Ω : Om) (Φ : PhiE) (Ξ : XA) (h : c_l_same svs Ω Φ Ξ) :
    a_l_same Cl Fr { nx := fun _ Ω => Φ (.d .none) Ω, rt := Φ } (startR N_l_same svs) Ω := by
  obtain ⟨s, k⟩ := h
  rename_i d
  rcases s.kind with ⟨i, rfl⟩ | ⟨ds, rfl⟩
  · conv => whnf
    refine br_F ?_
    conv => whnf
    refine ⟨_, _, rfl, rfl, ?_⟩
    conv => whnf
    refine br_F ?_
    conv => whnf
    refine ⟨_, _, rfl, rfl, ?_⟩
    conv => whnf
    refine br_F ?_
    conv => whnf
    refine ⟨_, _, rfl, rfl, ?_⟩
    conv => whnf
    refine br_T ?_
    conv => whnf
    refine ⟨s.sh, s.nd, s.dp, s.ln, ?_⟩
    conv => whnf
    refine ⟨s.sh, s.nd, s.dp, s.ln, ?_⟩
    conv => whnf
    refine br_d (fun _ => ?_) fun ne => absurd rfl ne
    conv => whnf
    rw [decide_eq_true rfl]
    exact k
  · conv => whnf
    refine br_F ?_
    conv => whnf
    refine ⟨_, _, rfl, rfl, ?_⟩
    conv => whnf
    refine br_T ?_
    conv => whnf
    refine ⟨_, _, rfl, rfl, ?_⟩
    conv => whnf
    refine br_T ?_
    conv => whnf
    refine ⟨s.sh, s.nd, s.dp, s.ln, ?_⟩
    conv => whnf
    refine ⟨s.sh, s.nd, s.dp, s.ln, ?_⟩
    conv => whnf
    refine br_d (fun _ => ?_) fun ne => absurd rfl ne
    conv => whnf
    refine ⟨s.fm, s.fm, ?_⟩
    conv => whnf
    rw [s.eq]
    exact k
theorem w_l_draw (Cl : Cls) (Fr : Addr → Prop) (svs : List SV) (Ω : Om) (Φ : PhiE) (Ξ : XA) (h : c_l_draw svs Ω Φ Ξ) :
    a_l_draw Cl Fr { nx := fun _ Ω => Φ (.d .none) Ω, rt := Φ } (startR N_l_draw svs) Ω := by
  obtain ⟨hB, b0, b1, k⟩ := h
  obtain ⟨hx, ok⟩ := hB
  rename_i x below L R b c n m is
  subst hx
  conv => whnf
  refine ⟨fun d ρ Ω' => ∃ (n : Int) (is : List Int) (ρ2 : Option SV), ρ = [some (.r (.ref b)), some (I below), ρ2, none] ∧ Ω' = L ++ (b, .lx [.r (.ref c), I n, I m]) :: (c, .lst (isD is)) :: R ∧ d = is.length ∧ BagOk n m is, ⟨_, _, _, _, rfl, rfl, rfl, ok⟩, ?_⟩
  clear ok n is
  rintro d ρ _ ⟨n, is, ρ2, rfl, rfl, rfl, ok⟩
  have A1 := At.app (At.here (a := b) (c := .lx [.r (.ref c), I n, I m]) (Ω := (c, .lst (isD is)) :: R)) L
  have A2 := At.app (At.there (p := (b, .lx [.r (.ref c), I n, I m])) (At.here (a := c) (c := .lst (isD is)) (Ω := R))) L
  have fin : ∀ ρ2, (aSeq
        (aIf (aB (aBin arGt (aBin arIx (aVar 0) (aC (.d (.int 1)))) (aC (.d (.int 0))))) (aSeq (aAsg (aBin arMod (aCB acInt (aCons (aBin arIx (aVar 0) (aC (.d (.int 1)))) aNil)) (aVar 1)) (gN 3))
    (aSeq (aSetIx (aBin arDiv (aBin arIx (aVar 0) (aC (.d (.int 1)))) (aVar 1)) (aVar 0) (aC (.d (.int 1))))
    (aRet (aVar 3)))) aNx)
    (aSeq (aSetIx (aBin arMod (aBin (arAdd none) (aBin arMul (aBin arIx (aVar 0) (aC (.d (.int 2)))) (aC (.d (.int 48271)))) (aC (.d (.int 11)))) (aC (.d (.int 2147483647)))) (aVar 0) (aC (.d (.int 2))))
    (aRet (aBin arMod (aBin arDiv (aBin arMod (aCB acInt (aCons (aBin arMul (aBin arIx (aVar 0) (aC (.d (.int 2)))) (aBin arIx (aVar 0) (aC (.d (.int 2))))) aNil)) (aC (.d (.int 2147483629)))) (aC (.d (.int 7)))) (aVar 1))))) { nx := fun _ Ω => Φ (.d .none) Ω, rt := Φ } [some (.r (.ref b)), some (I below), ρ2, none] (L ++ (b, .lx [.r (.ref c), I n, I m]) :: (c, .lst (isD is)) :: R) := by
    intro ρ2
    conv => whnf
    refine ⟨_, _, A1, ?_⟩
    conv => whnf
    refine ⟨_, rfl, ?_⟩
    conv => whnf
    refine br_d (fun gt => ?_) fun le => ?_
    · conv => whnf
      refine ⟨_, _, A1, ?_⟩
      conv => whnf
      refine ⟨_, rfl, ?_⟩
      conv => whnf
      refine ⟨b0, ?_⟩
      conv => whnf
      refine ⟨_, _, A1, ?_⟩
      conv => whnf
      refine ⟨_, rfl, ?_⟩
      conv => whnf
      refine ⟨⟨b0, b1⟩, ?_⟩
      conv => whnf
      refine ⟨_, _, A1, ?_⟩
      conv => whnf
      refine ⟨1, rfl, ?_⟩
      conv => whnf
      exact k _ _ (Int.emod_nonneg _ (by omega)) (Int.emod_lt_of_pos _ b0) (.mk rfl ⟨Int.ediv_nonneg ok.n0 (by omega), ok.m0, ok.m1, ok.i0⟩)
    · have m0 := ok.m0
      have m1 := ok.m1
      conv => whnf
      refine ⟨_, _, A1, ?_⟩
      conv => whnf
      refine ⟨_, rfl, ?_⟩
      conv => whnf
      refine ⟨cmul (by omega) (by omega) (by omega) (by omega), ?_⟩
      conv => whnf
      refine ⟨(by decide : (0 : Int) < 2147483647), ?_⟩
      conv => whnf
      refine ⟨_, _, A1, ?_⟩
      conv => whnf
      refine ⟨2, rfl, ?_⟩
      have z0 : 0 ≤ (m * 48271 + 11) % 2147483647 := by omega
      have z1 : (m * 48271 + 11) % 2147483647 < 2147483647 := by omega
      have A3 := At.app (At.here (a := b) (c := .lx [.r (.ref c), I n, I ((m * 48271 + 11) % 2147483647)]) (Ω := (c, .lst (isD is)) :: R)) L
      conv => whnf
      refine ⟨_, _, A3, ?_⟩
      conv => whnf
      refine ⟨_, rfl, ?_⟩
      conv => whnf
      refine ⟨_, _, A3, ?_⟩
      conv => whnf
      refine ⟨_, rfl, ?_⟩
      conv => whnf
      refine ⟨cmul (by omega) (by omega) (by omega) (by omega), ?_⟩
      conv => whnf
      refine ⟨(by decide : (0 : Int) < 2147483629), ?_⟩
      conv => whnf
      refine ⟨cdiv (by decide) (by decide), ?_⟩
      conv => whnf
      refine ⟨b0, ?_⟩
      conv => whnf
      exact k _ _ (Int.emod_nonneg _ (by omega)) (Int.emod_lt_of_pos _ b0) (.mk rfl ⟨ok.n0, z0, z1, ok.i0⟩)
  conv => whnf
  refine ⟨_, _, A1, ?_⟩
  conv => whnf
  refine ⟨_, rfl, ?_⟩
  conv => whnf
  refine br_d (fun e0 => ?_) fun ne => ?_
  · conv => whnf
    refine ⟨_, _, A1, ?_⟩
    conv => whnf
    refine ⟨_, rfl, ?_⟩
    conv => whnf
    refine ⟨by decide, ?_⟩
    conv => whnf
    refine ⟨_, _, A2, ?_⟩
    conv => whnf
    refine ⟨(shaped_isD is).2, shaped_nil, ?_⟩
    conv => whnf
    rw [eqv_nil]
    refine br_n (br_d (fun e => ?_) fun ne => ?_)
    · exact fin ρ2
    · conv => whnf
      refine ⟨_, _, A1, ?_⟩
      conv => whnf
      refine ⟨_, rfl, ?_⟩
      conv => whnf
      refine ⟨⟨_, _, A2, trivial⟩, ?_⟩
      obtain ⟨js, i, rfl⟩ : ∃ js i, is = js ++ [i] := ⟨is.dropLast, is.getLast ne, (List.dropLast_concat_getLast ne).symm⟩
      conv => whnf
      refine ⟨_, _, A2, .int i, by simp [isD], ?_⟩
      have e9 : (isD (js ++ [i])).dropLast = isD js := by simp [isD]
      have i0 := ok.i0 i (by simp)
      conv => whnf
      rw [e9]
      refine ⟨⟨by decide, by decide, by decide⟩, ?_⟩
      conv => whnf
      have A4 := At.app (At.here (a := b) (c := .lx [.r (.ref c), I n, I m]) (Ω := (c, .lst (isD js)) :: R)) L
      refine br_d (fun gt => ?_) fun le => ?_
      · conv => whnf
        refine ⟨_, _, A4, ?_⟩
        conv => whnf
        refine ⟨1, rfl, ?_⟩
        conv => whnf
        exact ⟨_, by simp, _, _, _, rfl, rfl, rfl, i0, ok.m0, ok.m1, fun j hj => ok.i0 j (by simp [hj])⟩
      · conv => whnf
        refine ⟨_, _, A4, ?_⟩
        conv => whnf
        refine ⟨1, rfl, ?_⟩
        conv => whnf
        exact ⟨_, by simp, _, _, _, rfl, rfl, rfl, Int.le_refl 0, ok.m0, ok.m1, fun j hj => ok.i0 j (by simp [hj])⟩
  · conv => whnf
    refine br_F ?_
    exact fin ρ2
theorem w_l_great (Cl : Cls) (Fr : Addr → Prop) (svs : List SV) (Ω : Om) (Φ : PhiE) (Ξ : XA) (h : c_l_great svs Ω Φ Ξ) :
    a_l_great Cl Fr { nx := fun _ Ω => Φ (.d .none) Ω, rt := Φ } (startR N_l_great svs) Ω := by
  obtain ⟨hB, b0, b1, k⟩ := h
  rename_i x below L R
  conv => whnf
  refine ⟨by decide, ?_⟩
  conv => whnf
  refine ⟨rfl, ?_⟩
  conv => whnf
  refine ⟨fun d ρ Ω' => ∃ f r : Int, ρ = [some x, some (I below), some (I f), some (I r)] ∧ Bag x L R Ω' ∧ d = (below * 10 ^ 9 - r).toNat ∧ 0 ≤ f ∧ f < r ∧ 1 ≤ r ∧ r ≤ below * 10 ^ 9, ⟨_, 0, 1, rfl, hB, rfl, by omega, by omega, by omega, by omega⟩, ?_⟩
  rintro d ρ Ω1 ⟨f, r, rfl, hB, rfl, f0, fr, r1, r2⟩
  conv => whnf
  refine ⟨cmul (by omega) (by omega) (by omega) (by omega), ?_⟩
  conv => whnf
  refine br_d (fun lt => ?_) fun ge => ?_
  · conv => whnf
    refine ⟨cmul (by omega) (by omega) (by omega) (by omega), ?_⟩
    conv => whnf
    refine .mk hB (by omega) (by decide) fun z Ω2 z0 z1 hB => ?_
    conv => whnf
    refine ⟨cmul (by omega) (by omega) (by omega) (by omega), ?_⟩
    conv => whnf
    refine ⟨_, ?_, _, _, rfl, hB, rfl, ?_, ?_, ?_, ?_⟩ <;> (try dsimp only) <;> omega
  · conv => whnf
    refine ⟨b0, ?_⟩
    conv => whnf
    exact k _ _ (Int.emod_nonneg _ (by omega)) (Int.emod_lt_of_pos _ b0) hB
theorem w_l_own_bag (Cl : Cls) (Fr : Addr → Prop) (svs : List SV) (Ω : Om) (Φ : PhiE) (Ξ : XA) (h : c_l_own_bag svs Ω Φ Ξ) :
    a_l_own_bag Cl Fr { nx := fun _ Ω => Φ (.d .none) Ω, rt := Φ } (startR N_l_own_bag svs) Ω := by
  obtain ⟨ok, k⟩ := h
  rename_i ns
  have cl := Nat.le_trans (cutD_len ns none (some 63)) ok.1
  conv => whnf
  refine ⟨?_, ?_⟩
  · rw [List.length_map, cutD_isD, isD, List.length_map]
    omega
  refine ⟨fun i acc Ω' => ∃ is : List Int, acc = (isD is).map SV.d ∧ Ω' = [] ∧ is.length = i ∧ ∀ z ∈ is, 0 ≤ z, ⟨[], rfl, rfl, rfl, by simp⟩, fun i acc Ω' ⟨is, h1, h2, h3, h4⟩ => ⟨trivial, by rw [h1, List.length_map, isD, List.length_map]; omega⟩, ?_, ?_⟩
  · rintro i x acc _ e ⟨is, rfl, rfl, rfl, nn⟩
    rw [cutD_isD] at e
    obtain ⟨z, -, rfl⟩ := get_isD e
    conv => whnf
    refine br_T ?_
    conv => whnf
    refine ⟨is ++ [if z < 0 then -z else z], ?_, rfl, by simp, ?_⟩
    · rw [← app_isD, List.map_append]
      rfl
    · intro y hy
      rcases List.mem_append.mp hy with hy | hy
      · exact nn y hy
      · obtain rfl := List.mem_singleton.mp hy
        split <;> omega
  rintro acc _ ⟨is, rfl, rfl, ln, nn⟩
  rw [List.length_map, cutD_isD, isD, List.length_map] at ln
  refine newX_d ?_
  conv => whnf
  refine ⟨fun j ρ Ω' => ∃ (mx : Int) (ρ3 : Option SV), ρ = [some (.l (isD ns)), some (.d (.list (isD is))), some (I mx), ρ3] ∧ Ω' = [] ∧ 0 ≤ mx ∧ mx < 2147483647, ⟨_, _, rfl, rfl, ?_, ?_⟩, fun _ _ _ _ => trivial, ?_, ?_⟩
  · omega
  · rw [isD, List.length_map]; omega
  · rintro j x ρ _ e ⟨mx, ρ3, rfl, rfl, m0, m1⟩
    obtain ⟨z, -, rfl⟩ := get_isD e
    conv => whnf
    refine ⟨cmul (by omega) (by omega) (by omega) (by omega), ?_⟩
    conv => whnf
    refine ⟨(by decide : (0 : Int) < 2147483629), ?_⟩
    conv => whnf
    refine ⟨(by decide : (0 : Int) < 2147483647), ?_⟩
    conv => whnf
    exact ⟨_, _, rfl, rfl, Int.emod_nonneg _ (by omega), Int.emod_lt_of_pos _ (by omega)⟩
  · rintro ρ _ ⟨mx, ρ3, rfl, rfl, m0, m1⟩
    conv => whnf
    refine ⟨trivial, ?_⟩
    intro c fc
    conv => whnf
    refine ⟨(by decide : 3 ≤ sizeLine), ?_⟩
    intro b fb
    conv => whnf
    have e : (isD is).reverse = isD is.reverse := by rw [isD, isD, List.map_reverse]
    refine k _ _ ?_
    show Bag (.r (.ref b)) [] [] ([(b, .lx [.r (.ref c), I 0, I mx]), (c, .lst (isD is).reverse)])
    rw [e]
    exact .mk (L := []) rfl ⟨Int.le_refl 0, m0, m1, fun i hi => nn i (List.mem_reverse.mp hi)⟩
theorem w_figures_ahead (Cl : Cls) (Fr : Addr → Prop) (svs : List SV) (Ω : Om) (Φ : PhiE) (Ξ : XA) (h : c_figures_ahead svs Ω Φ Ξ) :
    a_figures_ahead Cl Fr { nx := fun _ Ω => Φ (.d .none) Ω, rt := Φ } (startR N_figures_ahead svs) Ω := by
  obtain ⟨hq, n0, n1, k⟩ := h
  rename_i n p q
  have r := hq.rng
  have main : ∀ least : Int, ((least = 0 ∧ 1 ≤ n) ∨ (least = 1 ∧ n = 0)) → (aRet (aCB acTupOf (aCons (aLc none (aRng2 (aCons (aVar 3) (aCons (aVar 1) aNil))) (gN 4) (aB (aBin arEq (aBin arMod (aBin (arAdd none) (aBin arMul (aVar 1) (aVar 0)) (aVar 4)) (aVar 2)) (aC (.d (.int 0))))) (aVar 4) [4]) aNil))) { nx := fun _ Ω => Φ (.d .none) Ω, rt := Φ } [some (I n), some (I p), some (I q), some (I least), none] Ω := by
    intro least hl
    conv => whnf
    refine ⟨⟨by omega, by omega⟩, ⟨by omega, by omega⟩, ?_⟩
    conv => whnf
    refine ⟨by rw [rgS_len]; omega, ?_⟩
    refine ⟨fun i acc Ω' => acc = (isD (aheadTo n p q (least.toNat + i))).map SV.d ∧ Ω' = Ω, ⟨?_, rfl⟩, fun i acc Ω' ⟨h1, h2⟩ => ⟨trivial, ?_⟩, ?_, ?_⟩
    · rcases hl with ⟨rfl, _⟩ | ⟨rfl, rfl⟩
      · rfl
      · have e : aheadTo 0 p q ((1 : Int).toNat + 0) = [] := by
          show aheadTo 0 p q (0 + 1) = []
          rw [aheadTo_succ]
          have g : good 0 p q ((0 : Nat) : Int) = false := by unfold good; simp
          rw [g]
          rfl
        rw [e]
        rfl
    · rw [h1, List.length_map, isD, List.length_map]
      rcases hl with ⟨rfl, _⟩ | ⟨rfl, rfl⟩
      · exact Nat.le_trans (aheadTo_len _) (by simp)
      · have e : aheadTo 0 p q ((1 : Int).toNat + i) = aheadTo 0 p q (i + 1) := by rw [Nat.add_comm]; rfl
        rw [e]
        unfold aheadTo
        rw [List.range_succ_eq_map, List.map_cons, List.filter_cons]
        have g : good 0 p q ((0 : Nat) : Int) = false := by unfold good; simp
        rw [g]
        refine Nat.le_trans (List.length_filter_le _ _) ?_
        simp
    · rintro i x acc _ e ⟨rfl, rfl⟩
      obtain ⟨rfl, lt⟩ := rgS_get e
      conv => whnf
      refine ⟨cmulP (by omega) (by omega) (by omega) (by omega), ?_⟩
      conv => whnf
      refine ⟨show 0 < q by omega, ?_⟩
      conv => whnf
      have ev : least + (i : Int) = ((least.toNat + i : Nat) : Int) := by omega
      refine br_d (fun e0 => ?_) fun ne => ?_
      · conv => whnf
        have g : good n p q ((least.toNat + i : Nat) : Int) = true := by
          unfold good
          rw [← ev, decide_eq_true e0, decide_eq_true (by omega)]
          rfl
        refine ⟨?_, rfl⟩
        rw [← Nat.add_assoc, aheadTo_succ, g, if_pos rfl, ← app_isD, List.map_append, ← ev]
        rfl
      · conv => whnf
        have g : good n p q ((least.toNat + i : Nat) : Int) = false := by
          unfold good
          rw [← ev, decide_eq_false ne]
          rfl
        refine ⟨?_, rfl⟩
        rw [← Nat.add_assoc, aheadTo_succ, g]
        simp
    · rintro acc _ ⟨rfl, rfl⟩
      refine newX_d ?_
      conv => whnf
      rw [rgS_len]
      have e : least.toNat + (p - least).toNat = p.toNat := by omega
      rw [e]
      exact k
  conv => whnf
  refine br_d (fun e => ?_) fun ne => ?_
  · subst e
    exact main 1 (Or.inr ⟨rfl, rfl⟩)
  · exact main 0 (Or.inl ⟨rfl, by omega⟩)
theorem w_numbers_ahead (Cl : Cls) (Fr : Addr → Prop) (svs : List SV) (Ω : Om) (Φ : PhiE) (Ξ : XA) (h : c_numbers_ahead svs Ω Φ Ξ) :
    a_numbers_ahead Cl Fr { nx := fun _ Ω => Φ (.d .none) Ω, rt := Φ } (startR N_numbers_ahead svs) Ω := by
  obtain ⟨hq, n0, n1, k⟩ := h
  rename_i n p q
  have r := hq.rng
  conv => whnf
  refine .mk hq n0 n1 ?_
  conv => whnf
  have ln : (ahead n p q).length ≤ p.toNat := aheadTo_len _
  refine ⟨by rw [List.length_map, isD, List.length_map]; omega, ?_⟩
  refine ⟨fun i acc Ω' => acc = (isD (((ahead n p q).take i).map fun a => (p * n + a) / q)).map SV.d ∧ Ω' = Ω, ⟨rfl, rfl⟩, fun i acc Ω' ⟨h1, h2⟩ => ⟨trivial, ?_⟩, ?_, ?_⟩
  · rw [h1, List.length_map, isD, List.length_map, List.length_map, List.length_take]
    omega
  · rintro i x acc _ e ⟨rfl, rfl⟩
    obtain ⟨a, ha, rfl⟩ := get_isD e
    have m := aheadTo_mem (List.mem_of_getElem? ha)
    conv => whnf
    refine br_T ?_
    conv => whnf
    refine ⟨cmulP (by omega) (by omega) (by omega) (by omega), ?_⟩
    conv => whnf
    refine ⟨cdiv (by omega) (by omega), ?_⟩
    conv => whnf
    refine ⟨?_, rfl⟩
    have lt : i < (ahead n p q).length := (List.getElem?_eq_some_iff.mp ha).1
    rw [List.take_add_one, ha, List.map_append, ← app_isD, List.map_append]
    rfl
  · rintro acc _ ⟨rfl, rfl⟩
    refine newX_d ?_
    conv => whnf
    rw [List.length_map, isD, List.length_map, List.take_length]
    exact k
theorem w_l_ahead (Cl : Cls) (Fr : Addr → Prop) (svs : List SV) (Ω : Om) (Φ : PhiE) (Ξ : XA) (h : c_l_ahead svs Ω Φ Ξ) :
    a_l_ahead Cl Fr { nx := fun _ Ω => Φ (.d .none) Ω, rt := Φ } (startR N_l_ahead svs) Ω := by
  obtain ⟨hq, n0, n1, k⟩ := h
  rename_i n p q
  have r := hq.rng
  conv => whnf
  refine ⟨⟨by omega, by omega⟩, ?_⟩
  conv => whnf
  refine ⟨by rw [rgS_len]; omega, ?_⟩
  refine ⟨fun i acc Ω' => acc = (isD (aheadTo n p q i)).map SV.d ∧ Ω' = Ω, ⟨rfl, rfl⟩, fun i acc Ω' ⟨h1, h2⟩ => ⟨trivial, ?_⟩, ?_, ?_⟩
  · rw [h1, List.length_map, isD, List.length_map]
    exact aheadTo_len _
  · rintro i x acc _ e ⟨rfl, rfl⟩
    obtain ⟨rfl, lt⟩ := rgS_get e
    rw [Int.zero_add]
    conv => whnf
    refine ⟨cmulP (by omega) (by omega) (by omega) (by omega), ?_⟩
    conv => whnf
    refine ⟨show 0 < q by omega, ?_⟩
    conv => whnf
    refine br_d (fun e0 => ?_) fun ne => ?_
    · conv => whnf
      refine br_d (fun gt => ?_) fun le => ?_
      · conv => whnf
        have g : good n p q (i : Int) = true := by
          unfold good
          rw [decide_eq_true e0, decide_eq_true gt]
          rfl
        refine ⟨?_, rfl⟩
        rw [aheadTo_succ, g, if_pos rfl, ← app_isD, List.map_append]
        rfl
      · conv => whnf
        have g : good n p q (i : Int) = false := by
          unfold good
          rw [decide_eq_false le, Bool.and_false]
        refine ⟨?_, rfl⟩
        rw [aheadTo_succ, g]
        simp
    · refine br_F ?_
      have g : good n p q (i : Int) = false := by
        unfold good
        rw [decide_eq_false ne]
        rfl
      refine ⟨?_, rfl⟩
      rw [aheadTo_succ, g]
      simp
  · rintro acc _ ⟨rfl, rfl⟩
    refine newX_d ?_
    conv => whnf
    rw [rgS_len]
    exact k
theorem lohi240 {p q n : Int} (h : Pq p q) (h0 : 0 ≤ n) (hn : n ≤ 10 ^ 31) {k : Nat} (hk : k ≤ 200) : 0 ≤ lo p q n k ∧ lo p q n k ≤ 10 ^ 231 ∧ 0 ≤ hi p q n k ∧ hi p q n k ≤ 10 ^ 231 := by
  have a := lohi_bd h h0 hn k
  have b : (10 : Int) ^ (31 + k) ≤ 10 ^ 231 := ten_le (by omega)
  exact ⟨a.1, Int.le_trans a.2.1 b, a.2.2.1, Int.le_trans a.2.2.2 b⟩
theorem w_least_branch (Cl : Cls) (Fr : Addr → Prop) (svs : List SV) (Ω : Om) (Φ : PhiE) (Ξ : XA) (h : c_least_branch svs Ω Φ Ξ) :
    a_least_branch Cl Fr { nx := fun _ Ω => Φ (.d .none) Ω, rt := Φ } (startR N_least_branch svs) Ω := by
  obtain ⟨hq, n0, n1, k0, k1, k⟩ := h
  rename_i n K p q
  have r := hq.rng
  conv => whnf
  refine ⟨⟨by omega, by omega⟩, ?_⟩
  conv => whnf
  refine ⟨fun j ρ Ω' => ∃ ρ4, ρ = [some (I (lo p q n j)), some (I K), some (I p), some (I q), ρ4] ∧ Ω' = Ω, ⟨none, rfl, rfl⟩, fun _ _ _ _ => trivial, ?_, ?_⟩
  · rintro j x ρ _ e ⟨ρ4, rfl, rfl⟩
    have lt : j < K.toNat := by
      have := (List.getElem?_eq_some_iff.mp e).1
      rwa [rgS_len] at this
    have b := lohi240 hq n0 n1 (k := j) (by omega)
    conv => whnf
    refine ⟨cmulP (by omega) (by omega) (by omega) (by omega), ?_⟩
    conv => whnf
    refine ⟨cdiv (by omega) (by omega), ?_⟩
    conv => whnf
    exact ⟨_, rfl, rfl⟩
  · rintro ρ _ ⟨ρ4, rfl, rfl⟩
    conv => whnf
    rw [rgS_len]
    exact k
theorem w_greatest_branch (Cl : Cls) (Fr : Addr → Prop) (svs : List SV) (Ω : Om) (Φ : PhiE) (Ξ : XA) (h : c_greatest_branch svs Ω Φ Ξ) :
    a_greatest_branch Cl Fr { nx := fun _ Ω => Φ (.d .none) Ω, rt := Φ } (startR N_greatest_branch svs) Ω := by
  obtain ⟨hq, n0, n1, k0, k1, k⟩ := h
  rename_i n K p q
  have r := hq.rng
  conv => whnf
  refine ⟨⟨by omega, by omega⟩, ?_⟩
  conv => whnf
  refine ⟨fun j ρ Ω' => ∃ ρ4, ρ = [some (I (hi p q n j)), some (I K), some (I p), some (I q), ρ4] ∧ Ω' = Ω, ⟨none, rfl, rfl⟩, fun _ _ _ _ => trivial, ?_, ?_⟩
  · rintro j x ρ _ e ⟨ρ4, rfl, rfl⟩
    have lt : j < K.toNat := by
      have := (List.getElem?_eq_some_iff.mp e).1
      rwa [rgS_len] at this
    have b := lohi240 hq n0 n1 (k := j) (by omega)
    conv => whnf
    refine ⟨cmulP (by omega) (by omega) (by omega) (by omega), ?_⟩
    conv => whnf
    refine ⟨cdiv (by omega) (by omega), ?_⟩
    conv => whnf
    exact ⟨_, rfl, rfl⟩
  · rintro ρ _ ⟨ρ4, rfl, rfl⟩
    conv => whnf
    rw [rgS_len]
    exact k
theorem w_branch_count (Cl : Cls) (Fr : Addr → Prop) (svs : List SV) (Ω : Om) (Φ : PhiE) (Ξ : XA) (h : c_branch_count svs Ω Φ Ξ) :
    a_branch_count Cl Fr { nx := fun _ Ω => Φ (.d .none) Ω, rt := Φ } (startR N_branch_count svs) Ω := by
  obtain ⟨hq, n0, n1, k0, k1, k⟩ := h
  conv => whnf
  refine .mk hq n0 n1 k0 k1 ?_
  conv => whnf
  refine .mk hq n0 n1 k0 k1 ?_
  exact k
theorem w_l_ends (Cl : Cls) (Fr : Addr → Prop) (svs : List SV) (Ω : Om) (Φ : PhiE) (Ξ : XA) (h : c_l_ends svs Ω Φ Ξ) :
    a_l_ends Cl Fr { nx := fun _ Ω => Φ (.d .none) Ω, rt := Φ } (startR N_l_ends svs) Ω := by
  obtain ⟨hq, n0, n1, k0, k1, k⟩ := h
  rename_i n K p q
  have r := hq.rng
  conv => whnf
  refine ⟨⟨by omega, by omega⟩, ?_⟩
  conv => whnf
  refine ⟨fun j ρ Ω' => ∃ ρ6, ρ = [some (I n), some (I K), some (I p), some (I q), some (I (lo p q n j)), some (I (hi p q n j)), ρ6] ∧ Ω' = Ω, ⟨none, rfl, rfl⟩, fun _ _ _ _ => trivial, ?_, ?_⟩
  · rintro j x ρ _ e ⟨ρ6, rfl, rfl⟩
    have lt : j < K.toNat := by
      have := (List.getElem?_eq_some_iff.mp e).1
      rwa [rgS_len] at this
    have b := lohi240 hq n0 n1 (k := j) (by omega)
    conv => whnf
    refine ⟨cmulP (by omega) (by omega) (by omega) (by omega), ?_⟩
    conv => whnf
    refine ⟨cdiv (by omega) (by omega), ?_⟩
    conv => whnf
    refine ⟨cmulP (by omega) (by omega) (by omega) (by omega), ?_⟩
    conv => whnf
    refine ⟨cdiv (by omega) (by omega), ?_⟩
    conv => whnf
    refine ⟨some x, ?_, rfl⟩
    have u := (ud_all hq b.1).1
    show [some (I n), some (I K), some (I p), some (I q), some (I ((p * lo p q n j + q - 1) / q)), some (I ((p * hi p q n j + p - 1) / q)), some x] = _
    rw [u]
    rfl
  · rintro ρ _ ⟨ρ6, rfl, rfl⟩
    conv => whnf
    refine ⟨(by decide : 2 ≤ sizeLine), ?_⟩
    conv => whnf
    rw [rgS_len]
    exact k
theorem w_branch_number (Cl : Cls) (Fr : Addr → Prop) (svs : List SV) (Ω : Om) (Φ : PhiE) (Ξ : XA) (h : c_branch_number Cl svs Ω Φ Ξ) :
    a_branch_number Cl Fr Ξ { nx := fun _ Ω => Φ (.d .none) Ω, rt := Φ } (startR N_branch_number svs) Ω := by
  obtain ⟨hq, n0, n1, ln, fg, k1, k2⟩ := h
  rename_i n p q fs
  have r := hq.rng
  conv => whnf
  refine ⟨fun j ρ Ω' => ∃ m ρ4 ρ5, ρ = [some (I m), some (T (isD fs)), some (I p), some (I q), ρ4, ρ5] ∧ Ω' = Ω ∧ way p q n (fs.take j) = some m, ⟨n, none, none, rfl, rfl, rfl⟩, fun _ _ _ _ => trivial, ?_, ?_⟩
  · rintro j x ρ _ e ⟨m, ρ4, ρ5, rfl, rfl, w⟩
    obtain ⟨f, hf, rfl⟩ := get_isD e
    have lt : j < fs.length := (List.getElem?_eq_some_iff.mp hf).1
    have b := way_bd hq w (fun z hz => fg z (List.mem_of_mem_take hz)) n0 n1
    have b2 : (10 : Int) ^ (31 + (fs.take j).length) ≤ 10 ^ 236 := ten_le (by rw [List.length_take]; omega)
    have b3 : m ≤ 10 ^ 236 := Int.le_trans b.2 b2
    have ex : fs = fs.take j ++ f :: fs.drop (j + 1) := by
      have e2 := List.drop_eq_getElem_cons lt
      have e3 : fs[j] = f := by
        rw [List.getElem?_eq_getElem lt] at hf
        exact Option.some.inj hf
      rw [e3] at e2
      rw [← e2, List.take_append_drop]
    conv => whnf
    refine ⟨cmulP (by omega) (by omega) (by omega) (by omega), ?_⟩
    conv => whnf
    refine br_d (fun e0 => ?_) fun ne => ?_
    · refine br_T ?_
      conv => whnf
      exact k2 (by rw [ex]; exact way_bad w (Or.inl e0))
    · conv => whnf
      refine ⟨show 0 < q by omega, ?_⟩
      conv => whnf
      refine br_n (br_d (fun e1 => ?_) fun n1 => ?_)
      · conv => whnf
        refine ⟨cdiv (by omega) (by omega), ?_⟩
        conv => whnf
        refine ⟨_, _, _, rfl, rfl, ?_⟩
        rw [List.take_add_one, hf]
        exact way_snoc w ne e1
      · conv => whnf
        exact k2 (by rw [ex]; exact way_bad w (Or.inr n1))
  · rintro ρ _ ⟨m, ρ4, ρ5, rfl, rfl, w⟩
    conv => whnf
    rw [List.length_map, isD, List.length_map, List.take_length] at w
    exact k1 m w
theorem w_l_is_unfit (Cl : Cls) (e1 : Addr) (Ω : Om) (Φ : PhiE) (h : Φ (.d (.bool true)) Ω) :
    a_l_is_unfit Cl e1 { nx := fun _ Ω => Φ (.d .none) Ω, rt := Φ } (startR N_l_is_unfit [.r (.ref e1)]) Ω := by
  conv => whnf
  refine ⟨rfl, rfl, ?_⟩
  conv => whnf
  refine ⟨rfl, rfl, ?_⟩
  conv => whnf
  refine ⟨rfl, rfl, ?_⟩
  conv => whnf
  refine ⟨rfl, rfl, ?_⟩
  conv => whnf
  refine ⟨rfl, rfl, ?_⟩
  conv => whnf
  refine ⟨rfl, rfl, ?_⟩
  conv => whnf
  refine ⟨rfl, rfl, ?_⟩
  conv => whnf
  refine ⟨rfl, rfl, ?_⟩
  conv => whnf
  refine ⟨rfl, rfl, ?_⟩
  conv => whnf
  refine ⟨(by decide : 9 ≤ sizeLine), ?_⟩
  conv => whnf
  refine ⟨rfl, rfl, ?_⟩
  conv => whnf
  refine br_T ?_
  conv => whnf
  refine ⟨rfl, rfl, ?_⟩
  conv => whnf
  refine br_T ?_
  conv => whnf
  refine ⟨List.replicate 9 false, trivial, rfl, ?_⟩
  exact h
theorem w_l_way_told (Cl : Cls) (Fr : Addr → Prop) (svs : List SV) (Ω : Om) (Φ : PhiE) (Ξ : XA) (h : c_l_way_told svs Ω Φ Ξ) :
    a_l_way_told Cl Fr { nx := fun _ Ω => Φ (.d .none) Ω, rt := Φ } (startR N_l_way_told svs) Ω := by
  obtain ⟨hq, n0, n1, ln, fg, k1, k2⟩ := h
  conv => whnf
  refine .mk hq n0 n1 ln fg (fun r w => k1 r w) fun w => ?_
  refine ⟨rfl, fun a => ?_⟩
  conv => whnf
  refine ⟨rfl, ?_⟩
  conv => whnf
  refine br_T ?_
  exact k2 w
theorem w_alike_depth (Cl : Cls) (Fr : Addr → Prop) (svs : List SV) (Ω : Om) (Φ : PhiE) (Ξ : XA) (h : c_alike_depth svs Ω Φ Ξ) :
    a_alike_depth Cl Fr { nx := fun _ Ω => Φ (.d .none) Ω, rt := Φ } (startR N_alike_depth svs) Ω := by
  obtain ⟨hq, a0, a1, b0, b1, ne, k⟩ := h
  rename_i a b p q
  have r := hq.rng
  conv => whnf
  refine ⟨fun d ρ Ω' => ∃ (t : Nat) (c : Int), ρ = [some (I a), some (I b), some (I p), some (I q), some (I t), some (I c)] ∧ Ω' = Ω ∧ d = c.toNat ∧ 1 ≤ c ∧ (if a - b < 0 then -(a - b) else a - b) = q ^ t * c, ⟨_, 0, _, rfl, rfl, rfl, (by show 1 ≤ (if a - b < 0 then -(a - b) else a - b); split <;> omega), by simp⟩, ?_⟩
  rintro d ρ _ ⟨t, c, rfl, rfl, rfl, c1, e⟩
  conv => whnf
  refine ⟨show 0 < q by omega, ?_⟩
  conv => whnf
  refine br_d (fun e0 => ?_) fun ne0 => ?_
  · conv => whnf
    refine ⟨cdiv (by omega) (by omega), ?_⟩
    have ce : c = q * (c / q) := by have := Int.mul_ediv_add_emod c q; omega
    have c2 : 1 ≤ c / q ∧ c / q < c := by
      rcases hq.lits with ⟨rfl, rfl⟩ | ⟨rfl, rfl⟩ | ⟨rfl, rfl⟩ | ⟨rfl, rfl⟩ | ⟨rfl, rfl⟩ | ⟨rfl, rfl⟩ | ⟨rfl, rfl⟩ | ⟨rfl, rfl⟩ | ⟨rfl, rfl⟩ | ⟨rfl, rfl⟩ | ⟨rfl, rfl⟩ | ⟨rfl, rfl⟩ | ⟨rfl, rfl⟩ | ⟨rfl, rfl⟩ | ⟨rfl, rfl⟩ | ⟨rfl, rfl⟩ | ⟨rfl, rfl⟩ | ⟨rfl, rfl⟩ | ⟨rfl, rfl⟩ | ⟨rfl, rfl⟩ | ⟨rfl, rfl⟩ | ⟨rfl, rfl⟩ <;> omega
    conv => whnf
    refine ⟨_, ?_, t + 1, _, rfl, rfl, rfl, c2.1, ?_⟩
    · omega
    · rw [e, Int.pow_succ, Int.mul_assoc, ← ce]
  · conv => whnf
    exact k t ⟨c, e, ne0⟩
theorem w_l_some_k (Cl : Cls) (Fr : Addr → Prop) (svs : List SV) (Ω : Om) (Φ : PhiE) (Ξ : XA) (h : c_l_some_k svs Ω Φ Ξ) :
    a_l_some_k Cl Fr { nx := fun _ Ω => Φ (.d .none) Ω, rt := Φ } (startR N_l_some_k svs) Ω := by
  obtain ⟨hB, k⟩ := h
  conv => whnf
  refine .mk hB (by decide) (by decide) fun a Ω1 a0 a1 hB => ?_
  conv => whnf
  refine .mk hB (by decide) (by decide) fun b Ω1 b0 b1 hB => ?_
  conv => whnf
  refine .mk hB (by decide) (by decide) fun c Ω1 c0 c1 hB => ?_
  conv => whnf
  refine ⟨(by decide : 6 ≤ sizeLine), ?_⟩
  conv => whnf
  refine .mk hB (by simp) (by simp) fun d hd Ω1 hB => ?_
  have hd2 : ∃ z : Int, d = .int z ∧ 0 ≤ z ∧ z ≤ 200 := by
    simp at hd
    rcases hd with rfl | rfl | rfl | rfl | rfl | rfl <;> exact ⟨_, rfl, by omega, by omega⟩
  obtain ⟨z, rfl, z0, z1⟩ := hd2
  exact k _ _ z0 z1 hB
theorem w_l_number (Cl : Cls) (Fr : Addr → Prop) (svs : List SV) (Ω : Om) (Φ : PhiE) (Ξ : XA) (h : c_l_number svs Ω Φ Ξ) :
    a_l_number Cl Fr { nx := fun _ Ω => Φ (.d .none) Ω, rt := Φ } (startR N_l_number svs) Ω := by
  obtain ⟨hB, k⟩ := h
  rename_i x L R
  have t30 : (10 : Int) ^ (30 : Int).toNat = 10 ^ 30 := rfl
  conv => whnf
  refine .mk hB (by decide) (by decide) fun kind Ω1 k0 k1 hB => ?_
  conv => whnf
  refine br_d (fun e0 => ?_) fun _ => ?_
  · conv => whnf
    refine .mk hB (by decide) (by decide) fun z Ω1 z0 z1 hB => ?_
    exact k _ _ (by omega) (by omega) hB
  conv => whnf
  refine br_d (fun e1 => ?_) fun _ => ?_
  · conv => whnf
    refine ⟨⟨by decide, by decide, by decide⟩, ?_⟩
    conv => whnf
    refine .mk hB (by decide) (by decide) fun z Ω1 z0 z1 hB => ?_
    exact k _ _ (by omega) (by omega) hB
  conv => whnf
  refine .mk hB (by decide) (by decide) fun top Ω1 t0 t1 hB => ?_
  conv => whnf
  refine ⟨⟨by omega, by omega⟩, ?_⟩
  conv => whnf
  refine ⟨fun j ρ Ω' => ∃ ρ3, ρ = [some x, some (I kind), some (I (10 ^ j)), ρ3] ∧ Bag x L R Ω', ⟨none, rfl, hB⟩, fun _ _ _ _ => trivial, ?_, ?_⟩
  · rintro j y ρ Ω2 e ⟨ρ4, rfl, hB⟩
    have lt : j < (1 + top).toNat := by
      have := (List.getElem?_eq_some_iff.mp e).1
      rwa [rgS_len] at this
    have b : (10 : Int) ^ j ≤ 10 ^ 30 := ten_le (by omega)
    have b1 := ten_pos j
    conv => whnf
    refine ⟨cmul (by omega) (by omega) (by omega) (by omega), ?_⟩
    conv => whnf
    exact ⟨_, rfl, hB⟩
  rintro ρ Ω2 ⟨ρ4, rfl, hB⟩
  rw [rgS_len] at *
  have b : (10 : Int) ^ (1 + top).toNat ≤ 10 ^ 30 := ten_le (by omega)
  have b1 := ten_pos (1 + top).toNat
  generalize (10 : Int) ^ (1 + top).toNat = tp at b b1 ⊢
  conv => whnf
  refine .mk hB (by omega) (by omega) fun g Ω3 g0 g1 hB => ?_
  conv => whnf
  refine ⟨cdiv (by decide) (by decide), ?_⟩
  exact k _ _ (by omega) (by omega) hB
theorem w_l_some_pair (Cl : Cls) (Fr : Addr → Prop) (svs : List SV) (Ω : Om) (Φ : PhiE) (Ξ : XA) (h : c_l_some_pair svs Ω Φ Ξ) :
    a_l_some_pair Cl Fr { nx := fun _ Ω => Φ (.d .none) Ω, rt := Φ } (startR N_l_some_pair svs) Ω := by
  obtain ⟨hB, hq, k⟩ := h
  rename_i x p q L R
  have r := hq.rng
  conv => whnf
  refine .mk hB fun n Ω1 n0 n1 hB => ?_
  have t30 : (10 : Int) ^ (30 : Int).toNat = 10 ^ 30 := rfl
  conv => whnf
  refine .mk hB (by decide) (by decide) fun many Ω1 m0 m1 hB => ?_
  have main : ∀ one Ω1, 1 ≤ one → one ≤ 10 ^ 30 → Bag x L R Ω1 → (aSeq (aWhile (aAnd (aB (aBin arGt (aVar 5) (aC (.d (.int 0))))) (aB (aBin arLt (aBin arMul (aVar 4) (aVar 2)) (aBin arPow (aC (.d (.int 10))) (aC (.d (.int 30))))))) (aPar2 4 5 (aCons (aBin arMul (aVar 4) (aVar 2)) (aCons (aBin arSub (aVar 5) (aC (.d (.int 1)))) aNil)))) (aSeq (aAsg (aBin arMul (aVar 4) (aCall c_l_pick xno (aCons (aVar 0) (aCons (aLst none (aCons (aC (.d (.int 1))) (aCons (aC (.d (.int 1))) (aCons (aC (.d (.int 2))) (aCons (aC (.d (.int 3))) (aCons (aVar 1) (aCons (aBin (arAdd none) (aVar 2) (aC (.d (.int 1)))) (aCons (aBin (arAdd none) (aC (.d (.int 1))) (aCall c_l_draw xno (aCons (aVar 0) (aCons (aC (.d (.int 1000))) aNil)))) aNil)))))))) aNil)))) (gN 6)) (aSeq (aIf (aB (aBin arLe (aBin (arAdd none) (aVar 3) (aVar 6)) (aBin arPow (aC (.d (.int 10))) (aC (.d (.int 30)))))) (aRet (aTup (aCons (aVar 3) (aCons (aBin (arAdd none) (aVar 3) (aVar 6)) aNil)))) aNx) (aSeq (aIf (aB (aBin arGt (aVar 3) (aVar 6))) (aRet (aTup (aCons (aVar 3) (aCons (aBin arSub (aVar 3) (aVar 6)) aNil)))) aNx) (aRet (aIfE (aB (aBin arGt (aVar 4) (aC (.d (.int 9))))) (aTup (aCons (aBin (arAdd none) (aC (.d (.int 1))) (aCall c_l_draw xno (aCons (aVar 0) (aCons (aC (.d (.int 9))) aNil)))) (aCons (aBin (arAdd none) (aC (.d (.int 1))) (aVar 4)) aNil))) (aTup (aCons (aVar 3) (aCons (aIfE (aB (aBin arLt (aVar 3) (aBin arPow (aC (.d (.int 10))) (aC (.d (.int 30)))))) (aBin arPow (aC (.d (.int 10))) (aC (.d (.int 30)))) (aC (.d (.int 1)))) aNil))))))))) { nx := fun _ Ω => Φ (.d .none) Ω, rt := Φ } [some x, some (I p), some (I q), some (I one), some (I 1), some (I many), none] Ω1 := by
    intro one Ω1 o0 o1 hB
    conv => whnf
    refine ⟨fun d ρ Ω' => ∃ pw mn : Int, ρ = [some x, some (I p), some (I q), some (I one), some (I pw), some (I mn), none] ∧ Bag x L R Ω' ∧ d = mn.toNat ∧ 1 ≤ pw ∧ pw < 10 ^ 30, ⟨_, 1, many, rfl, hB, rfl, by decide, by decide⟩, ?_⟩
    rintro d ρ Ω2 ⟨pw, mn, rfl, hB, rfl, p1, p2⟩
    have fin : (aSeq (aAsg (aBin arMul (aVar 4) (aCall c_l_pick xno (aCons (aVar 0) (aCons (aLst none (aCons (aC (.d (.int 1))) (aCons (aC (.d (.int 1))) (aCons (aC (.d (.int 2))) (aCons (aC (.d (.int 3))) (aCons (aVar 1) (aCons (aBin (arAdd none) (aVar 2) (aC (.d (.int 1)))) (aCons (aBin (arAdd none) (aC (.d (.int 1))) (aCall c_l_draw xno (aCons (aVar 0) (aCons (aC (.d (.int 1000))) aNil)))) aNil)))))))) aNil)))) (gN 6)) (aSeq (aIf (aB (aBin arLe (aBin (arAdd none) (aVar 3) (aVar 6)) (aBin arPow (aC (.d (.int 10))) (aC (.d (.int 30)))))) (aRet (aTup (aCons (aVar 3) (aCons (aBin (arAdd none) (aVar 3) (aVar 6)) aNil)))) aNx) (aSeq (aIf (aB (aBin arGt (aVar 3) (aVar 6))) (aRet (aTup (aCons (aVar 3) (aCons (aBin arSub (aVar 3) (aVar 6)) aNil)))) aNx) (aRet (aIfE (aB (aBin arGt (aVar 4) (aC (.d (.int 9))))) (aTup (aCons (aBin (arAdd none) (aC (.d (.int 1))) (aCall c_l_draw xno (aCons (aVar 0) (aCons (aC (.d (.int 9))) aNil)))) (aCons (aBin (arAdd none) (aC (.d (.int 1))) (aVar 4)) aNil))) (aTup (aCons (aVar 3) (aCons (aIfE (aB (aBin arLt (aVar 3) (aBin arPow (aC (.d (.int 10))) (aC (.d (.int 30)))))) (aBin arPow (aC (.d (.int 10))) (aC (.d (.int 30)))) (aC (.d (.int 1)))) aNil)))))))) { nx := fun _ Ω => Φ (.d .none) Ω, rt := Φ } [some x, some (I p), some (I q), some (I one), some (I pw), some (I mn), none] Ω2 := by
      conv => whnf
      refine .mk hB (by decide) (by decide) fun a Ω3 a0 a1 hB => ?_
      conv => whnf
      refine ⟨(by decide : 7 ≤ sizeLine), ?_⟩
      conv => whnf
      refine .mk hB (by simp) (by simp) fun e he Ω4 hB => ?_
      have he2 : ∃ z : Int, e = .int z ∧ 1 ≤ z ∧ z ≤ 1000 := by
        simp at he
        rcases he with rfl | rfl | rfl | rfl | rfl | rfl <;> exact ⟨_, rfl, by omega, by omega⟩
      obtain ⟨z, rfl, z0, z1⟩ := he2
      conv => whnf
      refine ⟨cmul (by omega) (by omega) (by omega) (by omega), ?_⟩
      have st : 1 ≤ pw * z := Int.mul_pos (by omega) (by omega)
      conv => whnf
      refine ⟨⟨by decide, by decide, by decide⟩, ?_⟩
      conv => whnf
      refine br_d (fun le => ?_) fun gt => ?_
      · conv => whnf
        refine ⟨(by decide : 2 ≤ sizeLine), ?_⟩
        exact k _ _ _ o0 o1 (by omega) (by omega) (by omega) hB
      conv => whnf
      refine br_d (fun lt => ?_) fun ge => ?_
      · conv => whnf
        refine ⟨(by decide : 2 ≤ sizeLine), ?_⟩
        exact k _ _ _ o0 o1 (by omega) (by omega) (by omega) hB
      conv => whnf
      refine br_d (fun lt => ?_) fun ge => ?_
      · conv => whnf
        refine .mk hB (by decide) (by decide) fun y Ω5 y0 y1 hB => ?_
        conv => whnf
        refine ⟨(by decide : 2 ≤ sizeLine), ?_⟩
        exact k _ _ _ (by omega) (by omega) (by omega) (by omega) (by omega) hB
      · conv => whnf
        refine ⟨⟨by decide, by decide, by decide⟩, ?_⟩
        conv => whnf
        refine br_d (fun lt => ?_) fun ge => ?_
        · conv => whnf
          refine ⟨⟨by decide, by decide, by decide⟩, ?_⟩
          conv => whnf
          refine ⟨(by decide : 2 ≤ sizeLine), ?_⟩
          exact k _ _ _ o0 o1 (by omega) (by omega) (by omega) hB
        · conv => whnf
          refine ⟨(by decide : 2 ≤ sizeLine), ?_⟩
          exact k _ _ _ o0 o1 (by omega) (by omega) (by omega) hB
    conv => whnf
    refine br_d (fun gt => ?_) fun le => ?_
    · conv => whnf
      refine ⟨cmul (by omega) (by omega) (by omega) (by omega), ?_⟩
      conv => whnf
      refine ⟨⟨by decide, by decide, by decide⟩, ?_⟩
      conv => whnf
      refine br_d (fun lt => ?_) fun ge => ?_
      · conv => whnf
        refine ⟨cmul (by omega) (by omega) (by omega) (by omega), ?_⟩
        conv => whnf
        refine ⟨_, ?_, _, _, rfl, hB, rfl, ?_, ?_⟩
        · omega
        · have := Int.mul_pos (show 0 < pw by omega) (show 0 < q by omega)
          omega
        · omega
      · exact fin
    · refine br_F ?_
      exact fin
  conv => whnf
  refine .mk hB (by decide) (by decide) fun z Ω2 z0 z1 hB => ?_
  conv => whnf
  refine br_d (fun e0 => ?_) fun ne => ?_
  · conv => whnf
    refine .mk hB (by decide) (by decide) fun y Ω2 y0 y1 hB => ?_
    exact main _ _ (by omega) (by omega) hB
  · have mx : ∃ o, (if n > 1 then n else 1) = o ∧ 1 ≤ o ∧ o ≤ 10 ^ 30 := by
      split
      · exact ⟨_, rfl, by omega, by omega⟩
      · exact ⟨_, rfl, by omega, by omega⟩
    obtain ⟨o, eo, o0, o1⟩ := mx
    have := main (if n > 1 then n else 1) Ω2 (by rw [eo]; exact o0) (by rw [eo]; exact o1) hB
    exact this
theorem w_l_path (Cl : Cls) (Fr : Addr → Prop) (svs : List SV) (Ω : Om) (Φ : PhiE) (Ξ : XA) (h : c_l_path svs Ω Φ Ξ) :
    a_l_path Cl Fr { nx := fun _ Ω => Φ (.d .none) Ω, rt := Φ } (startR N_l_path svs) Ω := by
  obtain ⟨hB, hq, n0, n1, k0, k1, nz, k⟩ := h
  rename_i x n K p q L R
  have r := hq.rng
  conv => whnf
  refine ⟨⟨by decide, by decide⟩, ?_⟩
  conv => whnf
  refine ⟨by decide, ?_⟩
  refine ⟨fun i acc Ω' => ∃ is : List Int, acc = (isD is).map SV.d ∧ Bag x L R Ω' ∧ is.length = i ∧ ∀ z ∈ is, 0 ≤ z, ⟨[], rfl, hB, rfl, by simp⟩, fun i acc Ω' ⟨is, h1, h2, h3, h4⟩ => ⟨trivial, by rw [h1, List.length_map, isD, List.length_map]; omega⟩, ?_, ?_⟩
  · rintro i y acc Ω1 e ⟨is, rfl, hB, rfl, nn⟩
    conv => whnf
    refine br_T ?_
    conv => whnf
    refine .mk hB (by decide) (by decide) fun z Ω2 z0 z1 hB => ?_
    refine ⟨is ++ [z], ?_, hB, by simp, ?_⟩
    · rw [← app_isD, List.map_append]
      rfl
    · intro y hy
      rcases List.mem_append.mp hy with hy | hy
      · exact nn y hy
      · obtain rfl := List.mem_singleton.mp hy
        exact z0
  rintro acc Ω1 ⟨ts, rfl, hB, lt13, nn⟩
  rw [rgS_len] at lt13
  refine newX_d ?_
  conv => whnf
  refine ⟨by decide, ?_⟩
  intro c fc
  conv => whnf
  refine ⟨⟨by omega, by omega⟩, ?_⟩
  conv => whnf
  refine ⟨fun j ρ Ω' => ∃ m fs ρ7 ρ8, ρ = [some x, some (I m), some (I K), some (I p), some (I q), some (.d (.list (isD ts))), some (.r (.ref c)), ρ7, ρ8, none] ∧ Ω' = (c, .lst (isD fs)) :: Ω1 ∧ fs.length = j ∧ Figs p fs ∧ way p q n fs = some m ∧ (1 ≤ m ∨ K = 0), ⟨n, [], none, none, rfl, rfl, rfl, (by intro f hf; cases hf), rfl, nz⟩, fun _ _ _ _ => trivial, ?_, ?_⟩
  · rintro j y ρ _ e ⟨m, fs, ρ7, ρ8, rfl, rfl, rfl, fg, w, mz⟩
    obtain ⟨rfl, lt⟩ := rgS_get e
    have m1 : 1 ≤ m := by omega
    have b := way_bd hq w fg n0 n1
    have b2 : (10 : Int) ^ (30 + fs.length) ≤ 10 ^ 236 := ten_le (by omega)
    have b3 : m ≤ 10 ^ 236 := Int.le_trans b.2 b2
    conv => whnf
    refine .mk hq (by omega) (by omega) ?_
    conv => whnf
    refine ⟨⟨_, _, .here, trivial⟩, ?_⟩
    conv => whnf
    refine ⟨show (0 : Int) < 13 by decide, ?_⟩
    have hx : ∃ t, ts[(((0 : Int) + (fs.length : Nat)) % 13).toNat]? = some t := ⟨_, List.getElem?_eq_getElem (by simp at lt13; omega)⟩
    obtain ⟨t, ht⟩ := hx
    have an := ahead_ne hq m1
    have al : 0 < (ahead m p q).length := List.length_pos_iff.mpr an
    conv => whnf
    refine ⟨.int t, atI_i (Int.emod_nonneg _ (by decide)) (by rw [isD, List.getElem?_map, ht]; rfl), ?_⟩
    conv => whnf
    refine ⟨by rw [isD, List.length_map]; omega, ?_⟩
    have q0 := Int.emod_nonneg t (show ((isD (ahead m p q)).length : Int) ≠ 0 by rw [isD, List.length_map]; omega)
    have q1 := Int.emod_lt_of_pos t (show (0 : Int) < ((isD (ahead m p q)).length : Int) by rw [isD, List.length_map]; omega)
    have hx : ∃ f, (ahead m p q)[(t % ((isD (ahead m p q)).length : Int)).toNat]? = some f := by
      rw [isD, List.length_map] at q0 q1 ⊢
      exact ⟨_, List.getElem?_eq_getElem (by omega)⟩
    obtain ⟨f, hf⟩ := hx
    have fm := aheadTo_mem (List.mem_of_getElem? hf)
    conv => whnf
    refine ⟨.int f, atI_i q0 (by rw [isD, List.getElem?_map, hf]; rfl), ?_⟩
    conv => whnf
    refine ⟨_, _, .here, ?_⟩
    conv => whnf
    refine ⟨?_, ?_⟩
    · have z : sizeLine = 16777216 := by decide
      rw [isD, List.length_map]
      omega
    conv => whnf
    refine ⟨cmulP (by omega) (by omega) (by omega) (by omega), ?_⟩
    conv => whnf
    refine ⟨_, _, .here, ?_⟩
    conv => whnf
    refine ⟨.int f, atI_last _ _, ?_⟩
    conv => whnf
    refine ⟨cdiv (by omega) (by omega), ?_⟩
    conv => whnf
    refine ⟨_, fs ++ [f], _, _, rfl, ?_, by simp, ?_, way_snoc w (by rcases hq.lits with ⟨rfl, rfl⟩ | ⟨rfl, rfl⟩ | ⟨rfl, rfl⟩ | ⟨rfl, rfl⟩ | ⟨rfl, rfl⟩ | ⟨rfl, rfl⟩ | ⟨rfl, rfl⟩ | ⟨rfl, rfl⟩ | ⟨rfl, rfl⟩ | ⟨rfl, rfl⟩ | ⟨rfl, rfl⟩ | ⟨rfl, rfl⟩ | ⟨rfl, rfl⟩ | ⟨rfl, rfl⟩ | ⟨rfl, rfl⟩ | ⟨rfl, rfl⟩ | ⟨rfl, rfl⟩ | ⟨rfl, rfl⟩ | ⟨rfl, rfl⟩ | ⟨rfl, rfl⟩ | ⟨rfl, rfl⟩ | ⟨rfl, rfl⟩ <;> omega) fm.2.2.1, Or.inl ?_⟩
    · rw [← app_isD]
      rfl
    · intro g hg
      rcases List.mem_append.mp hg with z | z
      · exact fg g z
      · obtain rfl := List.mem_singleton.mp z
        exact ⟨fm.1, by omega⟩
    · have := fm.2.2.1
      rcases hq.lits with ⟨rfl, rfl⟩ | ⟨rfl, rfl⟩ | ⟨rfl, rfl⟩ | ⟨rfl, rfl⟩ | ⟨rfl, rfl⟩ | ⟨rfl, rfl⟩ | ⟨rfl, rfl⟩ | ⟨rfl, rfl⟩ | ⟨rfl, rfl⟩ | ⟨rfl, rfl⟩ | ⟨rfl, rfl⟩ | ⟨rfl, rfl⟩ | ⟨rfl, rfl⟩ | ⟨rfl, rfl⟩ | ⟨rfl, rfl⟩ | ⟨rfl, rfl⟩ | ⟨rfl, rfl⟩ | ⟨rfl, rfl⟩ | ⟨rfl, rfl⟩ | ⟨rfl, rfl⟩ | ⟨rfl, rfl⟩ | ⟨rfl, rfl⟩ <;> omega
  · rintro ρ _ ⟨m, fs, ρ7, ρ8, rfl, rfl, ln, fg, w, mz⟩
    rw [rgS_len] at ln
    conv => whnf
    refine ⟨_, _, .here, fc, _, .here, ?_⟩
    conv => whnf
    refine ⟨(by decide : 2 ≤ sizeLine), ?_⟩
    conv => whnf
    exact ⟨_, .refl _, k fs m _ (by omega) fg w hB⟩
theorem abs_dvd {z q : Int} : (if z < 0 then -z else z) % q = 0 ↔ z % q = 0 := by
  split
  · constructor
    · intro h
      exact Int.emod_eq_zero_of_dvd ((Int.dvd_neg).mp (Int.dvd_of_emod_eq_zero h))
    · intro h
      exact Int.emod_eq_zero_of_dvd ((Int.dvd_neg).mpr (Int.dvd_of_emod_eq_zero h))
  · exact Iff.rfl
theorem w_l_depth (Cl : Cls) (Fr : Addr → Prop) (svs : List SV) (Ω : Om) (Φ : PhiE) (Ξ : XA) (h : c_l_depth svs Ω Φ Ξ) :
    a_l_depth Cl Fr { nx := fun _ Ω => Φ (.d .none) Ω, rt := Φ } (startR N_l_depth svs) Ω := by
  obtain ⟨hq, a0, a1, b0, b1, ne, k⟩ := h
  rename_i a b p q
  have r := hq.rng
  have D0 : 1 ≤ (if a - b < 0 then -(a - b) else a - b) ∧ (if a - b < 0 then -(a - b) else a - b) ≤ 10 ^ 30 := by split <;> omega
  generalize eD : (if a - b < 0 then -(a - b) else a - b) = D at D0 k
  conv => whnf
  refine ⟨by decide, ?_⟩
  intro c fc
  conv => whnf
  refine ⟨fun d ρ Ω' => ∃ (x y e : Int) (fs : List Int), ρ = [some (I x), some (I y), some (I p), some (I q), some (.r (.ref c))] ∧ Ω' = (c, .lst (isD fs)) :: Ω ∧ d = e.toNat ∧ 1 ≤ e ∧ D = q ^ fs.length * e ∧ (if x - y < 0 then -(x - y) else x - y) = p ^ fs.length * e ∧ 1 ≤ x ∧ 1 ≤ y ∧ Figs p fs ∧ way p q a fs = some x ∧ way p q b fs = some y,
    ⟨_, a, b, D, [], rfl, rfl, rfl, by omega, by simp, by simpa using eD, a0, b0, (by intro f hf; cases hf), rfl, rfl⟩, ?_⟩
  rintro d ρ _ ⟨x, y, e, fs, rfl, rfl, rfl, e1, eD2, eX, x1, y1, fg, wa, wb⟩
  have l100 : fs.length ≤ 100 := by
    refine Nat.le_of_not_lt fun z => ?_
    have h1 : (2 : Int) ^ fs.length ≤ q ^ fs.length := by
      clear eD2 eX wa wb fg
      generalize fs.length = t
      induction t with
      | zero => simp
      | succ t ih =>
        rw [Int.pow_succ, Int.pow_succ]
        have p2 : (0 : Int) ≤ 2 ^ t := Int.pow_nonneg (by decide)
        exact Int.mul_le_mul ih r.2.2.1 (by decide) (by omega)
    have h2 : (2 : Int) ^ 101 ≤ 2 ^ fs.length := by
      obtain ⟨s, hs⟩ : ∃ s, fs.length = 101 + s := ⟨fs.length - 101, by omega⟩
      rw [hs, Int.pow_add]
      have : (0 : Int) < 2 ^ s := Int.pow_pos (by decide)
      have z := Int.mul_le_mul_of_nonneg_left (show (1 : Int) ≤ 2 ^ s by omega) (show (0 : Int) ≤ 2 ^ 101 by decide)
      omega
    have h3 := Int.mul_le_mul_of_nonneg_left e1 (show (0 : Int) ≤ q ^ fs.length by omega)
    omega
  have bx := way_bd hq wa fg (by omega) a1
  have by_ := way_bd hq wb fg (by omega) b1
  have b2 : (10 : Int) ^ (30 + fs.length) ≤ 10 ^ 236 := ten_le (by omega)
  have x2 : x ≤ 10 ^ 236 := Int.le_trans bx.2 b2
  have y2 : y ≤ 10 ^ 236 := Int.le_trans by_.2 b2
  conv => whnf
  refine .mk hq (by omega) (by omega) ?_
  conv => whnf
  refine .mk hq (by omega) (by omega) ?_
  conv => whnf
  refine ⟨(shaped_isD _).2, (shaped_isD _).2, ?_⟩
  conv => whnf
  rw [show PyData.eqv (.list (isD (ahead x p q))) (.list (isD (ahead y p q))) = decide (ahead x p q = ahead y p q) by rw [PyData.eqv]; exact eqvAll_isD _ _]
  have cd := co_dvd hq (c := e) (by omega) fs.length
  rw [← eX] at cd
  have an := ahead_ne hq x1
  have al : 0 < (ahead x p q).length := List.length_pos_iff.mpr an
  refine br_d (fun eq => ?_) fun neq => ?_
  · have xy := (ahead_eq hq x1 y1).mp eq
    have ed : e % q = 0 := cd.mp (abs_dvd.mpr xy)
    have ee : e = q * (e / q) := by have := Int.mul_ediv_add_emod e q; omega
    conv => whnf
    refine ⟨⟨_, _, .here, trivial⟩, ?_⟩
    conv => whnf
    refine .mk hq (by omega) (by omega) ?_
    conv => whnf
    refine ⟨_, _, .here, ?_⟩
    conv => whnf
    refine .mk hq (by omega) (by omega) ?_
    conv => whnf
    refine ⟨by show (0 : Int) < ((isD (ahead x p q)).length : Int); rw [isD, List.length_map]; omega, ?_⟩
    have q0 := Int.emod_nonneg ((isD fs).length : Int) (show ((isD (ahead x p q)).length : Int) ≠ 0 by rw [isD, List.length_map]; omega)
    have q1 := Int.emod_lt_of_pos ((isD fs).length : Int) (show (0 : Int) < ((isD (ahead x p q)).length : Int) by rw [isD, List.length_map]; omega)
    have hx : ∃ f, (ahead x p q)[(((isD fs).length : Int) % ((isD (ahead x p q)).length : Int)).toNat]? = some f := by
      refine ⟨_, List.getElem?_eq_getElem ?_⟩
      have : (isD (ahead x p q)).length = (ahead x p q).length := by rw [isD, List.length_map]
      omega
    obtain ⟨f, hf⟩ := hx
    have fm := aheadTo_mem (List.mem_of_getElem? hf)
    have fm2 := aheadTo_mem (n := y) (m := p.toNat) (by have := List.mem_of_getElem? hf; rw [eq] at this; exact this)
    conv => whnf
    refine ⟨.int f, atI_i q0 (by rw [isD, List.getElem?_map, hf]; rfl), ?_⟩
    conv => whnf
    refine ⟨_, _, .here, ?_⟩
    conv => whnf
    refine ⟨?_, ?_⟩
    · have z : sizeLine = 16777216 := by decide
      rw [isD, List.length_map]
      omega
    conv => whnf
    refine ⟨cmulP (by omega) (by omega) (by omega) (by omega), ?_⟩
    conv => whnf
    refine ⟨_, _, .here, ?_⟩
    conv => whnf
    refine ⟨.int f, atI_last _ _, ?_⟩
    conv => whnf
    refine ⟨cdiv (by omega) (by omega), ?_⟩
    conv => whnf
    refine ⟨cmulP (by omega) (by omega) (by omega) (by omega), ?_⟩
    conv => whnf
    refine ⟨_, _, .here, ?_⟩
    conv => whnf
    refine ⟨.int f, atI_last _ _, ?_⟩
    conv => whnf
    refine ⟨cdiv (by omega) (by omega), ?_⟩
    have e2 : 1 ≤ e / q ∧ e / q < e := by
      rcases hq.lits with ⟨rfl, rfl⟩ | ⟨rfl, rfl⟩ | ⟨rfl, rfl⟩ | ⟨rfl, rfl⟩ | ⟨rfl, rfl⟩ | ⟨rfl, rfl⟩ | ⟨rfl, rfl⟩ | ⟨rfl, rfl⟩ | ⟨rfl, rfl⟩ | ⟨rfl, rfl⟩ | ⟨rfl, rfl⟩ | ⟨rfl, rfl⟩ | ⟨rfl, rfl⟩ | ⟨rfl, rfl⟩ | ⟨rfl, rfl⟩ | ⟨rfl, rfl⟩ | ⟨rfl, rfl⟩ | ⟨rfl, rfl⟩ | ⟨rfl, rfl⟩ | ⟨rfl, rfl⟩ | ⟨rfl, rfl⟩ | ⟨rfl, rfl⟩ <;> omega
    conv => whnf
    refine ⟨_, ?_, _, _, e / q, fs ++ [f], rfl, ?_, rfl, e2.1, ?_, ?_, ?_, ?_, ?_, way_snoc wa (by rcases hq.lits with ⟨rfl, rfl⟩ | ⟨rfl, rfl⟩ | ⟨rfl, rfl⟩ | ⟨rfl, rfl⟩ | ⟨rfl, rfl⟩ | ⟨rfl, rfl⟩ | ⟨rfl, rfl⟩ | ⟨rfl, rfl⟩ | ⟨rfl, rfl⟩ | ⟨rfl, rfl⟩ | ⟨rfl, rfl⟩ | ⟨rfl, rfl⟩ | ⟨rfl, rfl⟩ | ⟨rfl, rfl⟩ | ⟨rfl, rfl⟩ | ⟨rfl, rfl⟩ | ⟨rfl, rfl⟩ | ⟨rfl, rfl⟩ | ⟨rfl, rfl⟩ | ⟨rfl, rfl⟩ | ⟨rfl, rfl⟩ | ⟨rfl, rfl⟩ <;> omega) fm.2.2.1, way_snoc wb (by rcases hq.lits with ⟨rfl, rfl⟩ | ⟨rfl, rfl⟩ | ⟨rfl, rfl⟩ | ⟨rfl, rfl⟩ | ⟨rfl, rfl⟩ | ⟨rfl, rfl⟩ | ⟨rfl, rfl⟩ | ⟨rfl, rfl⟩ | ⟨rfl, rfl⟩ | ⟨rfl, rfl⟩ | ⟨rfl, rfl⟩ | ⟨rfl, rfl⟩ | ⟨rfl, rfl⟩ | ⟨rfl, rfl⟩ | ⟨rfl, rfl⟩ | ⟨rfl, rfl⟩ | ⟨rfl, rfl⟩ | ⟨rfl, rfl⟩ | ⟨rfl, rfl⟩ | ⟨rfl, rfl⟩ | ⟨rfl, rfl⟩ | ⟨rfl, rfl⟩ <;> omega) fm2.2.2.1⟩
    · omega
    · rw [← app_isD]
      rfl
    · rw [List.length_append, List.length_singleton, Int.pow_succ, Int.mul_assoc, ← ee]
      exact eD2
    · rw [List.length_append, List.length_singleton, Int.pow_succ, Int.mul_assoc]
      have e3 : (p : Int) ^ fs.length * e = q * (p ^ fs.length * (e / q)) := by
        conv => lhs; rw [ee]
        rw [← Int.mul_assoc, Int.mul_comm _ q, Int.mul_assoc]
      rw [e3] at eX
      have e4 : (p : Int) ^ fs.length * (p * (e / q)) = p * (p ^ fs.length * (e / q)) := by
        rw [← Int.mul_assoc, Int.mul_comm _ p, Int.mul_assoc]
      rw [e4]
      generalize (p : Int) ^ fs.length * (e / q) = w at eX
      have h1 := fm.2.2.1
      have h2 := fm2.2.2.1
      clear e3 e4 eD2 wa wb hf fm fm2 b2 bx by_
      rcases hq.lits with ⟨rfl, rfl⟩ | ⟨rfl, rfl⟩ | ⟨rfl, rfl⟩ | ⟨rfl, rfl⟩ | ⟨rfl, rfl⟩ | ⟨rfl, rfl⟩ | ⟨rfl, rfl⟩ | ⟨rfl, rfl⟩ | ⟨rfl, rfl⟩ | ⟨rfl, rfl⟩ | ⟨rfl, rfl⟩ | ⟨rfl, rfl⟩ | ⟨rfl, rfl⟩ | ⟨rfl, rfl⟩ | ⟨rfl, rfl⟩ | ⟨rfl, rfl⟩ | ⟨rfl, rfl⟩ | ⟨rfl, rfl⟩ | ⟨rfl, rfl⟩ | ⟨rfl, rfl⟩ | ⟨rfl, rfl⟩ | ⟨rfl, rfl⟩ <;> (split at eX <;> split <;> omega)
    · have h1 := fm.2.2.1
      have h0 := fm.1
      clear wa wb hf fm fm2 b2 bx by_ eX eD2
      rcases hq.lits with ⟨rfl, rfl⟩ | ⟨rfl, rfl⟩ | ⟨rfl, rfl⟩ | ⟨rfl, rfl⟩ | ⟨rfl, rfl⟩ | ⟨rfl, rfl⟩ | ⟨rfl, rfl⟩ | ⟨rfl, rfl⟩ | ⟨rfl, rfl⟩ | ⟨rfl, rfl⟩ | ⟨rfl, rfl⟩ | ⟨rfl, rfl⟩ | ⟨rfl, rfl⟩ | ⟨rfl, rfl⟩ | ⟨rfl, rfl⟩ | ⟨rfl, rfl⟩ | ⟨rfl, rfl⟩ | ⟨rfl, rfl⟩ | ⟨rfl, rfl⟩ | ⟨rfl, rfl⟩ | ⟨rfl, rfl⟩ | ⟨rfl, rfl⟩ <;> omega
    · have h1 := fm2.2.2.1
      have h0 := fm.1
      clear wa wb hf fm fm2 b2 bx by_ eX eD2
      rcases hq.lits with ⟨rfl, rfl⟩ | ⟨rfl, rfl⟩ | ⟨rfl, rfl⟩ | ⟨rfl, rfl⟩ | ⟨rfl, rfl⟩ | ⟨rfl, rfl⟩ | ⟨rfl, rfl⟩ | ⟨rfl, rfl⟩ | ⟨rfl, rfl⟩ | ⟨rfl, rfl⟩ | ⟨rfl, rfl⟩ | ⟨rfl, rfl⟩ | ⟨rfl, rfl⟩ | ⟨rfl, rfl⟩ | ⟨rfl, rfl⟩ | ⟨rfl, rfl⟩ | ⟨rfl, rfl⟩ | ⟨rfl, rfl⟩ | ⟨rfl, rfl⟩ | ⟨rfl, rfl⟩ | ⟨rfl, rfl⟩ | ⟨rfl, rfl⟩ <;> omega
    · intro g hg
      rcases List.mem_append.mp hg with z | z
      · exact fg g z
      · obtain rfl := List.mem_singleton.mp z
        exact ⟨fm.1, by omega⟩
  · have xy : ¬ (x - y) % q = 0 := fun z => neq ((ahead_eq hq x1 y1).mpr z)
    have ed : ¬ e % q = 0 := fun z => xy (abs_dvd.mp (cd.mpr z))
    conv => whnf
    refine .mk hq (by omega) (by omega) ?_
    obtain ⟨f, hf⟩ : ∃ f, (ahead x p q)[0]? = some f := ⟨_, List.getElem?_eq_getElem al⟩
    have fm := aheadTo_mem (List.mem_of_getElem? hf)
    conv => whnf
    refine ⟨.int f, atI_i (by decide) (by rw [isD, List.getElem?_map]; show ((ahead x p q)[0]?).map _ = _; rw [hf]; rfl), ?_⟩
    conv => whnf
    refine ⟨(by decide : 1 ≤ sizeLine), ?_⟩
    conv => whnf
    refine ⟨_, _, .here, ?_⟩
    conv => whnf
    refine ⟨?_, ?_⟩
    · have z : sizeLine = 16777216 := by decide
      rw [isD, List.length_map]
      show fs.length + 1 ≤ _
      omega
    conv => whnf
    refine ⟨_, .cons _ (.refl _), ?_⟩
    have e5 : isD fs ++ [PyData.int f] = isD (fs ++ [f]) := app_isD fs [f]
    rw [e5]
    refine k fs.length (fs ++ [f]) _ ⟨e, eD2, ed⟩ (by simp) l100 ?_ (way_snoc wa (by rcases hq.lits with ⟨rfl, rfl⟩ | ⟨rfl, rfl⟩ | ⟨rfl, rfl⟩ | ⟨rfl, rfl⟩ | ⟨rfl, rfl⟩ | ⟨rfl, rfl⟩ | ⟨rfl, rfl⟩ | ⟨rfl, rfl⟩ | ⟨rfl, rfl⟩ | ⟨rfl, rfl⟩ | ⟨rfl, rfl⟩ | ⟨rfl, rfl⟩ | ⟨rfl, rfl⟩ | ⟨rfl, rfl⟩ | ⟨rfl, rfl⟩ | ⟨rfl, rfl⟩ | ⟨rfl, rfl⟩ | ⟨rfl, rfl⟩ | ⟨rfl, rfl⟩ | ⟨rfl, rfl⟩ | ⟨rfl, rfl⟩ | ⟨rfl, rfl⟩ <;> omega) fm.2.2.1) (way_bad wb (Or.inr (apart hq xy fm.2.2.1)))
    intro g hg
    rcases List.mem_append.mp hg with z | z
    · exact fg g z
    · obtain rfl := List.mem_singleton.mp z
      exact ⟨fm.1, by omega⟩
theorem w_l_are_far_right (Cl : Cls) (Fr : Addr → Prop) (svs : List SV) (Ω : Om) (Φ : PhiE) (Ξ : XA) (h : c_l_are_far_right svs Ω Φ Ξ) :
    a_l_are_far_right Cl Fr { nx := fun _ Ω => Φ (.d .none) Ω, rt := Φ } (startR N_l_are_far_right svs) Ω := by
  obtain ⟨hB, hq, k⟩ := h
  rename_i x p q L R
  have r := hq.rng
  have t30 : (10 : Int) ^ (30 : Int).toNat = 10 ^ 30 := rfl
  conv => whnf
  refine .mk hB fun n Ω1 n0 n1 hB => ?_
  conv => whnf
  refine .mk hB fun kk Ω1 k0 k1 hB => ?_
  conv => whnf
  refine ⟨⟨by decide, by decide⟩, ?_⟩
  have mx : ∃ o, (if n > 1 then n else 1) = o ∧ 1 ≤ o ∧ o ≤ 10 ^ 30 := by
    split
    · exact ⟨_, rfl, by omega, by omega⟩
    · exact ⟨_, rfl, by omega, by omega⟩
  obtain ⟨o, eo, o0, o1⟩ := mx
  conv => whnf
  refine ⟨fun j ρ Ω' => ∃ (nn kk : Int) (ρ5 ρ6 ρ7 : Option SV), ρ = [some x, some (I p), some (I q), some (I nn), some (I kk), ρ5, ρ6, ρ7] ∧ Bag x L R Ω' ∧ 1 ≤ nn ∧ nn ≤ 10 ^ 30 ∧ 0 ≤ kk ∧ kk ≤ 200, ⟨if n > 1 then n else 1, kk, none, none, none, rfl, hB, by rw [eo]; exact o0, by rw [eo]; exact o1, k0, k1⟩, fun _ _ _ _ => trivial, ?_, ?_⟩
  · clear eo o0 o1 o n0 n1 k0 k1 hB kk n
    rintro j y ρ Ω2 e ⟨n, kk, ρ5, ρ6, ρ7, rfl, hB, n0, n1, k0, k1⟩
    have b := lohi240 hq (by omega) (show n ≤ 10 ^ 31 by omega) (k := kk.toNat) (by omega)
    have lh := lo_hi hq (n := n) (by omega) kk.toNat
    have lg := lo_ge hq (n := n) (by omega) kk.toNat
    conv => whnf
    refine .mk hq (by omega) (by omega) k0 k1 ?_
    conv => whnf
    refine ⟨rfl, ?_⟩
    conv => whnf
    refine .mk hq (by omega) (by omega) k0 k1 ?_
    conv => whnf
    refine .mk (bigSame b.1 (by omega)) ?_
    conv => whnf
    refine br_F ?_
    conv => whnf
    refine .mk hq (by omega) (by omega) k0 k1 ?_
    conv => whnf
    refine .mk (bigSame b.2.2.1 (by omega)) ?_
    conv => whnf
    refine br_F ?_
    conv => whnf
    refine .mk hq (by omega) (by omega) k0 k1 ?_
    conv => whnf
    refine .mk (bigSame (by omega) (by omega)) ?_
    conv => whnf
    refine br_F ?_
    have end8 : (aPar2 3 4 (aCons (aBin (arAdd none) (aC (.d (.int 1))) (aCall c_l_draw xno (aCons (aVar 0) (aCons (aC (.d (.int 40))) aNil)))) (aCons (aCall c_l_some_k xno (aCons (aVar 0) aNil)) aNil))) { nx := fun ρ Ω' => ∃ (nn kk : Int) (ρ5 ρ6 ρ7 : Option SV), ρ = [some x, some (I p), some (I q), some (I nn), some (I kk), ρ5, ρ6, ρ7] ∧ Bag x L R Ω' ∧ 1 ≤ nn ∧ nn ≤ 10 ^ 30 ∧ 0 ≤ kk ∧ kk ≤ 200, rt := Φ, bk := fun _ _ => False, ct := fun ρ Ω' => ∃ (nn kk : Int) (ρ5 ρ6 ρ7 : Option SV), ρ = [some x, some (I p), some (I q), some (I nn), some (I kk), ρ5, ρ6, ρ7] ∧ Bag x L R Ω' ∧ 1 ≤ nn ∧ nn ≤ 10 ^ 30 ∧ 0 ≤ kk ∧ kk ≤ 200 } [some x, some (I p), some (I q), some (I n), some (I kk), some y, some (I (lo p q n kk.toNat)), some (I (hi p q n kk.toNat))] Ω2 := by
      conv => whnf
      refine .mk hB (by decide) (by decide) fun z Ω3 z0 z1 hB => ?_
      conv => whnf
      refine .mk hB fun kk2 Ω4 k20 k21 hB => ?_
      conv => whnf
      exact ⟨_, _, _, _, _, rfl, hB, by omega, by omega, k20, k21⟩
    have end7 : (aSeq (aIf (aAnd (aB (aBin arGt (aVar 3) (aC (.d (.int 1))))) (aNot (aTru (aCall c_l_same xno (aCons (aCall c_greatest_branch xno (aCons (aBin arSub (aVar 3) (aC (.d (.int 1)))) (aCons (aVar 4) (aCons (aVar 1) (aCons (aVar 2) aNil))))) (aCons (aBin arSub (aVar 6) (aC (.d (.int 1)))) aNil)))))) (aRet (aC (.d (.bool false)))) aNx) (aPar2 3 4 (aCons (aBin (arAdd none) (aC (.d (.int 1))) (aCall c_l_draw xno (aCons (aVar 0) (aCons (aC (.d (.int 40))) aNil)))) (aCons (aCall c_l_some_k xno (aCons (aVar 0) aNil)) aNil)))) { nx := fun ρ Ω' => ∃ (nn kk : Int) (ρ5 ρ6 ρ7 : Option SV), ρ = [some x, some (I p), some (I q), some (I nn), some (I kk), ρ5, ρ6, ρ7] ∧ Bag x L R Ω' ∧ 1 ≤ nn ∧ nn ≤ 10 ^ 30 ∧ 0 ≤ kk ∧ kk ≤ 200, rt := Φ, bk := fun _ _ => False, ct := fun ρ Ω' => ∃ (nn kk : Int) (ρ5 ρ6 ρ7 : Option SV), ρ = [some x, some (I p), some (I q), some (I nn), some (I kk), ρ5, ρ6, ρ7] ∧ Bag x L R Ω' ∧ 1 ≤ nn ∧ nn ≤ 10 ^ 30 ∧ 0 ≤ kk ∧ kk ≤ 200 } [some x, some (I p), some (I q), some (I n), some (I kk), some y, some (I (lo p q n kk.toNat)), some (I (hi p q n kk.toNat))] Ω2 := by
      conv => whnf
      refine br_d (fun gt => ?_) fun le => ?_
      · conv => whnf
        refine .mk hq (by omega) (by omega) k0 k1 ?_
        have e7 : hi p q (n - 1) kk.toNat = lo p q n kk.toNat - 1 := by
          have z := lo_next hq (n := n - 1) (by omega) kk.toNat
          rw [show n - 1 + 1 = n by omega] at z
          omega
        conv => whnf
        rw [e7]
        refine .mk (bigSame (by omega) (by omega)) ?_
        conv => whnf
        refine br_F ?_
        exact end8
      · refine br_F ?_
        exact end8
    conv => whnf
    refine ⟨⟨by decide, by decide, by decide⟩, ?_⟩
    conv => whnf
    refine br_d (fun lt => ?_) fun ge => ?_
    · conv => whnf
      refine .mk hq (by omega) (by omega) k0 k1 ?_
      rw [lo_next hq (by omega)]
      conv => whnf
      refine .mk (bigSame (by omega) (by omega)) ?_
      conv => whnf
      refine br_F ?_
      exact end7
    · refine br_F ?_
      exact end7
  · rintro ρ Ω2 ⟨nn, kk, ρ5, ρ6, ρ7, rfl, hB, _⟩
    exact k _ hB
theorem cut_to {α : Type} {xs : List α} {a : Int} (h0 : 0 ≤ a) : Z.cutD xs none (some a) = xs.take a.toNat := by
  unfold Z.cutD
  rw [HT.sIx_none, show (some a : Option Int) = some ((a.toNat : Nat) : Int) by rw [Int.toNat_of_nonneg h0], HT.sIx_nat, Nat.sub_zero, List.drop_zero]
  rcases Nat.le_total a.toNat xs.length with z | z
  · rw [Nat.min_eq_left z]
  · rw [Nat.min_eq_right z, List.take_of_length_le (Nat.le_refl _), List.take_of_length_le z]
theorem cut_from {α : Type} {xs : List α} {a : Int} (h0 : 0 ≤ a) : Z.cutD xs (some a) none = xs.drop a.toNat := by
  unfold Z.cutD
  rw [HT.sIx_none, show (some a : Option Int) = some ((a.toNat : Nat) : Int) by rw [Int.toNat_of_nonneg h0], HT.sIx_nat]
  rcases Nat.le_total a.toNat xs.length with z | z
  · rw [Nat.min_eq_left z, List.take_of_length_le (by rw [List.length_drop]; omega)]
  · rw [Nat.min_eq_right z, Nat.sub_self, List.take_zero, List.drop_of_length_le z]
theorem w_l_are_ways_right (Cl : Cls) (Fr : Addr → Prop) (svs : List SV) (Ω : Om) (Φ : PhiE) (Ξ : XA) (h : c_l_are_ways_right svs Ω Φ Ξ) :
    a_l_are_ways_right Cl Fr { nx := fun _ Ω => Φ (.d .none) Ω, rt := Φ } (startR N_l_are_ways_right svs) Ω := by
  obtain ⟨hB, hq, k⟩ := h
  rename_i x p q L R
  have r := hq.rng
  conv => whnf
  refine .mk hB fun n Ω1 n0 n1 hB => ?_
  conv => whnf
  refine .mk hB fun kk Ω1 k0 k1 hB => ?_
  have main : ∀ K Ω1, 0 ≤ K → K ≤ 200 → (1 ≤ n ∨ K = 0) → Bag x L R Ω1 → (aSeq (aAsg (aCall c_l_path xno (aCons (aVar 0) (aCons (aVar 3) (aCons (aVar 4) (aCons (aVar 1) (aCons (aVar 2) aNil)))))) (gT 2 (gs1 (gN 5) (gs1 (gN 6) gs0)))) (aSeq (aIf (aNot (aTru (aCall c_l_same xno (aCons (aCall c_l_way_told xno (aCons (aVar 3) (aCons (aVar 5) (aCons (aVar 1) (aCons (aVar 2) aNil))))) (aCons (aVar 6) aNil))))) (aRet (aC (.d (.bool false)))) aNx) (aSeq (aIf (aNot (aTru (aCall c_l_same xno (aCons (aCallK (c_branch_number Cl) xno 0 4 [0, 1, 2, 3] aNil (aCons (aVar 3) (aCons (aCB acTupOf (aCons (aVar 5) aNil)) (aCons (aVar 1) (aCons (aVar 2) aNil))))) (aCons (aVar 6) aNil))))) (aRet (aC (.d (.bool false)))) aNx) (aSeq (aFor (aIt (aLst none (aCons (aC (.d (.int 0))) (aCons (aBin arSub (aVar 4) (aC (.d (.int 1)))) (aCons (aBin arSub (aCall c_l_draw xno (aCons (aVar 0) (aCons (aBin (arAdd none) (aVar 4) (aC (.d (.int 1)))) aNil))) (aC (.d (.int 1)))) aNil))))) (gN 7) (aIf (aAnd (aB (aBin arGe (aVar 7) (aC (.d (.int 0))))) (aB (aBin arLt (aVar 7) (aVar 4)))) (aSeq (aAsg (aIfE (aAnd (aB (aBin arGt (aBin arIx (aVar 5) (aVar 7)) (aC (.d (.int 0))))) (aOr (aB (aBin arEq (aBin arIx (aVar 5) (aVar 7)) (aBin arSub (aVar 1) (aC (.d (.int 1)))))) (aB (aBin arEq (aCall c_l_draw xno (aCons (aVar 0) (aCons (aC (.d (.int 2))) aNil))) (aC (.d (.int 0))))))) (aBin arSub (aBin arIx (aVar 5) (aVar 7)) (aC (.d (.int 1)))) (aBin (arAdd none) (aBin arIx (aVar 5) (aVar 7)) (aC (.d (.int 1))))) (gN 8)) (aIf (aB (aBin arNe (aCall c_l_way_told xno (aCons (aVar 3) (aCons (aBin (arAdd none) (aBin (arAdd none) (aSl none (aVar 5) aNoP (aPart (aVar 7))) (aLst none (aCons (aVar 8) aNil))) (aSl none (aVar 5) (aPart (aBin (arAdd none) (aVar 7) (aC (.d (.int 1))))) aNoP)) (aCons (aVar 1) (aCons (aVar 2) aNil))))) (aC (.d (.str "Unfit"))))) (aRet (aC (.d (.bool false)))) aNx)) aNx)) (aRet (aAndV (aCall c_l_same xno (aCons (aCall c_l_way_told xno (aCons (aVar 3) (aCons (aVar 5) (aCons (aVar 1) (aCons (aVar 2) aNil))))) (aCons (aVar 6) aNil))) (aCall c_l_same xno (aCons (aCall c_l_way_told xno (aCons (aVar 3) (aCons (aLst none aNil) (aCons (aVar 1) (aCons (aVar 2) aNil))))) (aCons (aVar 3) aNil))))))))) { nx := fun _ Ω => Φ (.d .none) Ω, rt := Φ } [some x, some (I p), some (I q), some (I n), some (I K), none, none, none, none] Ω1 := by
    intro K Ω1 K0 K1 nz hB
    conv => whnf
    refine .mk hB hq n0 n1 K0 K1 nz fun fs due Ω2 ln fg w hB => ?_
    have bd := way_bd hq w fg n0 n1
    have b2 : (10 : Int) ^ (30 + fs.length) ≤ 10 ^ 236 := ten_le (by omega)
    have b3 : due ≤ 10 ^ 236 := Int.le_trans bd.2 b2
    conv => whnf
    refine ⟨rfl, ?_⟩
    conv => whnf
    refine .mk hq n0 (by omega) (by omega) fg (fun r' w' => ?_) fun w' => by rw [w] at w'; cases w'
    rw [w] at w'
    obtain rfl := Option.some.inj w'
    conv => whnf
    refine .mk (bigSame bd.1 (by omega)) ?_
    conv => whnf
    refine br_F ?_
    conv => whnf
    refine .mk hq n0 (by omega) (by omega) fg (fun r' w' => ?_) fun w' => by rw [w] at w'; cases w'
    rw [w] at w'
    obtain rfl := Option.some.inj w'
    conv => whnf
    refine .mk (bigSame bd.1 (by omega)) ?_
    conv => whnf
    refine br_F ?_
    conv => whnf
    refine .mk hB (by omega) (bel (by omega) (by omega)) fun y Ω3 y0 y1 hB => ?_
    conv => whnf
    refine ⟨(by decide : 3 ≤ sizeLine), ?_⟩
    conv => whnf
    refine ⟨fun j ρ Ω' => ∃ (ρ7 ρ8 : Option SV), ρ = [some x, some (I p), some (I q), some (I n), some (I K), some (.d (.list (isD fs))), some (I due), ρ7, ρ8] ∧ Bag x L R Ω', ⟨none, none, rfl, hB⟩, fun _ _ _ _ => trivial, ?_, ?_⟩
    · rintro j yy ρ Ω4 e ⟨ρ7, ρ8, rfl, hB⟩
      have hy : ∃ t, yy = I t := by
        have := List.mem_of_getElem? e
        simp at this
        rcases this with rfl | rfl | rfl <;> exact ⟨_, rfl⟩
      obtain ⟨t, rfl⟩ := hy
      conv => whnf
      refine br_d (fun ge => ?_) fun lt => ?_
      · conv => whnf
        refine br_d (fun lt => ?_) fun ge2 => ?_
        · have hl : t.toNat < fs.length := by omega
          have ft := fg _ (List.getElem_mem hl)
          have at_ : atI (isD fs) t = some (.int fs[t.toNat]) := atI_i ge (by rw [isD, List.getElem?_map, List.getElem?_eq_getElem hl]; rfl)
          generalize hf : fs[t.toNat] = f at ft at_
          have ex : fs = fs.take t.toNat ++ f :: fs.drop (t.toNat + 1) := by
            have e2 := List.drop_eq_getElem_cons hl
            rw [hf] at e2
            rw [← e2, List.take_append_drop]
          have fin : ∀ g Ω5, (g = f - 1 ∨ g = f + 1) → 0 ≤ g → g < p → Bag x L R Ω5 → (aIf (aB (aBin arNe (aCall c_l_way_told xno (aCons (aVar 3) (aCons (aBin (arAdd none) (aBin (arAdd none) (aSl none (aVar 5) aNoP (aPart (aVar 7))) (aLst none (aCons (aVar 8) aNil))) (aSl none (aVar 5) (aPart (aBin (arAdd none) (aVar 7) (aC (.d (.int 1))))) aNoP)) (aCons (aVar 1) (aCons (aVar 2) aNil))))) (aC (.d (.str "Unfit"))))) (aRet (aC (.d (.bool false)))) aNx) { nx := fun ρ Ω' => ∃ (ρ7 ρ8 : Option SV), ρ = [some x, some (I p), some (I q), some (I n), some (I K), some (.d (.list (isD fs))), some (I due), ρ7, ρ8] ∧ Bag x L R Ω', rt := Φ, bk := fun _ _ => False, ct := fun ρ Ω' => ∃ (ρ7 ρ8 : Option SV), ρ = [some x, some (I p), some (I q), some (I n), some (I K), some (.d (.list (isD fs))), some (I due), ρ7, ρ8] ∧ Bag x L R Ω' } [some x, some (I p), some (I q), some (I n), some (I K), some (.d (.list (isD fs))), some (I due), some (I t), some (I g)] Ω5 := by
            intro g Ω5 hg g0 g1 hB
            conv => whnf
            have e1 : Z.cutD (isD fs) none (some t) = isD (fs.take t.toNat) := by rw [cut_to ge, isD, isD, List.map_take]
            have e2 : Z.cutD (isD fs) (some (t + 1)) none = isD (fs.drop (t.toNat + 1)) := by
              rw [cut_from (by omega), isD, isD, List.map_drop, show (t + 1).toNat = t.toNat + 1 by omega]
            have e3 : isD (fs.take t.toNat) ++ [PyData.int g] ++ isD (fs.drop (t.toNat + 1)) = isD (fs.take t.toNat ++ g :: fs.drop (t.toNat + 1)) := by
              rw [show [PyData.int g] = isD [g] from rfl, app_isD, app_isD, List.append_assoc]
              rfl
            have wn : way p q n (fs.take t.toNat ++ g :: fs.drop (t.toNat + 1)) = none := way_near hq (by rw [← ex]; exact w) hg
            have z : sizeLine = 16777216 := by decide
            refine ⟨(by decide : 1 ≤ sizeLine), ?_⟩
            conv => whnf
            rw [e1]
            refine ⟨by rw [isD, List.length_map, List.length_take]; show _ + 1 ≤ _; omega, ?_⟩
            conv => whnf
            dsimp only
            rw [e2]
            refine ⟨by rw [List.length_append, isD, isD, List.length_map, List.length_map, List.length_take, List.length_drop]; show _ + 1 + _ ≤ _; omega, ?_⟩
            conv => whnf
            rw [e3]
            refine .mk hq n0 (by omega) (by rw [List.length_append, List.length_take, List.length_cons, List.length_drop]; omega) (fun y hy => ?_) (fun r' w' => by rw [wn] at w'; cases w') fun _ => ?_
            · rcases List.mem_append.mp hy with hy | hy
              · exact fg y (List.mem_of_mem_take hy)
              · rcases List.mem_cons.mp hy with rfl | hy
                · exact ⟨g0, g1⟩
                · exact fg y (List.mem_of_mem_drop hy)
            · conv => whnf
              refine br_n (br_d (fun _ => ?_) fun ne => absurd rfl ne)
              conv => whnf
              exact ⟨_, _, rfl, hB⟩
          conv => whnf
          refine ⟨_, at_, ?_⟩
          conv => whnf
          refine br_d (fun f1 => ?_) fun f0 => ?_
          · conv => whnf
            refine ⟨_, at_, ?_⟩
            conv => whnf
            refine br_d (fun e1 => ?_) fun ne => ?_
            · refine br_T ?_
              conv => whnf
              refine ⟨_, at_, ?_⟩
              exact fin _ _ (Or.inl rfl) (by omega) (by omega) hB
            · conv => whnf
              refine .mk hB (by decide) (by decide) fun z Ω5 z0 z1 hB => ?_
              conv => whnf
              refine br_d (fun e1 => ?_) fun ne => ?_
              · conv => whnf
                refine ⟨_, at_, ?_⟩
                exact fin _ _ (Or.inl rfl) (by omega) (by omega) hB
              · conv => whnf
                refine ⟨_, at_, ?_⟩
                exact fin _ _ (Or.inr rfl) (by omega) (by omega) hB
          · refine br_F ?_
            conv => whnf
            refine ⟨_, at_, ?_⟩
            exact fin _ _ (Or.inr rfl) (by omega) (by omega) hB
        · conv => whnf
          exact ⟨_, _, rfl, hB⟩
      · refine br_F ?_
        exact ⟨_, _, rfl, hB⟩
    · rintro ρ Ω4 ⟨ρ7, ρ8, rfl, hB⟩
      conv => whnf
      refine .mk hq n0 (by omega) (by omega) fg (fun r' w' => ?_) fun w' => by rw [w] at w'; cases w'
      rw [w] at w'
      obtain rfl := Option.some.inj w'
      conv => whnf
      refine .mk (bigSame bd.1 (by omega)) ?_
      conv => whnf
      refine br_T ?_
      conv => whnf
      refine ⟨by decide, ?_⟩
      conv => whnf
      refine .mk (fs := []) hq n0 (by omega) (by decide) (by intro f hf; cases hf) (fun r' w' => ?_) fun w' => by cases w'
      obtain rfl := Option.some.inj w'
      conv => whnf
      refine .mk (bigSame n0 (by omega)) ?_
      exact k _ hB
  conv => whnf
  refine br_d (fun e => ?_) fun ne => ?_
  · exact main 0 Ω1 (by decide) (by decide) (Or.inr rfl) hB
  · exact main kk Ω1 k0 k1 (Or.inl (by omega)) hB
theorem aheadSame {n p q : Int} (hq : Pq p q) : SameOk (.tuple (isD (ahead n p q))) := listSame (fun i hi => by
  have := aheadTo_mem hi
  have := hq.rng
  omega) (by have := hq.rng; have : (ahead n p q).length ≤ p.toNat := aheadTo_len _; omega)
theorem kidsSame {n p q : Int} (hq : Pq p q) (h0 : 0 ≤ n) (h1 : n ≤ 10 ^ 100) : SameOk (.tuple (isD (kids n p q))) := listSame (fun i hi => by
  unfold kids at hi
  obtain ⟨a, ha, rfl⟩ := List.mem_map.mp hi
  have := aheadTo_mem ha
  have r := hq.rng
  have z : 0 ≤ (p * n + a) / q ∧ (p * n + a) / q ≤ 10 * (10 ^ 100 + 1) := by
    rcases hq.lits with ⟨rfl, rfl⟩ | ⟨rfl, rfl⟩ | ⟨rfl, rfl⟩ | ⟨rfl, rfl⟩ | ⟨rfl, rfl⟩ | ⟨rfl, rfl⟩ | ⟨rfl, rfl⟩ | ⟨rfl, rfl⟩ | ⟨rfl, rfl⟩ | ⟨rfl, rfl⟩ | ⟨rfl, rfl⟩ | ⟨rfl, rfl⟩ | ⟨rfl, rfl⟩ | ⟨rfl, rfl⟩ | ⟨rfl, rfl⟩ | ⟨rfl, rfl⟩ | ⟨rfl, rfl⟩ | ⟨rfl, rfl⟩ | ⟨rfl, rfl⟩ | ⟨rfl, rfl⟩ | ⟨rfl, rfl⟩ | ⟨rfl, rfl⟩ <;> omega
  omega) (by unfold kids; rw [List.length_map]; have := hq.rng; have : (ahead n p q).length ≤ p.toNat := aheadTo_len _; omega)
theorem w_l_are_ahead_right (Cl : Cls) (Fr : Addr → Prop) (svs : List SV) (Ω : Om) (Φ : PhiE) (Ξ : XA) (h : c_l_are_ahead_right svs Ω Φ Ξ) :
    a_l_are_ahead_right Cl Fr { nx := fun _ Ω => Φ (.d .none) Ω, rt := Φ } (startR N_l_are_ahead_right svs) Ω := by
  obtain ⟨hB, hq, k⟩ := h
  rename_i x p q L R
  have r := hq.rng
  have t30 : (10 : Int) ^ (30 : Int).toNat = 10 ^ 30 := rfl
  conv => whnf
  refine .mk hB (by decide) (by decide) fun a Ω1 a0 a1 hB => ?_
  conv => whnf
  refine .mk hB fun b Ω1 b0 b1 hB => ?_
  conv => whnf
  refine ⟨⟨by decide, by decide, by decide⟩, ?_⟩
  conv => whnf
  refine ⟨(by decide : 5 ≤ sizeLine), ?_⟩
  conv => whnf
  have all : ∀ d ∈ [PyData.int 0, .int 1, .int (1 + a), .int b, .int (10 ^ (30 : Int).toNat)], ∃ n : Int, d = .int n ∧ 0 ≤ n ∧ n ≤ 10 ^ 30 := by
    intro d hd
    simp at hd
    rcases hd with rfl | rfl | rfl | rfl | rfl <;> exact ⟨_, rfl, by omega, by omega⟩
  generalize eN : [PyData.int 0, .int 1, .int (1 + a), .int b, .int (10 ^ (30 : Int).toNat)] = NS at all
  have hN : NS ≠ [] ∧ NS.length < 2 ^ 60 := by subst eN; simp
  refine ⟨fun j ρ Ω' => ∃ (ρ4 ρ5 ρ6 : Option SV), ρ = [some x, some (I p), some (I q), some (.d (.list NS)), ρ4, ρ5, ρ6, none] ∧ Bag x L R Ω', ⟨none, none, none, by rw [← eN]; rfl, hB⟩, fun _ _ _ _ => trivial, ?_, ?_⟩
  · rintro j y ρ Ω2 e ⟨ρ4, ρ5, ρ6, rfl, hB⟩
    have hy : ∃ n, y = I n ∧ 0 ≤ n ∧ n ≤ 10 ^ 30 := by
      obtain ⟨d, hd, rfl⟩ := get_mapD e
      have hd2 := List.mem_of_getElem? hd
      obtain ⟨n, rfl, n0, n1⟩ := all d hd2
      exact ⟨n, rfl, n0, n1⟩
    obtain ⟨n, rfl, n0, n1⟩ := hy
    conv => whnf
    refine .mk hq n0 (by omega) ?_
    conv => whnf
    refine ⟨by rw [List.length_map, isD, List.length_map]; have : (ahead n p q).length ≤ p.toNat := aheadTo_len _; omega, ?_⟩
    refine ⟨fun i acc Ω' => acc = (isD (((ahead n p q).take i).map fun a => (p * n + a) / q)).map SV.d ∧ Ω' = Ω2, ⟨rfl, rfl⟩, fun i acc Ω' ⟨h1, h2⟩ => ⟨trivial, ?_⟩, ?_, ?_⟩
    · rw [h1, List.length_map, isD, List.length_map, List.length_map, List.length_take]
      omega
    · rintro i x' acc _ e' ⟨rfl, rfl⟩
      obtain ⟨a, ha, rfl⟩ := get_isD e'
      have m := aheadTo_mem (List.mem_of_getElem? ha)
      conv => whnf
      refine br_T ?_
      conv => whnf
      refine ⟨cmulP (by omega) (by omega) (by omega) (by omega), ?_⟩
      conv => whnf
      refine ⟨cdiv (by omega) (by omega), ?_⟩
      conv => whnf
      refine ⟨?_, rfl⟩
      rw [List.take_add_one, ha, List.map_append, ← app_isD, List.map_append]
      rfl
    rintro acc _ ⟨rfl, rfl⟩
    refine newX_d ?_
    rw [List.length_map, isD, List.length_map, List.take_length]
    conv => whnf
    refine .mk hq n0 (by omega) ?_
    conv => whnf
    refine .mk (aheadSame hq) ?_
    conv => whnf
    refine br_F ?_
    conv => whnf
    refine .mk hq n0 (by omega) ?_
    conv => whnf
    refine .mk (kidsSame hq n0 (by omega)) ?_
    conv => whnf
    refine br_F ?_
    conv => whnf
    exact ⟨_, _, _, rfl, hB⟩
  · rintro ρ Ω2 ⟨ρ4, ρ5, ρ6, rfl, hB⟩
    conv => whnf
    refine .mk hB hN.1 hN.2 fun d hd Ω3 hB => ?_
    obtain ⟨n, rfl, n0, n1⟩ := all d hd
    conv => whnf
    refine .mk hq n0 (by omega) ?_
    conv => whnf
    refine .mk hq n0 (by omega) ?_
    conv => whnf
    refine .mk (aheadSame hq) ?_
    conv => whnf
    refine br_F ?_
    conv => whnf
    refine .mk hq n0 (by omega) ?_
    conv => whnf
    refine ⟨by rw [List.length_map, isD, List.length_map]; have : (ahead n p q).length ≤ p.toNat := aheadTo_len _; omega, ?_⟩
    refine ⟨fun i acc Ω' => acc = (isD (((ahead n p q).take i).map fun a => (p * n + a) / q)).map SV.d ∧ Ω' = Ω3, ⟨rfl, rfl⟩, fun i acc Ω' ⟨h1, h2⟩ => ⟨trivial, ?_⟩, ?_, ?_⟩
    · rw [h1, List.length_map, isD, List.length_map, List.length_map, List.length_take]
      omega
    · rintro i x' acc _ e' ⟨rfl, rfl⟩
      obtain ⟨a, ha, rfl⟩ := get_isD e'
      have m := aheadTo_mem (List.mem_of_getElem? ha)
      conv => whnf
      refine br_T ?_
      conv => whnf
      refine ⟨cmulP (by omega) (by omega) (by omega) (by omega), ?_⟩
      conv => whnf
      refine ⟨cdiv (by omega) (by omega), ?_⟩
      conv => whnf
      refine ⟨?_, rfl⟩
      rw [List.take_add_one, ha, List.map_append, ← app_isD, List.map_append]
      rfl
    rintro acc _ ⟨rfl, rfl⟩
    refine newX_d ?_
    rw [List.length_map, isD, List.length_map, List.take_length]
    conv => whnf
    refine .mk (kidsSame hq n0 (by omega)) ?_
    exact k _ hB
theorem w_l_are_depths_right (Cl : Cls) (Fr : Addr → Prop) (svs : List SV) (Ω : Om) (Φ : PhiE) (Ξ : XA) (h : c_l_are_depths_right svs Ω Φ Ξ) :
    a_l_are_depths_right Cl Fr { nx := fun _ Ω => Φ (.d .none) Ω, rt := Φ } (startR N_l_are_depths_right svs) Ω := by
  obtain ⟨hB, hq, k⟩ := h
  rename_i x p q L R
  have r := hq.rng
  conv => whnf
  refine ⟨(by decide : 0 ≤ sizeLine), ?_⟩
  conv => whnf
  refine ⟨(by decide : 3 ≤ sizeLine), ?_⟩
  conv => whnf
  refine ⟨rfl, ?_⟩
  conv => whnf
  refine ⟨⟨by decide, by decide⟩, ?_⟩
  conv => whnf
  refine ⟨fun j ρ Ω' => ∃ (a b : Int) (d3 : PyData) (ρ6 ρ7 : Option SV), ρ = [some x, some (I p), some (I q), some (I a), some (I b), some (.d d3), ρ6, ρ7, none, none] ∧ Bag x L R Ω' ∧
      (0 < j → 1 ≤ a ∧ a ≤ 10 ^ 30 ∧ 1 ≤ b ∧ b ≤ 10 ^ 30 ∧ ∃ (fs : List Int) (e : Int), d3 = .list (isD fs) ∧ fs.length ≤ 101 ∧ Figs p fs ∧ way p q a fs = some e ∧ way p q b fs = none), ⟨0, 0, _, none, none, rfl, hB, fun z => absurd z (by decide)⟩, fun _ _ _ _ => trivial, ?_, ?_⟩
  · rintro j y ρ Ω2 e ⟨a', b', d3, ρ6, ρ7, rfl, hB, _⟩
    clear e
    conv => whnf
    refine .mk hB hq fun a b Ω3 a0 a1 b0 b1 ne hB => ?_
    conv => whnf
    refine ⟨rfl, ?_⟩
    conv => whnf
    refine .mk hq a0 a1 b0 b1 ne fun d fs e vq ln d1 fg wa wb => ?_
    conv => whnf
    refine .mk hq (by omega) a1 (by omega) b1 ne fun d' vq' => ?_
    obtain rfl := vq.uniq r.2.2.1 vq'
    have e1 : ((isD fs).length : Int) - 1 = d := by rw [isD, List.length_map]; omega
    conv => whnf
    dsimp only
    rw [e1]
    refine .mk (bigSame (by omega) (by omega)) ?_
    conv => whnf
    refine br_F ?_
    conv => whnf
    refine .mk hq (by omega) b1 (by omega) a1 (fun z => ne z.symm) fun d' vq' => ?_
    have e2 : (if b - a < 0 then -(b - a) else b - a) = (if a - b < 0 then -(a - b) else a - b) := by split <;> split <;> omega
    rw [e2] at vq'
    obtain rfl := vq.uniq r.2.2.1 vq'
    conv => whnf
    refine .mk (bigSame (by omega) (by omega)) ?_
    conv => whnf
    refine br_F ?_
    conv => whnf
    exact ⟨_, _, _, _, _, rfl, hB, fun _ => ⟨a0, a1, b0, b1, fs, e, rfl, by omega, fg, wa, wb⟩⟩
  · rintro ρ Ω2 ⟨a, b, d3, ρ6, ρ7, rfl, hB, hj⟩
    obtain ⟨a0, a1, b0, b1, fs, e, rfl, ln, fg, wa, wb⟩ := hj (by rw [rgS_len]; decide)
    have bd := way_bd hq wa fg (by omega) a1
    have b2 : (10 : Int) ^ (30 + fs.length) ≤ 10 ^ 236 := ten_le (by omega)
    have b3 : e ≤ 10 ^ 236 := Int.le_trans bd.2 b2
    conv => whnf
    refine ⟨fun j ρ Ω' => ∃ (m : Int) (ρ9 : Option SV), ρ = [some x, some (I p), some (I q), some (I a), some (I b), some (.d (.list (isD fs))), ρ6, ρ7, some (I m), ρ9] ∧ Bag x L R Ω' ∧ way p q a (fs.take j) = some m, ⟨a, none, rfl, hB, rfl⟩, fun _ _ _ _ => trivial, ?_, ?_⟩
    · rintro j y ρ Ω3 e' ⟨m, ρ9, rfl, hB, w⟩
      obtain ⟨f, hf, rfl⟩ := get_isD e'
      have lt : j < fs.length := (List.getElem?_eq_some_iff.mp hf).1
      have mb := way_bd hq w (fun z hz => fg z (List.mem_of_mem_take hz)) (by omega) a1
      have m2 : (10 : Int) ^ (30 + (fs.take j).length) ≤ 10 ^ 236 := ten_le (by rw [List.length_take]; omega)
      have m3 : m ≤ 10 ^ 236 := Int.le_trans mb.2 m2
      have ex : fs = fs.take j ++ f :: fs.drop (j + 1) := by
        have e2 := List.drop_eq_getElem_cons lt
        have e3 : fs[j] = f := by
          rw [List.getElem?_eq_getElem lt] at hf
          exact Option.some.inj hf
        rw [e3] at e2
        rw [← e2, List.take_append_drop]
      obtain ⟨m', w', z1, z2⟩ := way_at (by rw [← ex]; exact wa)
      rw [w] at w'
      obtain rfl := Option.some.inj w'
      conv => whnf
      refine ⟨cmulP (by omega) (by omega) (by omega) (by omega), ?_⟩
      conv => whnf
      refine ⟨cdiv (by omega) (by omega), ?_⟩
      conv => whnf
      refine ⟨_, _, rfl, hB, ?_⟩
      rw [List.take_add_one, hf]
      exact way_snoc w z1 z2
    · rintro ρ Ω3 ⟨m, ρ9, rfl, hB, w⟩
      rw [List.length_map, isD, List.length_map, List.take_length, wa] at w
      obtain rfl := Option.some.inj w
      conv => whnf
      refine .mk hq (by omega) (by omega) (by omega) fg (fun r' w' => ?_) fun w' => by rw [wa] at w'; cases w'
      rw [wa] at w'
      obtain rfl := Option.some.inj w'
      conv => whnf
      refine .mk (bigSame bd.1 (by omega)) ?_
      conv => whnf
      refine br_T ?_
      conv => whnf
      refine .mk hq (by omega) (by omega) (by omega) fg (fun r' w' => by rw [wb] at w'; cases w') fun w' => ?_
      conv => whnf
      rw [decide_eq_true rfl]
      exact k _ hB
def cop (p q : Int) : Bool := ([2, 3, 5, 7] : List Int).all fun r => decide (0 < p % r) || decide (0 < q % r)
def PU (i : Nat) : List (Int × Int) := PAIRS.filter fun x => decide (x.1 < 3 + i)
def PW (p : Int) (m : Nat) : List (Int × Int) := PAIRS.filter fun x => decide (x.1 = p) && decide (x.2 < 2 + m)
theorem pw_step : ∀ i : Nat, i < 8 → ∀ j : Nat, j < i + 1 → PW (3 + i) (j + 1) = PW (3 + i) j ++ (if cop (3 + i) (2 + j) = true then [((3 : Int) + i, (2 : Int) + j)] else []) := by decide
theorem pw_nil : ∀ i : Nat, i < 8 → PW (3 + i) 0 = [] := by decide
theorem pw_len : ∀ i : Nat, i < 8 → ∀ j : Nat, j < i + 2 → (PW (3 + i) j).length ≤ j := by decide
theorem pu_step : ∀ i : Nat, i < 8 → PU (i + 1) = PU i ++ PW (3 + i) (i + 1) := by decide
theorem pu_all : PU 8 = PAIRS := by decide
theorem pu_nil : PU 0 = [] := by decide
abbrev pd (l : List (Int × Int)) : List PyData := l.map fun x => .tuple [.int x.1, .int x.2]
theorem w_l_pairs (Cl : Cls) (Fr : Addr → Prop) (svs : List SV) (Ω : Om) (Φ : PhiE) (Ξ : XA) (h : c_l_pairs svs Ω Φ Ξ) :
    a_l_pairs Cl Fr { nx := fun _ Ω => Φ (.d .none) Ω, rt := Φ } (startR N_l_pairs svs) Ω := by
  obtain ⟨k⟩ := h
  conv => whnf
  refine ⟨(by decide : 0 ≤ sizeLine), ?_⟩
  intro c fc
  conv => whnf
  refine ⟨⟨by decide, by decide⟩, ⟨by decide, by decide⟩, ?_⟩
  conv => whnf
  refine ⟨fun i ρ Ω' => ∃ ρ1, ρ = [some (.r (.ref c)), ρ1, none, none] ∧ Ω' = (c, .lst (pd (PU i))) :: Ω, ⟨none, rfl, by rw [pu_nil]; rfl⟩, fun _ _ _ _ => trivial, ?_, ?_⟩
  · rintro i y ρ _ e ⟨ρ1, rfl, rfl⟩
    obtain ⟨rfl, lt⟩ := rgS_get e
    have l8 : i < 8 := by omega
    conv => whnf
    refine ⟨⟨_, _, .here, trivial⟩, ?_⟩
    conv => whnf
    refine ⟨⟨by decide, by decide⟩, ⟨by omega, by omega⟩, ?_⟩
    conv => whnf
    refine ⟨by rw [rgS_len]; omega, ?_⟩
    refine ⟨fun j acc Ω' => acc = (pd (PW (3 + i) j)).map SV.d ∧ Ω' = (c, .lst (pd (PU i))) :: Ω ∧ j ≤ i + 1, ⟨by rw [pw_nil i l8]; rfl, rfl, Nat.zero_le _⟩, fun j acc Ω' ⟨h1, h2, h3⟩ => ⟨trivial, ?_⟩, ?_, ?_⟩
    · rw [h1, List.length_map, pd, List.length_map]
      exact pw_len i l8 j (by omega)
    · rintro j y acc _ e2 ⟨rfl, rfl, _⟩
      obtain ⟨rfl, lt2⟩ := rgS_get e2
      have l9 : j < i + 1 := by omega
      conv => whnf
      refine ⟨(by decide : 4 ≤ sizeLine), ?_⟩
      conv => whnf
      refine ⟨by decide, ?_⟩
      refine ⟨fun n acc Ω' => acc = ((([2, 3, 5, 7] : List Int).take n).map fun r => PyData.bool (decide (0 < ((3 : Int) + i) % r) || decide (0 < ((2 : Int) + j) % r))).map SV.d ∧ Ω' = (c, .lst (pd (PU i))) :: Ω, ⟨rfl, rfl⟩, fun n acc Ω' ⟨h1, h2⟩ => ⟨trivial, by rw [h1, List.length_map, List.length_map, List.length_take]; omega⟩, ?_, ?_⟩
      · rintro n y acc _ e3 ⟨rfl, rfl⟩
        obtain ⟨r, hr, rfl⟩ := get_isD (is := [2, 3, 5, 7]) e3
        have rp : 0 < r := by
          have := List.mem_of_getElem? hr
          simp at this
          rcases this with rfl | rfl | rfl | rfl <;> decide
        conv => whnf
        refine br_T ?_
        conv => whnf
        refine ⟨rp, ?_⟩
        conv => whnf
        refine br_d (fun g1 => ?_) fun g1 => ?_
        · refine ⟨?_, rfl⟩
          rw [List.take_add_one, hr, List.map_append, List.map_append]
          simp [g1]
        · conv => whnf
          refine ⟨rp, ?_⟩
          refine ⟨?_, rfl⟩
          rw [List.take_add_one, hr, List.map_append, List.map_append]
          simp [g1]
      · rintro acc _ ⟨rfl, rfl⟩
        refine newX_d ?_
        conv => whnf
        refine ⟨([2, 3, 5, 7] : List Int).map fun r => decide (0 < ((3 : Int) + i) % r) || decide (0 < ((2 : Int) + j) % r), trivial, rfl, ?_⟩
        have ec : (([2, 3, 5, 7] : List Int).map fun r => decide (0 < ((3 : Int) + i) % r) || decide (0 < ((2 : Int) + j) % r)).all id = cop (3 + i) (2 + j) := by
          unfold cop
          rw [List.all_map]
          rfl
        conv => whnf
        rw [ec]
        have st := pw_step i l8 j l9
        refine br_of (fun g => ?_) fun g => ?_
        · conv => whnf
          refine ⟨(by decide : 2 ≤ sizeLine), ?_⟩
          refine ⟨?_, rfl, l9⟩
          rw [st, g]
          simp [pd]
        · refine ⟨?_, rfl, l9⟩
          rw [st, g]
          simp
    · rintro acc _ ⟨rfl, rfl, _⟩
      refine newX_d ?_
      rw [rgS_len]
      rw [show ((3 : Int) + i - 2).toNat = i + 1 by omega]
      conv => whnf
      refine ⟨_, _, .here, ?_⟩
      have z : sizeLine = 16777216 := by decide
      have a1 : (PU i).length ≤ 22 := List.length_filter_le _ _
      have a2 := pw_len i l8 (i + 1) (by omega)
      refine ⟨by rw [pd, pd, List.length_map, List.length_map]; omega, ?_⟩
      conv => whnf
      refine ⟨_, rfl, ?_⟩
      rw [pu_step i l8]
      simp [pd]
  · rintro ρ _ ⟨ρ1, rfl, rfl⟩
    rw [rgS_len]
    conv => whnf
    refine ⟨_, _, .here, fc, _, .here, _, .refl _, ?_⟩
    have e8 : PU (11 - 3 : Int).toNat = PAIRS := pu_all
    rw [e8]
    exact k
theorem w_law (Cl : Cls) (Fr : Addr → Prop) (svs : List SV) (Ω : Om) (Φ : PhiE) (Ξ : XA) (h : c_law svs Ω Φ Ξ) :
    a_law Cl Fr { nx := fun _ Ω => Φ (.d .none) Ω, rt := Φ } (startR N_law svs) Ω := by
  obtain ⟨ok, k⟩ := h
  conv => whnf
  refine .mk ok fun x Ω hB => ?_
  conv => whnf
  refine .mk ?_
  have pk : ∀ d ∈ PAIRS.map fun x => PyData.tuple [.int x.1, .int x.2], ∃ p q, d = .tuple [.int p, .int q] ∧ Pq p q := by
    intro d hd
    obtain ⟨⟨p, q⟩, hp, rfl⟩ := List.mem_map.mp hd
    exact ⟨p, q, rfl, hp⟩
  have p1 : (PAIRS.map fun x => PyData.tuple [.int x.1, .int x.2]) ≠ [] := by decide
  have p2 : (PAIRS.map fun x => PyData.tuple [.int x.1, .int x.2]).length < 2 ^ 60 := by rw [List.length_map]; decide
  generalize (PAIRS.map fun x => PyData.tuple [.int x.1, .int x.2]) = PS at pk p1 p2
  conv => whnf
  refine .mk hB p1 p2 fun d hd Ω1 hB => ?_
  obtain ⟨p, q, rfl, hq⟩ := pk d hd
  conv => whnf
  refine .mk hB p1 p2 fun d' hd' Ω1 hB => ?_
  obtain ⟨p', q', rfl, hq'⟩ := pk d' hd'
  conv => whnf
  refine ⟨(by decide : 2 ≤ sizeLine), ?_⟩
  conv => whnf
  refine ⟨fun j ρ Ω' => ∃ (ρ5 ρ6 : Option SV), ρ = [some _, some x, some (.d (.list PS)), some (T [.int p, .int q]), some (T [.int p', .int q']), ρ5, ρ6] ∧ Bag x [] [] Ω', ⟨none, none, rfl, hB⟩, fun _ _ _ _ => trivial, ?_, ?_⟩
  · rintro j y ρ Ω2 e ⟨ρ5, ρ6, rfl, hB⟩
    have hy : ∃ p q, y = T [.int p, .int q] ∧ Pq p q := by
      have := List.mem_of_getElem? e
      simp at this
      rcases this with rfl | rfl
      · exact ⟨_, _, rfl, hq⟩
      · exact ⟨_, _, rfl, hq'⟩
    obtain ⟨a, b, rfl, hab⟩ := hy
    conv => whnf
    refine ⟨rfl, ?_⟩
    conv => whnf
    refine .mk hB hab fun Ω6 hB => ?_
    conv => whnf
    refine br_F ?_
    conv => whnf
    refine .mk hB hab fun Ω6 hB => ?_
    conv => whnf
    refine br_F ?_
    conv => whnf
    refine .mk hB hab fun Ω6 hB => ?_
    conv => whnf
    refine br_F ?_
    conv => whnf
    refine .mk hB hab fun Ω6 hB => ?_
    conv => whnf
    refine br_F ?_
    conv => whnf
    exact ⟨_, _, rfl, hB⟩
  · rintro ρ Ω2 ⟨ρ5, ρ6, rfl, hB⟩
    conv => whnf
    refine ⟨rfl, ?_⟩
    conv => whnf
    refine .mk hB hq fun Ω6 hB => ?_
    conv => whnf
    refine br_F ?_
    conv => whnf
    refine ⟨_, rfl, ?_⟩
    conv => whnf
    refine ⟨_, rfl, ?_⟩
    conv => whnf
    refine .mk hB hq' fun Ω6 hB => ?_
    exact k _
theorem cut_to' {α : Type} {xs : List α} {a : Int} (h0 : 0 ≤ a) : Z.cutD xs none (some a) = xs.take a.toNat := by
  unfold Z.cutD
  rw [HT.sIx_none, show (some a : Option Int) = some ((a.toNat : Nat) : Int) by rw [Int.toNat_of_nonneg h0], HT.sIx_nat, Nat.sub_zero, List.drop_zero]
  rcases Nat.le_total a.toNat xs.length with z | z
  · rw [Nat.min_eq_left z]
  · rw [Nat.min_eq_right z, List.take_of_length_le (Nat.le_refl _), List.take_of_length_le z]
theorem cut_from' {α : Type} {xs : List α} {a : Int} (h0 : 0 ≤ a) : Z.cutD xs (some a) none = xs.drop a.toNat := by
  unfold Z.cutD
  rw [HT.sIx_none, show (some a : Option Int) = some ((a.toNat : Nat) : Int) by rw [Int.toNat_of_nonneg h0], HT.sIx_nat]
  rcases Nat.le_total a.toNat xs.length with z | z
  · rw [Nat.min_eq_left z, List.take_of_length_le (by rw [List.length_drop]; omega)]
  · rw [Nat.min_eq_right z, Nat.sub_self, List.take_zero, List.drop_of_length_le z]
theorem w_l_are_words_right (Cl : Cls) (Fr : Addr → Prop) (svs : List SV) (Ω : Om) (Φ : PhiE) (Ξ : XA) (h : c_l_are_words_right svs Ω Φ Ξ) :
    a_l_are_words_right Cl Fr { nx := fun _ Ω => Φ (.d .none) Ω, rt := Φ } (startR N_l_are_words_right svs) Ω := by
  obtain ⟨hB, hq, k⟩ := h
  rename_i x p q L R
  have r := hq.rng
  conv => whnf
  refine .mk hB fun n0 Ω1 z0 z1 hB => ?_
  conv => whnf
  refine ⟨(by decide : 0 ≤ sizeLine), ?_⟩
  intro c fc
  have mx : ∃ o, (if n0 > 1 then n0 else 1) = o ∧ 1 ≤ o ∧ o ≤ 10 ^ 30 := by
    split
    · exact ⟨_, rfl, by omega, by omega⟩
    · exact ⟨_, rfl, by omega, by omega⟩
  obtain ⟨n, en, o0, o1⟩ := mx
  conv => whnf
  refine ⟨fun d ρ Ω' => ∃ (rest : Int) (ws : List Int), ρ = [some x, some (I p), some (I q), some (I rest), some (.r (.ref c)), some (I n), none, none, none, none] ∧ Ω' = (c, .lst (isD ws)) :: Ω1 ∧ d = rest.toNat ∧ Dg p q n ws rest, ⟨_, n, [], ?_, rfl, rfl, .nil⟩, ?_⟩
  · rw [← en]
    rfl
  rintro d ρ _ ⟨rest, ws, rfl, rfl, rfl, dg⟩
  have bd := dg.bd hq (by omega)
  conv => whnf
  refine br_d (fun gt => ?_) fun le => ?_
  · have ln := dg.len hq (by omega) o1 gt
    conv => whnf
    refine ⟨⟨_, _, .here, trivial⟩, ?_⟩
    conv => whnf
    refine ⟨cmulP (by omega) (by omega) (by omega) (by omega), ?_⟩
    conv => whnf
    refine ⟨show 0 < p by omega, ?_⟩
    conv => whnf
    refine ⟨_, _, .here, ?_⟩
    conv => whnf
    refine ⟨?_, ?_⟩
    · have z : sizeLine = 16777216 := by decide
      rw [isD, List.length_map]
      omega
    conv => whnf
    refine ⟨cmulP (by omega) (by omega) (by omega) (by omega), ?_⟩
    conv => whnf
    refine ⟨cdiv (by omega) (by omega), ?_⟩
    have e2 : 0 ≤ q * rest / p ∧ q * rest / p < rest := by
      rcases hq.lits with ⟨rfl, rfl⟩ | ⟨rfl, rfl⟩ | ⟨rfl, rfl⟩ | ⟨rfl, rfl⟩ | ⟨rfl, rfl⟩ | ⟨rfl, rfl⟩ | ⟨rfl, rfl⟩ | ⟨rfl, rfl⟩ | ⟨rfl, rfl⟩ | ⟨rfl, rfl⟩ | ⟨rfl, rfl⟩ | ⟨rfl, rfl⟩ | ⟨rfl, rfl⟩ | ⟨rfl, rfl⟩ | ⟨rfl, rfl⟩ | ⟨rfl, rfl⟩ | ⟨rfl, rfl⟩ | ⟨rfl, rfl⟩ | ⟨rfl, rfl⟩ | ⟨rfl, rfl⟩ | ⟨rfl, rfl⟩ | ⟨rfl, rfl⟩ <;> omega
    conv => whnf
    refine ⟨_, ?_, _, _, rfl, ?_, rfl, .snoc dg gt⟩
    · omega
    · rw [← app_isD]
      rfl
  · obtain rfl : rest = 0 := by omega
    have wf := dg.way hq
    have fg := dg.fig hq
    generalize eR : ws.reverse = rv at wf
    have fr : Figs p rv := fun f hf => fg f (by rw [← eR] at hf; exact List.mem_reverse.mp hf)
    have rl : rv.length = ws.length := by rw [← eR, List.length_reverse]
    conv => whnf
    refine ⟨_, _, .here, ?_⟩
    conv => whnf
    refine ⟨trivial, ?_⟩
    have er : Z.cutD (isD ws).reverse none (some 200) = isD (rv.take 200) := by
      rw [cut_to' (by decide), ← eR, isD, isD, List.map_take, List.map_reverse]
      rfl
    conv => whnf
    rw [er]
    have fin : ∀ due ρ7 Ω2, way p q 0 (rv.take 200) = some due → 0 ≤ due → due ≤ 10 ^ 236 → Bag x ((c, .lst (isD ws)) :: L) R Ω2 → (aSeq (aIf (aNot (aTru (aCall c_l_same xno (aCons (aCall c_l_way_told xno (aCons (aC (.d (.int 0))) (aCons (aVar 6) (aCons (aVar 1) (aCons (aVar 2) aNil))))) (aCons (aVar 5) aNil))))) (aRetD (aC (.d (.bool false)))) aNx) (aSeq (aIf (aOr (aB (aBin arNe (aCall c_l_way_told xno (aCons (aC (.d (.int 0))) (aCons (aBin (arAdd none) (aLst none (aCons (aC (.d (.int 0))) aNil)) (aSl none (aVar 6) aNoP (aPart (aC (.d (.int 199)))))) (aCons (aVar 1) (aCons (aVar 2) aNil))))) (aC (.d (.str "Unfit"))))) (aB (aBin arNe (aCall c_l_way_told xno (aCons (aC (.d (.int 0))) (aCons (aLst none (aCons (aC (.d (.int 0))) aNil)) (aCons (aVar 1) (aCons (aVar 2) aNil))))) (aC (.d (.str "Unfit")))))) (aRetD (aC (.d (.bool false)))) aNx) (aSeq (aAsg (aLc none (aRng1 (aCons (aVar 1) aNil)) (gN 9) (aOr (aB (aBin arEq (aVar 9) (aC (.d (.int 0))))) (aB (aBin arGt (aBin arMod (aCB acInt (aCons (aVar 9) aNil)) (aVar 2)) (aC (.d (.int 0)))))) (aVar 9) [9]) (gN 8)) (aRetD (aBin arEq (aCall c_l_way_told xno (aCons (aC (.d (.int 0))) (aCons (aBin (arAdd none) (aLst none (aCons (aCall c_l_pick xno (aCons (aVar 0) (aCons (aVar 8) aNil))) aNil)) (aSl none (aVar 6) (aPart (aC (.d (.int 1)))) aNoP)) (aCons (aVar 1) (aCons (aVar 2) aNil))))) (aC (.d (.str "Unfit")))))))) { nx := fun _ Ω => Φ (.d .none) Ω, rt := Φ } [some x, some (I p), some (I q), some (I 0), some (.r (.ref c)), some (I due), some (.d (.list (isD (rv.take 200)))), ρ7, none, none] Ω2 := by
      intro due ρ7 Ω2 wd d0 d1 hB
      have ft : Figs p (rv.take 200) := fun f hf => fr f (List.mem_of_mem_take hf)
      have lt : (rv.take 200).length ≤ 200 := by rw [List.length_take]; omega
      generalize rv.take 200 = row at *
      have zs : sizeLine = 16777216 := by decide
      conv => whnf
      refine .mk hq (by decide) (by decide) (by omega) ft (fun r' w' => ?_) fun w' => by rw [wd] at w'; cases w'
      rw [wd] at w'
      obtain rfl := Option.some.inj w'
      conv => whnf
      refine .mk (bigSame d0 (by omega)) ?_
      conv => whnf
      refine br_F ?_
      have bad : ∀ f gs, f = 0 ∨ f % q ≠ 0 → way p q 0 (f :: gs) = none := fun f gs hf => way_bad (fs := []) (m := 0) rfl (hf.elim (fun z => Or.inl (by simpa using z)) fun z => Or.inr (by simpa using z))
      conv => whnf
      refine ⟨(by decide : 1 ≤ sizeLine), ?_⟩
      conv => whnf
      have e1 : Z.cutD (isD row) none (some 199) = isD (row.take 199) := by
        rw [cut_to' (by decide), isD, isD, List.map_take]
        rfl
      rw [e1]
      refine ⟨by rw [isD, List.length_map, List.length_take]; show 1 + _ ≤ _; omega, ?_⟩
      conv => whnf
      have e2 : [PyData.int 0] ++ isD (row.take 199) = isD (0 :: row.take 199) := rfl
      rw [e2]
      refine .mk hq (by decide) (by decide) (by rw [List.length_cons, List.length_take]; omega) (fun f hf => ?_) (fun r' w' => by rw [bad _ _ (Or.inl rfl)] at w'; cases w') fun _ => ?_
      · rcases List.mem_cons.mp hf with rfl | hf
        · omega
        · exact ft f (List.mem_of_mem_take hf)
      conv => whnf
      refine br_n (br_d (fun _ => ?_) fun ne => absurd rfl ne)
      conv => whnf
      refine ⟨(by decide : 1 ≤ sizeLine), ?_⟩
      conv => whnf
      refine .mk (fs := [0]) hq (by decide) (by decide) (by decide) (fun f hf => ?_) (fun r' w' => by rw [bad _ _ (Or.inl rfl)] at w'; cases w') fun _ => ?_
      · obtain rfl := List.mem_singleton.mp hf
        omega
      conv => whnf
      refine br_n (br_d (fun _ => ?_) fun ne => absurd rfl ne)
      conv => whnf
      refine ⟨⟨by omega, by omega⟩, ?_⟩
      conv => whnf
      refine ⟨by rw [rgS_len]; omega, ?_⟩
      refine ⟨fun i acc Ω' => ∃ is : List Int, acc = (isD is).map SV.d ∧ Ω' = Ω2 ∧ is.length ≤ i ∧ (0 < i → is ≠ []) ∧ ∀ z ∈ is, 0 ≤ z ∧ z < p ∧ (z = 0 ∨ z % q ≠ 0), ⟨[], rfl, rfl, Nat.le_refl _, fun z => absurd z (by decide), by simp⟩, fun i acc Ω' ⟨is, h1, h2, h3, h4⟩ => ⟨trivial, by rw [h1, List.length_map, isD, List.length_map]; exact h3⟩, ?_, ?_⟩
      · rintro i y acc Ω2 e ⟨is, rfl, rfl, li, ne, ok⟩
        obtain ⟨rfl, lt2⟩ := rgS_get e
        rw [Int.zero_add]
        have add : ∀ b : Bool, (b = true → ((i : Int) = 0 ∨ (i : Int) % q ≠ 0)) → (b = false → 0 < i) → ∃ is' : List Int, (if b then (isD is).map SV.d ++ [SV.d (.int (i : Int))] else (isD is).map SV.d) = (isD is').map SV.d ∧ Ω2 = Ω2 ∧ is'.length ≤ i + 1 ∧ (0 < i + 1 → is' ≠ []) ∧ ∀ z ∈ is', 0 ≤ z ∧ z < p ∧ (z = 0 ∨ z % q ≠ 0) := by
          intro b h1 h2
          cases b
          · exact ⟨is, rfl, rfl, by omega, fun _ => ne (h2 rfl), ok⟩
          · refine ⟨is ++ [(i : Int)], ?_, rfl, by simp; omega, fun _ => by simp, fun z hz => ?_⟩
            · rw [← app_isD, List.map_append]
              rfl
            · rcases List.mem_append.mp hz with hz | hz
              · exact ok z hz
              · obtain rfl := List.mem_singleton.mp hz
                exact ⟨by omega, by omega, h1 rfl⟩
        conv => whnf
        refine br_d (fun e0 => ?_) fun ne0 => ?_
        · refine br_T ?_
          exact add true (fun _ => Or.inl e0) (fun z => by cases z)
        · conv => whnf
          refine ⟨show 0 < q by omega, ?_⟩
          conv => whnf
          refine br_d (fun g => ?_) fun g => ?_
          · exact add true (fun _ => Or.inr (by omega)) (fun z => by cases z)
          · exact add false (fun z => by cases z) (fun _ => by omega)
      rintro acc Ω2 ⟨is, rfl, rfl, li, ne, ok⟩
      rw [rgS_len] at li ne
      refine newX_d ?_
      conv => whnf
      refine .mk hB (by have := ne (by omega); simpa [isD] using this) (by rw [isD, List.length_map]; omega) fun dd hd Ω3 hB => ?_
      obtain ⟨f, hf, rfl⟩ := List.mem_map.mp hd
      obtain ⟨f0, f1, f2⟩ := ok f hf
      conv => whnf
      refine ⟨(by decide : 1 ≤ sizeLine), ?_⟩
      conv => whnf
      have e3 : Z.cutD (isD row) (some 1) none = isD (row.drop 1) := by
        rw [cut_from' (by decide), isD, isD, List.map_drop]
        rfl
      rw [e3]
      refine ⟨by rw [isD, List.length_map, List.length_drop]; show 1 + _ ≤ _; omega, ?_⟩
      conv => whnf
      have e4 : [PyData.int f] ++ isD (row.drop 1) = isD (f :: row.drop 1) := rfl
      rw [e4]
      refine .mk hq (by decide) (by decide) (by rw [List.length_cons, List.length_drop]; omega) (fun g hg => ?_) (fun r' w' => by rw [bad _ _ f2] at w'; cases w') fun _ => ?_
      · rcases List.mem_cons.mp hg with rfl | hg
        · omega
        · exact ft g (List.mem_of_mem_drop hg)
      conv => whnf
      obtain ⟨Ω4, rfl, hB4⟩ := hB.pop
      rw [decide_eq_true rfl]
      exact ⟨_, .cons _ (.refl _), k _ hB4⟩
    conv => whnf
    refine ⟨_, _, .here, ?_⟩
    conv => whnf
    refine br_d (fun gt => ?_) fun le2 => ?_
    · obtain ⟨m, wm⟩ := way_take wf 200
      have mb := way_bd hq wm (fun f hf => fr f (List.mem_of_mem_take hf)) (by decide) (show (0 : Int) ≤ 10 ^ 0 by decide)
      have m2 : (10 : Int) ^ (0 + (rv.take 200).length) ≤ 10 ^ 236 := ten_le (by rw [List.length_take]; omega)
      conv => whnf
      refine ⟨fun j ρ Ω' => ∃ (m : Int) (ρ7 : Option SV), ρ = [some x, some (I p), some (I q), some (I 0), some (.r (.ref c)), some (I m), some (.d (.list (isD (rv.take 200)))), ρ7, none, none] ∧ Ω' = (c, .lst (isD ws)) :: Ω1 ∧ way p q 0 ((rv.take 200).take j) = some m, ⟨0, none, rfl, rfl, rfl⟩, fun _ _ _ _ => trivial, ?_, ?_⟩
      · rintro j y ρ _ e' ⟨m1, ρ9, rfl, rfl, w⟩
        obtain ⟨f, hf, rfl⟩ := get_isD e'
        have lt : j < (rv.take 200).length := (List.getElem?_eq_some_iff.mp hf).1
        have fm := fr f (List.mem_of_mem_take (List.mem_of_getElem? hf))
        have mb := way_bd hq w (fun z hz => fr z (List.mem_of_mem_take (List.mem_of_mem_take hz))) (by decide) (show (0 : Int) ≤ 10 ^ 0 by decide)
        have m2 : (10 : Int) ^ (0 + ((rv.take 200).take j).length) ≤ 10 ^ 236 := ten_le (by rw [List.length_take, List.length_take]; omega)
        have m3 : m1 ≤ 10 ^ 236 := Int.le_trans mb.2 m2
        have ex : rv.take 200 = (rv.take 200).take j ++ f :: (rv.take 200).drop (j + 1) := by
          have e2 := List.drop_eq_getElem_cons lt
          have e3 : (rv.take 200)[j] = f := by
            rw [List.getElem?_eq_getElem lt] at hf
            exact Option.some.inj hf
          rw [e3] at e2
          rw [← e2, List.take_append_drop]
        obtain ⟨m', w', y1, y2⟩ := way_at (by rw [← ex]; exact wm)
        rw [w] at w'
        obtain rfl := Option.some.inj w'
        conv => whnf
        refine ⟨cmulP (by omega) (by omega) (by omega) (by omega), ?_⟩
        conv => whnf
        refine ⟨cdiv (by omega) (by omega), ?_⟩
        conv => whnf
        refine ⟨_, _, rfl, rfl, ?_⟩
        rw [List.take_add_one, hf]
        exact way_snoc w y1 y2
      · rintro ρ _ ⟨m1, ρ9, rfl, rfl, w⟩
        rw [List.length_map, isD, List.length_map, List.take_length, wm] at w
        obtain rfl := Option.some.inj w
        exact fin _ _ _ wm mb.1 (Int.le_trans mb.2 m2) (hB.push _)
    · have le3 : rv.length ≤ 200 := by
        rw [isD, List.length_map] at le2
        omega
      have et : rv.take 200 = rv := List.take_of_length_le le3
      exact fin _ _ _ (by rw [et]; exact wf) (by omega) (by omega) (hB.push _)
theorem loHi_bd2 {p q n : Int} (h : Pq p q) (h0 : 0 ≤ n) (hn : n ≤ 10 ^ 31) {k : Nat} (hk : k ≤ 31) : hi p q n k ≤ 10 ^ 62 := by
  have a := lohi_bd h h0 hn k
  exact Int.le_trans a.2.2.2 (ten_le (by omega))
theorem lo_ge1 {p q n : Int} (h : Pq p q) (h0 : 1 ≤ n) (k : Nat) : 1 ≤ lo p q n k := by
  have := lo_ge h (n := n) (by omega) k
  omega
theorem seg_kids {p q a b : Int} (hq : Pq p q) (h1 : 1 ≤ a) (hb : a ≤ b + 1) : ∀ n : Nat, (n : Int) ≤ b + 1 - a → ((seg a b).take n).flatMap (fun x => kids x p q) = seg (upq p q a) (dnq p q (a + n - 1))
  | 0, _ => by
    rw [List.take_zero, seg_nil]
    · rfl
    · have := (ud_all hq (x := a - 1) (by omega)).2.2.2.1
      rw [show a - 1 + 1 = a by omega] at this
      show dnq p q (a + 0 - 1) < _
      rw [show a + 0 - 1 = a - 1 by omega]
      omega
  | n + 1, hn => by
    have ih := seg_kids hq h1 hb n (by omega)
    have g : (seg a b)[n]? = some (a + n) := seg_get (by omega)
    rw [List.take_add_one, g, List.flatMap_append, ih]
    have kk := kids_seg hq (n := a + n) (by omega)
    have u := (ud_all hq (x := a + n - 1) (by omega)).2.2.2.1
    rw [show a + n - 1 + 1 = a + (n : Int) by omega] at u
    have v := (ud_all hq (x := a + n) (by omega)).2.2.2.2.2.2
    have mono : upq p q a ≤ dnq p q (a + n - 1) + 1 := by
      have w1 : ∀ m : Nat, upq p q a ≤ upq p q (a + m) := by
        intro m
        induction m with
        | zero => simp
        | succ m ih2 =>
          have u1 := (ud_all hq (x := a + m) (by omega)).2.2.2.1
          have v1 := (ud_all hq (x := a + m) (by omega)).2.2.2.2.2.2
          have e : a + ((m + 1 : Nat) : Int) = a + m + 1 := by omega
          rw [e]
          omega
      have := w1 n
      omega
    show _ ++ ([a + (n : Int)].flatMap fun x => kids x p q) = _
    simp only [List.flatMap_cons, List.flatMap_nil, List.append_nil]
    rw [kk, u, show a + ((n + 1 : Nat) : Int) - 1 = a + n by omega]
    exact seg_app mono (by rw [u] at v; omega)
theorem w_l_are_levels_right (Cl : Cls) (Fr : Addr → Prop) (svs : List SV) (Ω : Om) (Φ : PhiE) (Ξ : XA) (h : c_l_are_levels_right svs Ω Φ Ξ) :
    a_l_are_levels_right Cl Fr { nx := fun _ Ω => Φ (.d .none) Ω, rt := Φ } (startR N_l_are_levels_right svs) Ω := by
  obtain ⟨hB, hq, k⟩ := h
  rename_i x p q L R
  have r := hq.rng
  have t30 : (10 : Int) ^ (30 : Int).toNat = 10 ^ 30 := rfl
  conv => whnf
  refine .mk hB (by decide) (by decide) fun a Ω1 a0 a1 hB => ?_
  conv => whnf
  refine .mk hB fun b Ω1 b0 b1 hB => ?_
  conv => whnf
  refine ⟨(by decide : 3 ≤ sizeLine), ?_⟩
  conv => whnf
  refine .mk hB (by simp) (by simp) fun d hd Ω1 hB => ?_
  have hd2 : ∃ z : Int, d = .int z ∧ 0 ≤ z ∧ z ≤ 10 ^ 30 := by
    simp at hd
    rcases hd with rfl | rfl | rfl <;> exact ⟨_, rfl, by omega, by omega⟩
  obtain ⟨n', rfl, z0, z1⟩ := hd2
  have mx : ∃ o, (if n' > 1 then n' else 1) = o ∧ 1 ≤ o ∧ o ≤ 10 ^ 30 := by
    split
    · exact ⟨_, rfl, by omega, by omega⟩
    · exact ⟨_, rfl, by omega, by omega⟩
  obtain ⟨n, en, n0, n1⟩ := mx
  conv => whnf
  refine ⟨(by decide : 1 ≤ sizeLine), ?_⟩
  conv => whnf
  refine ⟨fun d ρ Ω' => ∃ (j : Nat) (ρ6 ρ7 ρ8 : Option SV), ρ = [some x, some (I p), some (I q), some (I n), some (.d (.list (isD (seg (lo p q n j) (hi p q n j))))), some (I j), ρ6, ρ7, ρ8, none] ∧ Bag x L R Ω' ∧ d = 30 - j ∧ j ≤ 30, ⟨_, 0, none, none, none, ?_, hB, rfl, Nat.zero_le _⟩, ?_⟩
  · rw [← en]
    show _ = [some x, some (I p), some (I q), _, some (.d (.list (isD (seg _ _)))), some (I 0), none, none, none, none]
    rw [show lo p q (if n' > 1 then n' else 1) 0 = (if n' > 1 then n' else 1) from rfl, show hi p q (if n' > 1 then n' else 1) 0 = (if n' > 1 then n' else 1) from rfl, seg_one]
    rfl
  rintro d ρ Ω2 ⟨j, ρ6, ρ7, ρ8, rfl, hB, rfl, j30⟩
  have lh := lo_hi hq (n := n) (by omega) j
  have l1 := lo_ge1 hq n0 j
  have hb := loHi_bd2 hq (n := n) (by omega) (by omega) (k := j) (by omega)
  have sl : (seg (lo p q n j) (hi p q n j)).length = (hi p q n j + 1 - lo p q n j).toNat := seg_len
  generalize eLO : lo p q n j = LO at lh l1 hb sl
  generalize eHI : hi p q n j = HI at lh hb sl
  conv => whnf
  refine br_d (fun le => ?_) fun gt => ?_
  · rw [isD, List.length_map] at le
    conv => whnf
    refine br_d (fun lt => ?_) fun ge => ?_
    · have jn : ((j : Nat) : Int).toNat = j := by omega
      have g0 : (seg LO HI)[0]? = some LO := by rw [seg_get (by omega)]; simp
      have gl : (seg LO HI).getLast? = some HI := by
        rw [List.getLast?_eq_getElem?, sl, seg_get (by omega)]
        congr 1
        omega
      have a1 : atI (isD (seg LO HI)) (-1) = some (.int HI) := atI_end (by rw [isD, List.getLast?_map, gl]; rfl)
      conv => whnf
      refine .mk hq (by omega) (by omega) (by omega) (by omega) ?_
      rw [jn, eLO]
      conv => whnf
      refine ⟨.int LO, atI_i (by decide) (by rw [isD, List.getElem?_map]; show ((seg LO HI)[0]?).map _ = _; rw [g0]; rfl), ?_⟩
      conv => whnf
      refine .mk (bigSame (by omega) (by omega)) ?_
      conv => whnf
      refine br_F ?_
      conv => whnf
      refine .mk hq (by omega) (by omega) (by omega) (by omega) ?_
      rw [jn, eHI]
      conv => whnf
      refine ⟨.int HI, a1, ?_⟩
      conv => whnf
      refine .mk (bigSame (by omega) (by omega)) ?_
      conv => whnf
      refine br_F ?_
      conv => whnf
      refine .mk hq (by omega) (by omega) (by omega) (by omega) ?_
      rw [jn, eLO, eHI]
      have el : HI - LO + 1 = ((isD (seg LO HI)).length : Int) := by rw [isD, List.length_map, sl]; omega
      conv => whnf
      rw [el]
      refine .mk (bigSame (by omega) (by rw [isD, List.length_map]; omega)) ?_
      conv => whnf
      refine br_F ?_
      have fin : (aSeq (aAsg (aLst (some Fr) aNil) (gN 6)) (aSeq (aFor (aIt (aVar 4)) (gN 7) (aSeq (aAsg (aLc none (aIt (aCall c_l_ahead xno (aCons (aVar 7) (aCons (aVar 1) (aCons (aVar 2) aNil))))) (gN 9) aYes (aBin arDiv (aBin (arAdd none) (aBin arMul (aVar 1) (aVar 7)) (aVar 9)) (aVar 2)) [9]) (gN 8)) (aSeq (aIf (aAnd (aB (aBin arLt (aCB acLen (aCons (aVar 4) aNil)) (aC (.d (.int 30))))) (aAnd (aB (aBin arLe (aVar 7) (aBin arPow (aC (.d (.int 10))) (aC (.d (.int 30)))))) (aNot (aTru (aCall c_l_same xno (aCons (aCall c_numbers_ahead xno (aCons (aVar 7) (aCons (aVar 1) (aCons (aVar 2) aNil)))) (aCons (aCB acTupOf (aCons (aVar 8) aNil)) aNil))))))) (aRetD (aC (.d (.bool false)))) aNx) (aExp (aMl amExtend (aVar 6) (aCons (aVar 8) aNil)))))) (aPar2 4 5 (aCons (aFrz Fr (aVar 6)) (aCons (aBin (arAdd none) (aVar 5) (aC (.d (.int 1)))) aNil))))) { nx := fun ρ' Ω' => ∃ m', m' < 30 - j ∧ ∃ (j : Nat) (ρ6 ρ7 ρ8 : Option SV), ρ' = [some x, some (I p), some (I q), some (I n), some (.d (.list (isD (seg (lo p q n j) (hi p q n j))))), some (I j), ρ6, ρ7, ρ8, none] ∧ Bag x L R Ω' ∧ m' = 30 - j ∧ j ≤ 30, rt := Φ, bk := fun _ _ => False, ct := fun _ _ => False } [some x, some (I p), some (I q), some (I n), some (.d (.list (isD (seg LO HI)))), some (I j), ρ6, ρ7, ρ8, none] Ω2 := by
        conv => whnf
        refine ⟨(by decide : 0 ≤ sizeLine), ?_⟩
        intro c fc
        conv => whnf
        refine ⟨fun i ρ Ω' => ∃ (ρ7 ρ8 : Option SV), ρ = [some x, some (I p), some (I q), some (I n), some (.d (.list (isD (seg LO HI)))), some (I j), some (.r (.ref c)), ρ7, ρ8, none] ∧ Ω' = (c, .lst (isD (((seg LO HI).take i).flatMap fun x => kids x p q))) :: Ω2 ∧ i ≤ (seg LO HI).length, ⟨_, _, rfl, rfl, Nat.zero_le _⟩, fun _ _ _ _ => trivial, ?_, ?_⟩
        · rintro i y ρ _ e ⟨ρ7, ρ8, rfl, rfl, _⟩
          obtain ⟨one, ho, rfl⟩ := get_isD e
          have li : i < (seg LO HI).length := (List.getElem?_eq_some_iff.mp ho).1
          have so := seg_mem (List.mem_of_getElem? ho)
          have kl : ∀ z, (kids z p q).length ≤ 10 := fun z => by unfold kids; rw [List.length_map]; have : (ahead z p q).length ≤ p.toNat := aheadTo_len _; omega
          have fl : (((seg LO HI).take i).flatMap fun x => kids x p q).length ≤ 10 * i := by
            have gen : ∀ l : List Int, (l.flatMap fun x => kids x p q).length ≤ 10 * l.length := by
              intro l
              induction l with
              | nil => simp
              | cons z t ih => rw [List.flatMap_cons, List.length_append, List.length_cons]; have := kl z; omega
            have := gen ((seg LO HI).take i)
            rw [List.length_take] at this
            omega
          conv => whnf
          refine .mk hq (by omega) (by omega) ?_
          conv => whnf
          refine ⟨by rw [List.length_map, isD, List.length_map]; have : (ahead one p q).length ≤ p.toNat := aheadTo_len _; omega, ?_⟩
          refine ⟨fun i' acc Ω' => acc = (isD (((ahead one p q).take i').map fun a => (p * one + a) / q)).map SV.d ∧ Ω' = (c, .lst (isD (((seg LO HI).take i).flatMap fun x => kids x p q))) :: Ω2, ⟨rfl, rfl⟩, fun i acc Ω' ⟨h1, h2⟩ => ⟨trivial, ?_⟩, ?_, ?_⟩
          · rw [h1, List.length_map, isD, List.length_map, List.length_map, List.length_take]
            omega
          · rintro i' x' acc _ e' ⟨rfl, rfl⟩
            obtain ⟨a, ha, rfl⟩ := get_isD e'
            have m := aheadTo_mem (List.mem_of_getElem? ha)
            conv => whnf
            refine br_T ?_
            conv => whnf
            refine ⟨cmulP (by omega) (by omega) (by omega) (by omega), ?_⟩
            conv => whnf
            refine ⟨cdiv (by omega) (by omega), ?_⟩
            conv => whnf
            refine ⟨?_, rfl⟩
            rw [List.take_add_one, ha, List.map_append, ← app_isD, List.map_append]
            rfl
          rintro acc _ ⟨rfl, rfl⟩
          refine newX_d ?_
          rw [List.length_map, isD, List.length_map, List.take_length]
          conv => whnf
          have nx : isD (((seg LO HI).take i).flatMap fun x => kids x p q) ++ isD (kids one p q) = isD (((seg LO HI).take (i + 1)).flatMap fun x => kids x p q) := by
            rw [app_isD, List.take_add_one, ho, List.flatMap_append]
            show _ = isD (_ ++ ([one].flatMap fun x => kids x p q))
            simp
          have zs : sizeLine = 16777216 := by decide
          have szs : (isD (((seg LO HI).take i).flatMap fun x => kids x p q)).length + (isD (kids one p q)).length ≤ sizeLine := by
            rw [isD, isD, List.length_map, List.length_map]
            have := kl one
            omega
          have ext : ∀ ρ8 : Option SV, ρ8 = some (.d (.list (isD (kids one p q)))) → (aExp (aMl amExtend (aVar 6) (aCons (aVar 8) aNil))) { nx := fun ρ Ω' => ∃ (ρ7 ρ8 : Option SV), ρ = [some x, some (I p), some (I q), some (I n), some (.d (.list (isD (seg LO HI)))), some (I j), some (.r (.ref c)), ρ7, ρ8, none] ∧ Ω' = (c, .lst (isD (((seg LO HI).take (i + 1)).flatMap fun x => kids x p q))) :: Ω2 ∧ i + 1 ≤ (seg LO HI).length, rt := Φ, bk := fun _ _ => False, ct := fun _ _ => False } [some x, some (I p), some (I q), some (I n), some (.d (.list (isD (seg LO HI)))), some (I j), some (.r (.ref c)), some (I one), ρ8, none] ((c, .lst (isD (((seg LO HI).take i).flatMap fun x => kids x p q))) :: Ω2) := by
            rintro ρ8 rfl
            conv => whnf
            refine ⟨⟨_, _, .here, trivial⟩, ?_⟩
            conv => whnf
            refine ⟨_, _, .here, ?_⟩
            refine ⟨szs, ?_⟩
            conv => whnf
            rw [nx]
            exact ⟨_, _, rfl, rfl, li⟩
          refine br_d (fun lt30 => ?_) fun _ => ?_
          · conv => whnf
            refine ⟨⟨by decide, by decide, by decide⟩, ?_⟩
            conv => whnf
            refine br_d (fun le30 => ?_) fun _ => ?_
            · conv => whnf
              refine .mk hq (by omega) (by omega) ?_
              conv => whnf
              refine .mk (kidsSame hq (by omega) (by omega)) ?_
              conv => whnf
              refine br_F ?_
              exact ext _ rfl
            · refine br_F ?_
              exact ext _ rfl
          · refine br_F ?_
            exact ext _ rfl
        · rintro ρ _ ⟨ρ7, ρ8, rfl, rfl, _⟩
          rw [List.length_map, isD, List.length_map, List.take_length]
          have sk := seg_kids (a := LO) (b := HI) hq l1 (by omega) (seg LO HI).length (by omega)
          rw [List.take_length] at sk
          conv => whnf
          refine ⟨_, _, .here, fc, _, .here, ?_⟩
          conv => whnf
          refine ⟨_, ?_, j + 1, some (.r (.ref c)), ρ7, ρ8, ?_, hB, rfl, by omega⟩
          · omega
          · rw [sk]
            have e1 : LO + ((seg LO HI).length : Int) - 1 = HI := by omega
            rw [e1]
            show _ = [some x, some (I p), some (I q), some (I n), some (.d (.list (isD (seg (upq p q (lo p q n j)) (dnq p q (hi p q n j)))))), some (I ((j + 1 : Nat) : Int)), some (.r (.ref c)), ρ7, ρ8, none]
            rw [eLO, eHI]
            rfl
      conv => whnf
      refine ⟨⟨by decide, by decide, by decide⟩, ?_⟩
      conv => whnf
      refine br_d (fun ltn => ?_) fun gen => ?_
      · conv => whnf
        refine .mk hq (by omega) (by omega) (by omega) (by omega) ?_
        rw [jn, lo_next hq (by omega), eHI]
        conv => whnf
        refine ⟨.int HI, a1, ?_⟩
        conv => whnf
        refine .mk (bigSame (by omega) (by omega)) ?_
        conv => whnf
        refine br_F ?_
        exact fin
      · refine br_F ?_
        exact fin
    · exact ⟨_, .refl _, k _ hB⟩
  · refine br_F ?_
    exact ⟨_, .refl _, k _ hB⟩
theorem d_figures_ahead {P : Program} {w : World} {K : PySem.W.Frag} {mg : Str → Option Value} {base : Heap} {f : Addr} {cdv : Value} {A : Around} {outer : List Env} {s : Shared} {H : Hp} {E : XK} {G : Gn} (T : Top K mg) (hgd : A.guards = some [])
    (hr : Room 0 (A.deeper (envOfC "figures_ahead" (defScope s_figures_ahead) s.heap.objs.size f cdv))) :
    JSs (cxOf CX0 P w K mg base N_figures_ahead "figures_ahead" (defScope s_figures_ahead) f cdv A outer s H E).nox G (defBody s_figures_ahead) (a_figures_ahead T.cl fun p => G.H0 p = none) :=
    (jss_cons (js_set (i := 3) sc_figures_ahead.nd rfl (Or.inl rfl) (je_if (jt_cmp (jo_eq hr.units) (je_var (pv 0)) je_int (nomark _)) je_int je_int))
    (jss_one (js_ret (je_callTy jc_tupleOf rfl T.n_tuple (by decide +kernel) (ja_cons (je_lc mok0 rfl sc_figures_ahead.nd (ji_range2 rfl T.n_range (ja_cons (je_var (pv 3)) (ja_cons (je_var (pv 1)) ja_nil))) (blkOk_by (own := [("figure", 4)]) (N := N_figures_ahead) (sc := defScope s_figures_ahead) (by decide +kernel)) (fun _ => (jgo_name (i := 4) (by first | decide | simp) sc_figures_ahead.nd rfl (Or.inl rfl))) (fun _ => (jts_one (jt_cmp (jo_eq hr.units) (je_bin jo_mod (je_bin (jo_add mok0) (je_bin jo_mulI (je_var (pv 1)) (je_var (pv 0))) (je_var (pv 4))) (je_var (pv 2))) je_int (nomark _)))) (fun _ => (je_var (pv 4))) (own := [("figure", 4)])) ja_nil)))))
theorem ok_figures_ahead {P : Program} {w : World} {K : PySem.W.Frag} {mg : Str → Option Value} {base : Heap} (T : Top K mg) : FnG P w K mg base CX0 1 T.f_figures_ahead T.fd_figures_ahead ["number", "p", "q"] (spOf K c_figures_ahead) :=
  fn_ok0 (k := 0) T.F_figures_ahead sc_figures_ahead ari_figures_ahead (fun cdv A outer s H E G hgd hr => d_figures_ahead T hgd hr) (w_figures_ahead T.cl)
theorem d_least_branch {P : Program} {w : World} {K : PySem.W.Frag} {mg : Str → Option Value} {base : Heap} {f : Addr} {cdv : Value} {A : Around} {outer : List Env} {s : Shared} {H : Hp} {E : XK} {G : Gn} (T : Top K mg) (hgd : A.guards = some [])
    (hr : Room 0 (A.deeper (envOfC "least_branch" (defScope s_least_branch) s.heap.objs.size f cdv))) :
    JSs (cxOf CX0 P w K mg base N_least_branch "least_branch" (defScope s_least_branch) f cdv A outer s H E).nox G (defBody s_least_branch) (a_least_branch T.cl fun p => G.H0 p = none) :=
    (jss_cons (js_for PassesOwn.never rfl (ji_range1 rfl T.n_range (ja_cons (je_var (pv 1)) ja_nil)) (jg_name (i := 4) sc_least_branch.nd rfl (Or.inl rfl)) (jss_one (js_set (i := 0) sc_least_branch.nd rfl (Or.inl rfl) (je_un ju_neg (je_bin jo_div (je_bin jo_mulI (je_un ju_neg (je_var (pv 2))) (je_var (pv 0))) (je_var (pv 3)))))))
    (jss_one (js_ret (je_var (pv 0)))))
theorem ok_least_branch {P : Program} {w : World} {K : PySem.W.Frag} {mg : Str → Option Value} {base : Heap} (T : Top K mg) : FnG P w K mg base CX0 1 T.f_least_branch T.fd_least_branch ["number", "k", "p", "q"] (spOf K c_least_branch) :=
  fn_ok0 (k := 0) T.F_least_branch sc_least_branch ari_least_branch (fun cdv A outer s H E G hgd hr => d_least_branch T hgd hr) (w_least_branch T.cl)
theorem d_greatest_branch {P : Program} {w : World} {K : PySem.W.Frag} {mg : Str → Option Value} {base : Heap} {f : Addr} {cdv : Value} {A : Around} {outer : List Env} {s : Shared} {H : Hp} {E : XK} {G : Gn} (T : Top K mg) (hgd : A.guards = some [])
    (hr : Room 0 (A.deeper (envOfC "greatest_branch" (defScope s_greatest_branch) s.heap.objs.size f cdv))) :
    JSs (cxOf CX0 P w K mg base N_greatest_branch "greatest_branch" (defScope s_greatest_branch) f cdv A outer s H E).nox G (defBody s_greatest_branch) (a_greatest_branch T.cl fun p => G.H0 p = none) :=
    (jss_cons (js_for PassesOwn.never rfl (ji_range1 rfl T.n_range (ja_cons (je_var (pv 1)) ja_nil)) (jg_name (i := 4) sc_greatest_branch.nd rfl (Or.inl rfl)) (jss_one (js_set (i := 0) sc_greatest_branch.nd rfl (Or.inl rfl) (je_bin jo_div (je_bin jo_sub (je_bin (jo_add mok0) (je_bin jo_mulI (je_var (pv 2)) (je_var (pv 0))) (je_var (pv 2))) je_int) (je_var (pv 3))))))
    (jss_one (js_ret (je_var (pv 0)))))
theorem ok_greatest_branch {P : Program} {w : World} {K : PySem.W.Frag} {mg : Str → Option Value} {base : Heap} (T : Top K mg) : FnG P w K mg base CX0 1 T.f_greatest_branch T.fd_greatest_branch ["number", "k", "p", "q"] (spOf K c_greatest_branch) :=
  fn_ok0 (k := 0) T.F_greatest_branch sc_greatest_branch ari_greatest_branch (fun cdv A outer s H E G hgd hr => d_greatest_branch T hgd hr) (w_greatest_branch T.cl)
theorem d_branch_number {P : Program} {w : World} {K : PySem.W.Frag} {mg : Str → Option Value} {base : Heap} {f : Addr} {cdv : Value} {A : Around} {outer : List Env} {s : Shared} {H : Hp} {E : XK} {G : Gn} (T : Top K mg) (hgd : A.guards = some [])
    (hr : Room 0 (A.deeper (envOfC "branch_number" (defScope s_branch_number) s.heap.objs.size f cdv))) {Ξ : XA} (hX : ∀ {x : XI} {Ω : Om} {P' F H : Hp} {cls : Value} {d : Option Addr}, Ξ x Ω → Ok ⟨G, K⟩ P' F H Ω → RpX K F H cls d x → E cls d H) :
    JSs (cxOf (L2N.CX P w) P w K mg base N_branch_number "branch_number" (defScope s_branch_number) f cdv A outer s H E) G (defBody s_branch_number) (a_branch_number T.cl (fun p => G.H0 p = none) Ξ) :=
    (jss_cons (js_for (passes_of rfl) rfl (ji_of (je_var (pv 1))) (jg_name (i := 4) sc_branch_number.nd rfl (Or.inl rfl)) (jss_cons (js_set (i := 5) sc_branch_number.nd rfl (Or.inl rfl) (je_bin (jo_add mok0) (je_bin jo_mulI (je_var (pv 2)) (je_var (pv 0))) (je_var (pv 4))))
    (jss_cons (js_if (jw_pt (jw_or (jt_cmp (jo_eq hr.units) (je_var (pv 5)) je_int (nomark _)) (jw_or1 (jt_cmp (jo_ne hr.units) (je_bin jo_mod (je_var (pv 5)) (je_var (pv 3))) je_int (nomark _))))) (jss_one (js_raise rfl (L2N.takes_of rfl rfl rfl rfl) (xok_of hX) (mk_own0 PySem.F.excBase_ValueError T.xi_Unfit T.g_Unfit T.kp_Unfit (raises_own T.be_Unfit T.ty_Unfit) rfl))) jss_nil)
    (jss_one (js_set (i := 0) sc_branch_number.nd rfl (Or.inl rfl) (je_bin jo_div (je_var (pv 5)) (je_var (pv 3))))))))
    (jss_one (js_ret (je_var (pv 0)))))
theorem ok_branch_number {P : Program} {w : World} {K : PySem.W.Frag} {mg : Str → Option Value} {base : Heap} (T : Top K mg) : FnG P w K mg base (L2N.CX P w) 1 T.f_branch_number T.fd_branch_number ["number", "figures", "p", "q"] (spOf K (c_branch_number T.cl)) :=
  fn_ok (k := 0) (as := fun Fr Ξ => a_branch_number T.cl Fr Ξ) T.F_branch_number sc_branch_number (ari_branch_number T.cl) (fun cdv A outer s H E G Ξ hgd hr hX => d_branch_number T hgd hr hX) (w_branch_number T.cl)
theorem d_alike_depth {P : Program} {w : World} {K : PySem.W.Frag} {mg : Str → Option Value} {base : Heap} {f : Addr} {cdv : Value} {A : Around} {outer : List Env} {s : Shared} {H : Hp} {E : XK} {G : Gn} (T : Top K mg) (hgd : A.guards = some [])
    (hr : Room 0 (A.deeper (envOfC "alike_depth" (defScope s_alike_depth) s.heap.objs.size f cdv))) :
    JSs (cxOf CX0 P w K mg base N_alike_depth "alike_depth" (defScope s_alike_depth) f cdv A outer s H E).nox G (defBody s_alike_depth) (a_alike_depth T.cl fun p => G.H0 p = none) :=
    (jss_cons (js_par2 (i := 4) (j := 5) rfl sc_alike_depth.nd rfl rfl (by decide) rfl rfl (ja_cons je_int (ja_cons (je_callB jc_abs rfl T.n_abs (by decide +kernel) (ja_cons (je_bin jo_sub (je_var (pv 0)) (je_var (pv 1))) ja_nil)) ja_nil)) rfl)
    (jss_cons (js_while PassesOwn.never (jt_cmp (jo_eq hr.units) (je_bin jo_mod (je_var (pv 5)) (je_var (pv 3))) je_int (nomark _)) (jss_one (js_par2 (i := 4) (j := 5) rfl sc_alike_depth.nd rfl rfl (by decide) rfl rfl (ja_cons (je_bin (jo_add mok0) (je_var (pv 4)) je_int) (ja_cons (je_bin jo_div (je_var (pv 5)) (je_var (pv 3))) ja_nil)) rfl)))
    (jss_one (js_ret (je_var (pv 4))))))
theorem ok_alike_depth {P : Program} {w : World} {K : PySem.W.Frag} {mg : Str → Option Value} {base : Heap} (T : Top K mg) : FnG P w K mg base CX0 1 T.f_alike_depth T.fd_alike_depth ["one", "other", "p", "q"] (spOf K c_alike_depth) :=
  fn_ok0 (k := 0) T.F_alike_depth sc_alike_depth ari_alike_depth (fun cdv A outer s H E G hgd hr => d_alike_depth T hgd hr) (w_alike_depth T.cl)
theorem d_l_own_bag {P : Program} {w : World} {K : PySem.W.Frag} {mg : Str → Option Value} {base : Heap} {f : Addr} {cdv : Value} {A : Around} {outer : List Env} {s : Shared} {H : Hp} {E : XK} {G : Gn} (T : Top K mg) (hgd : A.guards = some [])
    (hr : Room 0 (A.deeper (envOfC "_law_own_bag" (defScope s_l_own_bag) s.heap.objs.size f cdv))) :
    JSs (cxOf CX0 P w K mg base N_l_own_bag "_law_own_bag" (defScope s_l_own_bag) f cdv A outer s H E).nox G (defBody s_l_own_bag) (a_l_own_bag T.cl fun p => G.H0 p = none) :=
    (jss_cons (js_setLc mok0 rfl sc_l_own_bag.nd rfl rfl (sw_true rfl rfl rfl (by decide +kernel)) (ji_of (je_sl mok0 (je_var (pv 0)) jp_none (jp_some je_int))) (blkOk_by (own := [("cell", 3)]) (N := N_l_own_bag) (sc := defScope s_l_own_bag) (by decide +kernel)) (fun _ => (jgo_name (i := 3) (by first | decide | simp) sc_l_own_bag.nd rfl (Or.inl rfl))) (fun _ => jts_nil) (fun _ => (je_callB jc_abs rfl T.n_abs (by decide +kernel) (ja_cons (je_var (pv 3)) ja_nil))) (own := [("cell", 3)]))
    (jss_cons (js_set (i := 2) sc_l_own_bag.nd rfl (Or.inl rfl) (je_bin (jo_add mok0) je_int (je_callB jc_len rfl T.n_len (by decide +kernel) (ja_cons (je_var (pv 1)) ja_nil))))
    (jss_cons (js_for PassesOwn.never rfl (ji_of (je_var (pv 1))) (jg_name (i := 3) sc_l_own_bag.nd rfl (Or.inl rfl)) (jss_one (js_set (i := 2) sc_l_own_bag.nd rfl (Or.inl rfl) (je_bin jo_mod (je_bin (jo_add mok0) (je_bin (jo_add mok0) (je_bin jo_mulI (je_var (pv 2)) je_int) (je_bin jo_mod (je_callTy jc_int rfl T.n_int (by decide +kernel) (ja_cons (je_var (pv 3)) ja_nil)) je_int)) je_int) je_int))))
    (jss_one (js_ret (je_lst mok1 (ja_cons (je_listRev mok1 rfl rfl T.n_list rfl T.n_reversed (je_callTy (jc_listOf mok0) rfl T.n_list (by decide +kernel) (ja_cons (je_var (pv 1)) ja_nil))) (ja_cons je_int (ja_cons (je_var (pv 2)) ja_nil)))))))))
theorem ok_l_own_bag {P : Program} {w : World} {K : PySem.W.Frag} {mg : Str → Option Value} {base : Heap} (T : Top K mg) : FnG P w K mg base CX0 1 T.f_l_own_bag T.fd_l_own_bag ["script"] (spOf K c_l_own_bag) :=
  fn_ok0 (k := 0) T.F_l_own_bag sc_l_own_bag ari_l_own_bag (fun cdv A outer s H E G hgd hr => d_l_own_bag T hgd hr) (w_l_own_bag T.cl)
theorem d_l_draw {P : Program} {w : World} {K : PySem.W.Frag} {mg : Str → Option Value} {base : Heap} {f : Addr} {cdv : Value} {A : Around} {outer : List Env} {s : Shared} {H : Hp} {E : XK} {G : Gn} (T : Top K mg) (hgd : A.guards = some [])
    (hr : Room 0 (A.deeper (envOfC "_law_draw" (defScope s_l_draw) s.heap.objs.size f cdv))) :
    JSs (cxOf CX0 P w K mg base N_l_draw "_law_draw" (defScope s_l_draw) f cdv A outer s H E).nox G (defBody s_l_draw) (a_l_draw T.cl fun p => G.H0 p = none) :=
    (jss_cons (js_while PassesOwn.never (jw_pt (jw_and (jt_cmp (jo_eq hr.units) (je_ix jx_seq (je_var (pv 0)) je_int (fun _ _ => rfl)) je_int (nomark _)) (jw_and1 (jt_cmp (jo_ne hr.units) (je_ix jx_seq (je_var (pv 0)) je_int (fun _ _ => rfl)) (je_lst mok0 ja_nil) (nomark _))))) (jss_cons (js_set (i := 2) sc_l_draw.nd rfl (Or.inl rfl) (je_ml0 PySem.F.slot_list_pop PySem.F.type_list_pop jm_pop (je_ix jx_seq (je_var (pv 0)) je_int (fun _ _ => rfl))))
    (jss_one (js_setIx (je_if (jt_cmp jo_gt (je_var (pv 2)) (je_bin jo_pow je_int je_int) (nomark _)) (je_var (pv 2)) je_int) (je_var (pv 0)) je_int))))
    (jss_cons (js_if (jt_cmp jo_gt (je_ix jx_seq (je_var (pv 0)) je_int (fun _ _ => rfl)) je_int (nomark _)) (jss_cons (js_set (i := 3) sc_l_draw.nd rfl (Or.inl rfl) (je_bin jo_mod (je_callTy jc_int rfl T.n_int (by decide +kernel) (ja_cons (je_ix jx_seq (je_var (pv 0)) je_int (fun _ _ => rfl)) ja_nil)) (je_var (pv 1))))
    (jss_cons (js_setIx (je_bin jo_div (je_ix jx_seq (je_var (pv 0)) je_int (fun _ _ => rfl)) (je_var (pv 1))) (je_var (pv 0)) je_int)
    (jss_one (js_ret (je_var (pv 3)))))) jss_nil)
    (jss_cons (js_setIx (je_bin jo_mod (je_bin (jo_add mok0) (je_bin jo_mulI (je_ix jx_seq (je_var (pv 0)) je_int (fun _ _ => rfl)) je_int) je_int) je_int) (je_var (pv 0)) je_int)
    (jss_one (js_ret (je_bin jo_mod (je_bin jo_div (je_bin jo_mod (je_callTy jc_int rfl T.n_int (by decide +kernel) (ja_cons (je_bin jo_mulI (je_ix jx_seq (je_var (pv 0)) je_int (fun _ _ => rfl)) (je_ix jx_seq (je_var (pv 0)) je_int (fun _ _ => rfl))) ja_nil)) je_int) je_int) (je_var (pv 1))))))))
theorem ok_l_draw {P : Program} {w : World} {K : PySem.W.Frag} {mg : Str → Option Value} {base : Heap} (T : Top K mg) : FnG P w K mg base CX0 1 T.f_l_draw T.fd_l_draw ["bag", "below"] (spOf K c_l_draw) :=
  fn_ok0 (k := 0) T.F_l_draw sc_l_draw ari_l_draw (fun cdv A outer s H E G hgd hr => d_l_draw T hgd hr) (w_l_draw T.cl)
theorem d_l_same {P : Program} {w : World} {K : PySem.W.Frag} {mg : Str → Option Value} {base : Heap} {f : Addr} {cdv : Value} {A : Around} {outer : List Env} {s : Shared} {H : Hp} {E : XK} {G : Gn} (T : Top K mg) (hgd : A.guards = some [])
    (hr : Room 0 (A.deeper (envOfC "_law_same" (defScope s_l_same) s.heap.objs.size f cdv))) :
    JSs (cxOf CX0 P w K mg base N_l_same "_law_same" (defScope s_l_same) f cdv A outer s H E).nox G (defBody s_l_same) (a_l_same T.cl fun p => G.H0 p = none) :=
    (jss_cons (js_if (jt_cmp jo_is (je_var (pv 1)) je_non (nomark _)) (jss_one (js_ret (je_cmp jo_is (je_var (pv 0)) je_non (nomark _)))) jss_nil)
    (jss_cons (js_if (jt_of (je_callB jc_isi rfl T.n_isinstance (by decide +kernel) (ja_cons (je_var (pv 1)) (ja_cons (je_raw (v := .ty "tuple") (pe_bltn rfl T.n_tuple (by decide +kernel) rfl)) ja_nil)))) (jss_one (js_ret (je_and (je_callB jc_isi rfl T.n_isinstance (by decide +kernel) (ja_cons (je_var (pv 0)) (ja_cons (je_raw (v := .ty "tuple") (pe_bltn rfl T.n_tuple (by decide +kernel) rfl)) ja_nil))) (je_and (je_cmp (jo_eq hr.units) (je_callB (jc_repr hr.units hgd) rfl T.n_repr (by decide +kernel) (ja_cons (je_var (pv 0)) ja_nil)) (je_callB (jc_repr hr.units hgd) rfl T.n_repr (by decide +kernel) (ja_cons (je_var (pv 1)) ja_nil)) (nomark _)) (je_one (je_cmp (jo_eq hr.units) (je_var (pv 0)) (je_var (pv 1)) (nomark _))))))) jss_nil)
    (jss_cons (js_if (jt_of (je_callB jc_isi rfl T.n_isinstance (by decide +kernel) (ja_cons (je_var (pv 1)) (ja_cons (je_raw (v := .ty "str") (pe_bltn rfl T.n_str (by decide +kernel) rfl)) ja_nil)))) (jss_one (js_ret (je_and (je_callB jc_isi rfl T.n_isinstance (by decide +kernel) (ja_cons (je_var (pv 0)) (ja_cons (je_raw (v := .ty "str") (pe_bltn rfl T.n_str (by decide +kernel) rfl)) ja_nil))) (je_one (je_cmp (jo_eq hr.units) (je_callB (jc_repr hr.units hgd) rfl T.n_repr (by decide +kernel) (ja_cons (je_var (pv 0)) ja_nil)) (je_callB (jc_repr hr.units hgd) rfl T.n_repr (by decide +kernel) (ja_cons (je_var (pv 1)) ja_nil)) (nomark _)))))) jss_nil)
    (jss_one (js_ret (je_and (je_callB jc_isi rfl T.n_isinstance (by decide +kernel) (ja_cons (je_var (pv 0)) (ja_cons (je_raw (v := .ty "int") (pe_bltn rfl T.n_int (by decide +kernel) rfl)) ja_nil))) (je_and (je_cmp (jo_eq hr.units) (je_callB (jc_repr hr.units hgd) rfl T.n_repr (by decide +kernel) (ja_cons (je_var (pv 0)) ja_nil)) (je_callB (jc_repr hr.units hgd) rfl T.n_repr (by decide +kernel) (ja_cons (je_var (pv 1)) ja_nil)) (nomark _)) (je_one (je_cmp (jo_eq hr.units) (je_var (pv 0)) (je_var (pv 1)) (nomark _))))))))))
theorem ok_l_same {P : Program} {w : World} {K : PySem.W.Frag} {mg : Str → Option Value} {base : Heap} (T : Top K mg) : FnG P w K mg base CX0 1 T.f_l_same T.fd_l_same ["found", "due"] (spOf K c_l_same) :=
  fn_ok0 (k := 0) T.F_l_same sc_l_same ari_l_same (fun cdv A outer s H E G hgd hr => d_l_same T hgd hr) (w_l_same T.cl)
theorem d_l_pairs {P : Program} {w : World} {K : PySem.W.Frag} {mg : Str → Option Value} {base : Heap} {f : Addr} {cdv : Value} {A : Around} {outer : List Env} {s : Shared} {H : Hp} {E : XK} {G : Gn} (T : Top K mg) (hgd : A.guards = some [])
    (hr : Room 0 (A.deeper (envOfC "_law_pairs" (defScope s_l_pairs) s.heap.objs.size f cdv))) :
    JSs (cxOf CX0 P w K mg base N_l_pairs "_law_pairs" (defScope s_l_pairs) f cdv A outer s H E).nox G (defBody s_l_pairs) (a_l_pairs T.cl fun p => G.H0 p = none) :=
    (jss_cons (js_set (i := 0) sc_l_pairs.nd rfl (Or.inl rfl) (je_lst mok1 ja_nil))
    (jss_cons (js_for PassesOwn.never rfl (ji_range2 rfl T.n_range (ja_cons je_int (ja_cons je_int ja_nil))) (jg_name (i := 1) sc_l_pairs.nd rfl (Or.inr rfl)) (jss_one (js_expr (je_ml PySem.F.slot_list_extend PySem.F.type_list_extend jm_extend (je_var (pv 0)) (ja_cons (je_lc mok0 rfl sc_l_pairs.nd (ji_range2 rfl T.n_range (ja_cons je_int (ja_cons (je_var (pv 1)) ja_nil))) (blkOk_by (own := [("q", 2)]) (N := N_l_pairs) (sc := defScope s_l_pairs) (by decide +kernel)) (fun _ => (jgo_name (i := 2) (by first | decide | simp) sc_l_pairs.nd rfl (Or.inr rfl))) (fun _ => (jts_one (jt_of (je_callB (jc_all rfl) rfl T.n_all (by decide +kernel) (ja_cons (je_lc mok0 rfl sc_l_pairs.nd (ji_of (je_tup (ja_cons je_int (ja_cons je_int (ja_cons je_int (ja_cons je_int ja_nil)))))) (blkOk_by (own := [("r", 3)]) (N := N_l_pairs) (by first | rfl | decide +kernel)) (fun _ => (jgo_name (i := 3) (by first | decide | simp) sc_l_pairs.nd rfl (Or.inl rfl))) (fun _ => jts_nil) (fun _ => (je_or (je_cmp jo_gt (je_bin jo_mod (je_callTy jc_int rfl T.n_int (by decide +kernel) (ja_cons (je_var (pv 1)) ja_nil)) (je_var (pv 3))) je_int (nomark _)) (je_one (je_cmp jo_gt (je_bin jo_mod (je_callTy jc_int rfl T.n_int (by decide +kernel) (ja_cons (je_var (pv 2)) ja_nil)) (je_var (pv 3))) je_int (nomark _))))) (own := [("r", 3)])) ja_nil))))) (fun _ => (je_tup (ja_cons (je_var (pv 1)) (ja_cons (je_var (pv 2)) ja_nil)))) (own := [("q", 2)])) ja_nil)))))
    (jss_one (js_retF (je_var (pv 0))))))
theorem ok_l_pairs {P : Program} {w : World} {K : PySem.W.Frag} {mg : Str → Option Value} {base : Heap} (T : Top K mg) : FnG P w K mg base CX0 1 T.f_l_pairs T.fd_l_pairs [] (spOf K c_l_pairs) :=
  fn_ok0 (k := 0) T.F_l_pairs sc_l_pairs ari_l_pairs (fun cdv A outer s H E G hgd hr => d_l_pairs T hgd hr) (w_l_pairs T.cl)
theorem d_l_is_unfit {P : Program} {w : World} {K : PySem.W.Frag} {mg : Str → Option Value} {base : Heap} {f : Addr} {cdv : Value} {A : Around} {outer : List Env} {s : Shared} {H : Hp} {E : XK} {G : Gn} {p : Addr × Obj} (T : Top K mg) (hgd : A.guards = some []) (hot : L2H.Hot1 A p) (hz : L2N.Zn (.ref T.cl.Unfit) none p.2)
    (hr : L2H.RoomH 0 (A.deeper (envOfC "_law_is_unfit" (defScope s_l_is_unfit) s.heap.objs.size f cdv))) :
    JSs (L2H.cxH CX0 P w K mg base N_l_is_unfit "_law_is_unfit" (defScope s_l_is_unfit) f cdv A outer s H E p) G (defBody s_l_is_unfit) (a_l_is_unfit T.cl p.1) :=
    (jss_cons (js_set (i := 1) sc_l_is_unfit.nd rfl (Or.inl rfl) (je_lst mok0 (ja_cons (je_callB (jc_isE List.mem_cons_self T.ec_Unfit hz ⟨_, hot.2.choose_spec.1⟩ is_ref T.is_Unfit_TooMany) rfl T.n_isinstance (by decide +kernel) (ja_cons (je_var (pv 0)) (ja_cons (je_raw (v := .ref T.cl.TooMany) (pe_glob rfl T.g_TooMany rfl)) ja_nil))) (ja_cons (je_callB (jc_isE List.mem_cons_self T.ec_Unfit hz ⟨_, hot.2.choose_spec.1⟩ is_ref T.is_Unfit_BadText) rfl T.n_isinstance (by decide +kernel) (ja_cons (je_var (pv 0)) (ja_cons (je_raw (v := .ref T.cl.BadText) (pe_glob rfl T.g_BadText rfl)) ja_nil))) (ja_cons (je_callB (jc_isE List.mem_cons_self T.ec_Unfit hz ⟨_, hot.2.choose_spec.1⟩ is_ref T.is_Unfit_BadWord) rfl T.n_isinstance (by decide +kernel) (ja_cons (je_var (pv 0)) (ja_cons (je_raw (v := .ref T.cl.BadWord) (pe_glob rfl T.g_BadWord rfl)) ja_nil))) (ja_cons (je_callB (jc_isE List.mem_cons_self T.ec_Unfit hz ⟨_, hot.2.choose_spec.1⟩ is_ref T.is_Unfit_BadLog) rfl T.n_isinstance (by decide +kernel) (ja_cons (je_var (pv 0)) (ja_cons (je_raw (v := .ref T.cl.BadLog) (pe_glob rfl T.g_BadLog rfl)) ja_nil))) (ja_cons (je_callB (jc_isE List.mem_cons_self T.ec_Unfit hz ⟨_, hot.2.choose_spec.1⟩ is_ref T.is_Unfit_Refused) rfl T.n_isinstance (by decide +kernel) (ja_cons (je_var (pv 0)) (ja_cons (je_raw (v := .ref T.cl.Refused) (pe_glob rfl T.g_Refused rfl)) ja_nil))) (ja_cons (je_callB (jc_isE List.mem_cons_self T.ec_Unfit hz ⟨_, hot.2.choose_spec.1⟩ is_ref T.is_Unfit_NothingToUndo) rfl T.n_isinstance (by decide +kernel) (ja_cons (je_var (pv 0)) (ja_cons (je_raw (v := .ref T.cl.NothingToUndo) (pe_glob rfl T.g_NothingToUndo rfl)) ja_nil))) (ja_cons (je_callB (jc_isE List.mem_cons_self T.ec_Unfit hz ⟨_, hot.2.choose_spec.1⟩ is_ref T.is_Unfit_NothingToRedo) rfl T.n_isinstance (by decide +kernel) (ja_cons (je_var (pv 0)) (ja_cons (je_raw (v := .ref T.cl.NothingToRedo) (pe_glob rfl T.g_NothingToRedo rfl)) ja_nil))) (ja_cons (je_callB (jc_isE List.mem_cons_self T.ec_Unfit hz ⟨_, hot.2.choose_spec.1⟩ is_ref T.is_Unfit_NoName) rfl T.n_isinstance (by decide +kernel) (ja_cons (je_var (pv 0)) (ja_cons (je_raw (v := .ref T.cl.NoName) (pe_glob rfl T.g_NoName rfl)) ja_nil))) (ja_cons (je_callB (jc_isE List.mem_cons_self T.ec_Unfit hz ⟨_, hot.2.choose_spec.1⟩ is_ref T.is_Unfit_NoVersion) rfl T.n_isinstance (by decide +kernel) (ja_cons (je_var (pv 0)) (ja_cons (je_raw (v := .ref T.cl.NoVersion) (pe_glob rfl T.g_NoVersion rfl)) ja_nil))) ja_nil)))))))))))
    (jss_one (js_ret (je_and (je_callB (jc_isE List.mem_cons_self T.ec_Unfit hz ⟨_, hot.2.choose_spec.1⟩ is_ref T.is_Unfit_Unfit) rfl T.n_isinstance (by decide +kernel) (ja_cons (je_var (pv 0)) (ja_cons (je_raw (v := .ref T.cl.Unfit) (pe_glob rfl T.g_Unfit rfl)) ja_nil))) (je_and (je_callB (jc_isE List.mem_cons_self T.ec_Unfit hz ⟨_, hot.2.choose_spec.1⟩ is_ty T.is_Unfit_ValueError) rfl T.n_isinstance (by decide +kernel) (ja_cons (je_var (pv 0)) (ja_cons (je_raw (v := .ty "ValueError") (pe_bltn rfl T.n_ValueError (by decide +kernel) rfl)) ja_nil))) (je_one (je_not (je_callB (jc_anyH hot List.mem_cons_self) rfl T.n_any (by decide +kernel) (ja_cons (je_var (pv 1)) ja_nil)))))))))
theorem ok_l_is_unfit {P : Program} {w : World} {K : PySem.W.Frag} {mg : Str → Option Value} {base : Heap} (T : Top K mg) : FnE P w K mg base T.cl.Unfit 1 T.f_l_is_unfit T.fd_l_is_unfit ["error"] true :=
  fnE_of (k := 0) T.F_l_is_unfit sc_l_is_unfit rfl (fun cdv A outer s H E G p hgd hot hz hr => d_l_is_unfit T hgd hot hz hr) (w_l_is_unfit T.cl)
theorem d_l_ahead {P : Program} {w : World} {K : PySem.W.Frag} {mg : Str → Option Value} {base : Heap} {f : Addr} {cdv : Value} {A : Around} {outer : List Env} {s : Shared} {H : Hp} {E : XK} {G : Gn} (T : Top K mg) (hgd : A.guards = some [])
    (hr : Room 0 (A.deeper (envOfC "_law_ahead" (defScope s_l_ahead) s.heap.objs.size f cdv))) :
    JSs (cxOf CX0 P w K mg base N_l_ahead "_law_ahead" (defScope s_l_ahead) f cdv A outer s H E).nox G (defBody s_l_ahead) (a_l_ahead T.cl fun p => G.H0 p = none) :=
    (jss_one (js_ret (je_lc mok0 rfl sc_l_ahead.nd (ji_range1 rfl T.n_range (ja_cons (je_var (pv 1)) ja_nil)) (blkOk_by (own := [("a", 3)]) (N := N_l_ahead) (sc := defScope s_l_ahead) (by decide +kernel)) (fun _ => (jgo_name (i := 3) (by first | decide | simp) sc_l_ahead.nd rfl (Or.inl rfl))) (fun _ => (jts_one (jw_pt (jw_and (jt_cmp (jo_eq hr.units) (je_bin jo_mod (je_callTy jc_int rfl T.n_int (by decide +kernel) (ja_cons (je_bin (jo_add mok0) (je_bin jo_mulI (je_var (pv 1)) (je_var (pv 0))) (je_var (pv 3))) ja_nil)) (je_var (pv 2))) je_int (nomark _)) (jw_and1 (jt_cmp jo_gt (je_bin (jo_add mok0) (je_var (pv 0)) (je_var (pv 3))) je_int (nomark _))))))) (fun _ => (je_var (pv 3))) (own := [("a", 3)]))))
theorem ok_l_ahead {P : Program} {w : World} {K : PySem.W.Frag} {mg : Str → Option Value} {base : Heap} (T : Top K mg) : FnG P w K mg base CX0 1 T.f_l_ahead T.fd_l_ahead ["number", "p", "q"] (spOf K c_l_ahead) :=
  fn_ok0 (k := 0) T.F_l_ahead sc_l_ahead ari_l_ahead (fun cdv A outer s H E G hgd hr => d_l_ahead T hgd hr) (w_l_ahead T.cl)
theorem d_l_ends {P : Program} {w : World} {K : PySem.W.Frag} {mg : Str → Option Value} {base : Heap} {f : Addr} {cdv : Value} {A : Around} {outer : List Env} {s : Shared} {H : Hp} {E : XK} {G : Gn} (T : Top K mg) (hgd : A.guards = some [])
    (hr : Room 0 (A.deeper (envOfC "_law_ends" (defScope s_l_ends) s.heap.objs.size f cdv))) :
    JSs (cxOf CX0 P w K mg base N_l_ends "_law_ends" (defScope s_l_ends) f cdv A outer s H E).nox G (defBody s_l_ends) (a_l_ends T.cl fun p => G.H0 p = none) :=
    (jss_cons (js_par2 (i := 4) (j := 5) rfl sc_l_ends.nd rfl rfl (by decide) rfl rfl (ja_cons (je_var (pv 0)) (ja_cons (je_var (pv 0)) ja_nil)) rfl)
    (jss_cons (js_for PassesOwn.never rfl (ji_range1 rfl T.n_range (ja_cons (je_var (pv 1)) ja_nil)) (jg_name (i := 6) sc_l_ends.nd rfl (Or.inl rfl)) (jss_one (js_par2 (i := 4) (j := 5) rfl sc_l_ends.nd rfl rfl (by decide) rfl rfl (ja_cons (je_bin jo_div (je_bin jo_sub (je_bin (jo_add mok0) (je_bin jo_mulI (je_var (pv 2)) (je_var (pv 4))) (je_var (pv 3))) je_int) (je_var (pv 3))) (ja_cons (je_bin jo_div (je_bin jo_sub (je_bin (jo_add mok0) (je_bin jo_mulI (je_var (pv 2)) (je_var (pv 5))) (je_var (pv 2))) je_int) (je_var (pv 3))) ja_nil)) rfl)))
    (jss_one (js_ret (je_tup (ja_cons (je_var (pv 4)) (ja_cons (je_var (pv 5)) ja_nil)))))))
theorem ok_l_ends {P : Program} {w : World} {K : PySem.W.Frag} {mg : Str → Option Value} {base : Heap} (T : Top K mg) : FnG P w K mg base CX0 1 T.f_l_ends T.fd_l_ends ["number", "k", "p", "q"] (spOf K c_l_ends) :=
  fn_ok0 (k := 0) T.F_l_ends sc_l_ends ari_l_ends (fun cdv A outer s H E G hgd hr => d_l_ends T hgd hr) (w_l_ends T.cl)
theorem d_numbers_ahead {P : Program} {w : World} {K : PySem.W.Frag} {mg : Str → Option Value} {base : Heap} {f : Addr} {cdv : Value} {A : Around} {outer : List Env} {s : Shared} {H : Hp} {E : XK} {G : Gn} (T : Top K mg) (hgd : A.guards = some [])
    (hr : Room 1 (A.deeper (envOfC "numbers_ahead" (defScope s_numbers_ahead) s.heap.objs.size f cdv))) :
    JSs (cxOf CX0 P w K mg base N_numbers_ahead "numbers_ahead" (defScope s_numbers_ahead) f cdv A outer s H E).nox G (defBody s_numbers_ahead) (a_numbers_ahead T.cl fun p => G.H0 p = none) :=
    (jss_one (js_ret (je_callTy jc_tupleOf rfl T.n_tuple (by decide +kernel) (ja_cons (je_lc mok0 rfl sc_numbers_ahead.nd (ji_of (je_call (ok_figures_ahead T) (hr.mono (by decide)) hgd rfl T.m_figures_ahead T.F_figures_ahead.kp (b_figures_ahead T) (fun _ => passAt0) (@xok0 _ _ _) (ja_cons (je_var (pv 0)) (ja_cons (je_var (pv 1)) (ja_cons (je_var (pv 2)) ja_nil))))) (blkOk_by (own := [("figure", 3)]) (N := N_numbers_ahead) (sc := defScope s_numbers_ahead) (by decide +kernel)) (fun _ => (jgo_name (i := 3) (by first | decide | simp) sc_numbers_ahead.nd rfl (Or.inl rfl))) (fun _ => jts_nil) (fun _ => (je_bin jo_div (je_bin (jo_add mok0) (je_bin jo_mulI (je_var (pv 1)) (je_var (pv 0))) (je_var (pv 3))) (je_var (pv 2)))) (own := [("figure", 3)])) ja_nil))))
theorem ok_numbers_ahead {P : Program} {w : World} {K : PySem.W.Frag} {mg : Str → Option Value} {base : Heap} (T : Top K mg) : FnG P w K mg base CX0 2 T.f_numbers_ahead T.fd_numbers_ahead ["number", "p", "q"] (spOf K c_numbers_ahead) :=
  fn_ok0 (k := 1) T.F_numbers_ahead sc_numbers_ahead ari_numbers_ahead (fun cdv A outer s H E G hgd hr => d_numbers_ahead T hgd hr) (w_numbers_ahead T.cl)
theorem d_branch_count {P : Program} {w : World} {K : PySem.W.Frag} {mg : Str → Option Value} {base : Heap} {f : Addr} {cdv : Value} {A : Around} {outer : List Env} {s : Shared} {H : Hp} {E : XK} {G : Gn} (T : Top K mg) (hgd : A.guards = some [])
    (hr : Room 1 (A.deeper (envOfC "branch_count" (defScope s_branch_count) s.heap.objs.size f cdv))) :
    JSs (cxOf CX0 P w K mg base N_branch_count "branch_count" (defScope s_branch_count) f cdv A outer s H E).nox G (defBody s_branch_count) (a_branch_count T.cl fun p => G.H0 p = none) :=
    (jss_one (js_ret (je_bin (jo_add mok0) (je_bin jo_sub (je_call (ok_greatest_branch T) (hr.mono (by decide)) hgd rfl T.m_greatest_branch T.F_greatest_branch.kp (b_greatest_branch T) (fun _ => passAt0) (@xok0 _ _ _) (ja_cons (je_var (pv 0)) (ja_cons (je_var (pv 1)) (ja_cons (je_var (pv 2)) (ja_cons (je_var (pv 3)) ja_nil))))) (je_call (ok_least_branch T) (hr.mono (by decide)) hgd rfl T.m_least_branch T.F_least_branch.kp (b_least_branch T) (fun _ => passAt0) (@xok0 _ _ _) (ja_cons (je_var (pv 0)) (ja_cons (je_var (pv 1)) (ja_cons (je_var (pv 2)) (ja_cons (je_var (pv 3)) ja_nil)))))) je_int)))
theorem ok_branch_count {P : Program} {w : World} {K : PySem.W.Frag} {mg : Str → Option Value} {base : Heap} (T : Top K mg) : FnG P w K mg base CX0 2 T.f_branch_count T.fd_branch_count ["number", "k", "p", "q"] (spOf K c_branch_count) :=
  fn_ok0 (k := 1) T.F_branch_count sc_branch_count ari_branch_count (fun cdv A outer s H E G hgd hr => d_branch_count T hgd hr) (w_branch_count T.cl)
theorem d_l_pick {P : Program} {w : World} {K : PySem.W.Frag} {mg : Str → Option Value} {base : Heap} {f : Addr} {cdv : Value} {A : Around} {outer : List Env} {s : Shared} {H : Hp} {E : XK} {G : Gn} (T : Top K mg) (hgd : A.guards = some [])
    (hr : Room 1 (A.deeper (envOfC "_law_pick" (defScope s_l_pick) s.heap.objs.size f cdv))) :
    JSs (cxOf CX0 P w K mg base N_l_pick "_law_pick" (defScope s_l_pick) f cdv A outer s H E).nox G (defBody s_l_pick) (a_l_pick T.cl fun p => G.H0 p = none) :=
    (jss_one (js_ret (je_ix jx_seq (je_var (pv 1)) (je_call (ok_l_draw T) (hr.mono (by decide)) hgd rfl T.m_l_draw T.F_l_draw.kp (b_l_draw T) (fun _ => passAt0) (@xok0 _ _ _) (ja_cons (je_var (pv 0)) (ja_cons (je_callB jc_len rfl T.n_len (by decide +kernel) (ja_cons (je_var (pv 1)) ja_nil)) ja_nil))) (fun _ _ => rfl))))
theorem ok_l_pick {P : Program} {w : World} {K : PySem.W.Frag} {mg : Str → Option Value} {base : Heap} (T : Top K mg) : FnG P w K mg base CX0 2 T.f_l_pick T.fd_l_pick ["bag", "some"] (spOf K c_l_pick) :=
  fn_ok0 (k := 1) T.F_l_pick sc_l_pick ari_l_pick (fun cdv A outer s H E G hgd hr => d_l_pick T hgd hr) (w_l_pick T.cl)
theorem d_l_great {P : Program} {w : World} {K : PySem.W.Frag} {mg : Str → Option Value} {base : Heap} {f : Addr} {cdv : Value} {A : Around} {outer : List Env} {s : Shared} {H : Hp} {E : XK} {G : Gn} (T : Top K mg) (hgd : A.guards = some [])
    (hr : Room 1 (A.deeper (envOfC "_law_great" (defScope s_l_great) s.heap.objs.size f cdv))) :
    JSs (cxOf CX0 P w K mg base N_l_great "_law_great" (defScope s_l_great) f cdv A outer s H E).nox G (defBody s_l_great) (a_l_great T.cl fun p => G.H0 p = none) :=
    (jss_cons (js_asg (je_tup (ja_cons je_int (ja_cons je_int ja_nil))) (jg_tup rfl (jgs1 (jg_name (i := 2) sc_l_great.nd rfl (Or.inl rfl)) (jgs1 (jg_name (i := 3) sc_l_great.nd rfl (Or.inl rfl)) jgs0))))
    (jss_cons (js_while PassesOwn.never (jt_cmp jo_lt (je_var (pv 3)) (je_bin jo_mulI (je_var (pv 1)) je_int) (nomark _)) (jss_one (js_par2 (i := 2) (j := 3) rfl sc_l_great.nd rfl rfl (by decide) rfl rfl (ja_cons (je_bin (jo_add mok0) (je_bin jo_mulI (je_var (pv 2)) je_int) (je_call (ok_l_draw T) (hr.mono (by decide)) hgd rfl T.m_l_draw T.F_l_draw.kp (b_l_draw T) (fun _ => passAt0) (@xok0 _ _ _) (ja_cons (je_var (pv 0)) (ja_cons je_int ja_nil)))) (ja_cons (je_bin jo_mulI (je_var (pv 3)) je_int) ja_nil)) rfl)))
    (jss_one (js_ret (je_bin jo_mod (je_callTy jc_int rfl T.n_int (by decide +kernel) (ja_cons (je_var (pv 2)) ja_nil)) (je_var (pv 1)))))))
theorem ok_l_great {P : Program} {w : World} {K : PySem.W.Frag} {mg : Str → Option Value} {base : Heap} (T : Top K mg) : FnG P w K mg base CX0 2 T.f_l_great T.fd_l_great ["bag", "below"] (spOf K c_l_great) :=
  fn_ok0 (k := 1) T.F_l_great sc_l_great ari_l_great (fun cdv A outer s H E G hgd hr => d_l_great T hgd hr) (w_l_great T.cl)
theorem d_l_path {P : Program} {w : World} {K : PySem.W.Frag} {mg : Str → Option Value} {base : Heap} {f : Addr} {cdv : Value} {A : Around} {outer : List Env} {s : Shared} {H : Hp} {E : XK} {G : Gn} (T : Top K mg) (hgd : A.guards = some [])
    (hr : Room 1 (A.deeper (envOfC "_law_path" (defScope s_l_path) s.heap.objs.size f cdv))) :
    JSs (cxOf CX0 P w K mg base N_l_path "_law_path" (defScope s_l_path) f cdv A outer s H E).nox G (defBody s_l_path) (a_l_path T.cl fun p => G.H0 p = none) :=
    (jss_cons (js_par2 (i := 5) (j := 6) rfl sc_l_path.nd rfl rfl (by decide) rfl rfl (ja_cons (je_lc mok0 rfl sc_l_path.nd (ji_range1 rfl T.n_range (ja_cons je_int ja_nil)) (blkOk_by (own := [("turn", 9)]) (N := N_l_path) (sc := defScope s_l_path) (by decide +kernel)) (fun _ => (jgo_name (i := 9) (by first | decide | simp) sc_l_path.nd rfl (Or.inl rfl))) (fun _ => jts_nil) (fun _ => (je_call (ok_l_draw T) (hr.mono (by decide)) hgd rfl T.m_l_draw T.F_l_draw.kp (b_l_draw T) (fun _ => passAt0) (@xok0 _ _ _) (ja_cons (je_var (pv 0)) (ja_cons je_int ja_nil)))) (own := [("turn", 9)])) (ja_cons (je_lst mok1 ja_nil) ja_nil)) rfl)
    (jss_cons (js_for PassesOwn.never rfl (ji_range1 rfl T.n_range (ja_cons (je_var (pv 2)) ja_nil)) (jg_name (i := 7) sc_l_path.nd rfl (Or.inl rfl)) (jss_cons (js_set (i := 8) sc_l_path.nd rfl (Or.inl rfl) (je_call (ok_l_ahead T) (hr.mono (by decide)) hgd rfl T.m_l_ahead T.F_l_ahead.kp (b_l_ahead T) (fun _ => passAt0) (@xok0 _ _ _) (ja_cons (je_var (pv 1)) (ja_cons (je_var (pv 3)) (ja_cons (je_var (pv 4)) ja_nil)))))
    (jss_cons (js_expr (je_ml PySem.F.slot_list_append PySem.F.type_list_append jm_append (je_var (pv 6)) (ja_cons (je_ix jx_seq (je_var (pv 8)) (je_bin jo_mod (je_ix jx_seq (je_var (pv 5)) (je_bin jo_mod (je_var (pv 7)) je_int) (fun _ _ => rfl)) (je_callB jc_len rfl T.n_len (by decide +kernel) (ja_cons (je_var (pv 8)) ja_nil))) (fun _ _ => rfl)) ja_nil)))
    (jss_one (js_set (i := 1) sc_l_path.nd rfl (Or.inl rfl) (je_bin jo_div (je_bin (jo_add mok0) (je_bin jo_mulI (je_var (pv 3)) (je_var (pv 1))) (je_ix jx_seq (je_var (pv 6)) (je_un ju_neg je_int) (fun _ _ => rfl))) (je_var (pv 4))))))))
    (jss_one (js_retD (je_tup (ja_cons (je_frz (je_var (pv 6))) (ja_cons (je_var (pv 1)) ja_nil)))))))
theorem ok_l_path {P : Program} {w : World} {K : PySem.W.Frag} {mg : Str → Option Value} {base : Heap} (T : Top K mg) : FnG P w K mg base CX0 2 T.f_l_path T.fd_l_path ["bag", "number", "k", "p", "q"] (spOf K c_l_path) :=
  fn_ok0 (k := 1) T.F_l_path sc_l_path ari_l_path (fun cdv A outer s H E G hgd hr => d_l_path T hgd hr) (w_l_path T.cl)
theorem d_l_way_told {P : Program} {w : World} {K : PySem.W.Frag} {mg : Str → Option Value} {base : Heap} {f : Addr} {cdv : Value} {A : Around} {outer : List Env} {s : Shared} {H : Hp} {E : XK} {G : Gn} (T : Top K mg) (hgd : A.guards = some [])
    (hr : Room 1 (A.deeper (envOfC "_law_way_told" (defScope s_l_way_told) s.heap.objs.size f cdv))) :
    JSs (cxOf CX0 P w K mg base N_l_way_told "_law_way_told" (defScope s_l_way_told) f cdv A outer s H E).nox G (defBody s_l_way_told) (a_l_way_told T.cl fun p => G.H0 p = none) :=
    (jss_one (js_tryAs (i := 4) (cls := .ref T.cl.Unfit) rfl rfl sc_l_way_told.nd rfl rfl ⟨rfl, by decide, Or.inl T.g_BaseError⟩ T.ex_Unfit_BaseError (fun G' Ξ1 W pn xe hg hx tk po => (jss_one (js_ret (je_call (ok_branch_number T) (hr.mono (by decide)) hgd rfl T.m_branch_number T.F_branch_number.kp (b_branch_number T) (fun σ => L2N.passAt tk σ) hx (ja_cons (je_var (pv 0)) (ja_cons (je_callTy jc_tupleOf rfl T.n_tuple (by decide +kernel) (ja_cons (je_var (pv 1)) ja_nil)) (ja_cons (je_var (pv 2)) (ja_cons (je_var (pv 3)) ja_nil)))))))) (fun e1 oe pn hz hf => (jss_one (js_ret (je_if (jt_of (je_callE (ok_l_is_unfit T) ⟨(hr.mono (j := 1) (by decide)).dp, (hr.mono (j := 1) (by decide)).un⟩ hgd (hot_of hz hf rfl) List.mem_cons_self hz rfl T.m_l_is_unfit T.F_l_is_unfit.kp (b_l_is_unfit T) (je_var (pv 4)))) je_str je_str))))))
theorem ok_l_way_told {P : Program} {w : World} {K : PySem.W.Frag} {mg : Str → Option Value} {base : Heap} (T : Top K mg) : FnG P w K mg base CX0 2 T.f_l_way_told T.fd_l_way_told ["number", "row", "p", "q"] (spOf K c_l_way_told) :=
  fn_ok0 (k := 1) T.F_l_way_told sc_l_way_told ari_l_way_told (fun cdv A outer s H E G hgd hr => d_l_way_told T hgd hr) (w_l_way_told T.cl)
theorem d_l_depth {P : Program} {w : World} {K : PySem.W.Frag} {mg : Str → Option Value} {base : Heap} {f : Addr} {cdv : Value} {A : Around} {outer : List Env} {s : Shared} {H : Hp} {E : XK} {G : Gn} (T : Top K mg) (hgd : A.guards = some [])
    (hr : Room 1 (A.deeper (envOfC "_law_depth" (defScope s_l_depth) s.heap.objs.size f cdv))) :
    JSs (cxOf CX0 P w K mg base N_l_depth "_law_depth" (defScope s_l_depth) f cdv A outer s H E).nox G (defBody s_l_depth) (a_l_depth T.cl fun p => G.H0 p = none) :=
    (jss_cons (js_set (i := 4) sc_l_depth.nd rfl (Or.inl rfl) (je_lst mok1 ja_nil))
    (jss_cons (js_while PassesOwn.never (jt_cmp (jo_eq hr.units) (je_call (ok_l_ahead T) (hr.mono (by decide)) hgd rfl T.m_l_ahead T.F_l_ahead.kp (b_l_ahead T) (fun _ => passAt0) (@xok0 _ _ _) (ja_cons (je_var (pv 0)) (ja_cons (je_var (pv 2)) (ja_cons (je_var (pv 3)) ja_nil)))) (je_call (ok_l_ahead T) (hr.mono (by decide)) hgd rfl T.m_l_ahead T.F_l_ahead.kp (b_l_ahead T) (fun _ => passAt0) (@xok0 _ _ _) (ja_cons (je_var (pv 1)) (ja_cons (je_var (pv 2)) (ja_cons (je_var (pv 3)) ja_nil)))) (nomark _)) (jss_cons (js_expr (je_ml PySem.F.slot_list_append PySem.F.type_list_append jm_append (je_var (pv 4)) (ja_cons (je_ix jx_seq (je_call (ok_l_ahead T) (hr.mono (by decide)) hgd rfl T.m_l_ahead T.F_l_ahead.kp (b_l_ahead T) (fun _ => passAt0) (@xok0 _ _ _) (ja_cons (je_var (pv 0)) (ja_cons (je_var (pv 2)) (ja_cons (je_var (pv 3)) ja_nil)))) (je_bin jo_mod (je_callB jc_len rfl T.n_len (by decide +kernel) (ja_cons (je_var (pv 4)) ja_nil)) (je_callB jc_len rfl T.n_len (by decide +kernel) (ja_cons (je_call (ok_l_ahead T) (hr.mono (by decide)) hgd rfl T.m_l_ahead T.F_l_ahead.kp (b_l_ahead T) (fun _ => passAt0) (@xok0 _ _ _) (ja_cons (je_var (pv 0)) (ja_cons (je_var (pv 2)) (ja_cons (je_var (pv 3)) ja_nil)))) ja_nil))) (fun _ _ => rfl)) ja_nil)))
    (jss_one (js_par2 (i := 0) (j := 1) rfl sc_l_depth.nd rfl rfl (by decide) rfl rfl (ja_cons (je_bin jo_div (je_bin (jo_add mok0) (je_bin jo_mulI (je_var (pv 2)) (je_var (pv 0))) (je_ix jx_seq (je_var (pv 4)) (je_un ju_neg je_int) (fun _ _ => rfl))) (je_var (pv 3))) (ja_cons (je_bin jo_div (je_bin (jo_add mok0) (je_bin jo_mulI (je_var (pv 2)) (je_var (pv 1))) (je_ix jx_seq (je_var (pv 4)) (je_un ju_neg je_int) (fun _ _ => rfl))) (je_var (pv 3))) ja_nil)) rfl))))
    (jss_one (js_retD (je_bin (jo_add mok0) (je_var (pv 4)) (je_lst mok0 (ja_cons (je_ix jx_seq (je_call (ok_l_ahead T) (hr.mono (by decide)) hgd rfl T.m_l_ahead T.F_l_ahead.kp (b_l_ahead T) (fun _ => passAt0) (@xok0 _ _ _) (ja_cons (je_var (pv 0)) (ja_cons (je_var (pv 2)) (ja_cons (je_var (pv 3)) ja_nil)))) je_int (fun _ _ => rfl)) ja_nil)))))))
theorem ok_l_depth {P : Program} {w : World} {K : PySem.W.Frag} {mg : Str → Option Value} {base : Heap} (T : Top K mg) : FnG P w K mg base CX0 2 T.f_l_depth T.fd_l_depth ["one", "other", "p", "q"] (spOf K c_l_depth) :=
  fn_ok0 (k := 1) T.F_l_depth sc_l_depth ari_l_depth (fun cdv A outer s H E G hgd hr => d_l_depth T hgd hr) (w_l_depth T.cl)
theorem d_l_number {P : Program} {w : World} {K : PySem.W.Frag} {mg : Str → Option Value} {base : Heap} {f : Addr} {cdv : Value} {A : Around} {outer : List Env} {s : Shared} {H : Hp} {E : XK} {G : Gn} (T : Top K mg) (hgd : A.guards = some [])
    (hr : Room 2 (A.deeper (envOfC "_law_number" (defScope s_l_number) s.heap.objs.size f cdv))) :
    JSs (cxOf CX0 P w K mg base N_l_number "_law_number" (defScope s_l_number) f cdv A outer s H E).nox G (defBody s_l_number) (a_l_number T.cl fun p => G.H0 p = none) :=
    (jss_cons (js_par2 (i := 1) (j := 2) rfl sc_l_number.nd rfl rfl (by decide) rfl rfl (ja_cons (je_call (ok_l_draw T) (hr.mono (by decide)) hgd rfl T.m_l_draw T.F_l_draw.kp (b_l_draw T) (fun _ => passAt0) (@xok0 _ _ _) (ja_cons (je_var (pv 0)) (ja_cons je_int ja_nil))) (ja_cons je_int ja_nil)) rfl)
    (jss_cons (js_if (jt_cmp (jo_eq hr.units) (je_var (pv 1)) je_int (nomark _)) (jss_one (js_ret (je_call (ok_l_draw T) (hr.mono (by decide)) hgd rfl T.m_l_draw T.F_l_draw.kp (b_l_draw T) (fun _ => passAt0) (@xok0 _ _ _) (ja_cons (je_var (pv 0)) (ja_cons je_int ja_nil))))) jss_nil)
    (jss_cons (js_if (jt_cmp (jo_eq hr.units) (je_var (pv 1)) je_int (nomark _)) (jss_one (js_ret (je_bin jo_sub (je_bin jo_pow je_int je_int) (je_call (ok_l_draw T) (hr.mono (by decide)) hgd rfl T.m_l_draw T.F_l_draw.kp (b_l_draw T) (fun _ => passAt0) (@xok0 _ _ _) (ja_cons (je_var (pv 0)) (ja_cons je_int ja_nil)))))) jss_nil)
    (jss_cons (js_for PassesOwn.never rfl (ji_range1 rfl T.n_range (ja_cons (je_bin (jo_add mok0) je_int (je_call (ok_l_draw T) (hr.mono (by decide)) hgd rfl T.m_l_draw T.F_l_draw.kp (b_l_draw T) (fun _ => passAt0) (@xok0 _ _ _) (ja_cons (je_var (pv 0)) (ja_cons je_int ja_nil)))) ja_nil)) (jg_name (i := 3) sc_l_number.nd rfl (Or.inl rfl)) (jss_one (js_set (i := 2) sc_l_number.nd rfl (Or.inl rfl) (je_bin jo_mulI (je_var (pv 2)) je_int))))
    (jss_one (js_ret (je_bin (jo_add mok0) (je_call (ok_l_great T) (hr.mono (by decide)) hgd rfl T.m_l_great T.F_l_great.kp (b_l_great T) (fun _ => passAt0) (@xok0 _ _ _) (ja_cons (je_var (pv 0)) (ja_cons (je_var (pv 2)) ja_nil))) (je_bin jo_div (je_var (pv 1)) je_int))))))))
theorem ok_l_number {P : Program} {w : World} {K : PySem.W.Frag} {mg : Str → Option Value} {base : Heap} (T : Top K mg) : FnG P w K mg base CX0 3 T.f_l_number T.fd_l_number ["bag"] (spOf K c_l_number) :=
  fn_ok0 (k := 2) T.F_l_number sc_l_number ari_l_number (fun cdv A outer s H E G hgd hr => d_l_number T hgd hr) (w_l_number T.cl)
theorem d_l_some_k {P : Program} {w : World} {K : PySem.W.Frag} {mg : Str → Option Value} {base : Heap} {f : Addr} {cdv : Value} {A : Around} {outer : List Env} {s : Shared} {H : Hp} {E : XK} {G : Gn} (T : Top K mg) (hgd : A.guards = some [])
    (hr : Room 2 (A.deeper (envOfC "_law_some_k" (defScope s_l_some_k) s.heap.objs.size f cdv))) :
    JSs (cxOf CX0 P w K mg base N_l_some_k "_law_some_k" (defScope s_l_some_k) f cdv A outer s H E).nox G (defBody s_l_some_k) (a_l_some_k T.cl fun p => G.H0 p = none) :=
    (jss_one (js_ret (je_call (ok_l_pick T) (hr.mono (by decide)) hgd rfl T.m_l_pick T.F_l_pick.kp (b_l_pick T) (fun _ => passAt0) (@xok0 _ _ _) (ja_cons (je_var (pv 0)) (ja_cons (je_lst mok0 (ja_cons je_int (ja_cons je_int (ja_cons je_int (ja_cons (je_call (ok_l_draw T) (hr.mono (by decide)) hgd rfl T.m_l_draw T.F_l_draw.kp (b_l_draw T) (fun _ => passAt0) (@xok0 _ _ _) (ja_cons (je_var (pv 0)) (ja_cons je_int ja_nil))) (ja_cons (je_call (ok_l_draw T) (hr.mono (by decide)) hgd rfl T.m_l_draw T.F_l_draw.kp (b_l_draw T) (fun _ => passAt0) (@xok0 _ _ _) (ja_cons (je_var (pv 0)) (ja_cons je_int ja_nil))) (ja_cons (je_bin (jo_add mok0) je_int (je_call (ok_l_draw T) (hr.mono (by decide)) hgd rfl T.m_l_draw T.F_l_draw.kp (b_l_draw T) (fun _ => passAt0) (@xok0 _ _ _) (ja_cons (je_var (pv 0)) (ja_cons je_int ja_nil)))) ja_nil))))))) ja_nil)))))
theorem ok_l_some_k {P : Program} {w : World} {K : PySem.W.Frag} {mg : Str → Option Value} {base : Heap} (T : Top K mg) : FnG P w K mg base CX0 3 T.f_l_some_k T.fd_l_some_k ["bag"] (spOf K c_l_some_k) :=
  fn_ok0 (k := 2) T.F_l_some_k sc_l_some_k ari_l_some_k (fun cdv A outer s H E G hgd hr => d_l_some_k T hgd hr) (w_l_some_k T.cl)
theorem d_l_are_ahead_right {P : Program} {w : World} {K : PySem.W.Frag} {mg : Str → Option Value} {base : Heap} {f : Addr} {cdv : Value} {A : Around} {outer : List Env} {s : Shared} {H : Hp} {E : XK} {G : Gn} (T : Top K mg) (hgd : A.guards = some [])
    (hr : Room 3 (A.deeper (envOfC "_law_are_ahead_right" (defScope s_l_are_ahead_right) s.heap.objs.size f cdv))) :
    JSs (cxOf CX0 P w K mg base N_l_are_ahead_right "_law_are_ahead_right" (defScope s_l_are_ahead_right) f cdv A outer s H E).nox G (defBody s_l_are_ahead_right) (a_l_are_ahead_right T.cl fun p => G.H0 p = none) :=
    (jss_cons (js_set (i := 3) sc_l_are_ahead_right.nd rfl (Or.inl rfl) (je_lst mok0 (ja_cons je_int (ja_cons je_int (ja_cons (je_bin (jo_add mok0) je_int (je_call (ok_l_draw T) (hr.mono (by decide)) hgd rfl T.m_l_draw T.F_l_draw.kp (b_l_draw T) (fun _ => passAt0) (@xok0 _ _ _) (ja_cons (je_var (pv 0)) (ja_cons je_int ja_nil)))) (ja_cons (je_call (ok_l_number T) (hr.mono (by decide)) hgd rfl T.m_l_number T.F_l_number.kp (b_l_number T) (fun _ => passAt0) (@xok0 _ _ _) (ja_cons (je_var (pv 0)) ja_nil)) (ja_cons (je_bin jo_pow je_int je_int) ja_nil)))))))
    (jss_cons (js_for PassesOwn.never rfl (ji_of (je_var (pv 3))) (jg_name (i := 4) sc_l_are_ahead_right.nd rfl (Or.inr rfl)) (jss_cons (js_set (i := 5) sc_l_are_ahead_right.nd rfl (Or.inl rfl) (je_call (ok_l_ahead T) (hr.mono (by decide)) hgd rfl T.m_l_ahead T.F_l_ahead.kp (b_l_ahead T) (fun _ => passAt0) (@xok0 _ _ _) (ja_cons (je_var (pv 4)) (ja_cons (je_var (pv 1)) (ja_cons (je_var (pv 2)) ja_nil)))))
    (jss_cons (js_set (i := 6) sc_l_are_ahead_right.nd rfl (Or.inl rfl) (je_callTy jc_tupleOf rfl T.n_tuple (by decide +kernel) (ja_cons (je_lc mok0 rfl sc_l_are_ahead_right.nd (ji_of (je_var (pv 5))) (blkOk_by (own := [("a", 7)]) (N := N_l_are_ahead_right) (sc := defScope s_l_are_ahead_right) (by decide +kernel)) (fun _ => (jgo_name (i := 7) (by first | decide | simp) sc_l_are_ahead_right.nd rfl (Or.inl rfl))) (fun _ => jts_nil) (fun _ => (je_bin jo_div (je_bin (jo_add mok0) (je_bin jo_mulI (je_var (pv 1)) (je_var (pv 4))) (je_var (pv 7))) (je_var (pv 2)))) (own := [("a", 7)])) ja_nil)))
    (jss_one (js_if (jw_pt (jw_or (jt_not (jt_of (je_call (ok_l_same T) (hr.mono (by decide)) hgd rfl T.m_l_same T.F_l_same.kp (b_l_same T) (fun _ => passAt0) (@xok0 _ _ _) (ja_cons (je_call (ok_figures_ahead T) (hr.mono (by decide)) hgd rfl T.m_figures_ahead T.F_figures_ahead.kp (b_figures_ahead T) (fun _ => passAt0) (@xok0 _ _ _) (ja_cons (je_var (pv 4)) (ja_cons (je_var (pv 1)) (ja_cons (je_var (pv 2)) ja_nil)))) (ja_cons (je_callTy jc_tupleOf rfl T.n_tuple (by decide +kernel) (ja_cons (je_var (pv 5)) ja_nil)) ja_nil))))) (jw_or1 (jt_not (jt_of (je_call (ok_l_same T) (hr.mono (by decide)) hgd rfl T.m_l_same T.F_l_same.kp (b_l_same T) (fun _ => passAt0) (@xok0 _ _ _) (ja_cons (je_call (ok_numbers_ahead T) (hr.mono (by decide)) hgd rfl T.m_numbers_ahead T.F_numbers_ahead.kp (b_numbers_ahead T) (fun _ => passAt0) (@xok0 _ _ _) (ja_cons (je_var (pv 4)) (ja_cons (je_var (pv 1)) (ja_cons (je_var (pv 2)) ja_nil)))) (ja_cons (je_var (pv 6)) ja_nil)))))))) (jss_one (js_ret je_bl)) jss_nil)))))
    (jss_cons (js_set (i := 4) sc_l_are_ahead_right.nd rfl (Or.inr rfl) (je_call (ok_l_pick T) (hr.mono (by decide)) hgd rfl T.m_l_pick T.F_l_pick.kp (b_l_pick T) (fun _ => passAt0) (@xok0 _ _ _) (ja_cons (je_var (pv 0)) (ja_cons (je_var (pv 3)) ja_nil))))
    (jss_cons (js_set (i := 5) sc_l_are_ahead_right.nd rfl (Or.inl rfl) (je_call (ok_l_ahead T) (hr.mono (by decide)) hgd rfl T.m_l_ahead T.F_l_ahead.kp (b_l_ahead T) (fun _ => passAt0) (@xok0 _ _ _) (ja_cons (je_var (pv 4)) (ja_cons (je_var (pv 1)) (ja_cons (je_var (pv 2)) ja_nil)))))
    (jss_cons (js_if (jt_not (jt_of (je_call (ok_l_same T) (hr.mono (by decide)) hgd rfl T.m_l_same T.F_l_same.kp (b_l_same T) (fun _ => passAt0) (@xok0 _ _ _) (ja_cons (je_callK0 (ks := ["number", "p", "q"]) (ok_figures_ahead T) (hr.mono (by decide)) hgd rfl T.m_figures_ahead T.F_figures_ahead.kp (kargs T.F_figures_ahead (ps := ["number", "p", "q"]) (ks := ["number", "p", "q"]) (n := 0) (π := [0, 1, 2]) fun _ _ _ _ _ _ us ws h1 h2 => match us, ws, h1, h2 with | [], [_, _, _], _, _ => rfl) (by decide) (fun _ => passAt0) (@xok0 _ _ _) (jk_cons (je_var (pv 4)) (jk_cons (je_var (pv 1)) (jk_cons (je_var (pv 2)) jk_nil)))) (ja_cons (je_callTy jc_tupleOf rfl T.n_tuple (by decide +kernel) (ja_cons (je_var (pv 5)) ja_nil)) ja_nil))))) (jss_one (js_ret je_bl)) jss_nil)
    (jss_one (js_ret (je_call (ok_l_same T) (hr.mono (by decide)) hgd rfl T.m_l_same T.F_l_same.kp (b_l_same T) (fun _ => passAt0) (@xok0 _ _ _) (ja_cons (je_callK0 (ks := ["number", "p", "q"]) (ok_numbers_ahead T) (hr.mono (by decide)) hgd rfl T.m_numbers_ahead T.F_numbers_ahead.kp (kargs T.F_numbers_ahead (ps := ["number", "p", "q"]) (ks := ["number", "p", "q"]) (n := 0) (π := [0, 1, 2]) fun _ _ _ _ _ _ us ws h1 h2 => match us, ws, h1, h2 with | [], [_, _, _], _, _ => rfl) (by decide) (fun _ => passAt0) (@xok0 _ _ _) (jk_cons (je_var (pv 4)) (jk_cons (je_var (pv 1)) (jk_cons (je_var (pv 2)) jk_nil)))) (ja_cons (je_callTy jc_tupleOf rfl T.n_tuple (by decide +kernel) (ja_cons (je_lc mok0 rfl sc_l_are_ahead_right.nd (ji_of (je_var (pv 5))) (blkOk_by (own := [("a", 7)]) (N := N_l_are_ahead_right) (sc := defScope s_l_are_ahead_right) (by decide +kernel)) (fun _ => (jgo_name (i := 7) (by first | decide | simp) sc_l_are_ahead_right.nd rfl (Or.inl rfl))) (fun _ => jts_nil) (fun _ => (je_bin jo_div (je_bin (jo_add mok0) (je_bin jo_mulI (je_var (pv 1)) (je_var (pv 4))) (je_var (pv 7))) (je_var (pv 2)))) (own := [("a", 7)])) ja_nil)) ja_nil))))))))))
theorem ok_l_are_ahead_right {P : Program} {w : World} {K : PySem.W.Frag} {mg : Str → Option Value} {base : Heap} (T : Top K mg) : FnG P w K mg base CX0 4 T.f_l_are_ahead_right T.fd_l_are_ahead_right ["bag", "p", "q"] (spOf K c_l_are_ahead_right) :=
  fn_ok0 (k := 3) T.F_l_are_ahead_right sc_l_are_ahead_right ari_l_are_ahead_right (fun cdv A outer s H E G hgd hr => d_l_are_ahead_right T hgd hr) (w_l_are_ahead_right T.cl)
theorem d_l_are_levels_right {P : Program} {w : World} {K : PySem.W.Frag} {mg : Str → Option Value} {base : Heap} {f : Addr} {cdv : Value} {A : Around} {outer : List Env} {s : Shared} {H : Hp} {E : XK} {G : Gn} (T : Top K mg) (hgd : A.guards = some [])
    (hr : Room 3 (A.deeper (envOfC "_law_are_levels_right" (defScope s_l_are_levels_right) s.heap.objs.size f cdv))) :
    JSs (cxOf CX0 P w K mg base N_l_are_levels_right "_law_are_levels_right" (defScope s_l_are_levels_right) f cdv A outer s H E).nox G (defBody s_l_are_levels_right) (a_l_are_levels_right T.cl fun p => G.H0 p = none) :=
    (jss_cons (js_set (i := 3) sc_l_are_levels_right.nd rfl (Or.inl rfl) (je_callB (jc_max2 rfl) rfl T.n_max (by decide +kernel) (ja_cons je_int (ja_cons (je_call (ok_l_pick T) (hr.mono (by decide)) hgd rfl T.m_l_pick T.F_l_pick.kp (b_l_pick T) (fun _ => passAt0) (@xok0 _ _ _) (ja_cons (je_var (pv 0)) (ja_cons (je_lst mok0 (ja_cons je_int (ja_cons (je_call (ok_l_draw T) (hr.mono (by decide)) hgd rfl T.m_l_draw T.F_l_draw.kp (b_l_draw T) (fun _ => passAt0) (@xok0 _ _ _) (ja_cons (je_var (pv 0)) (ja_cons je_int ja_nil))) (ja_cons (je_call (ok_l_number T) (hr.mono (by decide)) hgd rfl T.m_l_number T.F_l_number.kp (b_l_number T) (fun _ => passAt0) (@xok0 _ _ _) (ja_cons (je_var (pv 0)) ja_nil)) ja_nil)))) ja_nil))) ja_nil))))
    (jss_cons (js_par2 (i := 4) (j := 5) rfl sc_l_are_levels_right.nd rfl rfl (by decide) rfl rfl (ja_cons (je_lst mok0 (ja_cons (je_var (pv 3)) ja_nil)) (ja_cons je_int ja_nil)) rfl)
    (jss_cons (js_while PassesOwn.never (jw_pt (jw_and (jt_cmp jo_le (je_callB jc_len rfl T.n_len (by decide +kernel) (ja_cons (je_var (pv 4)) ja_nil)) je_int (nomark _)) (jw_and1 (jt_cmp jo_lt (je_var (pv 5)) je_int (nomark _))))) (jss_cons (js_if (jt_not (jt_of (je_call (ok_l_same T) (hr.mono (by decide)) hgd rfl T.m_l_same T.F_l_same.kp (b_l_same T) (fun _ => passAt0) (@xok0 _ _ _) (ja_cons (je_call (ok_least_branch T) (hr.mono (by decide)) hgd rfl T.m_least_branch T.F_least_branch.kp (b_least_branch T) (fun _ => passAt0) (@xok0 _ _ _) (ja_cons (je_var (pv 3)) (ja_cons (je_var (pv 5)) (ja_cons (je_var (pv 1)) (ja_cons (je_var (pv 2)) ja_nil))))) (ja_cons (je_ix jx_seq (je_var (pv 4)) je_int (fun _ _ => rfl)) ja_nil))))) (jss_one (js_retD je_bl)) jss_nil)
    (jss_cons (js_if (jt_not (jt_of (je_call (ok_l_same T) (hr.mono (by decide)) hgd rfl T.m_l_same T.F_l_same.kp (b_l_same T) (fun _ => passAt0) (@xok0 _ _ _) (ja_cons (je_call (ok_greatest_branch T) (hr.mono (by decide)) hgd rfl T.m_greatest_branch T.F_greatest_branch.kp (b_greatest_branch T) (fun _ => passAt0) (@xok0 _ _ _) (ja_cons (je_var (pv 3)) (ja_cons (je_var (pv 5)) (ja_cons (je_var (pv 1)) (ja_cons (je_var (pv 2)) ja_nil))))) (ja_cons (je_ix jx_seq (je_var (pv 4)) (je_un ju_neg je_int) (fun _ _ => rfl)) ja_nil))))) (jss_one (js_retD je_bl)) jss_nil)
    (jss_cons (js_if (jt_not (jt_of (je_call (ok_l_same T) (hr.mono (by decide)) hgd rfl T.m_l_same T.F_l_same.kp (b_l_same T) (fun _ => passAt0) (@xok0 _ _ _) (ja_cons (je_call (ok_branch_count T) (hr.mono (by decide)) hgd rfl T.m_branch_count T.F_branch_count.kp (b_branch_count T) (fun _ => passAt0) (@xok0 _ _ _) (ja_cons (je_var (pv 3)) (ja_cons (je_var (pv 5)) (ja_cons (je_var (pv 1)) (ja_cons (je_var (pv 2)) ja_nil))))) (ja_cons (je_callB jc_len rfl T.n_len (by decide +kernel) (ja_cons (je_var (pv 4)) ja_nil)) ja_nil))))) (jss_one (js_retD je_bl)) jss_nil)
    (jss_cons (js_if (jw_pt (jw_and (jt_cmp jo_lt (je_var (pv 3)) (je_bin jo_pow je_int je_int) (nomark _)) (jw_and1 (jt_not (jt_of (je_call (ok_l_same T) (hr.mono (by decide)) hgd rfl T.m_l_same T.F_l_same.kp (b_l_same T) (fun _ => passAt0) (@xok0 _ _ _) (ja_cons (je_call (ok_least_branch T) (hr.mono (by decide)) hgd rfl T.m_least_branch T.F_least_branch.kp (b_least_branch T) (fun _ => passAt0) (@xok0 _ _ _) (ja_cons (je_bin (jo_add mok0) (je_var (pv 3)) je_int) (ja_cons (je_var (pv 5)) (ja_cons (je_var (pv 1)) (ja_cons (je_var (pv 2)) ja_nil))))) (ja_cons (je_bin (jo_add mok0) (je_ix jx_seq (je_var (pv 4)) (je_un ju_neg je_int) (fun _ _ => rfl)) je_int) ja_nil)))))))) (jss_one (js_retD je_bl)) jss_nil)
    (jss_cons (js_set (i := 6) sc_l_are_levels_right.nd rfl (Or.inl rfl) (je_lst mok1 ja_nil))
    (jss_cons (js_for PassesOwn.never rfl (ji_of (je_var (pv 4))) (jg_name (i := 7) sc_l_are_levels_right.nd rfl (Or.inr rfl)) (jss_cons (js_setLc mok0 rfl sc_l_are_levels_right.nd rfl rfl (sw_true rfl rfl rfl (by decide +kernel)) (ji_of (je_call (ok_l_ahead T) (hr.mono (by decide)) hgd rfl T.m_l_ahead T.F_l_ahead.kp (b_l_ahead T) (fun _ => passAt0) (@xok0 _ _ _) (ja_cons (je_var (pv 7)) (ja_cons (je_var (pv 1)) (ja_cons (je_var (pv 2)) ja_nil))))) (blkOk_by (own := [("a", 9)]) (N := N_l_are_levels_right) (sc := defScope s_l_are_levels_right) (by decide +kernel)) (fun _ => (jgo_name (i := 9) (by first | decide | simp) sc_l_are_levels_right.nd rfl (Or.inl rfl))) (fun _ => jts_nil) (fun _ => (je_bin jo_div (je_bin (jo_add mok0) (je_bin jo_mulI (je_var (pv 1)) (je_var (pv 7))) (je_var (pv 9))) (je_var (pv 2)))) (own := [("a", 9)]))
    (jss_cons (js_if (jw_pt (jw_and (jt_cmp jo_lt (je_callB jc_len rfl T.n_len (by decide +kernel) (ja_cons (je_var (pv 4)) ja_nil)) je_int (nomark _)) (jw_and (jt_cmp jo_le (je_var (pv 7)) (je_bin jo_pow je_int je_int) (nomark _)) (jw_and1 (jt_not (jt_of (je_call (ok_l_same T) (hr.mono (by decide)) hgd rfl T.m_l_same T.F_l_same.kp (b_l_same T) (fun _ => passAt0) (@xok0 _ _ _) (ja_cons (je_call (ok_numbers_ahead T) (hr.mono (by decide)) hgd rfl T.m_numbers_ahead T.F_numbers_ahead.kp (b_numbers_ahead T) (fun _ => passAt0) (@xok0 _ _ _) (ja_cons (je_var (pv 7)) (ja_cons (je_var (pv 1)) (ja_cons (je_var (pv 2)) ja_nil)))) (ja_cons (je_callTy jc_tupleOf rfl T.n_tuple (by decide +kernel) (ja_cons (je_var (pv 8)) ja_nil)) ja_nil))))))))) (jss_one (js_retD je_bl)) jss_nil)
    (jss_one (js_expr (je_ml PySem.F.slot_list_extend PySem.F.type_list_extend jm_extend (je_var (pv 6)) (ja_cons (je_var (pv 8)) ja_nil)))))))
    (jss_one (js_par2 (i := 4) (j := 5) rfl sc_l_are_levels_right.nd rfl rfl (by decide) rfl rfl (ja_cons (je_frz (je_var (pv 6))) (ja_cons (je_bin (jo_add mok0) (je_var (pv 5)) je_int) ja_nil)) rfl)))))))))
    (jss_one (js_retD je_bl)))))
theorem ok_l_are_levels_right {P : Program} {w : World} {K : PySem.W.Frag} {mg : Str → Option Value} {base : Heap} (T : Top K mg) : FnG P w K mg base CX0 4 T.f_l_are_levels_right T.fd_l_are_levels_right ["bag", "p", "q"] (spOf K c_l_are_levels_right) :=
  fn_ok0 (k := 3) T.F_l_are_levels_right sc_l_are_levels_right ari_l_are_levels_right (fun cdv A outer s H E G hgd hr => d_l_are_levels_right T hgd hr) (w_l_are_levels_right T.cl)
theorem d_l_are_far_right {P : Program} {w : World} {K : PySem.W.Frag} {mg : Str → Option Value} {base : Heap} {f : Addr} {cdv : Value} {A : Around} {outer : List Env} {s : Shared} {H : Hp} {E : XK} {G : Gn} (T : Top K mg) (hgd : A.guards = some [])
    (hr : Room 3 (A.deeper (envOfC "_law_are_far_right" (defScope s_l_are_far_right) s.heap.objs.size f cdv))) :
    JSs (cxOf CX0 P w K mg base N_l_are_far_right "_law_are_far_right" (defScope s_l_are_far_right) f cdv A outer s H E).nox G (defBody s_l_are_far_right) (a_l_are_far_right T.cl fun p => G.H0 p = none) :=
    (jss_cons (js_par2 (i := 3) (j := 4) rfl sc_l_are_far_right.nd rfl rfl (by decide) rfl rfl (ja_cons (je_callB (jc_max2 rfl) rfl T.n_max (by decide +kernel) (ja_cons je_int (ja_cons (je_call (ok_l_number T) (hr.mono (by decide)) hgd rfl T.m_l_number T.F_l_number.kp (b_l_number T) (fun _ => passAt0) (@xok0 _ _ _) (ja_cons (je_var (pv 0)) ja_nil)) ja_nil))) (ja_cons (je_call (ok_l_some_k T) (hr.mono (by decide)) hgd rfl T.m_l_some_k T.F_l_some_k.kp (b_l_some_k T) (fun _ => passAt0) (@xok0 _ _ _) (ja_cons (je_var (pv 0)) ja_nil)) ja_nil)) rfl)
    (jss_cons (js_for PassesOwn.never rfl (ji_range1 rfl T.n_range (ja_cons je_int ja_nil)) (jg_name (i := 5) sc_l_are_far_right.nd rfl (Or.inl rfl)) (jss_cons (js_asg (je_call (ok_l_ends T) (hr.mono (by decide)) hgd rfl T.m_l_ends T.F_l_ends.kp (b_l_ends T) (fun _ => passAt0) (@xok0 _ _ _) (ja_cons (je_var (pv 3)) (ja_cons (je_var (pv 4)) (ja_cons (je_var (pv 1)) (ja_cons (je_var (pv 2)) ja_nil))))) (jg_tup rfl (jgs1 (jg_name (i := 6) sc_l_are_far_right.nd rfl (Or.inl rfl)) (jgs1 (jg_name (i := 7) sc_l_are_far_right.nd rfl (Or.inl rfl)) jgs0))))
    (jss_cons (js_if (jt_not (jt_of (je_call (ok_l_same T) (hr.mono (by decide)) hgd rfl T.m_l_same T.F_l_same.kp (b_l_same T) (fun _ => passAt0) (@xok0 _ _ _) (ja_cons (je_callK0 (ks := ["number", "k", "p", "q"]) (ok_least_branch T) (hr.mono (by decide)) hgd rfl T.m_least_branch T.F_least_branch.kp (kargs T.F_least_branch (ps := ["number", "k", "p", "q"]) (ks := ["number", "k", "p", "q"]) (n := 0) (π := [0, 1, 2, 3]) fun _ _ _ _ _ _ us ws h1 h2 => match us, ws, h1, h2 with | [], [_, _, _, _], _, _ => rfl) (by decide) (fun _ => passAt0) (@xok0 _ _ _) (jk_cons (je_var (pv 3)) (jk_cons (je_var (pv 4)) (jk_cons (je_var (pv 1)) (jk_cons (je_var (pv 2)) jk_nil))))) (ja_cons (je_var (pv 6)) ja_nil))))) (jss_one (js_ret je_bl)) jss_nil)
    (jss_cons (js_if (jt_not (jt_of (je_call (ok_l_same T) (hr.mono (by decide)) hgd rfl T.m_l_same T.F_l_same.kp (b_l_same T) (fun _ => passAt0) (@xok0 _ _ _) (ja_cons (je_callK0 (ks := ["number", "k", "p", "q"]) (ok_greatest_branch T) (hr.mono (by decide)) hgd rfl T.m_greatest_branch T.F_greatest_branch.kp (kargs T.F_greatest_branch (ps := ["number", "k", "p", "q"]) (ks := ["number", "k", "p", "q"]) (n := 0) (π := [0, 1, 2, 3]) fun _ _ _ _ _ _ us ws h1 h2 => match us, ws, h1, h2 with | [], [_, _, _, _], _, _ => rfl) (by decide) (fun _ => passAt0) (@xok0 _ _ _) (jk_cons (je_var (pv 3)) (jk_cons (je_var (pv 4)) (jk_cons (je_var (pv 1)) (jk_cons (je_var (pv 2)) jk_nil))))) (ja_cons (je_var (pv 7)) ja_nil))))) (jss_one (js_ret je_bl)) jss_nil)
    (jss_cons (js_if (jt_not (jt_of (je_call (ok_l_same T) (hr.mono (by decide)) hgd rfl T.m_l_same T.F_l_same.kp (b_l_same T) (fun _ => passAt0) (@xok0 _ _ _) (ja_cons (je_callK0 (ks := ["number", "k", "p", "q"]) (ok_branch_count T) (hr.mono (by decide)) hgd rfl T.m_branch_count T.F_branch_count.kp (kargs T.F_branch_count (ps := ["number", "k", "p", "q"]) (ks := ["number", "k", "p", "q"]) (n := 0) (π := [0, 1, 2, 3]) fun _ _ _ _ _ _ us ws h1 h2 => match us, ws, h1, h2 with | [], [_, _, _, _], _, _ => rfl) (by decide) (fun _ => passAt0) (@xok0 _ _ _) (jk_cons (je_var (pv 3)) (jk_cons (je_var (pv 4)) (jk_cons (je_var (pv 1)) (jk_cons (je_var (pv 2)) jk_nil))))) (ja_cons (je_bin (jo_add mok0) (je_bin jo_sub (je_var (pv 7)) (je_var (pv 6))) je_int) ja_nil))))) (jss_one (js_ret je_bl)) jss_nil)
    (jss_cons (js_if (jw_pt (jw_and (jt_cmp jo_lt (je_var (pv 3)) (je_bin jo_pow je_int je_int) (nomark _)) (jw_and1 (jt_not (jt_of (je_call (ok_l_same T) (hr.mono (by decide)) hgd rfl T.m_l_same T.F_l_same.kp (b_l_same T) (fun _ => passAt0) (@xok0 _ _ _) (ja_cons (je_call (ok_least_branch T) (hr.mono (by decide)) hgd rfl T.m_least_branch T.F_least_branch.kp (b_least_branch T) (fun _ => passAt0) (@xok0 _ _ _) (ja_cons (je_bin (jo_add mok0) (je_var (pv 3)) je_int) (ja_cons (je_var (pv 4)) (ja_cons (je_var (pv 1)) (ja_cons (je_var (pv 2)) ja_nil))))) (ja_cons (je_bin (jo_add mok0) (je_var (pv 7)) je_int) ja_nil)))))))) (jss_one (js_ret je_bl)) jss_nil)
    (jss_cons (js_if (jw_pt (jw_and (jt_cmp jo_gt (je_var (pv 3)) je_int (nomark _)) (jw_and1 (jt_not (jt_of (je_call (ok_l_same T) (hr.mono (by decide)) hgd rfl T.m_l_same T.F_l_same.kp (b_l_same T) (fun _ => passAt0) (@xok0 _ _ _) (ja_cons (je_call (ok_greatest_branch T) (hr.mono (by decide)) hgd rfl T.m_greatest_branch T.F_greatest_branch.kp (b_greatest_branch T) (fun _ => passAt0) (@xok0 _ _ _) (ja_cons (je_bin jo_sub (je_var (pv 3)) je_int) (ja_cons (je_var (pv 4)) (ja_cons (je_var (pv 1)) (ja_cons (je_var (pv 2)) ja_nil))))) (ja_cons (je_bin jo_sub (je_var (pv 6)) je_int) ja_nil)))))))) (jss_one (js_ret je_bl)) jss_nil)
    (jss_one (js_par2 (i := 3) (j := 4) rfl sc_l_are_far_right.nd rfl rfl (by decide) rfl rfl (ja_cons (je_bin (jo_add mok0) je_int (je_call (ok_l_draw T) (hr.mono (by decide)) hgd rfl T.m_l_draw T.F_l_draw.kp (b_l_draw T) (fun _ => passAt0) (@xok0 _ _ _) (ja_cons (je_var (pv 0)) (ja_cons je_int ja_nil)))) (ja_cons (je_call (ok_l_some_k T) (hr.mono (by decide)) hgd rfl T.m_l_some_k T.F_l_some_k.kp (b_l_some_k T) (fun _ => passAt0) (@xok0 _ _ _) (ja_cons (je_var (pv 0)) ja_nil)) ja_nil)) rfl)))))))))
    (jss_one (js_ret je_bl))))
theorem ok_l_are_far_right {P : Program} {w : World} {K : PySem.W.Frag} {mg : Str → Option Value} {base : Heap} (T : Top K mg) : FnG P w K mg base CX0 4 T.f_l_are_far_right T.fd_l_are_far_right ["bag", "p", "q"] (spOf K c_l_are_far_right) :=
  fn_ok0 (k := 3) T.F_l_are_far_right sc_l_are_far_right ari_l_are_far_right (fun cdv A outer s H E G hgd hr => d_l_are_far_right T hgd hr) (w_l_are_far_right T.cl)
theorem d_l_are_ways_right {P : Program} {w : World} {K : PySem.W.Frag} {mg : Str → Option Value} {base : Heap} {f : Addr} {cdv : Value} {A : Around} {outer : List Env} {s : Shared} {H : Hp} {E : XK} {G : Gn} (T : Top K mg) (hgd : A.guards = some [])
    (hr : Room 3 (A.deeper (envOfC "_law_are_ways_right" (defScope s_l_are_ways_right) s.heap.objs.size f cdv))) :
    JSs (cxOf CX0 P w K mg base N_l_are_ways_right "_law_are_ways_right" (defScope s_l_are_ways_right) f cdv A outer s H E).nox G (defBody s_l_are_ways_right) (a_l_are_ways_right T.cl fun p => G.H0 p = none) :=
    (jss_cons (js_par2 (i := 3) (j := 4) rfl sc_l_are_ways_right.nd rfl rfl (by decide) rfl rfl (ja_cons (je_call (ok_l_number T) (hr.mono (by decide)) hgd rfl T.m_l_number T.F_l_number.kp (b_l_number T) (fun _ => passAt0) (@xok0 _ _ _) (ja_cons (je_var (pv 0)) ja_nil)) (ja_cons (je_call (ok_l_some_k T) (hr.mono (by decide)) hgd rfl T.m_l_some_k T.F_l_some_k.kp (b_l_some_k T) (fun _ => passAt0) (@xok0 _ _ _) (ja_cons (je_var (pv 0)) ja_nil)) ja_nil)) rfl)
    (jss_cons (js_if (jt_cmp (jo_eq hr.units) (je_var (pv 3)) je_int (nomark _)) (jss_one (js_set (i := 4) sc_l_are_ways_right.nd rfl (Or.inl rfl) je_int)) jss_nil)
    (jss_cons (js_asg (je_call (ok_l_path T) (hr.mono (by decide)) hgd rfl T.m_l_path T.F_l_path.kp (b_l_path T) (fun _ => passAt0) (@xok0 _ _ _) (ja_cons (je_var (pv 0)) (ja_cons (je_var (pv 3)) (ja_cons (je_var (pv 4)) (ja_cons (je_var (pv 1)) (ja_cons (je_var (pv 2)) ja_nil)))))) (jg_tup rfl (jgs1 (jg_name (i := 5) sc_l_are_ways_right.nd rfl (Or.inl rfl)) (jgs1 (jg_name (i := 6) sc_l_are_ways_right.nd rfl (Or.inl rfl)) jgs0))))
    (jss_cons (js_if (jt_not (jt_of (je_call (ok_l_same T) (hr.mono (by decide)) hgd rfl T.m_l_same T.F_l_same.kp (b_l_same T) (fun _ => passAt0) (@xok0 _ _ _) (ja_cons (je_call (ok_l_way_told T) (hr.mono (by decide)) hgd rfl T.m_l_way_told T.F_l_way_told.kp (b_l_way_told T) (fun _ => passAt0) (@xok0 _ _ _) (ja_cons (je_var (pv 3)) (ja_cons (je_var (pv 5)) (ja_cons (je_var (pv 1)) (ja_cons (je_var (pv 2)) ja_nil))))) (ja_cons (je_var (pv 6)) ja_nil))))) (jss_one (js_ret je_bl)) jss_nil)
    (jss_cons (js_if (jt_not (jt_of (je_call (ok_l_same T) (hr.mono (by decide)) hgd rfl T.m_l_same T.F_l_same.kp (b_l_same T) (fun _ => passAt0) (@xok0 _ _ _) (ja_cons (je_callK0 (ks := ["number", "figures", "p", "q"]) (ok_branch_number T) (hr.mono (by decide)) hgd rfl T.m_branch_number T.F_branch_number.kp (kargs T.F_branch_number (ps := ["number", "figures", "p", "q"]) (ks := ["number", "figures", "p", "q"]) (n := 0) (π := [0, 1, 2, 3]) fun _ _ _ _ _ _ us ws h1 h2 => match us, ws, h1, h2 with | [], [_, _, _, _], _, _ => rfl) (by decide) (fun σ => L2N.passAt noTakes σ) xokF (jk_cons (je_var (pv 3)) (jk_cons (je_callTy jc_tupleOf rfl T.n_tuple (by decide +kernel) (ja_cons (je_var (pv 5)) ja_nil)) (jk_cons (je_var (pv 1)) (jk_cons (je_var (pv 2)) jk_nil))))) (ja_cons (je_var (pv 6)) ja_nil))))) (jss_one (js_ret je_bl)) jss_nil)
    (jss_cons (js_for PassesOwn.never rfl (ji_of (je_lst mok0 (ja_cons je_int (ja_cons (je_bin jo_sub (je_var (pv 4)) je_int) (ja_cons (je_bin jo_sub (je_call (ok_l_draw T) (hr.mono (by decide)) hgd rfl T.m_l_draw T.F_l_draw.kp (b_l_draw T) (fun _ => passAt0) (@xok0 _ _ _) (ja_cons (je_var (pv 0)) (ja_cons (je_bin (jo_add mok0) (je_var (pv 4)) je_int) ja_nil))) je_int) ja_nil))))) (jg_name (i := 7) sc_l_are_ways_right.nd rfl (Or.inl rfl)) (jss_one (js_if (jw_pt (jw_and (jt_cmp jo_ge (je_var (pv 7)) je_int (nomark _)) (jw_and1 (jt_cmp jo_lt (je_var (pv 7)) (je_var (pv 4)) (nomark _))))) (jss_cons (js_set (i := 8) sc_l_are_ways_right.nd rfl (Or.inl rfl) (je_if (jw_pt (jw_and (jt_cmp jo_gt (je_ix jx_seq (je_var (pv 5)) (je_var (pv 7)) (fun _ _ => rfl)) je_int (nomark _)) (jw_and1 (jw_pt (jw_or (jt_cmp (jo_eq hr.units) (je_ix jx_seq (je_var (pv 5)) (je_var (pv 7)) (fun _ _ => rfl)) (je_bin jo_sub (je_var (pv 1)) je_int) (nomark _)) (jw_or1 (jt_cmp (jo_eq hr.units) (je_call (ok_l_draw T) (hr.mono (by decide)) hgd rfl T.m_l_draw T.F_l_draw.kp (b_l_draw T) (fun _ => passAt0) (@xok0 _ _ _) (ja_cons (je_var (pv 0)) (ja_cons je_int ja_nil))) je_int (nomark _)))))))) (je_bin jo_sub (je_ix jx_seq (je_var (pv 5)) (je_var (pv 7)) (fun _ _ => rfl)) je_int) (je_bin (jo_add mok0) (je_ix jx_seq (je_var (pv 5)) (je_var (pv 7)) (fun _ _ => rfl)) je_int)))
    (jss_one (js_if (jt_cmp (jo_ne hr.units) (je_call (ok_l_way_told T) (hr.mono (by decide)) hgd rfl T.m_l_way_told T.F_l_way_told.kp (b_l_way_told T) (fun _ => passAt0) (@xok0 _ _ _) (ja_cons (je_var (pv 3)) (ja_cons (je_bin (jo_add mok0) (je_bin (jo_add mok0) (je_sl mok0 (je_var (pv 5)) jp_none (jp_some (je_var (pv 7)))) (je_lst mok0 (ja_cons (je_var (pv 8)) ja_nil))) (je_sl mok0 (je_var (pv 5)) (jp_some (je_bin (jo_add mok0) (je_var (pv 7)) je_int)) jp_none)) (ja_cons (je_var (pv 1)) (ja_cons (je_var (pv 2)) ja_nil))))) je_str (nomark _)) (jss_one (js_ret je_bl)) jss_nil))) jss_nil)))
    (jss_one (js_ret (je_and (je_call (ok_l_same T) (hr.mono (by decide)) hgd rfl T.m_l_same T.F_l_same.kp (b_l_same T) (fun _ => passAt0) (@xok0 _ _ _) (ja_cons (je_call (ok_l_way_told T) (hr.mono (by decide)) hgd rfl T.m_l_way_told T.F_l_way_told.kp (b_l_way_told T) (fun _ => passAt0) (@xok0 _ _ _) (ja_cons (je_var (pv 3)) (ja_cons (je_var (pv 5)) (ja_cons (je_var (pv 1)) (ja_cons (je_var (pv 2)) ja_nil))))) (ja_cons (je_var (pv 6)) ja_nil))) (je_one (je_call (ok_l_same T) (hr.mono (by decide)) hgd rfl T.m_l_same T.F_l_same.kp (b_l_same T) (fun _ => passAt0) (@xok0 _ _ _) (ja_cons (je_call (ok_l_way_told T) (hr.mono (by decide)) hgd rfl T.m_l_way_told T.F_l_way_told.kp (b_l_way_told T) (fun _ => passAt0) (@xok0 _ _ _) (ja_cons (je_var (pv 3)) (ja_cons (je_lst mok0 ja_nil) (ja_cons (je_var (pv 1)) (ja_cons (je_var (pv 2)) ja_nil))))) (ja_cons (je_var (pv 3)) ja_nil)))))))))))))
theorem ok_l_are_ways_right {P : Program} {w : World} {K : PySem.W.Frag} {mg : Str → Option Value} {base : Heap} (T : Top K mg) : FnG P w K mg base CX0 4 T.f_l_are_ways_right T.fd_l_are_ways_right ["bag", "p", "q"] (spOf K c_l_are_ways_right) :=
  fn_ok0 (k := 3) T.F_l_are_ways_right sc_l_are_ways_right ari_l_are_ways_right (fun cdv A outer s H E G hgd hr => d_l_are_ways_right T hgd hr) (w_l_are_ways_right T.cl)
theorem d_l_are_words_right {P : Program} {w : World} {K : PySem.W.Frag} {mg : Str → Option Value} {base : Heap} {f : Addr} {cdv : Value} {A : Around} {outer : List Env} {s : Shared} {H : Hp} {E : XK} {G : Gn} (T : Top K mg) (hgd : A.guards = some [])
    (hr : Room 3 (A.deeper (envOfC "_law_are_words_right" (defScope s_l_are_words_right) s.heap.objs.size f cdv))) :
    JSs (cxOf CX0 P w K mg base N_l_are_words_right "_law_are_words_right" (defScope s_l_are_words_right) f cdv A outer s H E).nox G (defBody s_l_are_words_right) (a_l_are_words_right T.cl fun p => G.H0 p = none) :=
    (jss_cons (js_par2 (i := 3) (j := 4) rfl sc_l_are_words_right.nd rfl rfl (by decide) rfl rfl (ja_cons (je_callB (jc_max2 rfl) rfl T.n_max (by decide +kernel) (ja_cons je_int (ja_cons (je_call (ok_l_number T) (hr.mono (by decide)) hgd rfl T.m_l_number T.F_l_number.kp (b_l_number T) (fun _ => passAt0) (@xok0 _ _ _) (ja_cons (je_var (pv 0)) ja_nil)) ja_nil))) (ja_cons (je_lst mok1 ja_nil) ja_nil)) rfl)
    (jss_cons (js_set (i := 5) sc_l_are_words_right.nd rfl (Or.inl rfl) (je_var (pv 3)))
    (jss_cons (js_while PassesOwn.never (jt_cmp jo_gt (je_var (pv 3)) je_int (nomark _)) (jss_cons (js_expr (je_ml PySem.F.slot_list_append PySem.F.type_list_append jm_append (je_var (pv 4)) (ja_cons (je_bin jo_mod (je_callTy jc_int rfl T.n_int (by decide +kernel) (ja_cons (je_bin jo_mulI (je_var (pv 2)) (je_var (pv 3))) ja_nil)) (je_var (pv 1))) ja_nil)))
    (jss_one (js_set (i := 3) sc_l_are_words_right.nd rfl (Or.inl rfl) (je_bin jo_div (je_bin jo_mulI (je_var (pv 2)) (je_var (pv 3))) (je_var (pv 1)))))))
    (jss_cons (js_set (i := 6) sc_l_are_words_right.nd rfl (Or.inl rfl) (je_sl mok0 (je_listRev mok0 rfl rfl T.n_list rfl T.n_reversed (je_callTy (jc_listOf mok0) rfl T.n_list (by decide +kernel) (ja_cons (je_var (pv 4)) ja_nil))) jp_none (jp_some je_int)))
    (jss_cons (js_if (jt_cmp jo_gt (je_callB jc_len rfl T.n_len (by decide +kernel) (ja_cons (je_var (pv 4)) ja_nil)) je_int (nomark _)) (jss_cons (js_set (i := 5) sc_l_are_words_right.nd rfl (Or.inl rfl) je_int)
    (jss_one (js_for PassesOwn.never rfl (ji_of (je_var (pv 6))) (jg_name (i := 7) sc_l_are_words_right.nd rfl (Or.inl rfl)) (jss_one (js_set (i := 5) sc_l_are_words_right.nd rfl (Or.inl rfl) (je_bin jo_div (je_bin (jo_add mok0) (je_bin jo_mulI (je_var (pv 1)) (je_var (pv 5))) (je_var (pv 7))) (je_var (pv 2)))))))) jss_nil)
    (jss_cons (js_if (jt_not (jt_of (je_call (ok_l_same T) (hr.mono (by decide)) hgd rfl T.m_l_same T.F_l_same.kp (b_l_same T) (fun _ => passAt0) (@xok0 _ _ _) (ja_cons (je_call (ok_l_way_told T) (hr.mono (by decide)) hgd rfl T.m_l_way_told T.F_l_way_told.kp (b_l_way_told T) (fun _ => passAt0) (@xok0 _ _ _) (ja_cons je_int (ja_cons (je_var (pv 6)) (ja_cons (je_var (pv 1)) (ja_cons (je_var (pv 2)) ja_nil))))) (ja_cons (je_var (pv 5)) ja_nil))))) (jss_one (js_retD je_bl)) jss_nil)
    (jss_cons (js_if (jw_pt (jw_or (jt_cmp (jo_ne hr.units) (je_call (ok_l_way_told T) (hr.mono (by decide)) hgd rfl T.m_l_way_told T.F_l_way_told.kp (b_l_way_told T) (fun _ => passAt0) (@xok0 _ _ _) (ja_cons je_int (ja_cons (je_bin (jo_add mok0) (je_lst mok0 (ja_cons je_int ja_nil)) (je_sl mok0 (je_var (pv 6)) jp_none (jp_some je_int))) (ja_cons (je_var (pv 1)) (ja_cons (je_var (pv 2)) ja_nil))))) je_str (nomark _)) (jw_or1 (jt_cmp (jo_ne hr.units) (je_call (ok_l_way_told T) (hr.mono (by decide)) hgd rfl T.m_l_way_told T.F_l_way_told.kp (b_l_way_told T) (fun _ => passAt0) (@xok0 _ _ _) (ja_cons je_int (ja_cons (je_lst mok0 (ja_cons je_int ja_nil)) (ja_cons (je_var (pv 1)) (ja_cons (je_var (pv 2)) ja_nil))))) je_str (nomark _))))) (jss_one (js_retD je_bl)) jss_nil)
    (jss_cons (js_setLc mok0 rfl sc_l_are_words_right.nd rfl rfl (sw_true rfl rfl rfl (by decide +kernel)) (ji_range1 rfl T.n_range (ja_cons (je_var (pv 1)) ja_nil)) (blkOk_by (own := [("a", 9)]) (N := N_l_are_words_right) (sc := defScope s_l_are_words_right) (by decide +kernel)) (fun _ => (jgo_name (i := 9) (by first | decide | simp) sc_l_are_words_right.nd rfl (Or.inl rfl))) (fun _ => (jts_one (jw_pt (jw_or (jt_cmp (jo_eq hr.units) (je_var (pv 9)) je_int (nomark _)) (jw_or1 (jt_cmp jo_gt (je_bin jo_mod (je_callTy jc_int rfl T.n_int (by decide +kernel) (ja_cons (je_var (pv 9)) ja_nil)) (je_var (pv 2))) je_int (nomark _))))))) (fun _ => (je_var (pv 9))) (own := [("a", 9)]))
    (jss_one (js_retD (je_cmp (jo_eq hr.units) (je_call (ok_l_way_told T) (hr.mono (by decide)) hgd rfl T.m_l_way_told T.F_l_way_told.kp (b_l_way_told T) (fun _ => passAt0) (@xok0 _ _ _) (ja_cons je_int (ja_cons (je_bin (jo_add mok0) (je_lst mok0 (ja_cons (je_call (ok_l_pick T) (hr.mono (by decide)) hgd rfl T.m_l_pick T.F_l_pick.kp (b_l_pick T) (fun _ => passAt0) (@xok0 _ _ _) (ja_cons (je_var (pv 0)) (ja_cons (je_var (pv 8)) ja_nil))) ja_nil)) (je_sl mok0 (je_var (pv 6)) (jp_some je_int) jp_none)) (ja_cons (je_var (pv 1)) (ja_cons (je_var (pv 2)) ja_nil))))) je_str (nomark _))))))))))))
theorem ok_l_are_words_right {P : Program} {w : World} {K : PySem.W.Frag} {mg : Str → Option Value} {base : Heap} (T : Top K mg) : FnG P w K mg base CX0 4 T.f_l_are_words_right T.fd_l_are_words_right ["bag", "p", "q"] (spOf K c_l_are_words_right) :=
  fn_ok0 (k := 3) T.F_l_are_words_right sc_l_are_words_right ari_l_are_words_right (fun cdv A outer s H E G hgd hr => d_l_are_words_right T hgd hr) (w_l_are_words_right T.cl)
theorem d_l_some_pair {P : Program} {w : World} {K : PySem.W.Frag} {mg : Str → Option Value} {base : Heap} {f : Addr} {cdv : Value} {A : Around} {outer : List Env} {s : Shared} {H : Hp} {E : XK} {G : Gn} (T : Top K mg) (hgd : A.guards = some [])
    (hr : Room 3 (A.deeper (envOfC "_law_some_pair" (defScope s_l_some_pair) s.heap.objs.size f cdv))) :
    JSs (cxOf CX0 P w K mg base N_l_some_pair "_law_some_pair" (defScope s_l_some_pair) f cdv A outer s H E).nox G (defBody s_l_some_pair) (a_l_some_pair T.cl fun p => G.H0 p = none) :=
    (jss_cons (js_par3 (i := 3) (j := 4) (l := 5) rfl sc_l_some_pair.nd rfl rfl rfl (by decide) (by decide) (by decide) rfl rfl rfl (ja_cons (je_callB (jc_max2 rfl) rfl T.n_max (by decide +kernel) (ja_cons je_int (ja_cons (je_call (ok_l_number T) (hr.mono (by decide)) hgd rfl T.m_l_number T.F_l_number.kp (b_l_number T) (fun _ => passAt0) (@xok0 _ _ _) (ja_cons (je_var (pv 0)) ja_nil)) ja_nil))) (ja_cons je_int (ja_cons (je_call (ok_l_draw T) (hr.mono (by decide)) hgd rfl T.m_l_draw T.F_l_draw.kp (b_l_draw T) (fun _ => passAt0) (@xok0 _ _ _) (ja_cons (je_var (pv 0)) (ja_cons je_int ja_nil))) ja_nil))) rfl)
    (jss_cons (js_if (jt_cmp (jo_eq hr.units) (je_call (ok_l_draw T) (hr.mono (by decide)) hgd rfl T.m_l_draw T.F_l_draw.kp (b_l_draw T) (fun _ => passAt0) (@xok0 _ _ _) (ja_cons (je_var (pv 0)) (ja_cons je_int ja_nil))) je_int (nomark _)) (jss_one (js_set (i := 3) sc_l_some_pair.nd rfl (Or.inl rfl) (je_bin (jo_add mok0) je_int (je_call (ok_l_draw T) (hr.mono (by decide)) hgd rfl T.m_l_draw T.F_l_draw.kp (b_l_draw T) (fun _ => passAt0) (@xok0 _ _ _) (ja_cons (je_var (pv 0)) (ja_cons je_int ja_nil)))))) jss_nil)
    (jss_cons (js_while PassesOwn.never (jw_pt (jw_and (jt_cmp jo_gt (je_var (pv 5)) je_int (nomark _)) (jw_and1 (jt_cmp jo_lt (je_bin jo_mulI (je_var (pv 4)) (je_var (pv 2))) (je_bin jo_pow je_int je_int) (nomark _))))) (jss_one (js_par2 (i := 4) (j := 5) rfl sc_l_some_pair.nd rfl rfl (by decide) rfl rfl (ja_cons (je_bin jo_mulI (je_var (pv 4)) (je_var (pv 2))) (ja_cons (je_bin jo_sub (je_var (pv 5)) je_int) ja_nil)) rfl)))
    (jss_cons (js_set (i := 6) sc_l_some_pair.nd rfl (Or.inl rfl) (je_bin jo_mulI (je_var (pv 4)) (je_call (ok_l_pick T) (hr.mono (by decide)) hgd rfl T.m_l_pick T.F_l_pick.kp (b_l_pick T) (fun _ => passAt0) (@xok0 _ _ _) (ja_cons (je_var (pv 0)) (ja_cons (je_lst mok0 (ja_cons je_int (ja_cons je_int (ja_cons je_int (ja_cons je_int (ja_cons (je_var (pv 1)) (ja_cons (je_bin (jo_add mok0) (je_var (pv 2)) je_int) (ja_cons (je_bin (jo_add mok0) je_int (je_call (ok_l_draw T) (hr.mono (by decide)) hgd rfl T.m_l_draw T.F_l_draw.kp (b_l_draw T) (fun _ => passAt0) (@xok0 _ _ _) (ja_cons (je_var (pv 0)) (ja_cons je_int ja_nil)))) ja_nil)))))))) ja_nil)))))
    (jss_cons (js_if (jt_cmp jo_le (je_bin (jo_add mok0) (je_var (pv 3)) (je_var (pv 6))) (je_bin jo_pow je_int je_int) (nomark _)) (jss_one (js_ret (je_tup (ja_cons (je_var (pv 3)) (ja_cons (je_bin (jo_add mok0) (je_var (pv 3)) (je_var (pv 6))) ja_nil))))) jss_nil)
    (jss_cons (js_if (jt_cmp jo_gt (je_var (pv 3)) (je_var (pv 6)) (nomark _)) (jss_one (js_ret (je_tup (ja_cons (je_var (pv 3)) (ja_cons (je_bin jo_sub (je_var (pv 3)) (je_var (pv 6))) ja_nil))))) jss_nil)
    (jss_one (js_ret (je_if (jt_cmp jo_gt (je_var (pv 4)) je_int (nomark _)) (je_tup (ja_cons (je_bin (jo_add mok0) je_int (je_call (ok_l_draw T) (hr.mono (by decide)) hgd rfl T.m_l_draw T.F_l_draw.kp (b_l_draw T) (fun _ => passAt0) (@xok0 _ _ _) (ja_cons (je_var (pv 0)) (ja_cons je_int ja_nil)))) (ja_cons (je_bin (jo_add mok0) je_int (je_var (pv 4))) ja_nil))) (je_tup (ja_cons (je_var (pv 3)) (ja_cons (je_if (jt_cmp jo_lt (je_var (pv 3)) (je_bin jo_pow je_int je_int) (nomark _)) (je_bin jo_pow je_int je_int) je_int) ja_nil))))))))))))
theorem ok_l_some_pair {P : Program} {w : World} {K : PySem.W.Frag} {mg : Str → Option Value} {base : Heap} (T : Top K mg) : FnG P w K mg base CX0 4 T.f_l_some_pair T.fd_l_some_pair ["bag", "p", "q"] (spOf K c_l_some_pair) :=
  fn_ok0 (k := 3) T.F_l_some_pair sc_l_some_pair ari_l_some_pair (fun cdv A outer s H E G hgd hr => d_l_some_pair T hgd hr) (w_l_some_pair T.cl)
theorem d_l_are_depths_right {P : Program} {w : World} {K : PySem.W.Frag} {mg : Str → Option Value} {base : Heap} {f : Addr} {cdv : Value} {A : Around} {outer : List Env} {s : Shared} {H : Hp} {E : XK} {G : Gn} (T : Top K mg) (hgd : A.guards = some [])
    (hr : Room 4 (A.deeper (envOfC "_law_are_depths_right" (defScope s_l_are_depths_right) s.heap.objs.size f cdv))) :
    JSs (cxOf CX0 P w K mg base N_l_are_depths_right "_law_are_depths_right" (defScope s_l_are_depths_right) f cdv A outer s H E).nox G (defBody s_l_are_depths_right) (a_l_are_depths_right T.cl fun p => G.H0 p = none) :=
    (jss_cons (js_asg (je_tup (ja_cons je_int (ja_cons je_int (ja_cons (je_tup ja_nil) ja_nil)))) (jg_tup rfl (jgs1 (jg_name (i := 3) sc_l_are_depths_right.nd rfl (Or.inl rfl)) (jgs1 (jg_name (i := 4) sc_l_are_depths_right.nd rfl (Or.inl rfl)) (jgs1 (jg_name (i := 5) sc_l_are_depths_right.nd rfl (Or.inl rfl)) jgs0)))))
    (jss_cons (js_for PassesOwn.never rfl (ji_range1 rfl T.n_range (ja_cons je_int ja_nil)) (jg_name (i := 6) sc_l_are_depths_right.nd rfl (Or.inl rfl)) (jss_cons (js_asg (je_call (ok_l_some_pair T) (hr.mono (by decide)) hgd rfl T.m_l_some_pair T.F_l_some_pair.kp (b_l_some_pair T) (fun _ => passAt0) (@xok0 _ _ _) (ja_cons (je_var (pv 0)) (ja_cons (je_var (pv 1)) (ja_cons (je_var (pv 2)) ja_nil)))) (jg_tup rfl (jgs1 (jg_name (i := 3) sc_l_are_depths_right.nd rfl (Or.inl rfl)) (jgs1 (jg_name (i := 4) sc_l_are_depths_right.nd rfl (Or.inl rfl)) jgs0))))
    (jss_cons (js_set (i := 5) sc_l_are_depths_right.nd rfl (Or.inl rfl) (je_call (ok_l_depth T) (hr.mono (by decide)) hgd rfl T.m_l_depth T.F_l_depth.kp (b_l_depth T) (fun _ => passAt0) (@xok0 _ _ _) (ja_cons (je_var (pv 3)) (ja_cons (je_var (pv 4)) (ja_cons (je_var (pv 1)) (ja_cons (je_var (pv 2)) ja_nil))))))
    (jss_cons (js_set (i := 7) sc_l_are_depths_right.nd rfl (Or.inl rfl) (je_bin jo_sub (je_callB jc_len rfl T.n_len (by decide +kernel) (ja_cons (je_var (pv 5)) ja_nil)) je_int))
    (jss_cons (js_if (jt_not (jt_of (je_call (ok_l_same T) (hr.mono (by decide)) hgd rfl T.m_l_same T.F_l_same.kp (b_l_same T) (fun _ => passAt0) (@xok0 _ _ _) (ja_cons (je_call (ok_alike_depth T) (hr.mono (by decide)) hgd rfl T.m_alike_depth T.F_alike_depth.kp (b_alike_depth T) (fun _ => passAt0) (@xok0 _ _ _) (ja_cons (je_var (pv 3)) (ja_cons (je_var (pv 4)) (ja_cons (je_var (pv 1)) (ja_cons (je_var (pv 2)) ja_nil))))) (ja_cons (je_var (pv 7)) ja_nil))))) (jss_one (js_ret je_bl)) jss_nil)
    (jss_one (js_if (jt_not (jt_of (je_call (ok_l_same T) (hr.mono (by decide)) hgd rfl T.m_l_same T.F_l_same.kp (b_l_same T) (fun _ => passAt0) (@xok0 _ _ _) (ja_cons (je_callK0 (ks := ["one", "other", "p", "q"]) (ok_alike_depth T) (hr.mono (by decide)) hgd rfl T.m_alike_depth T.F_alike_depth.kp (kargs T.F_alike_depth (ps := ["one", "other", "p", "q"]) (ks := ["one", "other", "p", "q"]) (n := 0) (π := [0, 1, 2, 3]) fun _ _ _ _ _ _ us ws h1 h2 => match us, ws, h1, h2 with | [], [_, _, _, _], _, _ => rfl) (by decide) (fun _ => passAt0) (@xok0 _ _ _) (jk_cons (je_var (pv 4)) (jk_cons (je_var (pv 3)) (jk_cons (je_var (pv 1)) (jk_cons (je_var (pv 2)) jk_nil))))) (ja_cons (je_var (pv 7)) ja_nil))))) (jss_one (js_ret je_bl)) jss_nil)))))))
    (jss_cons (js_set (i := 8) sc_l_are_depths_right.nd rfl (Or.inl rfl) (je_var (pv 3)))
    (jss_cons (js_for PassesOwn.never rfl (ji_of (je_var (pv 5))) (jg_name (i := 9) sc_l_are_depths_right.nd rfl (Or.inl rfl)) (jss_one (js_set (i := 8) sc_l_are_depths_right.nd rfl (Or.inl rfl) (je_bin jo_div (je_bin (jo_add mok0) (je_bin jo_mulI (je_var (pv 1)) (je_var (pv 8))) (je_var (pv 9))) (je_var (pv 2))))))
    (jss_one (js_ret (je_and (je_call (ok_l_same T) (hr.mono (by decide)) hgd rfl T.m_l_same T.F_l_same.kp (b_l_same T) (fun _ => passAt0) (@xok0 _ _ _) (ja_cons (je_call (ok_l_way_told T) (hr.mono (by decide)) hgd rfl T.m_l_way_told T.F_l_way_told.kp (b_l_way_told T) (fun _ => passAt0) (@xok0 _ _ _) (ja_cons (je_var (pv 3)) (ja_cons (je_var (pv 5)) (ja_cons (je_var (pv 1)) (ja_cons (je_var (pv 2)) ja_nil))))) (ja_cons (je_var (pv 8)) ja_nil))) (je_one (je_cmp (jo_eq hr.units) (je_call (ok_l_way_told T) (hr.mono (by decide)) hgd rfl T.m_l_way_told T.F_l_way_told.kp (b_l_way_told T) (fun _ => passAt0) (@xok0 _ _ _) (ja_cons (je_var (pv 4)) (ja_cons (je_var (pv 5)) (ja_cons (je_var (pv 1)) (ja_cons (je_var (pv 2)) ja_nil))))) je_str (nomark _))))))))))
theorem ok_l_are_depths_right {P : Program} {w : World} {K : PySem.W.Frag} {mg : Str → Option Value} {base : Heap} (T : Top K mg) : FnG P w K mg base CX0 5 T.f_l_are_depths_right T.fd_l_are_depths_right ["bag", "p", "q"] (spOf K c_l_are_depths_right) :=
  fn_ok0 (k := 4) T.F_l_are_depths_right sc_l_are_depths_right ari_l_are_depths_right (fun cdv A outer s H E G hgd hr => d_l_are_depths_right T hgd hr) (w_l_are_depths_right T.cl)
theorem d_law {P : Program} {w : World} {K : PySem.W.Frag} {mg : Str → Option Value} {base : Heap} {f : Addr} {cdv : Value} {A : Around} {outer : List Env} {s : Shared} {H : Hp} {E : XK} {G : Gn} (T : Top K mg) (hgd : A.guards = some [])
    (hr : Room 5 (A.deeper (envOfC "law" (defScope s_law) s.heap.objs.size f cdv))) :
    JSs (cxOf CX0 P w K mg base N_law "law" (defScope s_law) f cdv A outer s H E).nox G (defBody s_law) (a_law T.cl fun p => G.H0 p = none) :=
    (jss_cons (js_set (i := 1) sc_law.nd rfl (Or.inl rfl) (je_call (ok_l_own_bag T) (hr.mono (by decide)) hgd rfl T.m_l_own_bag T.F_l_own_bag.kp (b_l_own_bag T) (fun _ => passAt0) (@xok0 _ _ _) (ja_cons (je_var (pv 0)) ja_nil)))
    (jss_cons (js_set (i := 2) sc_law.nd rfl (Or.inl rfl) (je_call0 (ok_l_pairs T) (hr.mono (by decide)) hgd rfl T.m_l_pairs T.F_l_pairs.kp (b_l_pairs T) (fun _ => passAt0) (@xok0 _ _ _)))
    (jss_cons (js_par2 (i := 3) (j := 4) rfl sc_law.nd rfl rfl (by decide) rfl rfl (ja_cons (je_call (ok_l_pick T) (hr.mono (by decide)) hgd rfl T.m_l_pick T.F_l_pick.kp (b_l_pick T) (fun _ => passAt0) (@xok0 _ _ _) (ja_cons (je_var (pv 1)) (ja_cons (je_var (pv 2)) ja_nil))) (ja_cons (je_call (ok_l_pick T) (hr.mono (by decide)) hgd rfl T.m_l_pick T.F_l_pick.kp (b_l_pick T) (fun _ => passAt0) (@xok0 _ _ _) (ja_cons (je_var (pv 1)) (ja_cons (je_var (pv 2)) ja_nil))) ja_nil)) rfl)
    (jss_cons (js_for PassesOwn.never rfl (ji_of (je_lst mok0 (ja_cons (je_var (pv 3)) (ja_cons (je_var (pv 4)) ja_nil)))) (jg_tup rfl (jgs1 (jg_name (i := 5) sc_law.nd rfl (Or.inl rfl)) (jgs1 (jg_name (i := 6) sc_law.nd rfl (Or.inl rfl)) jgs0))) (jss_cons (js_if (jw_pt (jw_or (jt_not (jt_of (je_call (ok_l_are_ahead_right T) (hr.mono (by decide)) hgd rfl T.m_l_are_ahead_right T.F_l_are_ahead_right.kp (b_l_are_ahead_right T) (fun _ => passAt0) (@xok0 _ _ _) (ja_cons (je_var (pv 1)) (ja_cons (je_var (pv 5)) (ja_cons (je_var (pv 6)) ja_nil)))))) (jw_or1 (jt_not (jt_of (je_call (ok_l_are_far_right T) (hr.mono (by decide)) hgd rfl T.m_l_are_far_right T.F_l_are_far_right.kp (b_l_are_far_right T) (fun _ => passAt0) (@xok0 _ _ _) (ja_cons (je_var (pv 1)) (ja_cons (je_var (pv 5)) (ja_cons (je_var (pv 6)) ja_nil))))))))) (jss_one (js_ret je_bl)) jss_nil)
    (jss_one (js_if (jw_pt (jw_or (jt_not (jt_of (je_call (ok_l_are_ways_right T) (hr.mono (by decide)) hgd rfl T.m_l_are_ways_right T.F_l_are_ways_right.kp (b_l_are_ways_right T) (fun _ => passAt0) (@xok0 _ _ _) (ja_cons (je_var (pv 1)) (ja_cons (je_var (pv 5)) (ja_cons (je_var (pv 6)) ja_nil)))))) (jw_or1 (jt_not (jt_of (je_call (ok_l_are_depths_right T) (hr.mono (by decide)) hgd rfl T.m_l_are_depths_right T.F_l_are_depths_right.kp (b_l_are_depths_right T) (fun _ => passAt0) (@xok0 _ _ _) (ja_cons (je_var (pv 1)) (ja_cons (je_var (pv 5)) (ja_cons (je_var (pv 6)) ja_nil))))))))) (jss_one (js_ret je_bl)) jss_nil))))
    (jss_cons (js_asg (je_var (pv 3)) (jg_tup rfl (jgs1 (jg_name (i := 5) sc_law.nd rfl (Or.inl rfl)) (jgs1 (jg_name (i := 6) sc_law.nd rfl (Or.inl rfl)) jgs0))))
    (jss_cons (js_if (jt_not (jt_of (je_call (ok_l_are_words_right T) (hr.mono (by decide)) hgd rfl T.m_l_are_words_right T.F_l_are_words_right.kp (b_l_are_words_right T) (fun _ => passAt0) (@xok0 _ _ _) (ja_cons (je_var (pv 1)) (ja_cons (je_var (pv 5)) (ja_cons (je_var (pv 6)) ja_nil)))))) (jss_one (js_ret je_bl)) jss_nil)
    (jss_one (js_ret (je_call (ok_l_are_levels_right T) (hr.mono (by decide)) hgd rfl T.m_l_are_levels_right T.F_l_are_levels_right.kp (b_l_are_levels_right T) (fun _ => passAt0) (@xok0 _ _ _) (ja_cons (je_var (pv 1)) (ja_cons (je_ix jx_seq (je_var (pv 4)) je_int (fun _ _ => rfl)) (ja_cons (je_ix jx_seq (je_var (pv 4)) je_int (fun _ _ => rfl)) ja_nil))))))))))))
theorem ok_law {P : Program} {w : World} {K : PySem.W.Frag} {mg : Str → Option Value} {base : Heap} (T : Top K mg) : FnG P w K mg base CX0 6 T.f_law T.fd_law ["script"] (spOf K c_law) :=
  fn_ok0 (k := 5) T.F_law sc_law ari_law (fun cdv A outer s H E G hgd hr => d_law T hgd hr) (w_law T.cl)
theorem all_mk {l : PySem.W.OpenLaw} {w : World} {K : PySem.W.Frag} {h : Heap} {mg : Str → Option Value} {fa : Addr} (X : K.In h) (G : h.Ns mainGlobals mg) (hfa : mg "law" = some (.ref fa))
    {f0 : Addr} {od0 an0 : Option Addr} {sl0 : Array (Option Value)} {oc0 kV0 dc0 pm0 cd0 ct0 : Value} {f1 : Addr} {od1 an1 : Option Addr} {sl1 : Array (Option Value)} {oc1 kV1 dc1 pm1 cd1 ct1 : Value} {f2 : Addr} {od2 an2 : Option Addr} {sl2 : Array (Option Value)} {oc2 kV2 dc2 pm2 cd2 ct2 : Value} {f3 : Addr} {od3 an3 : Option Addr} {sl3 : Array (Option Value)} {oc3 kV3 dc3 pm3 cd3 ct3 : Value} {f4 : Addr} {od4 an4 : Option Addr} {sl4 : Array (Option Value)} {oc4 kV4 dc4 pm4 cd4 ct4 : Value} {f5 : Addr} {od5 an5 : Option Addr} {sl5 : Array (Option Value)} {oc5 kV5 dc5 pm5 cd5 ct5 : Value} {f6 : Addr} {od6 an6 : Option Addr} {sl6 : Array (Option Value)} {oc6 kV6 dc6 pm6 cd6 ct6 : Value} {f7 : Addr} {od7 an7 : Option Addr} {sl7 : Array (Option Value)} {oc7 kV7 dc7 pm7 cd7 ct7 : Value} {f8 : Addr} {od8 an8 : Option Addr} {sl8 : Array (Option Value)} {oc8 kV8 dc8 pm8 cd8 ct8 : Value} {f9 : Addr} {od9 an9 : Option Addr} {sl9 : Array (Option Value)} {oc9 kV9 dc9 pm9 cd9 ct9 : Value} {f10 : Addr} {od10 an10 : Option Addr} {sl10 : Array (Option Value)} {oc10 kV10 dc10 pm10 cd10 ct10 : Value} {f11 : Addr} {od11 an11 : Option Addr} {sl11 : Array (Option Value)} {oc11 kV11 dc11 pm11 cd11 ct11 : Value} {f12 : Addr} {od12 an12 : Option Addr} {sl12 : Array (Option Value)} {oc12 kV12 dc12 pm12 cd12 ct12 : Value} {f13 : Addr} {od13 an13 : Option Addr} {sl13 : Array (Option Value)} {oc13 kV13 dc13 pm13 cd13 ct13 : Value} {f14 : Addr} {od14 an14 : Option Addr} {sl14 : Array (Option Value)} {oc14 kV14 dc14 pm14 cd14 ct14 : Value} {f15 : Addr} {od15 an15 : Option Addr} {sl15 : Array (Option Value)} {oc15 kV15 dc15 pm15 cd15 ct15 : Value} {f16 : Addr} {od16 an16 : Option Addr} {sl16 : Array (Option Value)} {oc16 kV16 dc16 pm16 cd16 ct16 : Value} {f17 : Addr} {od17 an17 : Option Addr} {sl17 : Array (Option Value)} {oc17 kV17 dc17 pm17 cd17 ct17 : Value} {f18 : Addr} {od18 an18 : Option Addr} {sl18 : Array (Option Value)} {oc18 kV18 dc18 pm18 cd18 ct18 : Value} {f19 : Addr} {od19 an19 : Option Addr} {sl19 : Array (Option Value)} {oc19 kV19 dc19 pm19 cd19 ct19 : Value} {f20 : Addr} {od20 an20 : Option Addr} {sl20 : Array (Option Value)} {oc20 kV20 dc20 pm20 cd20 ct20 : Value} {f21 : Addr} {od21 an21 : Option Addr} {sl21 : Array (Option Value)} {oc21 kV21 dc21 pm21 cd21 ct21 : Value} {f22 : Addr} {od22 an22 : Option Addr} {sl22 : Array (Option Value)} {oc22 kV22 dc22 pm22 cd22 ct22 : Value} {f23 : Addr} {od23 an23 : Option Addr} {sl23 : Array (Option Value)} {oc23 kV23 dc23 pm23 cd23 ct23 : Value} {f24 : Addr} {od24 an24 : Option Addr} {sl24 : Array (Option Value)} {oc24 kV24 dc24 pm24 cd24 ct24 : Value} {f25 : Addr} {od25 an25 : Option Addr} {sl25 : Array (Option Value)} {oc25 kV25 dc25 pm25 cd25 ct25 : Value} {f26 : Addr} {od26 an26 : Option Addr} {sl26 : Array (Option Value)} {oc26 kV26 dc26 pm26 cd26 ct26 : Value} {f27 : Addr} {od27 an27 : Option Addr} {sl27 : Array (Option Value)} {oc27 kV27 dc27 pm27 cd27 ct27 : Value} {f28 : Addr} {od28 an28 : Option Addr} {sl28 : Array (Option Value)} {oc28 kV28 dc28 pm28 cd28 ct28 : Value} {C_BaseError : Addr} {C_Unfit : Addr} {C_TooMany : Addr} {C_BadText : Addr} {C_BadWord : Addr} {C_BadLog : Addr} {C_Refused : Addr} {C_NothingToUndo : Addr} {C_NothingToRedo : Addr} {C_NoName : Addr} {C_NoVersion : Addr} 
    (a0 : PySem.W.nsIn K mainGlobals "figures_ahead" = some (some (.ref f0))) (l0 : K.lookup f0 = some ⟨oc0, od0, .func (PySem.W.fnOf "figures_ahead" "figures_ahead" (defArgs s_figures_ahead) (defBody s_figures_ahead) (defScope s_figures_ahead) .none kV0 dc0 pm0 an0 cd0 ct0), sl0⟩) (c0 : PySem.W.codeIn K cd0 "figures_ahead" = true) (k0 : PySem.W.keepIn K (.ref f0) = true)
    (a1 : PySem.W.nsIn K mainGlobals "numbers_ahead" = some (some (.ref f1))) (l1 : K.lookup f1 = some ⟨oc1, od1, .func (PySem.W.fnOf "numbers_ahead" "numbers_ahead" (defArgs s_numbers_ahead) (defBody s_numbers_ahead) (defScope s_numbers_ahead) .none kV1 dc1 pm1 an1 cd1 ct1), sl1⟩) (c1 : PySem.W.codeIn K cd1 "numbers_ahead" = true) (k1 : PySem.W.keepIn K (.ref f1) = true)
    (a2 : PySem.W.nsIn K mainGlobals "least_branch" = some (some (.ref f2))) (l2 : K.lookup f2 = some ⟨oc2, od2, .func (PySem.W.fnOf "least_branch" "least_branch" (defArgs s_least_branch) (defBody s_least_branch) (defScope s_least_branch) .none kV2 dc2 pm2 an2 cd2 ct2), sl2⟩) (c2 : PySem.W.codeIn K cd2 "least_branch" = true) (k2 : PySem.W.keepIn K (.ref f2) = true)
    (a3 : PySem.W.nsIn K mainGlobals "greatest_branch" = some (some (.ref f3))) (l3 : K.lookup f3 = some ⟨oc3, od3, .func (PySem.W.fnOf "greatest_branch" "greatest_branch" (defArgs s_greatest_branch) (defBody s_greatest_branch) (defScope s_greatest_branch) .none kV3 dc3 pm3 an3 cd3 ct3), sl3⟩) (c3 : PySem.W.codeIn K cd3 "greatest_branch" = true) (k3 : PySem.W.keepIn K (.ref f3) = true)
    (a4 : PySem.W.nsIn K mainGlobals "branch_count" = some (some (.ref f4))) (l4 : K.lookup f4 = some ⟨oc4, od4, .func (PySem.W.fnOf "branch_count" "branch_count" (defArgs s_branch_count) (defBody s_branch_count) (defScope s_branch_count) .none kV4 dc4 pm4 an4 cd4 ct4), sl4⟩) (c4 : PySem.W.codeIn K cd4 "branch_count" = true) (k4 : PySem.W.keepIn K (.ref f4) = true)
    (a5 : PySem.W.nsIn K mainGlobals "branch_number" = some (some (.ref f5))) (l5 : K.lookup f5 = some ⟨oc5, od5, .func (PySem.W.fnOf "branch_number" "branch_number" (defArgs s_branch_number) (defBody s_branch_number) (defScope s_branch_number) .none kV5 dc5 pm5 an5 cd5 ct5), sl5⟩) (c5 : PySem.W.codeIn K cd5 "branch_number" = true) (k5 : PySem.W.keepIn K (.ref f5) = true)
    (a6 : PySem.W.nsIn K mainGlobals "alike_depth" = some (some (.ref f6))) (l6 : K.lookup f6 = some ⟨oc6, od6, .func (PySem.W.fnOf "alike_depth" "alike_depth" (defArgs s_alike_depth) (defBody s_alike_depth) (defScope s_alike_depth) .none kV6 dc6 pm6 an6 cd6 ct6), sl6⟩) (c6 : PySem.W.codeIn K cd6 "alike_depth" = true) (k6 : PySem.W.keepIn K (.ref f6) = true)
    (a7 : PySem.W.nsIn K mainGlobals "_law_own_bag" = some (some (.ref f7))) (l7 : K.lookup f7 = some ⟨oc7, od7, .func (PySem.W.fnOf "_law_own_bag" "_law_own_bag" (defArgs s_l_own_bag) (defBody s_l_own_bag) (defScope s_l_own_bag) .none kV7 dc7 pm7 an7 cd7 ct7), sl7⟩) (c7 : PySem.W.codeIn K cd7 "_law_own_bag" = true) (k7 : PySem.W.keepIn K (.ref f7) = true)
    (a8 : PySem.W.nsIn K mainGlobals "_law_draw" = some (some (.ref f8))) (l8 : K.lookup f8 = some ⟨oc8, od8, .func (PySem.W.fnOf "_law_draw" "_law_draw" (defArgs s_l_draw) (defBody s_l_draw) (defScope s_l_draw) .none kV8 dc8 pm8 an8 cd8 ct8), sl8⟩) (c8 : PySem.W.codeIn K cd8 "_law_draw" = true) (k8 : PySem.W.keepIn K (.ref f8) = true)
    (a9 : PySem.W.nsIn K mainGlobals "_law_pick" = some (some (.ref f9))) (l9 : K.lookup f9 = some ⟨oc9, od9, .func (PySem.W.fnOf "_law_pick" "_law_pick" (defArgs s_l_pick) (defBody s_l_pick) (defScope s_l_pick) .none kV9 dc9 pm9 an9 cd9 ct9), sl9⟩) (c9 : PySem.W.codeIn K cd9 "_law_pick" = true) (k9 : PySem.W.keepIn K (.ref f9) = true)
    (a10 : PySem.W.nsIn K mainGlobals "_law_great" = some (some (.ref f10))) (l10 : K.lookup f10 = some ⟨oc10, od10, .func (PySem.W.fnOf "_law_great" "_law_great" (defArgs s_l_great) (defBody s_l_great) (defScope s_l_great) .none kV10 dc10 pm10 an10 cd10 ct10), sl10⟩) (c10 : PySem.W.codeIn K cd10 "_law_great" = true) (k10 : PySem.W.keepIn K (.ref f10) = true)
    (a11 : PySem.W.nsIn K mainGlobals "_law_same" = some (some (.ref f11))) (l11 : K.lookup f11 = some ⟨oc11, od11, .func (PySem.W.fnOf "_law_same" "_law_same" (defArgs s_l_same) (defBody s_l_same) (defScope s_l_same) .none kV11 dc11 pm11 an11 cd11 ct11), sl11⟩) (c11 : PySem.W.codeIn K cd11 "_law_same" = true) (k11 : PySem.W.keepIn K (.ref f11) = true)
    (a12 : PySem.W.nsIn K mainGlobals "_law_pairs" = some (some (.ref f12))) (l12 : K.lookup f12 = some ⟨oc12, od12, .func (PySem.W.fnOf "_law_pairs" "_law_pairs" (defArgs s_l_pairs) (defBody s_l_pairs) (defScope s_l_pairs) .none kV12 dc12 pm12 an12 cd12 ct12), sl12⟩) (c12 : PySem.W.codeIn K cd12 "_law_pairs" = true) (k12 : PySem.W.keepIn K (.ref f12) = true)
    (a13 : PySem.W.nsIn K mainGlobals "_law_number" = some (some (.ref f13))) (l13 : K.lookup f13 = some ⟨oc13, od13, .func (PySem.W.fnOf "_law_number" "_law_number" (defArgs s_l_number) (defBody s_l_number) (defScope s_l_number) .none kV13 dc13 pm13 an13 cd13 ct13), sl13⟩) (c13 : PySem.W.codeIn K cd13 "_law_number" = true) (k13 : PySem.W.keepIn K (.ref f13) = true)
    (a14 : PySem.W.nsIn K mainGlobals "_law_is_unfit" = some (some (.ref f14))) (l14 : K.lookup f14 = some ⟨oc14, od14, .func (PySem.W.fnOf "_law_is_unfit" "_law_is_unfit" (defArgs s_l_is_unfit) (defBody s_l_is_unfit) (defScope s_l_is_unfit) .none kV14 dc14 pm14 an14 cd14 ct14), sl14⟩) (c14 : PySem.W.codeIn K cd14 "_law_is_unfit" = true) (k14 : PySem.W.keepIn K (.ref f14) = true)
    (a15 : PySem.W.nsIn K mainGlobals "_law_ahead" = some (some (.ref f15))) (l15 : K.lookup f15 = some ⟨oc15, od15, .func (PySem.W.fnOf "_law_ahead" "_law_ahead" (defArgs s_l_ahead) (defBody s_l_ahead) (defScope s_l_ahead) .none kV15 dc15 pm15 an15 cd15 ct15), sl15⟩) (c15 : PySem.W.codeIn K cd15 "_law_ahead" = true) (k15 : PySem.W.keepIn K (.ref f15) = true)
    (a16 : PySem.W.nsIn K mainGlobals "_law_ends" = some (some (.ref f16))) (l16 : K.lookup f16 = some ⟨oc16, od16, .func (PySem.W.fnOf "_law_ends" "_law_ends" (defArgs s_l_ends) (defBody s_l_ends) (defScope s_l_ends) .none kV16 dc16 pm16 an16 cd16 ct16), sl16⟩) (c16 : PySem.W.codeIn K cd16 "_law_ends" = true) (k16 : PySem.W.keepIn K (.ref f16) = true)
    (a17 : PySem.W.nsIn K mainGlobals "_law_path" = some (some (.ref f17))) (l17 : K.lookup f17 = some ⟨oc17, od17, .func (PySem.W.fnOf "_law_path" "_law_path" (defArgs s_l_path) (defBody s_l_path) (defScope s_l_path) .none kV17 dc17 pm17 an17 cd17 ct17), sl17⟩) (c17 : PySem.W.codeIn K cd17 "_law_path" = true) (k17 : PySem.W.keepIn K (.ref f17) = true)
    (a18 : PySem.W.nsIn K mainGlobals "_law_some_k" = some (some (.ref f18))) (l18 : K.lookup f18 = some ⟨oc18, od18, .func (PySem.W.fnOf "_law_some_k" "_law_some_k" (defArgs s_l_some_k) (defBody s_l_some_k) (defScope s_l_some_k) .none kV18 dc18 pm18 an18 cd18 ct18), sl18⟩) (c18 : PySem.W.codeIn K cd18 "_law_some_k" = true) (k18 : PySem.W.keepIn K (.ref f18) = true)
    (a19 : PySem.W.nsIn K mainGlobals "_law_way_told" = some (some (.ref f19))) (l19 : K.lookup f19 = some ⟨oc19, od19, .func (PySem.W.fnOf "_law_way_told" "_law_way_told" (defArgs s_l_way_told) (defBody s_l_way_told) (defScope s_l_way_told) .none kV19 dc19 pm19 an19 cd19 ct19), sl19⟩) (c19 : PySem.W.codeIn K cd19 "_law_way_told" = true) (k19 : PySem.W.keepIn K (.ref f19) = true)
    (a20 : PySem.W.nsIn K mainGlobals "_law_are_ahead_right" = some (some (.ref f20))) (l20 : K.lookup f20 = some ⟨oc20, od20, .func (PySem.W.fnOf "_law_are_ahead_right" "_law_are_ahead_right" (defArgs s_l_are_ahead_right) (defBody s_l_are_ahead_right) (defScope s_l_are_ahead_right) .none kV20 dc20 pm20 an20 cd20 ct20), sl20⟩) (c20 : PySem.W.codeIn K cd20 "_law_are_ahead_right" = true) (k20 : PySem.W.keepIn K (.ref f20) = true)
    (a21 : PySem.W.nsIn K mainGlobals "_law_are_levels_right" = some (some (.ref f21))) (l21 : K.lookup f21 = some ⟨oc21, od21, .func (PySem.W.fnOf "_law_are_levels_right" "_law_are_levels_right" (defArgs s_l_are_levels_right) (defBody s_l_are_levels_right) (defScope s_l_are_levels_right) .none kV21 dc21 pm21 an21 cd21 ct21), sl21⟩) (c21 : PySem.W.codeIn K cd21 "_law_are_levels_right" = true) (k21 : PySem.W.keepIn K (.ref f21) = true)
    (a22 : PySem.W.nsIn K mainGlobals "_law_are_far_right" = some (some (.ref f22))) (l22 : K.lookup f22 = some ⟨oc22, od22, .func (PySem.W.fnOf "_law_are_far_right" "_law_are_far_right" (defArgs s_l_are_far_right) (defBody s_l_are_far_right) (defScope s_l_are_far_right) .none kV22 dc22 pm22 an22 cd22 ct22), sl22⟩) (c22 : PySem.W.codeIn K cd22 "_law_are_far_right" = true) (k22 : PySem.W.keepIn K (.ref f22) = true)
    (a23 : PySem.W.nsIn K mainGlobals "_law_are_ways_right" = some (some (.ref f23))) (l23 : K.lookup f23 = some ⟨oc23, od23, .func (PySem.W.fnOf "_law_are_ways_right" "_law_are_ways_right" (defArgs s_l_are_ways_right) (defBody s_l_are_ways_right) (defScope s_l_are_ways_right) .none kV23 dc23 pm23 an23 cd23 ct23), sl23⟩) (c23 : PySem.W.codeIn K cd23 "_law_are_ways_right" = true) (k23 : PySem.W.keepIn K (.ref f23) = true)
    (a24 : PySem.W.nsIn K mainGlobals "_law_are_words_right" = some (some (.ref f24))) (l24 : K.lookup f24 = some ⟨oc24, od24, .func (PySem.W.fnOf "_law_are_words_right" "_law_are_words_right" (defArgs s_l_are_words_right) (defBody s_l_are_words_right) (defScope s_l_are_words_right) .none kV24 dc24 pm24 an24 cd24 ct24), sl24⟩) (c24 : PySem.W.codeIn K cd24 "_law_are_words_right" = true) (k24 : PySem.W.keepIn K (.ref f24) = true)
    (a25 : PySem.W.nsIn K mainGlobals "_law_depth" = some (some (.ref f25))) (l25 : K.lookup f25 = some ⟨oc25, od25, .func (PySem.W.fnOf "_law_depth" "_law_depth" (defArgs s_l_depth) (defBody s_l_depth) (defScope s_l_depth) .none kV25 dc25 pm25 an25 cd25 ct25), sl25⟩) (c25 : PySem.W.codeIn K cd25 "_law_depth" = true) (k25 : PySem.W.keepIn K (.ref f25) = true)
    (a26 : PySem.W.nsIn K mainGlobals "_law_some_pair" = some (some (.ref f26))) (l26 : K.lookup f26 = some ⟨oc26, od26, .func (PySem.W.fnOf "_law_some_pair" "_law_some_pair" (defArgs s_l_some_pair) (defBody s_l_some_pair) (defScope s_l_some_pair) .none kV26 dc26 pm26 an26 cd26 ct26), sl26⟩) (c26 : PySem.W.codeIn K cd26 "_law_some_pair" = true) (k26 : PySem.W.keepIn K (.ref f26) = true)
    (a27 : PySem.W.nsIn K mainGlobals "_law_are_depths_right" = some (some (.ref f27))) (l27 : K.lookup f27 = some ⟨oc27, od27, .func (PySem.W.fnOf "_law_are_depths_right" "_law_are_depths_right" (defArgs s_l_are_depths_right) (defBody s_l_are_depths_right) (defScope s_l_are_depths_right) .none kV27 dc27 pm27 an27 cd27 ct27), sl27⟩) (c27 : PySem.W.codeIn K cd27 "_law_are_depths_right" = true) (k27 : PySem.W.keepIn K (.ref f27) = true)
    (a28 : PySem.W.nsIn K mainGlobals "law" = some (some (.ref f28))) (l28 : K.lookup f28 = some ⟨oc28, od28, .func (PySem.W.fnOf "law" "law" (defArgs s_law) (defBody s_law) (defScope s_law) .none kV28 dc28 pm28 an28 cd28 ct28), sl28⟩) (c28 : PySem.W.codeIn K cd28 "law" = true) (k28 : PySem.W.keepIn K (.ref f28) = true)
    (n_ValueError : PySem.W.nsIn K mainGlobals "ValueError" = some none)
    (n_abs : PySem.W.nsIn K mainGlobals "abs" = some none)
    (n_all : PySem.W.nsIn K mainGlobals "all" = some none)
    (n_any : PySem.W.nsIn K mainGlobals "any" = some none)
    (n_int : PySem.W.nsIn K mainGlobals "int" = some none)
    (n_isinstance : PySem.W.nsIn K mainGlobals "isinstance" = some none)
    (n_len : PySem.W.nsIn K mainGlobals "len" = some none)
    (n_list : PySem.W.nsIn K mainGlobals "list" = some none)
    (n_max : PySem.W.nsIn K mainGlobals "max" = some none)
    (n_range : PySem.W.nsIn K mainGlobals "range" = some none)
    (n_repr : PySem.W.nsIn K mainGlobals "repr" = some none)
    (n_reversed : PySem.W.nsIn K mainGlobals "reversed" = some none)
    (n_str : PySem.W.nsIn K mainGlobals "str" = some none)
    (n_tuple : PySem.W.nsIn K mainGlobals "tuple" = some none)
    (g_BaseError : PySem.W.nsIn K mainGlobals "BaseError" = some (some (.ref C_BaseError)))
    (be_BaseError : PySem.W.subIn K (.ref C_BaseError) (.type "BaseException") = some true)
    (hd_BaseError : PySem.W.hasDictIn K C_BaseError = true)
    (ty_BaseError : PySem.W.typeIn K (.ref C_BaseError) = some (.type "type"))
    (g_Unfit : PySem.W.nsIn K mainGlobals "Unfit" = some (some (.ref C_Unfit)))
    (be_Unfit : PySem.W.subIn K (.ref C_Unfit) (.type "BaseException") = some true)
    (hd_Unfit : PySem.W.hasDictIn K C_Unfit = true)
    (ty_Unfit : PySem.W.typeIn K (.ref C_Unfit) = some (.type "type"))
    (g_TooMany : PySem.W.nsIn K mainGlobals "TooMany" = some (some (.ref C_TooMany)))
    (be_TooMany : PySem.W.subIn K (.ref C_TooMany) (.type "BaseException") = some true)
    (hd_TooMany : PySem.W.hasDictIn K C_TooMany = true)
    (ty_TooMany : PySem.W.typeIn K (.ref C_TooMany) = some (.type "type"))
    (g_BadText : PySem.W.nsIn K mainGlobals "BadText" = some (some (.ref C_BadText)))
    (be_BadText : PySem.W.subIn K (.ref C_BadText) (.type "BaseException") = some true)
    (hd_BadText : PySem.W.hasDictIn K C_BadText = true)
    (ty_BadText : PySem.W.typeIn K (.ref C_BadText) = some (.type "type"))
    (g_BadWord : PySem.W.nsIn K mainGlobals "BadWord" = some (some (.ref C_BadWord)))
    (be_BadWord : PySem.W.subIn K (.ref C_BadWord) (.type "BaseException") = some true)
    (hd_BadWord : PySem.W.hasDictIn K C_BadWord = true)
    (ty_BadWord : PySem.W.typeIn K (.ref C_BadWord) = some (.type "type"))
    (g_BadLog : PySem.W.nsIn K mainGlobals "BadLog" = some (some (.ref C_BadLog)))
    (be_BadLog : PySem.W.subIn K (.ref C_BadLog) (.type "BaseException") = some true)
    (hd_BadLog : PySem.W.hasDictIn K C_BadLog = true)
    (ty_BadLog : PySem.W.typeIn K (.ref C_BadLog) = some (.type "type"))
    (g_Refused : PySem.W.nsIn K mainGlobals "Refused" = some (some (.ref C_Refused)))
    (be_Refused : PySem.W.subIn K (.ref C_Refused) (.type "BaseException") = some true)
    (hd_Refused : PySem.W.hasDictIn K C_Refused = true)
    (ty_Refused : PySem.W.typeIn K (.ref C_Refused) = some (.type "type"))
    (g_NothingToUndo : PySem.W.nsIn K mainGlobals "NothingToUndo" = some (some (.ref C_NothingToUndo)))
    (be_NothingToUndo : PySem.W.subIn K (.ref C_NothingToUndo) (.type "BaseException") = some true)
    (hd_NothingToUndo : PySem.W.hasDictIn K C_NothingToUndo = true)
    (ty_NothingToUndo : PySem.W.typeIn K (.ref C_NothingToUndo) = some (.type "type"))
    (g_NothingToRedo : PySem.W.nsIn K mainGlobals "NothingToRedo" = some (some (.ref C_NothingToRedo)))
    (be_NothingToRedo : PySem.W.subIn K (.ref C_NothingToRedo) (.type "BaseException") = some true)
    (hd_NothingToRedo : PySem.W.hasDictIn K C_NothingToRedo = true)
    (ty_NothingToRedo : PySem.W.typeIn K (.ref C_NothingToRedo) = some (.type "type"))
    (g_NoName : PySem.W.nsIn K mainGlobals "NoName" = some (some (.ref C_NoName)))
    (be_NoName : PySem.W.subIn K (.ref C_NoName) (.type "BaseException") = some true)
    (hd_NoName : PySem.W.hasDictIn K C_NoName = true)
    (ty_NoName : PySem.W.typeIn K (.ref C_NoName) = some (.type "type"))
    (g_NoVersion : PySem.W.nsIn K mainGlobals "NoVersion" = some (some (.ref C_NoVersion)))
    (be_NoVersion : PySem.W.subIn K (.ref C_NoVersion) (.type "BaseException") = some true)
    (hd_NoVersion : PySem.W.hasDictIn K C_NoVersion = true)
    (ty_NoVersion : PySem.W.typeIn K (.ref C_NoVersion) = some (.type "type"))
    (xi_Unfit : PySem.W.excIn K C_Unfit [.type "ValueError", .type "Exception", .type "BaseException", .type "object"] "ValueError.__new__" = true)
    (kp_Unfit : PySem.W.keepIn K (.ref C_Unfit) = true)
    (e1_Unfit : PySem.W.findIn K (.ref C_Unfit) "__getattribute__" = some (some (.builtin "BaseException.__getattribute__")))
    (e2_Unfit : PySem.W.findIn K (.ref C_Unfit) "__getattr__" = some none)
    (e3_Unfit : PySem.W.findIn K (.ref C_Unfit) "__class__" = some (some (.builtin "object.__class__")))
    (e4_Unfit : PySem.W.mroIn K C_Unfit (.type "object") = some true)
    (sb_Unfit_BaseError : PySem.W.subIn K (.ref C_Unfit) (.ref C_BaseError) = some true)
    (e5 : PySem.W.specialIn K (.builtin "object.__class__") "__get__" = some (some (.builtin "getset_descriptor.__get__")))
    (e6 : PySem.W.takesIn K (.builtin "object.__class__") = some true)
    (is_Unfit_BadLog : PySem.W.kitOne K (.ref C_Unfit) (.ref C_BadLog) = some false)
    (is_Unfit_BadText : PySem.W.kitOne K (.ref C_Unfit) (.ref C_BadText) = some false)
    (is_Unfit_BadWord : PySem.W.kitOne K (.ref C_Unfit) (.ref C_BadWord) = some false)
    (is_Unfit_NoName : PySem.W.kitOne K (.ref C_Unfit) (.ref C_NoName) = some false)
    (is_Unfit_NoVersion : PySem.W.kitOne K (.ref C_Unfit) (.ref C_NoVersion) = some false)
    (is_Unfit_NothingToRedo : PySem.W.kitOne K (.ref C_Unfit) (.ref C_NothingToRedo) = some false)
    (is_Unfit_NothingToUndo : PySem.W.kitOne K (.ref C_Unfit) (.ref C_NothingToUndo) = some false)
    (is_Unfit_Refused : PySem.W.kitOne K (.ref C_Unfit) (.ref C_Refused) = some false)
    (is_Unfit_TooMany : PySem.W.kitOne K (.ref C_Unfit) (.ref C_TooMany) = some false)
    (is_Unfit_Unfit : PySem.W.kitOne K (.ref C_Unfit) (.ref C_Unfit) = some true)
    (is_Unfit_ValueError : PySem.W.kitOne K (.ref C_Unfit) (.type "ValueError") = some true) :
    ∃ fd : FuncData, (∀ (s : Shared) (v : Value), BindsTo s fd ⟨[v], []⟩ [("script", v)]) ∧ ∀ base : Heap, K.In base → base.Ns mainGlobals mg → FnG l.prog w K mg base CX0 6 fa fd ["script"] (spOf K c_law) := by
  have e := (PySem.W.mg_of X G a28).symm.trans hfa
  cases e
  let T : Top K mg := {
    cl := ⟨C_BaseError, C_Unfit, C_TooMany, C_BadText, C_BadWord, C_BadLog, C_Refused, C_NothingToUndo, C_NothingToRedo, C_NoName, C_NoVersion⟩,
    g_BaseError := PySem.W.mg_of X G g_BaseError,
    g_Unfit := PySem.W.mg_of X G g_Unfit,
    g_TooMany := PySem.W.mg_of X G g_TooMany,
    g_BadText := PySem.W.mg_of X G g_BadText,
    g_BadWord := PySem.W.mg_of X G g_BadWord,
    g_BadLog := PySem.W.mg_of X G g_BadLog,
    g_Refused := PySem.W.mg_of X G g_Refused,
    g_NothingToUndo := PySem.W.mg_of X G g_NothingToUndo,
    g_NothingToRedo := PySem.W.mg_of X G g_NothingToRedo,
    g_NoName := PySem.W.mg_of X G g_NoName,
    g_NoVersion := PySem.W.mg_of X G g_NoVersion,
    xi_Unfit := xi_Unfit, kp_Unfit := kp_Unfit, be_Unfit := be_Unfit, ty_Unfit := ty_Unfit, ec_Unfit := ⟨e1_Unfit, e2_Unfit, be_Unfit, hd_Unfit, e3_Unfit, e5, e6, e4_Unfit⟩,
    ex_Unfit_BaseError := PySem.W.exm_ref be_BaseError hd_BaseError ty_BaseError sb_Unfit_BaseError,
    is_Unfit_BadLog := is_Unfit_BadLog,
    is_Unfit_BadText := is_Unfit_BadText,
    is_Unfit_BadWord := is_Unfit_BadWord,
    is_Unfit_NoName := is_Unfit_NoName,
    is_Unfit_NoVersion := is_Unfit_NoVersion,
    is_Unfit_NothingToRedo := is_Unfit_NothingToRedo,
    is_Unfit_NothingToUndo := is_Unfit_NothingToUndo,
    is_Unfit_Refused := is_Unfit_Refused,
    is_Unfit_TooMany := is_Unfit_TooMany,
    is_Unfit_Unfit := is_Unfit_Unfit,
    is_Unfit_ValueError := is_Unfit_ValueError,
    f_figures_ahead := f0, fd_figures_ahead := _, F_figures_ahead := fun_mk (st := s_figures_ahead) l0 c0 k0, m_figures_ahead := PySem.W.mg_of X G a0,
    f_numbers_ahead := f1, fd_numbers_ahead := _, F_numbers_ahead := fun_mk (st := s_numbers_ahead) l1 c1 k1, m_numbers_ahead := PySem.W.mg_of X G a1,
    f_least_branch := f2, fd_least_branch := _, F_least_branch := fun_mk (st := s_least_branch) l2 c2 k2, m_least_branch := PySem.W.mg_of X G a2,
    f_greatest_branch := f3, fd_greatest_branch := _, F_greatest_branch := fun_mk (st := s_greatest_branch) l3 c3 k3, m_greatest_branch := PySem.W.mg_of X G a3,
    f_branch_count := f4, fd_branch_count := _, F_branch_count := fun_mk (st := s_branch_count) l4 c4 k4, m_branch_count := PySem.W.mg_of X G a4,
    f_branch_number := f5, fd_branch_number := _, F_branch_number := fun_mk (st := s_branch_number) l5 c5 k5, m_branch_number := PySem.W.mg_of X G a5,
    f_alike_depth := f6, fd_alike_depth := _, F_alike_depth := fun_mk (st := s_alike_depth) l6 c6 k6, m_alike_depth := PySem.W.mg_of X G a6,
    f_l_own_bag := f7, fd_l_own_bag := _, F_l_own_bag := fun_mk (st := s_l_own_bag) l7 c7 k7, m_l_own_bag := PySem.W.mg_of X G a7,
    f_l_draw := f8, fd_l_draw := _, F_l_draw := fun_mk (st := s_l_draw) l8 c8 k8, m_l_draw := PySem.W.mg_of X G a8,
    f_l_pick := f9, fd_l_pick := _, F_l_pick := fun_mk (st := s_l_pick) l9 c9 k9, m_l_pick := PySem.W.mg_of X G a9,
    f_l_great := f10, fd_l_great := _, F_l_great := fun_mk (st := s_l_great) l10 c10 k10, m_l_great := PySem.W.mg_of X G a10,
    f_l_same := f11, fd_l_same := _, F_l_same := fun_mk (st := s_l_same) l11 c11 k11, m_l_same := PySem.W.mg_of X G a11,
    f_l_pairs := f12, fd_l_pairs := _, F_l_pairs := fun_mk (st := s_l_pairs) l12 c12 k12, m_l_pairs := PySem.W.mg_of X G a12,
    f_l_number := f13, fd_l_number := _, F_l_number := fun_mk (st := s_l_number) l13 c13 k13, m_l_number := PySem.W.mg_of X G a13,
    f_l_is_unfit := f14, fd_l_is_unfit := _, F_l_is_unfit := fun_mk (st := s_l_is_unfit) l14 c14 k14, m_l_is_unfit := PySem.W.mg_of X G a14,
    f_l_ahead := f15, fd_l_ahead := _, F_l_ahead := fun_mk (st := s_l_ahead) l15 c15 k15, m_l_ahead := PySem.W.mg_of X G a15,
    f_l_ends := f16, fd_l_ends := _, F_l_ends := fun_mk (st := s_l_ends) l16 c16 k16, m_l_ends := PySem.W.mg_of X G a16,
    f_l_path := f17, fd_l_path := _, F_l_path := fun_mk (st := s_l_path) l17 c17 k17, m_l_path := PySem.W.mg_of X G a17,
    f_l_some_k := f18, fd_l_some_k := _, F_l_some_k := fun_mk (st := s_l_some_k) l18 c18 k18, m_l_some_k := PySem.W.mg_of X G a18,
    f_l_way_told := f19, fd_l_way_told := _, F_l_way_told := fun_mk (st := s_l_way_told) l19 c19 k19, m_l_way_told := PySem.W.mg_of X G a19,
    f_l_are_ahead_right := f20, fd_l_are_ahead_right := _, F_l_are_ahead_right := fun_mk (st := s_l_are_ahead_right) l20 c20 k20, m_l_are_ahead_right := PySem.W.mg_of X G a20,
    f_l_are_levels_right := f21, fd_l_are_levels_right := _, F_l_are_levels_right := fun_mk (st := s_l_are_levels_right) l21 c21 k21, m_l_are_levels_right := PySem.W.mg_of X G a21,
    f_l_are_far_right := f22, fd_l_are_far_right := _, F_l_are_far_right := fun_mk (st := s_l_are_far_right) l22 c22 k22, m_l_are_far_right := PySem.W.mg_of X G a22,
    f_l_are_ways_right := f23, fd_l_are_ways_right := _, F_l_are_ways_right := fun_mk (st := s_l_are_ways_right) l23 c23 k23, m_l_are_ways_right := PySem.W.mg_of X G a23,
    f_l_are_words_right := f24, fd_l_are_words_right := _, F_l_are_words_right := fun_mk (st := s_l_are_words_right) l24 c24 k24, m_l_are_words_right := PySem.W.mg_of X G a24,
    f_l_depth := f25, fd_l_depth := _, F_l_depth := fun_mk (st := s_l_depth) l25 c25 k25, m_l_depth := PySem.W.mg_of X G a25,
    f_l_some_pair := f26, fd_l_some_pair := _, F_l_some_pair := fun_mk (st := s_l_some_pair) l26 c26 k26, m_l_some_pair := PySem.W.mg_of X G a26,
    f_l_are_depths_right := f27, fd_l_are_depths_right := _, F_l_are_depths_right := fun_mk (st := s_l_are_depths_right) l27 c27 k27, m_l_are_depths_right := PySem.W.mg_of X G a27,
    f_law := fa, fd_law := _, F_law := fun_mk (st := s_law) l28 c28 k28, m_law := PySem.W.mg_of X G a28,
    n_ValueError := PySem.W.mg_none_of X G n_ValueError,
    n_abs := PySem.W.mg_none_of X G n_abs,
    n_all := PySem.W.mg_none_of X G n_all,
    n_any := PySem.W.mg_none_of X G n_any,
    n_int := PySem.W.mg_none_of X G n_int,
    n_isinstance := PySem.W.mg_none_of X G n_isinstance,
    n_len := PySem.W.mg_none_of X G n_len,
    n_list := PySem.W.mg_none_of X G n_list,
    n_max := PySem.W.mg_none_of X G n_max,
    n_range := PySem.W.mg_none_of X G n_range,
    n_repr := PySem.W.mg_none_of X G n_repr,
    n_reversed := PySem.W.mg_none_of X G n_reversed,
    n_str := PySem.W.mg_none_of X G n_str,
    n_tuple := PySem.W.mg_none_of X G n_tuple }
  exact ⟨T.fd_law, fun s v => .of_eq rfl, fun base _ _ => ok_law T⟩
end KK
open PySem PySem.W PyProof.Rows in
set_option maxRecDepth 100000 in
set_option maxHeartbeats 0 in
theorem PySem.Challenge.cw_manybases_k83_whole_main_levels_holds : PySem.Challenge.rw_manybases_k83_whole_main_levels.Holds := by
  w_on; o_law; k_head; (case hw => w_witness2)
  k_fill
  refine Z.walk (l := PySem.Challenge.rw_manybases_k83_whole_main_levels) (n := 63) (k := 6) (x := "script") rfl rfl (fun w h Y => PySem.W.kIn_of Y) ⟨rfl, by decide +kernel, by decide +kernel⟩ (by decide) ?F
  case F =>
    intro w mg fa h KX G hmg
    refine' KK.all_mk KX G hmg ?a0 ?l0 ?c0 ?k0 ?a1 ?l1 ?c1 ?k1 ?a2 ?l2 ?c2 ?k2 ?a3 ?l3 ?c3 ?k3 ?a4 ?l4 ?c4 ?k4 ?a5 ?l5 ?c5 ?k5 ?a6 ?l6 ?c6 ?k6 ?a7 ?l7 ?c7 ?k7 ?a8 ?l8 ?c8 ?k8 ?a9 ?l9 ?c9 ?k9 ?a10 ?l10 ?c10 ?k10 ?a11 ?l11 ?c11 ?k11 ?a12 ?l12 ?c12 ?k12 ?a13 ?l13 ?c13 ?k13 ?a14 ?l14 ?c14 ?k14 ?a15 ?l15 ?c15 ?k15 ?a16 ?l16 ?c16 ?k16 ?a17 ?l17 ?c17 ?k17 ?a18 ?l18 ?c18 ?k18 ?a19 ?l19 ?c19 ?k19 ?a20 ?l20 ?c20 ?k20 ?a21 ?l21 ?c21 ?k21 ?a22 ?l22 ?c22 ?k22 ?a23 ?l23 ?c23 ?k23 ?a24 ?l24 ?c24 ?k24 ?a25 ?l25 ?c25 ?k25 ?a26 ?l26 ?c26 ?k26 ?a27 ?l27 ?c27 ?k27 ?a28 ?l28 ?c28 ?k28 ?n_ValueError ?n_abs ?n_all ?n_any ?n_int ?n_isinstance ?n_len ?n_list ?n_max ?n_range ?n_repr ?n_reversed ?n_str ?n_tuple ?g_BaseError ?be_BaseError ?hd_BaseError ?ty_BaseError ?g_Unfit ?be_Unfit ?hd_Unfit ?ty_Unfit ?g_TooMany ?be_TooMany ?hd_TooMany ?ty_TooMany ?g_BadText ?be_BadText ?hd_BadText ?ty_BadText ?g_BadWord ?be_BadWord ?hd_BadWord ?ty_BadWord ?g_BadLog ?be_BadLog ?hd_BadLog ?ty_BadLog ?g_Refused ?be_Refused ?hd_Refused ?ty_Refused ?g_NothingToUndo ?be_NothingToUndo ?hd_NothingToUndo ?ty_NothingToUndo ?g_NothingToRedo ?be_NothingToRedo ?hd_NothingToRedo ?ty_NothingToRedo ?g_NoName ?be_NoName ?hd_NoName ?ty_NoName ?g_NoVersion ?be_NoVersion ?hd_NoVersion ?ty_NoVersion ?xi_Unfit ?kp_Unfit ?e1_Unfit ?e2_Unfit ?e3_Unfit ?e4_Unfit ?sb_Unfit_BaseError ?e5 ?e6 ?is_Unfit_BadLog ?is_Unfit_BadText ?is_Unfit_BadWord ?is_Unfit_NoName ?is_Unfit_NoVersion ?is_Unfit_NothingToRedo ?is_Unfit_NothingToUndo ?is_Unfit_Refused ?is_Unfit_TooMany ?is_Unfit_Unfit ?is_Unfit_ValueError
    (case a0 => k_is)
    (case l0 => k_is)
    (case c0 => k_is)
    (case k0 => k_is)
    (case a1 => k_is)
    (case l1 => k_is)
    (case c1 => k_is)
    (case k1 => k_is)
    (case a2 => k_is)
    (case l2 => k_is)
    (case c2 => k_is)
    (case k2 => k_is)
    (case a3 => k_is)
    (case l3 => k_is)
    (case c3 => k_is)
    (case k3 => k_is)
    (case a4 => k_is)
    (case l4 => k_is)
    (case c4 => k_is)
    (case k4 => k_is)
    (case a5 => k_is)
    (case l5 => k_is)
    (case c5 => k_is)
    (case k5 => k_is)
    (case a6 => k_is)
    (case l6 => k_is)
    (case c6 => k_is)
    (case k6 => k_is)
    (case a7 => k_is)
    (case l7 => k_is)
    (case c7 => k_is)
    (case k7 => k_is)
    (case a8 => k_is)
    (case l8 => k_is)
    (case c8 => k_is)
    (case k8 => k_is)
    (case a9 => k_is)
    (case l9 => k_is)
    (case c9 => k_is)
    (case k9 => k_is)
    (case a10 => k_is)
    (case l10 => k_is)
    (case c10 => k_is)
    (case k10 => k_is)
    (case a11 => k_is)
    (case l11 => k_is)
    (case c11 => k_is)
    (case k11 => k_is)
    (case a12 => k_is)
    (case l12 => k_is)
    (case c12 => k_is)
    (case k12 => k_is)
    (case a13 => k_is)
    (case l13 => k_is)
    (case c13 => k_is)
    (case k13 => k_is)
    (case a14 => k_is)
    (case l14 => k_is)
    (case c14 => k_is)
    (case k14 => k_is)
    (case a15 => k_is)
    (case l15 => k_is)
    (case c15 => k_is)
    (case k15 => k_is)
    (case a16 => k_is)
    (case l16 => k_is)
    (case c16 => k_is)
    (case k16 => k_is)
    (case a17 => k_is)
    (case l17 => k_is)
    (case c17 => k_is)
    (case k17 => k_is)
    (case a18 => k_is)
    (case l18 => k_is)
    (case c18 => k_is)
    (case k18 => k_is)
    (case a19 => k_is)
    (case l19 => k_is)
    (case c19 => k_is)
    (case k19 => k_is)
    (case a20 => k_is)
    (case l20 => k_is)
    (case c20 => k_is)
    (case k20 => k_is)
    (case a21 => k_is)
    (case l21 => k_is)
    (case c21 => k_is)
    (case k21 => k_is)
    (case a22 => k_is)
    (case l22 => k_is)
    (case c22 => k_is)
    (case k22 => k_is)
    (case a23 => k_is)
    (case l23 => k_is)
    (case c23 => k_is)
    (case k23 => k_is)
    (case a24 => k_is)
    (case l24 => k_is)
    (case c24 => k_is)
    (case k24 => k_is)
    (case a25 => k_is)
    (case l25 => k_is)
    (case c25 => k_is)
    (case k25 => k_is)
    (case a26 => k_is)
    (case l26 => k_is)
    (case c26 => k_is)
    (case k26 => k_is)
    (case a27 => k_is)
    (case l27 => k_is)
    (case c27 => k_is)
    (case k27 => k_is)
    (case a28 => k_is)
    (case l28 => k_is)
    (case c28 => k_is)
    (case k28 => k_is)
    (case n_ValueError => k_is)
    (case n_abs => k_is)
    (case n_all => k_is)
    (case n_any => k_is)
    (case n_int => k_is)
    (case n_isinstance => k_is)
    (case n_len => k_is)
    (case n_list => k_is)
    (case n_max => k_is)
    (case n_range => k_is)
    (case n_repr => k_is)
    (case n_reversed => k_is)
    (case n_str => k_is)
    (case n_tuple => k_is)
    (case g_BaseError => k_is)
    (case be_BaseError => k_is)
    (case hd_BaseError => k_is)
    (case ty_BaseError => k_is)
    (case g_Unfit => k_is)
    (case be_Unfit => k_is)
    (case hd_Unfit => k_is)
    (case ty_Unfit => k_is)
    (case g_TooMany => k_is)
    (case be_TooMany => k_is)
    (case hd_TooMany => k_is)
    (case ty_TooMany => k_is)
    (case g_BadText => k_is)
    (case be_BadText => k_is)
    (case hd_BadText => k_is)
    (case ty_BadText => k_is)
    (case g_BadWord => k_is)
    (case be_BadWord => k_is)
    (case hd_BadWord => k_is)
    (case ty_BadWord => k_is)
    (case g_BadLog => k_is)
    (case be_BadLog => k_is)
    (case hd_BadLog => k_is)
    (case ty_BadLog => k_is)
    (case g_Refused => k_is)
    (case be_Refused => k_is)
    (case hd_Refused => k_is)
    (case ty_Refused => k_is)
    (case g_NothingToUndo => k_is)
    (case be_NothingToUndo => k_is)
    (case hd_NothingToUndo => k_is)
    (case ty_NothingToUndo => k_is)
    (case g_NothingToRedo => k_is)
    (case be_NothingToRedo => k_is)
    (case hd_NothingToRedo => k_is)
    (case ty_NothingToRedo => k_is)
    (case g_NoName => k_is)
    (case be_NoName => k_is)
    (case hd_NoName => k_is)
    (case ty_NoName => k_is)
    (case g_NoVersion => k_is)
    (case be_NoVersion => k_is)
    (case hd_NoVersion => k_is)
    (case ty_NoVersion => k_is)
    (case xi_Unfit => k_exc)
    (case kp_Unfit => k_is)
    (case e1_Unfit => k_is)
    (case e2_Unfit => k_is)
    (case e3_Unfit => k_is)
    (case e4_Unfit => k_is)
    (case sb_Unfit_BaseError => first | rfl | k_is)
    (case e5 => k_is)
    (case e6 => k_is)
    (case is_Unfit_BadLog => first | k_is | rfl)
    (case is_Unfit_BadText => first | k_is | rfl)
    (case is_Unfit_BadWord => first | k_is | rfl)
    (case is_Unfit_NoName => first | k_is | rfl)
    (case is_Unfit_NoVersion => first | k_is | rfl)
    (case is_Unfit_NothingToRedo => first | k_is | rfl)
    (case is_Unfit_NothingToUndo => first | k_is | rfl)
    (case is_Unfit_Refused => first | k_is | rfl)
    (case is_Unfit_TooMany => first | k_is | rfl)
    (case is_Unfit_Unfit => first | k_is | rfl)
    (case is_Unfit_ValueError => first | k_is | rfl)
