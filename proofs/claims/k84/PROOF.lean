import PyProof.Rows.All
import Wide.All
import OpenK.AllK
import Wide.FinOn
import HandS.ForMost
import HandS.Wide
import HandS.EndBits
import HandS.RaiseMore
import HandS.IsInst
import HandS.Conv
import HandS.WordsExc
import HandS.TupAny
import HandS.WideBits
import HandS.Deep
import HandS.SortInts
import HandS.Gcd
import HandS.Style
import HandS.Zip
import HandS.Rev
import PySem.Challenge.RW_manybases_k84_whole_main_thinned
set_option Elab.async false
set_option linter.all false
set_option maxRecDepth 100000
set_option maxHeartbeats 4000000
/-! Z1: a layer over data: slots hold data (PyData) or raw values, what is mutable lies in a list of cells. -/
namespace Z
open PySem PySem.Spec PyProof.Rows L2
/-! ### values, cells, states -/
/-- data (lists in it are objects of our own that never change again); a list that is only read (the script); any other value, raw -/
inductive SV where
  | d (x : PyData)
  | l (xs : List PyData)
  | r (v : V)
inductive OC where
  | lst (xs : List PyData)
  | lx (xs : List SV)
  | dk (kvs : List (Key × SV))
  | dt (kvs : List (List Key × SV))
  | raw (o : HO)
abbrev Rho := List (Option SV)
abbrev Om := List (Addr × OC)
abbrev Frag := PySem.W.Frag
theorem sqt_same {K : Frag} {H H' : Hp} {a : Addr} {xs : List V} (e : Same H H') (h : SqT K H a xs) : SqT K H' a xs := by
  rcases h with (h | ⟨o, h⟩) | h
  · exact Or.inl (Or.inl (e _ _ h))
  · exact Or.inl (Or.inr ⟨o, e _ _ h⟩)
  · exact Or.inr h
mutual
/-- v is data d in F: as Dp, but a list is an object that F tracks itself -/
inductive Dq (K : Frag) (F : Hp) : V → PyData → Prop
  | non : Dq K F .non .none
  | bl (b : Bool) : Dq K F (.bl b) (.bool b)
  | int (i : Int) : Dq K F (.int i) (.int i)
  | str (x : Str) : Dq K F (.str x) (.str x)
  | lst {a : Addr} {xs : List V} {ds : List PyData} : F a = some (.lst xs) → DqAll K F xs ds → Dq K F (.ref a) (.list ds)
  | tup {a : Addr} {xs : List V} {ds : List PyData} : SqT K F a xs → DqAll K F xs ds → Dq K F (.ref a) (.tuple ds)
inductive DqAll (K : Frag) (F : Hp) : List V → List PyData → Prop
  | nil : DqAll K F [] []
  | cons {v : V} {vs : List V} {d : PyData} {ds : List PyData} : Dq K F v d → DqAll K F vs ds → DqAll K F (v :: vs) (d :: ds)
end
mutual
theorem dq_same {K : Frag} {H H' : Hp} (e : Same H H') : ∀ (d : PyData) (v : V), Dq K H v d → Dq K H' v d
  | .none, _, h => by cases h; exact .non
  | .bool b, _, h => by cases h; exact .bl b
  | .int i, _, h => by cases h; exact .int i
  | .str x, _, h => by cases h; exact .str x
  | .list ds, _, h => by
    cases h with
    | lst hs ha => exact .lst (e _ _ hs) (dqa_same e ds _ ha)
  | .tuple ds, _, h => by
    cases h with
    | tup hs ha => exact .tup (sqt_same e hs) (dqa_same e ds _ ha)
  | .dict _, _, h => by cases h
theorem dqa_same {K : Frag} {H H' : Hp} (e : Same H H') : ∀ (ds : List PyData) (vs : List V), DqAll K H vs ds → DqAll K H' vs ds
  | [], _, h => by cases h; exact .nil
  | d :: ds, _, h => by
    cases h with
    | cons h1 h2 => exact .cons (dq_same e d _ h1) (dqa_same e ds _ h2)
end
mutual
theorem Dq.dp {K : Frag} {H : Hp} : ∀ (d : PyData) (v : V), Dq K H v d → Dp K H v d
  | .none, _, h => by cases h; exact .non
  | .bool b, _, h => by cases h; exact .bl b
  | .int i, _, h => by cases h; exact .int i
  | .str x, _, h => by cases h; exact .str x
  | .list ds, _, h => by
    cases h with
    | lst hs ha => exact .lst (SqL.of hs) (DqAll.dp ds _ ha)
  | .tuple ds, _, h => by
    cases h with
    | tup hs ha => exact .tup hs (DqAll.dp ds _ ha)
  | .dict _, _, h => by cases h
theorem DqAll.dp {K : Frag} {H : Hp} : ∀ (ds : List PyData) (vs : List V), DqAll K H vs ds → DpAll K H vs ds
  | [], _, h => by cases h; exact .nil
  | d :: ds, _, h => by
    cases h with
    | cons h1 h2 => exact .cons (Dq.dp d _ h1) (DqAll.dp ds _ h2)
end
theorem dqi {K : Frag} {F : Hp} {v : V} {i : Int} (h : Dq K F v (.int i)) : v = .int i := by cases h; rfl
theorem dqb {K : Frag} {F : Hp} {v : V} {b : Bool} (h : Dq K F v (.bool b)) : v = .bl b := by cases h; rfl
theorem dqs {K : Frag} {F : Hp} {v : V} {x : Str} (h : Dq K F v (.str x)) : v = .str x := by cases h; rfl
theorem dqn {K : Frag} {F : Hp} {v : V} (h : Dq K F v .none) : v = .non := by cases h; rfl
theorem dql {K : Frag} {F : Hp} {v : V} {ds : List PyData} (h : Dq K F v (.list ds)) : ∃ a xs, v = .ref a ∧ F a = some (.lst xs) ∧ DqAll K F xs ds := by cases h with | lst hs ha => exact ⟨_, _, rfl, hs, ha⟩
theorem dqt {K : Frag} {F : Hp} {v : V} {ds : List PyData} (h : Dq K F v (.tuple ds)) : ∃ a xs, v = .ref a ∧ SqT K F a xs ∧ DqAll K F xs ds := by cases h with | tup hs ha => exact ⟨_, _, rfl, hs, ha⟩
def Rp (K : Frag) (F : Hp) (v : V) : SV → Prop
  | .d x => Dq K F v x
  | .l ds => ∃ a xs, v = .ref a ∧ SqL K F a xs ∧ DqAll K F xs ds
  | .r u => v = u
theorem Rp.same {K : Frag} {F F' : Hp} (e : Same F F') : ∀ {v : V} {s : SV}, Rp K F v s → Rp K F' v s
  | v, .d x, h => dq_same e x v h
  | _, .l ds, ⟨a, xs, h1, h2, h3⟩ => ⟨a, xs, h1, e.seq h2, dqa_same e ds xs h3⟩
  | _, .r _, h => h
def RpO (K : Frag) (F : Hp) : HO → OC → Prop
  | .lst vs, .lst xs => DqAll K F vs xs
  | .lst vs, .lx xs => Paired (Rp K F) vs xs
  | .dK kvs, .dk ys => Paired (fun p q => p.1 = q.1 ∧ Rp K F p.2 q.2) kvs ys
  | .dT kvs, .dt ys => Paired (fun p q => p.1 = q.1 ∧ Rp K F p.2 q.2) kvs ys
  | o, .raw o' => o = o'
  | _, _ => False
theorem RpO.same {K : Frag} {F F' : Hp} (e : Same F F') {o : HO} {c : OC} (h : RpO K F o c) : RpO K F' o c := by
  unfold RpO at h ⊢
  split at h
  · exact dqa_same e _ _ h
  · exact Paired.mapP h fun _ _ q => q.same e
  · exact Paired.mapP h fun _ _ q => ⟨q.1, q.2.same e⟩
  · exact Paired.mapP h fun _ _ q => ⟨q.1, q.2.same e⟩
  · exact h
  · exact h.elim
def RpS (K : Frag) (F : Hp) (o : Option V) : Option SV → Prop
  | none => True
  | some x => ∃ v, o = some v ∧ Rp K F v x
abbrev RpE (K : Frag) (F : Hp) : L2.St → Rho → Prop := Paired (RpS K F)
theorem RpS.same {K : Frag} {F F' : Hp} (e : Same F F') : ∀ {o : Option V} {s : Option SV}, RpS K F o s → RpS K F' o s
  | _, none, _ => trivial
  | _, some _, ⟨v, h, q⟩ => ⟨v, h, q.same e⟩
theorem rpe_same {K : Frag} {F F' : Hp} (e : Same F F') {σ : L2.St} {ρ : Rho} (h : RpE K F σ ρ) : RpE K F' σ ρ := Paired.mapP h fun _ _ q => q.same e
theorem rps_same {K : Frag} {F F' : Hp} (e : Same F F') {σ : List V} {ρ : List SV} (h : Paired (Rp K F) σ ρ) : Paired (Rp K F') σ ρ := Paired.mapP h fun _ _ q => q.same e
theorem rpe_get {K : Frag} {F : Hp} : ∀ {σ : L2.St} {ρ : Rho} {i : Nat} {x : SV}, RpE K F σ ρ → ρ[i]? = some (some x) → ∃ v, σ[i]? = some (some v) ∧ Rp K F v x
  | _, _, _, _, .nil, e => by simp at e
  | _, _, 0, x, .cons r _, e => by
    simp at e; subst e
    obtain ⟨v, rfl, q⟩ := r
    exact ⟨v, rfl, q⟩
  | _, _, i + 1, x, .cons _ t, e => by
    obtain ⟨v, h1, h2⟩ := rpe_get (i := i) (x := x) t (by simpa using e)
    exact ⟨v, by simpa using h1, h2⟩
theorem pr_set {α β : Type} {R : α → β → Prop} {x : α} {y : β} (r : R x y) : ∀ {l : List α} {m : List β} (i : Nat), Paired R l m → Paired R (l.set i x) (m.set i y)
  | _, _, _, .nil => .nil
  | _, _, 0, .cons _ t => .cons r t
  | _, _, i + 1, .cons q t => .cons q (pr_set r i t)
theorem pr_app {α β : Type} {R : α → β → Prop} : ∀ {l l' : List α} {m m' : List β}, Paired R l m → Paired R l' m' → Paired R (l ++ l') (m ++ m')
  | _, _, _, _, .nil, s => s
  | _, _, _, _, .cons r t, s => .cons r (pr_app t s)
theorem pr_take {α β : Type} {R : α → β → Prop} : ∀ {l : List α} {m : List β} (n : Nat), Paired R l m → Paired R (l.take n) (m.take n)
  | _, _, 0, _ => .nil
  | _, _, _ + 1, .nil => .nil
  | _, _, n + 1, .cons r t => .cons r (pr_take n t)
theorem pr_drop {α β : Type} {R : α → β → Prop} : ∀ {l : List α} {m : List β} (n : Nat), Paired R l m → Paired R (l.drop n) (m.drop n)
  | _, _, 0, r => r
  | _, _, _ + 1, .nil => .nil
  | _, _, n + 1, .cons _ t => pr_drop n t
theorem pr_get {α β : Type} {R : α → β → Prop} : ∀ {l : List α} {m : List β} {i : Nat} {y : β}, Paired R l m → m[i]? = some y → ∃ x, l[i]? = some x ∧ R x y
  | _, _, _, _, .nil, e => by simp at e
  | _, _, 0, y, .cons r _, e => by simp at e; subst e; exact ⟨_, rfl, r⟩
  | _, _, i + 1, y, .cons _ t, e => by
    obtain ⟨v, h1, h2⟩ := pr_get (i := i) (y := y) t (by simpa using e)
    exact ⟨v, by simpa using h1, h2⟩
theorem pr_getL {α β : Type} {R : α → β → Prop} : ∀ {l : List α} {m : List β} {i : Nat} {x : α}, Paired R l m → l[i]? = some x → ∃ y, m[i]? = some y ∧ R x y
  | _, _, _, _, .nil, e => by simp at e
  | _, _, 0, y, .cons r _, e => by simp at e; subst e; exact ⟨_, rfl, r⟩
  | _, _, i + 1, y, .cons _ t, e => by
    obtain ⟨v, h1, h2⟩ := pr_getL (i := i) (x := y) t (by simpa using e)
    exact ⟨v, by simpa using h1, h2⟩
theorem pr_rev {α β : Type} {R : α → β → Prop} : ∀ {l : List α} {m : List β}, Paired R l m → Paired R l.reverse m.reverse
  | _, _, .nil => .nil
  | _, _, .cons r t => by
    rw [List.reverse_cons, List.reverse_cons]
    exact pr_app (pr_rev t) (.cons r .nil)
theorem pr_erase {α β : Type} {R : α → β → Prop} : ∀ {l : List α} {m : List β} (n : Nat), Paired R l m → Paired R (l.eraseIdx n) (m.eraseIdx n)
  | _, _, _, .nil => .nil
  | _, _, 0, .cons _ t => t
  | _, _, n + 1, .cons r t => .cons r (pr_erase n t)
theorem pr_dropLast {α β : Type} {R : α → β → Prop} {l : List α} {m : List β} (h : Paired R l m) : Paired R l.dropLast m.dropLast := by
  rw [List.dropLast_eq_take, List.dropLast_eq_take, h.length]
  exact pr_take _ h
/-- data lists -/
theorem dqa_of {K : Frag} {F : Hp} : ∀ {vs : List V} {ds : List PyData}, Paired (Rp K F) vs (ds.map SV.d) → DqAll K F vs ds
  | _, [], h => by cases h; exact .nil
  | _, d :: ds, h => by
    cases h with
    | cons r t => exact .cons r (dqa_of t)
theorem of_dqa {K : Frag} {F : Hp} : ∀ {vs : List V} {ds : List PyData}, DqAll K F vs ds → Paired (Rp K F) vs (ds.map SV.d)
  | _, [], h => by cases h; exact .nil
  | _, d :: ds, h => by
    cases h with
    | cons r t => exact .cons r (of_dqa t)
theorem dqa_len {K : Frag} {F : Hp} {vs : List V} {ds : List PyData} (h : DqAll K F vs ds) : vs.length = ds.length := by
  have q := (of_dqa h).length
  rw [List.length_map] at q
  exact q
/-! ### the entry of a def, and the state -/
structure Gn where
  F0 : Hp
  H0 : Hp
  P0 : Hp
structure En extends Gn where
  K : Frag
/-- P: what is left alone; F: what is frozen (data rests on it); Ω: the cells, apart from both -/
structure Ok (E : En) (P F H : Hp) (Ω : Om) : Prop where
  p0 : Same E.P0 P
  pf : Same P H
  pd : ∀ p ∈ Ω, P p.1 = none
  pF : ∀ a, P a ≠ none → F a = none
  f0 : Same E.F0 F
  fn : ∀ a, F a ≠ none → E.F0 a = none → E.H0 a = none
  dm : ∀ a, H a = none → E.H0 a = none
  ex : Same F H
  own : ∀ p ∈ Ω, F p.1 = none ∧ ∃ o, H p.1 = some o ∧ RpO E.K F o p.2
  nd : (Ω.map (·.1)).Nodup
section
variable {E : En} {P F H : Hp} {Ω : Om}
theorem Ok.free (h : Ok E P F H Ω) {a : Addr} (e : H a = none) : F a = none := h.ex.free e
/-- a new object, frozen at once -/
theorem Ok.newF (h : Ok E P F H Ω) {p : Addr} {o : HO} (e : H p = none) : Ok E P (upd F p o) (upd H p o) Ω ∧ Same F (upd F p o) := by
  have sF : Same F (upd F p o) := fun b u q => by rw [upd_ne (ne_of_none q (h.free e))]; exact q
  refine ⟨⟨h.p0, fun b u q => by rw [upd_ne (ne_of_none (h.pf b u q) e)]; exact h.pf b u q, h.pd, fun a q => by rw [upd_ne (fun z => q (by rw [z]; exact h.pf.free e))]; exact h.pF a q, h.f0.trans sF, fun a q z => ?_, fun a q => ?_, fun b u q => ?_, fun x hx => ?_, h.nd⟩, sF⟩
  · by_cases ha : a = p
    · rw [ha]; exact h.dm p e
    · rw [upd_ne ha] at q; exact h.fn a q z
  · by_cases ha : a = p
    · rw [ha]; exact h.dm p e
    · rw [upd_ne ha] at q; exact h.dm a q
  · by_cases hb : b = p
    · rw [hb] at q ⊢; rw [upd_same] at q ⊢; exact q
    · rw [upd_ne hb] at q ⊢; exact h.ex b u q
  · obtain ⟨h1, u, h2, h3⟩ := h.own x hx
    have ne : x.1 ≠ p := ne_of_none h2 e
    exact ⟨by rw [upd_ne ne]; exact h1, u, by rw [upd_ne ne]; exact h2, h3.same sF⟩
/-- a new object, a cell -/
theorem Ok.newO (h : Ok E P F H Ω) {p : Addr} {o : HO} {c : OC} (e : H p = none) (r : RpO E.K F o c) : Ok E P F (upd H p o) ((p, c) :: Ω) := by
  have nF := h.free e
  refine ⟨h.p0, fun b u q => by rw [upd_ne (ne_of_none (h.pf b u q) e)]; exact h.pf b u q, fun x hx => ?_, h.pF, h.f0, h.fn, fun a q => ?_, fun b u q => ?_, fun x hx => ?_, ?_⟩
  · rcases List.mem_cons.mp hx with rfl | hx
    · exact h.pf.free e
    · exact h.pd x hx
  · by_cases ha : a = p
    · rw [ha]; exact h.dm p e
    · rw [upd_ne ha] at q; exact h.dm a q
  · rw [upd_ne (ne_of_none q nF)]; exact h.ex b u q
  · rcases List.mem_cons.mp hx with rfl | hx
    · exact ⟨nF, o, upd_same, r⟩
    · obtain ⟨h1, u, h2, h3⟩ := h.own x hx
      exact ⟨h1, u, by rw [upd_ne (ne_of_none h2 e)]; exact h2, h3⟩
  · rw [List.map_cons]
    refine List.nodup_cons.mpr ⟨fun hm => ?_, h.nd⟩
    obtain ⟨x, hx, hp⟩ := List.mem_map.mp hm
    obtain ⟨_, u, h2, _⟩ := h.own x hx
    rw [hp, e] at h2
    cases h2
/-- a new object that nothing is to know -/
theorem Ok.newX (h : Ok E P F H Ω) {p : Addr} {o : HO} (e : H p = none) : Ok E P F (upd H p o) Ω := by
  have k := h.newO (c := .raw o) e (show RpO E.K F o (.raw o) by cases o <;> rfl)
  exact ⟨k.p0, k.pf, fun x hx => k.pd x (List.mem_cons_of_mem _ hx), k.pF, k.f0, k.fn, k.dm, k.ex, fun x hx => k.own x (List.mem_cons_of_mem _ hx), (List.nodup_cons.mp k.nd).2⟩
end
/-- the cell at a, and what the cells are with another thing there -/
inductive At : Om → Addr → OC → (OC → Om) → Prop where
  | here {a : Addr} {c : OC} {Ω : Om} : At ((a, c) :: Ω) a c (fun z => (a, z) :: Ω)
  | there {a : Addr} {c : OC} {Ω : Om} {p : Addr × OC} {f : OC → Om} : At Ω a c f → At (p :: Ω) a c (fun z => p :: f z)
theorem At.mem : ∀ {Ω : Om} {a : Addr} {c : OC} {f : OC → Om}, At Ω a c f → (a, c) ∈ Ω
  | _, _, _, _, .here => List.mem_cons_self
  | _, _, _, _, .there h => List.mem_cons_of_mem _ h.mem
theorem At.addrs : ∀ {Ω : Om} {a : Addr} {c : OC} {f : OC → Om}, At Ω a c f → ∀ z, (f z).map (·.1) = Ω.map (·.1)
  | _, _, _, _, .here, _ => rfl
  | _, _, _, _, .there h, z => by rw [List.map_cons, List.map_cons, h.addrs z]
theorem At.mems : ∀ {Ω : Om} {a : Addr} {c : OC} {f : OC → Om}, At Ω a c f → ∀ z x, x ∈ f z → x = (a, z) ∨ x ∈ Ω
  | _, _, _, _, .here, z, x, h => by
    rcases List.mem_cons.mp h with h | h
    · exact Or.inl h
    · exact Or.inr (List.mem_cons_of_mem _ h)
  | _, _, _, _, .there t, z, x, h => by
    rcases List.mem_cons.mp h with h | h
    · exact Or.inr (h ▸ List.mem_cons_self)
    · rcases t.mems z x h with q | q
      · exact Or.inl q
      · exact Or.inr (List.mem_cons_of_mem _ q)
theorem At.after : ∀ {Ω : Om} {a : Addr} {c : OC} {f : OC → Om}, At Ω a c f → ∀ z, At (f z) a z f
  | _, _, _, _, .here, z => .here
  | _, _, _, _, .there h, z => .there (h.after z)
section
variable {E : En} {P F H : Hp} {Ω : Om}
theorem nd_inj {α β : Type} {f : α → β} : ∀ {l : List α} {x y : α}, (l.map f).Nodup → x ∈ l → y ∈ l → f x = f y → x = y
  | [], _, _, _, h, _, _ => by cases h
  | z :: l, x, y, nd, hx, hy, e => by
    rw [List.map_cons] at nd
    obtain ⟨n1, n2⟩ := List.nodup_cons.mp nd
    rcases List.mem_cons.mp hx with h1 | h1
    · rcases List.mem_cons.mp hy with h2 | h2
      · rw [h1, h2]
      · rw [h1] at e
        exact absurd (by rw [e]; exact List.mem_map_of_mem h2) n1
    · rcases List.mem_cons.mp hy with h2 | h2
      · rw [h2] at e
        exact absurd (by rw [← e]; exact List.mem_map_of_mem h1) n1
      · exact nd_inj n2 h1 h2 e
theorem Ok.at_ (h : Ok E P F H Ω) {a : Addr} {c : OC} {f : OC → Om} (t : At Ω a c f) : F a = none ∧ ∃ o, H a = some o ∧ RpO E.K F o c := h.own _ t.mem
theorem Ok.lst (h : Ok E P F H Ω) {a : Addr} {xs : List PyData} {f : OC → Om} (t : At Ω a (.lst xs) f) : ∃ vs, H a = some (.lst vs) ∧ DqAll E.K F vs xs := by
  obtain ⟨_, o, h1, h2⟩ := h.at_ t
  cases o <;> first | exact ⟨_, h1, h2⟩ | exact (show False from h2).elim
theorem Ok.lx (h : Ok E P F H Ω) {a : Addr} {xs : List SV} {f : OC → Om} (t : At Ω a (.lx xs) f) : ∃ vs, H a = some (.lst vs) ∧ Paired (Rp E.K F) vs xs := by
  obtain ⟨_, o, h1, h2⟩ := h.at_ t
  cases o <;> first | exact ⟨_, h1, h2⟩ | exact (show False from h2).elim
theorem Ok.dk (h : Ok E P F H Ω) {a : Addr} {xs : List (Key × SV)} {f : OC → Om} (t : At Ω a (.dk xs) f) : ∃ vs, H a = some (.dK vs) ∧ Paired (fun p q => p.1 = q.1 ∧ Rp E.K F p.2 q.2) vs xs := by
  obtain ⟨_, o, h1, h2⟩ := h.at_ t
  cases o <;> first | exact ⟨_, h1, h2⟩ | exact (show False from h2).elim
/-- the cell at a is changed -/
theorem Ok.put (h : Ok E P F H Ω) {a : Addr} {c z : OC} {f : OC → Om} {o : HO} (t : At Ω a c f) (r : RpO E.K F o z) : Ok E P F (upd H a o) (f z) := by
  obtain ⟨nF, o0, h0, _⟩ := h.at_ t
  have nP : P a = none := h.pd _ t.mem
  refine ⟨h.p0, fun b u q => by rw [upd_ne (ne_of_none q nP)]; exact h.pf b u q, fun x hx => ?_, h.pF, h.f0, h.fn, fun b q => ?_, fun b u q => ?_, fun x hx => ?_, by rw [t.addrs z]; exact h.nd⟩
  · rcases t.mems z x hx with q | q
    · rw [q]; exact nP
    · exact h.pd x q
  · by_cases hb : b = a
    · rw [hb, upd_same] at q; cases q
    · rw [upd_ne hb] at q; exact h.dm b q
  · rw [upd_ne (ne_of_none q nF)]; exact h.ex b u q
  · by_cases hb : x.1 = a
    · have e : x = (a, z) := nd_inj (f := (·.1)) (l := f z) (by rw [t.addrs z]; exact h.nd) hx (t.after z).mem hb
      rw [e]
      exact ⟨nF, o, upd_same, r⟩
    · rcases t.mems z x hx with q | q
      · rw [q] at hb; exact absurd rfl hb
      · obtain ⟨h1, u, h2, h3⟩ := h.own x q
        exact ⟨h1, u, by rw [upd_ne hb]; exact h2, h3⟩
/-- a cell is frozen -/
theorem Ok.frz (h : Ok E P F H Ω) {Ω' : Om} {a : Addr} {c : OC} {o : HO} (ha : H a = some o) (n0 : E.H0 a = none) (nF : F a = none) (nP : P a = none) (hm : ∀ x ∈ Ω', x ∈ Ω ∧ x.1 ≠ a) (nd : (Ω'.map (·.1)).Nodup) : Ok E P (upd F a o) H Ω' ∧ Same F (upd F a o) := by
  have sF : Same F (upd F a o) := fun b u q => by rw [upd_ne (ne_of_none q nF)]; exact q
  refine ⟨⟨h.p0, h.pf, fun x hx => h.pd x (hm x hx).1, fun b q => by rw [upd_ne (fun z => q (by rw [z]; exact nP))]; exact h.pF b q, h.f0.trans sF, fun b q z => ?_, h.dm, fun b u q => ?_, fun x hx => ?_, nd⟩, sF⟩
  · by_cases hb : b = a
    · rw [hb]; exact n0
    · rw [upd_ne hb] at q; exact h.fn b q z
  · by_cases hb : b = a
    · rw [hb] at q ⊢; rw [upd_same] at q; rw [ha]; exact q
    · rw [upd_ne hb] at q; exact h.ex b u q
  · obtain ⟨q, ne⟩ := hm x hx
    obtain ⟨h1, u, h2, h3⟩ := h.own x q
    exact ⟨by rw [upd_ne ne]; exact h1, u, h2, h3.same sF⟩
/-- a callee's state, and back -/
theorem Ok.enter (h : Ok E P F H Ω) : Ok ⟨⟨F, H, P⟩, E.K⟩ P F H Ω := ⟨Same.refl P, h.pf, h.pd, h.pF, Same.refl F, fun a q z => absurd z q, fun a q => q, h.ex, h.own, h.nd⟩
theorem Ok.leave {P' F' H' : Hp} {Ω' : Om} (h : Ok E P F H Ω) (k : Ok ⟨⟨F, H, P⟩, E.K⟩ P' F' H' Ω') : Ok E P F' H' Ω' := by
  refine ⟨h.p0, fun b u q => k.pf b u (k.p0 b u q), fun x hx => k.p0.free (k.pd x hx), fun a q => k.pF a (fun z => q (k.p0.free z)), h.f0.trans k.f0, fun a q z => ?_, fun a q => h.dm a (k.dm a q), k.ex, k.own, k.nd⟩
  by_cases e : F a = none
  · exact h.dm a (k.fn a q e)
  · exact h.fn a e z
/-- one more thing that is left alone -/
theorem Ok.guard (h : Ok E P F H Ω) {p : Addr} {o : HO} (e : H p = none) : Ok E (upd P p o) F (upd H p o) Ω := by
  have nP := h.pf.free e
  have k := h.newX (o := o) e
  refine ⟨h.p0.trans fun b u q => by rw [upd_ne (ne_of_none q nP)]; exact q, fun b u q => ?_, fun x hx => ?_, fun a q => ?_, k.f0, k.fn, k.dm, k.ex, k.own, k.nd⟩
  · by_cases hb : b = p
    · rw [hb] at q ⊢; rw [upd_same] at q ⊢; exact q
    · rw [upd_ne hb] at q ⊢; exact h.pf b u q
  · obtain ⟨_, u, h2, _⟩ := h.own x hx
    rw [upd_ne (ne_of_none h2 e)]
    exact h.pd x hx
  · by_cases ha : a = p
    · rw [ha]; exact h.free e
    · rw [upd_ne ha] at q; exact h.pF a q
/-- the guarded thing is changed by its owner -/
theorem Ok.poke {p : Addr} {o o' : HO} (h : Ok E (upd P p o) F H Ω) (n0 : E.P0 p = none) (nF : F p = none) (np : P p = none) : Ok E (upd P p o') F (upd H p o') Ω := by
  have hp : H p = some o := h.pf p o upd_same
  refine ⟨fun b u q => ?_, fun b u q => ?_, fun x hx => ?_, fun b q => ?_, h.f0, h.fn, fun b q => ?_, fun b u q => ?_, fun x hx => ?_, h.nd⟩
  · have ne : b ≠ p := ne_of_none q n0
    have := h.p0 b u q
    rw [upd_ne ne] at this ⊢
    exact this
  · by_cases hb : b = p
    · rw [hb] at q ⊢; rw [upd_same] at q ⊢; exact q
    · have := h.pf b u (by rw [upd_ne hb] at q ⊢; exact q)
      rw [upd_ne hb]; exact this
  · have := h.pd x hx
    have ne : x.1 ≠ p := fun z => by rw [z, upd_same] at this; cases this
    rw [upd_ne ne] at this ⊢
    exact this
  · by_cases hb : b = p
    · rw [hb]; exact nF
    · exact h.pF b (by rw [upd_ne hb] at q ⊢; exact q)
  · by_cases hb : b = p
    · rw [hb, upd_same] at q; cases q
    · rw [upd_ne hb] at q; exact h.dm b q
  · rw [upd_ne (ne_of_none q nF)]; exact h.ex b u q
  · obtain ⟨h1, u, h2, h3⟩ := h.own x hx
    have := h.pd x hx
    have ne : x.1 ≠ p := fun z => by rw [z, upd_same] at this; cases this
    exact ⟨h1, u, by rw [upd_ne ne]; exact h2, h3⟩
/-- no longer guarded: frozen, a cell, or let go -/
theorem Ok.letP {P' : Hp} (h : Ok E P' F H Ω) (s0 : Same E.P0 P) (s : Same P P') : Ok E P F H Ω := ⟨s0, fun b u q => h.pf b u (s b u q), fun x hx => s.free (h.pd x hx), fun a q => h.pF a (fun z => q (s.free z)), h.f0, h.fn, h.dm, h.ex, h.own, h.nd⟩
/-- what was guarded becomes a cell -/
theorem Ok.adopt {p : Addr} {o : HO} {c : OC} (h : Ok E (upd P p o) F H Ω) (s0 : Same E.P0 P) (np : P p = none) (r : RpO E.K F o c) : Ok E P F H ((p, c) :: Ω) := by
  have sP : Same P (upd P p o) := fun b u q => by rw [upd_ne (ne_of_none q np)]; exact q
  have k := h.letP s0 sP
  have hp : H p = some o := h.pf p o upd_same
  have nF : F p = none := h.pF p (by rw [upd_same]; exact fun z => nomatch z)
  have ne : ∀ x ∈ Ω, x.1 ≠ p := fun x hx z => by
    have := h.pd x hx
    rw [z, upd_same] at this
    cases this
  refine ⟨k.p0, k.pf, fun x hx => ?_, k.pF, k.f0, k.fn, k.dm, k.ex, fun x hx => ?_, ?_⟩
  · rcases List.mem_cons.mp hx with q | q
    · rw [q]; exact np
    · exact k.pd x q
  · rcases List.mem_cons.mp hx with q | q
    · rw [q]; exact ⟨nF, o, hp, r⟩
    · exact k.own x q
  · rw [List.map_cons]
    refine List.nodup_cons.mpr ⟨fun z => ?_, k.nd⟩
    obtain ⟨x, hx, e⟩ := List.mem_map.mp z
    exact ne x hx e
/-- what was guarded becomes data -/
theorem Ok.adoptF {p : Addr} {o : HO} (h : Ok E (upd P p o) F H Ω) (s0 : Same E.P0 P) (np : P p = none) (n0 : E.H0 p = none) : Ok E P (upd F p o) H Ω ∧ Same F (upd F p o) := by
  have sP : Same P (upd P p o) := fun b u q => by rw [upd_ne (ne_of_none q np)]; exact q
  have k := h.letP s0 sP
  have nF : F p = none := h.pF p (by rw [upd_same]; exact fun z => nomatch z)
  refine k.frz (c := .raw o) (h.pf p o upd_same) n0 nF np (fun x hx => ⟨hx, fun z => ?_⟩) k.nd
  have := h.pd x hx
  rw [z, upd_same] at this
  cases this
end
end Z
/-! Z2: calls of defs where no repr is under way (A.guards = some []). -/
namespace Z
open PySem PySem.Spec PyProof.Rows L2
structure FnG (P : Program) (w : World) (K : Frag) (mg : Str → Option Value) (base : Heap) (CX : CXT) (k : Nat) (f : Addr) (fd : FuncData) (ps : List Str) (sp : Sp) : Prop where
  len : ∀ vs H Q E, sp vs H Q E → vs.length = ps.length
  go : ∀ (A : Around) (outer : List Env) (s : Shared) (H : Hp) (args : Args) (us : List Value) (vs : List V) (Q : VK) (E : XK),
    Room k A → A.guards = some [] → Env0 P w K mg base A outer s H → BindsTo s fd args (ps.zip us) → Vals vs us → sp vs H Q E →
    codeAny (model P w) A (.call (.ref f) args) (CR CX outer P w H s Q E) s
section
variable {P : Program} {w : World} {K : Frag} {mg : Str → Option Value} {base : Heap} {CX : CXT} {k : Nat} {f : Addr} {fd : FuncData} {ps : List Str} {sp : Sp}
theorem FnG.up {j : Nat} (F : FnG P w K mg base CX j f fd ps sp) (h : j ≤ k) : FnG P w K mg base CX k f fd ps sp :=
  ⟨F.len, fun A outer s H args us vs Q E hr => F.go A outer s H args us vs Q E (hr.mono h)⟩
/-- a def by its body -/
theorem fnG_of {name qual : Str} {params : Arguments} {body : List Stmt} {scope : Scope} {dV kV doc pm cdv ct oc : Value} {an od : Option Addr} {osl : Array (Option Value)} {N : List Str}
    (lk : K.lookup f = some ⟨oc, od, .func (PySem.W.fnOf name qual params body scope dV kV doc pm an cdv ct), osl⟩) (hcd : PySem.W.codeIn K cdv qual = true) (S : FnScope N ps scope)
    (len : ∀ vs H Q E, sp vs H Q E → vs.length = ps.length)
    (hbody : ∀ (A : Around) (outer : List Env) (s : Shared) (H : Hp) (vs : List V) (Q : VK) (E : XK), A.guards = some [] → Room k (A.deeper (envOfC qual scope s.heap.objs.size f cdv)) → sp vs H Q E →
      ∃ t, PSs (cxOf CX P w K mg base N qual scope f cdv A outer s H E) body t ∧ t { nx := fun _ H' => Q .non H', rt := Q } (start N vs) H) :
    FnG P w K mg base CX (k + 1) f (PySem.W.fnOf name qual params body scope dV kV doc pm an cdv ct) ps sp := by
  refine ⟨len, fun A outer s H args us vs Q E hr hgd e0 hb rv hsp => ?_⟩
  have old := fun b o e => (e0.bs b o e).1
  have KX : K.In s.heap := e0.mod.kin.keeps old
  have lim : s.heap.NoLimit := e0.mod.nolimit.keeps old
  have hkind : ∀ y ∈ ps.zip us, scope.names.lookup y.1 = some .local ∨ (scope.names.lookup y.1 = some .cell ∧ ((cellsFrom (s.heap.objs.size + 1) scope.names []).lookup y.1).isSome = true) := by
    rintro ⟨n, v⟩ hy
    exact (S.par n (List.of_mem_zip hy).1).elim .inl fun q => .inr ⟨q, PySem.W.cellsFrom_some _ _ _ (.inl q)⟩
  refine codeAny_call_function hr.depth (KX _ _ lk) rfl S.co S.gen rfl (PySem.W.codeRec_of KX hcd) (hb _ _ _ _ (wpAny_newFunctionEnv_cells S.kind hkind fun env he s1 x => ?_))
  cases he
  refine ⟨lim.keeps x.toInCall.keep, codeAny_func ?_⟩
  obtain ⟨t, ht, hq⟩ := hbody A outer s H vs Q E hgd (hr.deeper _) hsp
  have I0 := inv_start (CX := CX) (P := P) (w := w) (mg := mg) (E := E) S hr.hd e0 (len _ _ _ _ hsp) rv x
  refine wpAny_mono (ht.run [] s1 (start N vs) H _ I0 hq) (fun fl s' hs => ?_) fun _ _ z => z
  cases fl with
  | ret u => obtain ⟨v, σ', H', J, rv, q⟩ := hs; exact ⟨v, H', J.os, J.bare, J.base, J.hok, rv, q⟩
  | next => obtain ⟨σ', H', J, q⟩ := hs; exact ⟨.non, H', J.os, J.bare, J.base, J.hok, rfl, q⟩
  | brk => obtain ⟨_, _, _, q⟩ := hs; exact q.elim
  | cont => obtain ⟨_, _, _, q⟩ := hs; exact q.elim
end
section
variable {X : Cx} {CX : CXT} {k : Nat} {f : Addr} {fd : FuncData} {ps ks : List Str} {sp : Sp} {E : L2.St → XK} {x : Str} {p pos : Pos} {e : Expr} {es : List Expr} {kws : List Keyword} {t tk : TA}
/-- what a callee raises, at the caller's slots, reaches what this body wants -/
def PassAt (CX : CXT) (X : Cx) (σ : L2.St) (E : XK) : Prop := ∀ (pins : List (Addr × Obj)) (H : Hp) (s : Shared) (e : Value) (s' : Shared), Inv X pins σ H s → CX X.stack H s E e s' → X.xe e s'
theorem passAt0 {σ : L2.St} : PassAt CX0 X σ E0 := fun _ _ _ _ _ _ h => h.elim
theorem runG {pins : List (Addr × Obj)} {σ : L2.St} {H : Hp} {s : Shared} {Q : VK} {args : Args} {us : List Value} {vs : List V} (F : FnG X.prog X.w X.K X.mg X.base CX k f fd ps sp) (hr : Room k X.A) (hgd : X.A.guards = some []) (hx : PassAt CX X σ (E σ))
    (I : Inv X pins σ H s) (hb : us.length = ps.length → BindsTo s fd args (ps.zip us)) (r : Vals vs us) (h : sp vs H Q (E σ)) :
    codeAny (model X.prog X.w) X.A (.call (.ref f) args) (fun r s' => match r with | .ok (.ret u) => EP X pins σ Q u s' | .ok _ => False | .error e => X.xe e s') s := by
  have hl : us.length = ps.length := by rw [← r.length]; exact F.len _ _ _ _ h
  refine codeAny_mono (F.go X.A X.stack s H args us vs Q (E σ) hr hgd I.env0 (hb hl) r h) fun r s' hq => ?_
  match r, hq with
  | .error e, hq => exact hx pins H s e s' I hq
  | .ok (.ret u), hq => exact I.after hq
  | .ok .next, hq => exact hq
  | .ok .brk, hq => exact hq
  | .ok .cont, hq => exact hq
theorem wp_of_code {A : Around} {u : Value} {us : List Value} {kw : List (Str × Value)} {s : Shared} {Q : Value → Shared → Prop} {M : Model} {E' : Value → Shared → Prop}
    (h : codeAny M A (.call u ⟨us, kw⟩) (fun r s' => match r with | .ok (.ret u) => Q u s' | .ok _ => False | .error e => E' e s') s) : wpAny M A (call u us kw) Q E' s := by
  refine wpAny_call (codeAny_mono h fun r s' hq => ?_)
  match r, hq with
  | .error e, hq => exact hq
  | .ok (.ret u), hq => exact hq
  | .ok .next, hq => exact hq.elim
  | .ok .brk, hq => exact hq.elim
  | .ok .cont, hq => exact hq.elim
def tCallG (sp : Sp) (E : L2.St → XK) (t : TA) : TE := fun σ H Q => t σ H fun vs H1 => sp vs H1 Q (E σ)
def tCallGK (sp : Sp) (gV : List V → List V → List V) (E : L2.St → XK) (t tk : TA) : TE := fun σ H Q => t σ H fun vs H1 => tk σ H1 fun zs H2 => sp (gV vs zs) H2 Q (E σ)
/-- f(e, ..) -/
theorem pg_call (F : FnG X.prog X.w X.K X.mg X.base CX k f fd ps sp) (hr : Room k X.A) (hgd : X.A.guards = some []) (hg : Gl X x) (hm : X.mg x = some (.ref f)) (hk : PySem.W.keepIn X.K (.ref f) = true)
    (hb : Binds X.K fd ps []) (hx : ∀ σ, PassAt CX X σ (E σ)) (ha : PA X (e :: es) t) (hdb : (x == ("__debug__" : Str)) = false := by decide)
    (he : starEach (e :: es) X.env = (false, eval e X.env) :: starEach es X.env := by rfl) (hpl : (backTo pos (starEach es X.env)).any (·.1) = false := by rfl) :
    PE X (.Call (.Name x p) (e :: es) [] pos) (tCallG sp E t) := by
  refine ⟨fun pins s σ H Q I h => wpAny_Call_Name_kw (ld_glob I hg hm (PySem.W.callWith_K (h₀ := X.base) I.ok.mod.kin hk
    (thn (ha.run pos pins s σ H _ I h) fun us s1 ⟨vs, H1, I1, r, q⟩ => ⟨I1.kIn, ?_⟩) he hpl) hdb)⟩
  refine wp_of_code (runG F hr hgd (hx σ) I1 (fun hl => ?_) r q)
  have b := hb s1 us I1.kIn (by rw [List.append_nil]; exact hl)
  rw [List.append_nil] at b
  exact b
/-- f() -/
theorem pg_call0 (F : FnG X.prog X.w X.K X.mg X.base CX k f fd ps sp) (hr : Room k X.A) (hgd : X.A.guards = some []) (hg : Gl X x) (hm : X.mg x = some (.ref f)) (hk : PySem.W.keepIn X.K (.ref f) = true)
    (hb : Binds X.K fd ps []) (hx : ∀ σ, PassAt CX X σ (E σ)) (hdb : (x == ("__debug__" : Str)) = false := by decide) : PE X (.Call (.Name x p) [] [] pos) (tCallG sp E tNil) := by
  refine ⟨fun pins s σ H Q I h => wpAny_Call_Name_kw (ld_glob I hg hm (PySem.W.callWith_K0 I.kIn hk ?_) hdb)⟩
  exact wp_of_code (runG (us := []) F hr hgd (hx σ) I (fun hl => hb s [] I.kIn hl) .nil h)
end
end Z
/-! Z3: expressions over data: what is to hold (AE, AT, AA), and that it is enough (JE, JT, JA). -/
namespace Z
open PySem PySem.Spec PyProof.Rows L2
abbrev PhiE := SV → Om → Prop
abbrev AE := Rho → Om → PhiE → Prop
abbrev AT := Rho → Om → (Bool → Om → Prop) → Prop
abbrev AA := Rho → Om → (List SV → Om → Prop) → Prop
abbrev AR := SV → SV → Om → PhiE → Prop
abbrev AC := List SV → Om → PhiE → Prop
abbrev AM := SV → List SV → Om → PhiE → Prop
/-- what is known behind a step -/
abbrev Aft (E : En) (P F : Hp) (Φ : PhiE) (Q : VK) : Prop := ∀ {v : V} {sv : SV} {Ω' : Om} {F' H' : Hp}, Φ sv Ω' → Ok E P F' H' Ω' → Same F F' → Rp E.K F' v sv → Q v H'
structure SnE (E : En) (te : TE) (a : AE) : Prop where
  go : ∀ {ρ : Rho} {Ω : Om} {Φ : PhiE}, a ρ Ω Φ → ∀ {P F H : Hp} {σ : L2.St} {Q : VK}, Ok E P F H Ω → RpE E.K F σ ρ → Aft E P F Φ Q → te σ H Q
structure SnT (E : En) (te : TT) (a : AT) : Prop where
  go : ∀ {ρ : Rho} {Ω : Om} {Φ : Bool → Om → Prop}, a ρ Ω Φ → ∀ {P F H : Hp} {σ : L2.St} {Q : Bool → Hp → Prop}, Ok E P F H Ω → RpE E.K F σ ρ →
  (∀ {b : Bool} {Ω' : Om} {F' H' : Hp}, Φ b Ω' → Ok E P F' H' Ω' → Same F F' → Q b H') → te σ H Q
structure SnA (E : En) (te : TA) (a : AA) : Prop where
  go : ∀ {ρ : Rho} {Ω : Om} {Φ : List SV → Om → Prop}, a ρ Ω Φ → ∀ {P F H : Hp} {σ : L2.St} {Q : List V → Hp → Prop}, Ok E P F H Ω → RpE E.K F σ ρ →
  (∀ {vs : List V} {svs : List SV} {Ω' : Om} {F' H' : Hp}, Φ svs Ω' → Ok E P F' H' Ω' → Same F F' → Paired (Rp E.K F') vs svs → Q vs H') → te σ H Q
structure SnR (E : En) (r : R2) (ar : AR) : Prop where
  go : ∀ {x y : SV} {Ω : Om} {Φ : PhiE}, ar x y Ω Φ → ∀ {P F H : Hp} {vx vy : V} {Q : VK}, Ok E P F H Ω → Rp E.K F vx x → Rp E.K F vy y → Aft E P F Φ Q → r vx vy H Q
structure SnU (E : En) (r : V → Hp → VK → Prop) (ar : SV → Om → PhiE → Prop) : Prop where
  go : ∀ {x : SV} {Ω : Om} {Φ : PhiE}, ar x Ω Φ → ∀ {P F H : Hp} {vx : V} {Q : VK}, Ok E P F H Ω → Rp E.K F vx x → Aft E P F Φ Q → r vx H Q
structure SnC (E : En) (r : List V → Hp → VK → Prop) (ac : AC) : Prop where
  go : ∀ {xs : List SV} {Ω : Om} {Φ : PhiE}, ac xs Ω Φ → ∀ {P F H : Hp} {vs : List V} {Q : VK}, Ok E P F H Ω → Paired (Rp E.K F) vs xs → Aft E P F Φ Q → r vs H Q
structure SnM (E : En) (r : V → List V → Hp → VK → Prop) (am : AM) : Prop where
  go : ∀ {x : SV} {xs : List SV} {Ω : Om} {Φ : PhiE}, am x xs Ω Φ → ∀ {P F H : Hp} {v : V} {vs : List V} {Q : VK}, Ok E P F H Ω → Rp E.K F v x → Paired (Rp E.K F) vs xs → Aft E P F Φ Q → r v vs H Q
abbrev enX (X : Cx) (G : Gn) : En := ⟨G, X.K⟩
def JE (X : Cx) (G : Gn) (e : Expr) (a : AE) : Prop := ∃ te, PE X e te ∧ SnE (enX X G) te a
def JT (X : Cx) (G : Gn) (e : Expr) (a : AT) : Prop := ∃ te, PT X e te ∧ SnT (enX X G) te a
def JW (X : Cx) (G : Gn) (e : Expr) (a : AT) : Prop := ∃ te, PW X e te ∧ SnT (enX X G) te a
def JA (X : Cx) (G : Gn) (es : List Expr) (a : AA) : Prop := ∃ te, PA X es te ∧ SnA (enX X G) te a
def JK (X : Cx) (G : Gn) (es : List Keyword) (a : AA) : Prop := ∃ te, PK X es te ∧ SnA (enX X G) te a
def JOp (X : Cx) (G : Gn) (f : Value → Value → Sem Value) (ar : AR) : Prop := ∃ r, OpR X f r ∧ SnR (enX X G) r ar
def JUn (X : Cx) (G : Gn) (f : Value → Sem Value) (ar : SV → Om → PhiE → Prop) : Prop := ∃ r, UnR X f r ∧ SnU (enX X G) r ar
def JIx (X : Cx) (G : Gn) (ar : AR) : Prop := ∃ r, IxR X r ∧ SnR (enX X G) r ar
def JC (X : Cx) (G : Gn) (f : Value) (ac : AC) : Prop := ∃ r, CallR X f r ∧ SnC (enX X G) r ac
def JM (X : Cx) (G : Gn) (id : String) (am : AM) : Prop := ∃ r, MtR X id r ∧ SnM (enX X G) r am
/-! ### modes of new lists: data at once, or a cell of the def's own -/
abbrev Mode := Option (Addr → Prop)
def dataOf : List SV → Option (List PyData)
  | [] => some []
  | .d x :: r => match dataOf r with | some ds => some (x :: ds) | none => none
  | _ :: _ => none
def mkL (xs : List SV) : OC := match dataOf xs with | some ds => .lst ds | none => .lx xs
def newL (m : Mode) (ds : List PyData) (Ω : Om) (Φ : PhiE) : Prop := match m with
  | none => Φ (.d (.list ds)) Ω
  | some Fr => ∀ a, Fr a → Φ (.r (.ref a)) ((a, .lst ds) :: Ω)
def newX (m : Mode) (xs : List SV) (Ω : Om) (Φ : PhiE) : Prop := match m with
  | none => match dataOf xs with | some ds => Φ (.d (.list ds)) Ω | none => False
  | some Fr => ∀ a, Fr a → Φ (.r (.ref a)) ((a, mkL xs) :: Ω)
theorem dataOf_ok {K : Frag} {F : Hp} : ∀ {xs : List SV} {ds : List PyData} {vs : List V}, dataOf xs = some ds → Paired (Rp K F) vs xs → DqAll K F vs ds
  | [], ds, vs, h, r => by
    cases h
    cases r
    exact .nil
  | .d x :: xs, ds, vs, h, r => by
    cases r with
    | cons r1 r2 =>
      unfold dataOf at h
      cases e : dataOf xs with
      | none => rw [e] at h; cases h
      | some ds' =>
        rw [e] at h
        cases h
        exact .cons r1 (dataOf_ok e r2)
  | .l x :: xs, ds, vs, h, r => by cases h
  | .r x :: xs, ds, vs, h, r => by cases h
theorem mkL_ok {K : Frag} {F : Hp} {xs : List SV} {vs : List V} (r : Paired (Rp K F) vs xs) : RpO K F (.lst vs) (mkL xs) := by
  unfold mkL
  split
  · rename_i ds e; exact dataOf_ok e r
  · exact r
/-- the mode fits the entry -/
def MOk (E : En) (m : Mode) : Prop := ∀ Fr, m = some Fr → ∀ a, E.H0 a = none → Fr a
theorem mok0 {E : En} : MOk E none := fun _ h => by cases h
theorem mok1 {E : En} : MOk E (some fun a => E.H0 a = none) := fun _ h a e => by cases h; exact e
section
variable {E : En} {P F H : Hp} {Ω : Om} {Φ : PhiE} {Q : VK} {m : Mode}
theorem newL_ok (hm : MOk E m) (o : Ok E P F H Ω) {ds : List PyData} {vs : List V} (r : DqAll E.K F vs ds) (h : newL m ds Ω Φ) (k : Aft E P F Φ Q) {p : Addr} (hp : H p = none) : Q (.ref p) (upd H p (.lst vs)) := by
  cases m with
  | none =>
    obtain ⟨o1, s1⟩ := o.newF (o := .lst vs) hp
    exact k h o1 s1 (Dq.lst upd_same (dqa_same s1 _ _ r))
  | some Fr => exact k (h p (hm _ rfl p (o.dm p hp))) (o.newO hp (c := .lst ds) r) (Same.refl F) rfl
theorem newX_ok (hm : MOk E m) (o : Ok E P F H Ω) {xs : List SV} {vs : List V} (r : Paired (Rp E.K F) vs xs) (h : newX m xs Ω Φ) (k : Aft E P F Φ Q) {p : Addr} (hp : H p = none) : Q (.ref p) (upd H p (.lst vs)) := by
  cases m with
  | none =>
    have h' : (match dataOf xs with | some ds => Φ (.d (.list ds)) Ω | none => False) := h
    split at h'
    · rename_i ds e
      obtain ⟨o1, s1⟩ := o.newF (o := .lst vs) hp
      exact k h' o1 s1 (Dq.lst upd_same (dqa_same s1 _ _ (dataOf_ok e r)))
    · exact h'.elim
  | some Fr => exact k (h p (hm _ rfl p (o.dm p hp))) (o.newO hp (mkL_ok r)) (Same.refl F) rfl
end
/-! ### what is read as a list of data -/
def rdL (x : SV) (Ω : Om) (k : List PyData → Prop) : Prop := match x with
  | .d (.list ds) => k ds
  | .r (.ref a) => ∃ ds f, At Ω a (.lst ds) f ∧ k ds
  | _ => False
def rdS (x : SV) (Ω : Om) (k : List PyData → Prop) : Prop := match x with
  | .d (.list ds) => k ds
  | .d (.tuple ds) => k ds
  | .l ds => k ds
  | .r (.ref a) => ∃ ds f, At Ω a (.lst ds) f ∧ k ds
  | _ => False
def rdD (x : SV) (Ω : Om) (k : PyData → Prop) : Prop := match x with
  | .d d => k d
  | .l ds => k (.list ds)
  | .r (.ref a) => ∃ ds f, At Ω a (.lst ds) f ∧ k (.list ds)
  | _ => False
section
variable {E : En} {P F H : Hp} {Ω : Om} {x : SV} {v : V}
theorem rdL_ok {k : List PyData → Prop} (h : rdL x Ω k) (o : Ok E P F H Ω) (r : Rp E.K F v x) : ∃ a vs ds, v = .ref a ∧ H a = some (.lst vs) ∧ DqAll E.K F vs ds ∧ k ds := by
  unfold rdL at h
  split at h
  · obtain ⟨a, xs, e, hF, ha⟩ := dql r
    exact ⟨a, xs, _, e, o.ex _ _ hF, ha, h⟩
  · obtain ⟨ds, f, t, hk⟩ := h
    obtain ⟨vs, h1, h2⟩ := o.lst t
    exact ⟨_, vs, ds, r, h1, h2, hk⟩
  · exact h.elim
theorem rdS_ok {k : List PyData → Prop} (h : rdS x Ω k) (o : Ok E P F H Ω) (r : Rp E.K F v x) : ∃ a vs ds, v = .ref a ∧ (SqL E.K H a vs ∨ SqT E.K H a vs) ∧ DqAll E.K F vs ds ∧ k ds := by
  unfold rdS at h
  split at h
  · obtain ⟨a, xs, e, hF, ha⟩ := dql r
    exact ⟨a, xs, _, e, Or.inl (SqL.of (o.ex _ _ hF)), ha, h⟩
  · obtain ⟨a, xs, e, hF, ha⟩ := dqt r
    exact ⟨a, xs, _, e, Or.inr (sqt_same o.ex hF), ha, h⟩
  · obtain ⟨a, xs, e, hF, ha⟩ := r
    exact ⟨a, xs, _, e, Or.inl (o.ex.seq hF), ha, h⟩
  · obtain ⟨ds, f, t, hk⟩ := h
    obtain ⟨vs, h1, h2⟩ := o.lst t
    exact ⟨_, vs, ds, r, Or.inl (SqL.of h1), h2, hk⟩
  · exact h.elim
theorem rdD_ok {k : PyData → Prop} (h : rdD x Ω k) (o : Ok E P F H Ω) (r : Rp E.K F v x) : ∃ d, Dp E.K H v d ∧ k d := by
  unfold rdD at h
  split at h
  · exact ⟨_, Dq.dp _ _ (dq_same o.ex _ _ r), h⟩
  · obtain ⟨a, xs, rfl, hF, ha⟩ := r
    exact ⟨_, Dp.lst (o.ex.seq hF) (DqAll.dp _ _ (dqa_same o.ex _ _ ha)), h⟩
  · obtain ⟨ds, f, t, hk⟩ := h
    obtain ⟨vs, h1, h2⟩ := o.lst t
    cases r
    exact ⟨_, Dp.lst (SqL.of h1) (DqAll.dp _ _ (dqa_same o.ex _ _ h2)), hk⟩
  · exact h.elim
end
/-! ### names, constants -/
section
variable {X : Cx} {G : Gn} {e a b : Expr} {aa ab : AE} {at_ bt : AT} {ta : AA} {pos : Pos} {m : Mode}
def aVar (i : Nat) : AE := fun ρ Ω Φ => match ρ[i]? with
  | some (some x) => Φ x Ω
  | _ => False
theorem je_var {i : Nat} (h : PE X e (tVar i)) : JE X G e (aVar i) := by
  refine ⟨_, h, ⟨fun {ρ Ω Φ} h {P F H σ Q} o r k => ?_⟩⟩
  unfold aVar at h
  split at h
  · rename_i x ex
    obtain ⟨v, h1, h2⟩ := rpe_get r ex
    exact ⟨v, h1, k h o (Same.refl F) h2⟩
  · exact h.elim
def aC (x : SV) : AE := fun _ Ω Φ => Φ x Ω
theorem je_c {v : V} {x : SV} (h : PE X e (tC v)) (hx : ∀ F, Rp X.K F v x) : JE X G e (aC x) := ⟨_, h, ⟨fun {ρ Ω Φ} h {P F H σ Q} o r k => k h o (Same.refl F) (hx F)⟩⟩
theorem je_int {i : Int} {j pos} : JE X G (.Constant (.int i) j pos) (aC (.d (.int i))) := je_c pe_int fun _ => .int i
theorem je_bl {c : Bool} {j pos} : JE X G (.Constant (.bool c) j pos) (aC (.d (.bool c))) := je_c pe_bl fun _ => .bl c
theorem je_non {j pos} : JE X G (.Constant .none j pos) (aC (.d .none)) := je_c pe_non fun _ => .non
theorem je_str {x j pos} : JE X G (.Constant (.str x) j pos) (aC (.d (.str x))) := je_c pe_str fun _ => .str x
/-- a built-in's name, a def, a class: as it is -/
theorem je_raw {v : V} (h : PE X e (tC v)) : JE X G e (aC (.r v)) := je_c h fun _ => rfl
/-! ### operators -/
def aBin (ar : AR) (a b : AE) : AE := fun ρ Ω Φ => a ρ Ω fun x Ω1 => b ρ Ω1 fun y Ω2 => ar x y Ω2 Φ
theorem bin_ok {E : En} {ta tb : TE} {r : R2} {ar : AR} (h1 : SnE E ta aa) (h2 : SnE E tb ab) (h3 : SnR E r ar) : SnE E (tOp r ta tb) (aBin ar aa ab) := ⟨fun {ρ Ω Φ} h {P F H σ Q} o rp k =>
  h1.go h o rp fun {v sv Ω1 F1 H1} q o1 s1 r1 => h2.go q o1 (rpe_same s1 rp) fun {u su Ω2 F2 H2} q2 o2 s2 r2 => h3.go q2 o2 (r1.same s2) r2 fun q3 o3 s3 r3 => k q3 o3 ((s1.trans s2).trans s3) r3⟩
theorem je_bin {op : Operator} {ar : AR} (ho : JOp X G (binaryOp op) ar) (ha : JE X G a aa) (hb : JE X G b ab) : JE X G (.BinOp a op b pos) (aBin ar aa ab) := by
  obtain ⟨r, h1, h2⟩ := ho
  obtain ⟨t, h3, h4⟩ := ha
  obtain ⟨u, h5, h6⟩ := hb
  exact ⟨_, pe_op h1 h3 h5, bin_ok h4 h6 h2⟩
theorem je_cmp {op : CmpOp} {ar : AR} (ho : JOp X G (compareOp op) ar) (ha : JE X G a aa) (hb : JE X G b ab) (hm : behindInMarks op b = false) : JE X G (.Compare a [op] [b] pos) (aBin ar aa ab) := by
  obtain ⟨r, h1, h2⟩ := ho
  obtain ⟨t, h3, h4⟩ := ha
  obtain ⟨u, h5, h6⟩ := hb
  exact ⟨_, pe_cmpR h1 h3 h5 hm, bin_ok h4 h6 h2⟩
def aUn (ar : SV → Om → PhiE → Prop) (a : AE) : AE := fun ρ Ω Φ => a ρ Ω fun x Ω1 => ar x Ω1 Φ
theorem je_un {op : UnaryOp} {ar : SV → Om → PhiE → Prop} (ho : JUn X G (unaryOp op) ar) (ha : JE X G a aa) : JE X G (.UnaryOp op a pos) (aUn ar aa) := by
  obtain ⟨r, h1, h2⟩ := ho
  obtain ⟨t, h3, h4⟩ := ha
  exact ⟨_, pe_un h1 h3, ⟨fun {ρ Ω Φ} h {P F H σ Q} o rp k => h4.go h o rp fun q o1 s1 r1 => h2.go q o1 r1 fun q3 o3 s3 r3 => k q3 o3 (s1.trans s3) r3⟩⟩
def arI (C : Int → Int → Prop) (g : Int → Int → PyData) : AR := fun x y Ω Φ => match x, y with
  | .d (.int i), .d (.int j) => C i j ∧ Φ (.d (g i j)) Ω
  | _, _ => False
def arI0 (g : Int → Int → PyData) : AR := fun x y Ω Φ => match x, y with
  | .d (.int i), .d (.int j) => Φ (.d (g i j)) Ω
  | _, _ => False
theorem arI_ok {E : En} {C : Int → Int → Prop} {g : Int → Int → PyData} {g' : Int → Int → V} (hg : ∀ i j F, Dq E.K F (g' i j) (g i j)) : SnR E (rI C g') (arI C g) := by
  refine ⟨fun {x y Ω Φ} h {P F H vx vy Q} o r1 r2 k => ?_⟩
  unfold arI at h
  split at h
  · exact ⟨_, _, dqi r1, dqi r2, h.1, k h.2 o (Same.refl F) (hg _ _ F)⟩
  · exact h.elim
theorem arI0_ok {E : En} {g : Int → Int → PyData} {g' : Int → Int → V} (hg : ∀ i j F, Dq E.K F (g' i j) (g i j)) : SnR E (rI0 g') (arI0 g) := by
  refine ⟨fun {x y Ω Φ} h {P F H vx vy Q} o r1 r2 k => ?_⟩
  unfold arI0 at h
  split at h
  · exact ⟨_, _, dqi r1, dqi r2, k h o (Same.refl F) (hg _ _ F)⟩
  · exact h.elim
abbrev arSub : AR := arI0 fun i j => .int (i - j)
abbrev arMul : AR := arI CMulX fun i j => .int (i * j)
abbrev arDiv : AR := arI CDivW fun i j => .int (i / j)
abbrev arMod : AR := arI (fun _ j => 0 < j) fun i j => .int (i % j)
abbrev arPow : AR := arI CPow fun i j => .int (i ^ j.toNat)
abbrev arLt : AR := arI0 fun i j => .bool (decide (i < j))
abbrev arLe : AR := arI0 fun i j => .bool (decide (i ≤ j))
abbrev arGt : AR := arI0 fun i j => .bool (decide (j < i))
abbrev arGe : AR := arI0 fun i j => .bool (decide (j ≤ i))
theorem jo_sub : JOp X G (binaryOp .Sub) arSub := ⟨_, op_sub, arI0_ok fun _ _ _ => .int _⟩
theorem jo_mulI : JOp X G (binaryOp .Mult) arMul := ⟨_, op_mulX, arI_ok fun _ _ _ => .int _⟩
theorem jo_div : JOp X G (binaryOp .FloorDiv) arDiv := ⟨_, op_fdivW, arI_ok fun _ _ _ => .int _⟩
theorem jo_mod : JOp X G (binaryOp .Mod) arMod := ⟨_, op_mod, arI_ok fun _ _ _ => .int _⟩
theorem jo_pow : JOp X G (binaryOp .Pow) arPow := ⟨_, op_pow, arI_ok fun _ _ _ => .int _⟩
theorem jo_lt : JOp X G (compareOp .Lt) arLt := ⟨_, op_lt, arI0_ok fun _ _ _ => .bl _⟩
theorem jo_le : JOp X G (compareOp .LtE) arLe := ⟨_, op_le, arI0_ok fun _ _ _ => .bl _⟩
theorem jo_gt : JOp X G (compareOp .Gt) arGt := ⟨_, op_gt, arI0_ok fun _ _ _ => .bl _⟩
theorem jo_ge : JOp X G (compareOp .GtE) arGe := ⟨_, op_ge, arI0_ok fun _ _ _ => .bl _⟩
def arNeg (x : SV) (Ω : Om) (Φ : PhiE) : Prop := match x with
  | .d (.int i) => Φ (.d (.int (-i))) Ω
  | _ => False
theorem ju_neg : JUn X G (unaryOp .USub) arNeg := by
  refine ⟨_, un_neg, ⟨fun {x Ω Φ} h {P F H vx Q} o r k => ?_⟩⟩
  unfold arNeg at h
  split at h
  · exact ⟨_, dqi r, k h o (Same.refl F) (.int _)⟩
  · exact h.elim
/-- a + b: ints, tuples, texts, lists -/
def arAdd (m : Mode) : AR := fun x y Ω Φ => match x, y with
  | .d (.int i), .d (.int j) => Φ (.d (.int (i + j))) Ω
  | .d (.tuple xs), .d (.tuple ys) => xs.length + ys.length ≤ sizeLine ∧ Φ (.d (.tuple (xs ++ ys))) Ω
  | .d (.str s), .d (.str t) => s.length + t.length ≤ sizeLine ∧ Φ (.d (.str (s ++ t))) Ω
  | x, y => rdL x Ω fun xs => rdL y Ω fun ys => xs.length + ys.length ≤ sizeLine ∧ newL m (xs ++ ys) Ω Φ
theorem dqa_app {K : Frag} {F : Hp} : ∀ {vs ws : List V} {ds es : List PyData}, DqAll K F vs ds → DqAll K F ws es → DqAll K F (vs ++ ws) (ds ++ es)
  | _, _, _, _, .nil, h => h
  | _, _, _, _, .cons r t, h => .cons r (dqa_app t h)
theorem dqa_nil {K : Frag} {F : Hp} {vs : List V} (h : DqAll K F vs []) : vs = [] := by cases h; rfl
theorem jo_add (hm : MOk (enX X G) m) : JOp X G (binaryOp .Add) (arAdd m) := by
  refine ⟨_, OpR.or op_add (OpR.or op_catA (OpR.or op_add_str op_cat)), ⟨fun {x y Ω Φ} h {P F H vx vy Q} o r1 r2 k => ?_⟩⟩
  unfold arAdd at h
  split at h
  · exact Or.inl ⟨_, _, dqi r1, dqi r2, k h o (Same.refl F) (.int _)⟩
  · rename_i xs ys
    obtain ⟨a, vs, rfl, ha, da⟩ := dqt r1
    obtain ⟨b, ws, rfl, hb, db⟩ := dqt r2
    have e1 := dqa_len da
    have e2 := dqa_len db
    refine Or.inr (Or.inl ⟨a, b, vs, ws, rfl, rfl, sqt_same o.ex ha, sqt_same o.ex hb, by rw [e1, e2]; exact h.1, fun z => ?_, fun z1 z2 => ?_, fun z1 z2 p hp => ?_⟩)
    · subst z
      cases da
      exact k h.2 o (Same.refl F) r2
    · subst z2
      cases db
      have h2 := h.2
      rw [List.append_nil] at h2
      exact k h2 o (Same.refl F) r1
    · obtain ⟨o1, s1⟩ := o.newF (o := .tup (vs ++ ws)) hp
      exact k h.2 o1 s1 (Dq.tup (SqT.of upd_same) (dqa_same s1 _ _ (dqa_app da db)))
  · exact Or.inr (Or.inr (Or.inl ⟨_, _, dqs r1, dqs r2, h.1, k h.2 o (Same.refl F) (.str _)⟩))
  · obtain ⟨a, vs, ds, rfl, ha, da, h⟩ := rdL_ok h o r1
    obtain ⟨b, ws, es, rfl, hb, db, h1, h2⟩ := rdL_ok h o r2
    exact Or.inr (Or.inr (Or.inr ⟨a, b, vs, ws, rfl, rfl, ha, hb, by rw [dqa_len da, dqa_len db]; exact h1, fun p hp => newL_ok hm o (dqa_app da db) h2 k hp⟩))
/-- a == b -/
def arEq : AR := fun x y Ω Φ => match x, y with
  | .d (.int i), .d (.int j) => Φ (.d (.bool (decide (i = j)))) Ω
  | .d (.bool i), .d (.bool j) => Φ (.d (.bool (decide (i = j)))) Ω
  | .d (.str i), .d (.str j) => Φ (.d (.bool (decide (i = j)))) Ω
  | x, y => rdD x Ω fun d => rdD y Ω fun e => SeqAt.shaped d = true ∧ SeqAt.shaped e = true ∧ Φ (.d (.bool (PyData.eqv d e))) Ω
def arNe : AR := fun x y Ω Φ => match x, y with
  | .d (.int i), .d (.int j) => Φ (.d (.bool (!decide (i = j)))) Ω
  | .d (.bool i), .d (.bool j) => Φ (.d (.bool (!decide (i = j)))) Ω
  | .d (.str i), .d (.str j) => Φ (.d (.bool (!decide (i = j)))) Ω
  | x, y => rdD x Ω fun d => rdD y Ω fun e => SeqAt.shaped d = true ∧ SeqAt.shaped e = true ∧ Φ (.d (.bool (!PyData.eqv d e))) Ω
theorem jo_eq (hu : X.A.units + 64 < cLine) : JOp X G (compareOp .Eq) arEq := by
  refine ⟨_, OpR.or op_eq (op_eqD hu), ⟨fun {x y Ω Φ} h {P F H vx vy Q} o r1 r2 k => ?_⟩⟩
  unfold arEq at h
  split at h
  · cases dqi r1; cases dqi r2
    refine Or.inl ⟨rfl, k h o (Same.refl F) ?_⟩
    simp only [V.int.injEq]; exact .bl _
  · cases dqb r1; cases dqb r2
    refine Or.inl ⟨rfl, k h o (Same.refl F) ?_⟩
    simp only [V.bl.injEq]; exact .bl _
  · cases dqs r1; cases dqs r2
    refine Or.inl ⟨rfl, k h o (Same.refl F) ?_⟩
    simp only [V.str.injEq]; exact .bl _
  · obtain ⟨d, hd, h⟩ := rdD_ok h o r1
    obtain ⟨e, he, h1, h2, h3⟩ := rdD_ok h o r2
    exact Or.inr ⟨d, e, hd, he, h1, h2, k h3 o (Same.refl F) (.bl _)⟩
theorem jo_ne (hu : X.A.units + 64 < cLine) : JOp X G (compareOp .NotEq) arNe := by
  refine ⟨_, OpR.or op_ne (op_neD hu), ⟨fun {x y Ω Φ} h {P F H vx vy Q} o r1 r2 k => ?_⟩⟩
  unfold arNe at h
  split at h
  · cases dqi r1; cases dqi r2
    refine Or.inl ⟨rfl, k h o (Same.refl F) ?_⟩
    simp only [V.int.injEq]; exact .bl _
  · cases dqb r1; cases dqb r2
    refine Or.inl ⟨rfl, k h o (Same.refl F) ?_⟩
    simp only [V.bl.injEq]; exact .bl _
  · cases dqs r1; cases dqs r2
    refine Or.inl ⟨rfl, k h o (Same.refl F) ?_⟩
    simp only [V.str.injEq]; exact .bl _
  · obtain ⟨d, hd, h⟩ := rdD_ok h o r1
    obtain ⟨e, he, h1, h2, h3⟩ := rdD_ok h o r2
    exact Or.inr ⟨d, e, hd, he, h1, h2, k h3 o (Same.refl F) (.bl _)⟩
/-- a is None, a is not None -/
def isNon : SV → Bool
  | .d .none => true
  | .r v => decide (v = .non)
  | _ => false
theorem isNon_ok {K : Frag} {F : Hp} {v : V} : ∀ {x : SV}, Rp K F v x → decide (v = .non) = isNon x
  | .d .none, h => by cases dqn h; rfl
  | .d (.int i), h => by cases dqi h; rfl
  | .d (.bool b), h => by cases dqb h; rfl
  | .d (.str b), h => by cases dqs h; rfl
  | .d (.list b), h => by obtain ⟨a, _, rfl, _⟩ := dql h; rfl
  | .d (.tuple b), h => by obtain ⟨a, _, rfl, _⟩ := dqt h; rfl
  | .d (.dict b), h => by cases h
  | .l ds, h => by obtain ⟨a, _, rfl, _⟩ := h; rfl
  | .r u, h => by cases (show v = u from h); rfl
def arIs : AR := fun x y Ω Φ => match y with
  | .d .none => Φ (.d (.bool (isNon x))) Ω
  | _ => False
def arIsNot : AR := fun x y Ω Φ => match y with
  | .d .none => Φ (.d (.bool (!isNon x))) Ω
  | _ => False
theorem jo_is : JOp X G (compareOp .Is) arIs := by
  refine ⟨_, op_isN, ⟨fun {x y Ω Φ} h {P F H vx vy Q} o r1 r2 k => ?_⟩⟩
  unfold arIs at h
  split at h
  · exact ⟨dqn r2, k h o (Same.refl F) (by rw [isNon_ok r1]; exact .bl _)⟩
  · exact h.elim
theorem jo_isnot : JOp X G (compareOp .IsNot) arIsNot := by
  refine ⟨_, op_notN, ⟨fun {x y Ω Φ} h {P F H vx vy Q} o r1 r2 k => ?_⟩⟩
  unfold arIsNot at h
  split at h
  · exact ⟨dqn r2, k h o (Same.refl F) (by rw [isNon_ok r1]; exact .bl _)⟩
  · exact h.elim
/-! ### truth, tests, and, or, not -/
/-- the ways of a truth value -/
structure br (b : Bool) (A B : Prop) : Prop where
  t : b = true → A
  f : b = false → B
theorem br_of {b : Bool} {A B : Prop} (h1 : b = true → A) (h2 : b = false → B) : br b A B := ⟨h1, h2⟩
theorem br_d {p : Prop} [Decidable p] {A B : Prop} (h1 : p → A) (h2 : ¬p → B) : br (decide p) A B := ⟨fun h => h1 (of_decide_eq_true h), fun h => h2 (of_decide_eq_false h)⟩
theorem br_n {b : Bool} {A B : Prop} (h : br b B A) : br (!b) A B := ⟨fun e => h.f (by cases b <;> simp_all), fun e => h.t (by cases b <;> simp_all)⟩
theorem br_T {A B : Prop} (h : A) : br true A B := ⟨fun _ => h, fun e => (by cases e)⟩
theorem br_F {A B : Prop} (h : B) : br false A B := ⟨fun e => (by cases e), fun _ => h⟩
def brX (b : Bool) (A B : Prop) : Prop := match b with
  | true => A
  | false => B
theorem br_out {b : Bool} {A B : Prop} (h : br b A B) : brX b A B := by
  cases b
  · exact h.f rfl
  · exact h.t rfl
theorem br_ite {b : Bool} {A B : Prop} (h : brX b A B) : if b = true then A else B := by
  cases b
  · rw [if_neg Bool.false_ne_true]; exact h
  · rw [if_pos rfl]; exact h
def truD (x : SV) (Ω : Om) (k : Bool → Prop) : Prop := match x with
  | .d .none => k false
  | .d (.bool b) => k b
  | .d (.int i) => k (i != 0)
  | .d (.str y) => y.length ≤ sizeLine ∧ k ((y.length : Int) != 0)
  | x => rdS x Ω fun ds => k (!ds.isEmpty)
theorem truD_ok {E : En} {P F H : Hp} {Ω : Om} {x : SV} {v : V} {k : Bool → Prop} (h : truD x Ω k) (o : Ok E P F H Ω) (r : Rp E.K F v x) : ∃ b, TruV E.K v H b ∧ k b := by
  unfold truD at h
  split at h
  · cases dqn r; exact ⟨false, rfl, h⟩
  · cases dqb r; exact ⟨_, rfl, h⟩
  · cases dqi r; exact ⟨_, rfl, h⟩
  · cases dqs r; exact ⟨_, ⟨h.1, rfl⟩, h.2⟩
  · obtain ⟨a, vs, ds, rfl, hs, da, hk⟩ := rdS_ok h o r
    have ee : (!vs.isEmpty) = !ds.isEmpty := by cases da <;> rfl
    rcases hs with hs | hs
    · exact ⟨_, Or.inl ⟨vs, hs, ee.symm⟩, hk⟩
    · exact ⟨_, Or.inr (Or.inl ⟨vs, hs, ee.symm⟩), hk⟩
def aTru (a : AE) : AT := fun ρ Ω Φ => a ρ Ω fun x Ω' => truD x Ω' fun b => Φ b Ω'
theorem jt_of (ha : JE X G a aa) (he : ∀ whole, isTrue a X.env whole = (do let v ← whole; standAt a.pos; holding [v] (truthy v)) := by intro _; rfl) : JT X G a (aTru aa) := by
  obtain ⟨t, h3, h4⟩ := ha
  refine ⟨_, pt_truth h3 he, ⟨fun {ρ Ω Φ} h {P F H σ Q} o rp k => h4.go h o rp fun {v sv Ω1 F1 H1} q o1 s1 r1 => ?_⟩⟩
  obtain ⟨b, hb, hk⟩ := truD_ok q o1 r1
  exact ⟨b, hb, k hk o1 s1⟩
/-- a comparison as a test -/
def aB (a : AE) : AT := fun ρ Ω Φ => a ρ Ω fun x Ω' => match x with | .d (.bool b) => Φ b Ω' | _ => False
theorem jt_cmp {op : CmpOp} {ar : AR} (ho : JOp X G (compareOp op) ar) (ha : JE X G a aa) (hb : JE X G b ab) (hm : behindInMarks op b = false) : JT X G (.Compare a [op] [b] pos) (aB (aBin ar aa ab)) := by
  obtain ⟨r, h1, h2⟩ := ho
  obtain ⟨t, h3, h4⟩ := ha
  obtain ⟨u, h5, h6⟩ := hb
  refine ⟨_, pt_cmpR h1 h3 h5 hm, ⟨fun {ρ Ω Φ} h {P F H σ Q} o rp k => (bin_ok h4 h6 h2).go h o rp fun {v sv Ω1 F1 H1} q o1 s1 r1 => ?_⟩⟩
  dsimp only at q
  split at q
  · exact ⟨_, dqb r1, k q o1 s1⟩
  · exact q.elim
def aAnd (t u : AT) : AT := fun ρ Ω Φ => t ρ Ω fun b Ω1 => br b (u ρ Ω1 Φ) (Φ false Ω1)
def aOr (t u : AT) : AT := fun ρ Ω Φ => t ρ Ω fun b Ω1 => br b (Φ true Ω1) (u ρ Ω1 Φ)
def aNot (t : AT) : AT := fun ρ Ω Φ => t ρ Ω fun b Ω1 => Φ (!b) Ω1
theorem jw_pt (h : JW X G a at_) : JT X G a at_ := by
  obtain ⟨t, h1, h2⟩ := h
  exact ⟨t, h1.pt, h2⟩
theorem jw_and1 (h : JT X G a at_) : JW X G (.BoolOp .And [a] pos) at_ := by
  obtain ⟨t, h1, h2⟩ := h
  exact ⟨t, pw_and1 h1, h2⟩
theorem jw_or1 (h : JT X G a at_) : JW X G (.BoolOp .Or [a] pos) at_ := by
  obtain ⟨t, h1, h2⟩ := h
  exact ⟨t, pw_or1 h1, h2⟩
theorem jw_and {rest : List Expr} (h : JT X G a at_) (h' : JW X G (.BoolOp .And (b :: rest) pos) bt) : JW X G (.BoolOp .And (a :: b :: rest) pos) (aAnd at_ bt) := by
  obtain ⟨t, h1, h2⟩ := h
  obtain ⟨u, h3, h4⟩ := h'
  refine ⟨_, pw_and h1 h3, ⟨fun {ρ Ω Φ} h {P F H σ Q} o rp k => h2.go h o rp fun {b Ω1 F1 H1} q o1 s1 => br_ite ?_⟩⟩
  replace q := br_out q
  cases b
  · exact k q o1 s1
  · exact h4.go q o1 (rpe_same s1 rp) fun q2 o2 s2 => k q2 o2 (s1.trans s2)
theorem jw_or {rest : List Expr} (h : JT X G a at_) (h' : JW X G (.BoolOp .Or (b :: rest) pos) bt) : JW X G (.BoolOp .Or (a :: b :: rest) pos) (aOr at_ bt) := by
  obtain ⟨t, h1, h2⟩ := h
  obtain ⟨u, h3, h4⟩ := h'
  refine ⟨_, pw_or h1 h3, ⟨fun {ρ Ω Φ} h {P F H σ Q} o rp k => h2.go h o rp fun {b Ω1 F1 H1} q o1 s1 => br_ite ?_⟩⟩
  replace q := br_out q
  cases b
  · exact h4.go q o1 (rpe_same s1 rp) fun q2 o2 s2 => k q2 o2 (s1.trans s2)
  · exact k q o1 s1
theorem jt_not (h : JT X G a at_) : JT X G (.UnaryOp .Not a pos) (aNot at_) := by
  obtain ⟨t, h1, h2⟩ := h
  exact ⟨_, pt_not h1, ⟨fun {ρ Ω Φ} h {P F H σ Q} o rp k => h2.go h o rp fun q o1 s1 => k q o1 s1⟩⟩
/-- and, or, not as values: all but the last True or False -/
def aAndV (a b : AE) : AE := fun ρ Ω Φ => a ρ Ω fun x Ω1 => match x with
  | .d (.bool c) => br c (b ρ Ω1 Φ) (Φ (.d (.bool false)) Ω1)
  | _ => False
def aOrV (a b : AE) : AE := fun ρ Ω Φ => a ρ Ω fun x Ω1 => match x with
  | .d (.bool c) => br c (Φ (.d (.bool true)) Ω1) (b ρ Ω1 Φ)
  | _ => False
def aNotV (a : AE) : AE := fun ρ Ω Φ => a ρ Ω fun x Ω1 => match x with
  | .d (.bool c) => Φ (.d (.bool (!c))) Ω1
  | _ => False
theorem je_one {op} (h : JE X G a aa) : JE X G (.BoolOp op [a] pos) aa := by
  obtain ⟨t, h1, h2⟩ := h
  exact ⟨t, pe_one h1, h2⟩
theorem je_and {rest : List Expr} (h : JE X G a aa) (h' : JE X G (.BoolOp .And (b :: rest) pos) ab) : JE X G (.BoolOp .And (a :: b :: rest) pos) (aAndV aa ab) := by
  obtain ⟨t, h1, h2⟩ := h
  obtain ⟨u, h3, h4⟩ := h'
  refine ⟨_, pe_and h1 h3, ⟨fun {ρ Ω Φ} h {P F H σ Q} o rp k => h2.go h o rp fun {v sv Ω1 F1 H1} q o1 s1 r1 => ?_⟩⟩
  dsimp only at q
  split at q
  · rename_i c
    refine ⟨c, dqb r1, br_ite ?_⟩
    replace q := br_out q
    cases c
    · exact k q o1 s1 (.bl _)
    · exact h4.go q o1 (rpe_same s1 rp) fun q2 o2 s2 r2 => k q2 o2 (s1.trans s2) r2
  · exact q.elim
theorem je_or {rest : List Expr} (h : JE X G a aa) (h' : JE X G (.BoolOp .Or (b :: rest) pos) ab) : JE X G (.BoolOp .Or (a :: b :: rest) pos) (aOrV aa ab) := by
  obtain ⟨t, h1, h2⟩ := h
  obtain ⟨u, h3, h4⟩ := h'
  refine ⟨_, pe_or h1 h3, ⟨fun {ρ Ω Φ} h {P F H σ Q} o rp k => h2.go h o rp fun {v sv Ω1 F1 H1} q o1 s1 r1 => ?_⟩⟩
  dsimp only at q
  split at q
  · rename_i c
    refine ⟨c, dqb r1, br_ite ?_⟩
    replace q := br_out q
    cases c
    · exact h4.go q o1 (rpe_same s1 rp) fun q2 o2 s2 r2 => k q2 o2 (s1.trans s2) r2
    · exact k q o1 s1 (.bl _)
  · exact q.elim
theorem je_not (h : JE X G a aa) : JE X G (.UnaryOp .Not a pos) (aNotV aa) := by
  obtain ⟨t, h1, h2⟩ := h
  refine ⟨_, pe_not h1, ⟨fun {ρ Ω Φ} h {P F H σ Q} o rp k => h2.go h o rp fun {v sv Ω1 F1 H1} q o1 s1 r1 => ?_⟩⟩
  dsimp only at q
  split at q
  · exact ⟨_, dqb r1, k q o1 s1 (.bl _)⟩
  · exact q.elim
def aIfE (t : AT) (a b : AE) : AE := fun ρ Ω Φ => t ρ Ω fun c Ω1 => br c (a ρ Ω1 Φ) (b ρ Ω1 Φ)
theorem je_if {c : Expr} (ht : JT X G c at_) (ha : JE X G a aa) (hb : JE X G b ab) : JE X G (.IfExp c a b pos) (aIfE at_ aa ab) := by
  obtain ⟨t, h1, h2⟩ := ht
  obtain ⟨ta, h3, h4⟩ := ha
  obtain ⟨tb, h5, h6⟩ := hb
  refine ⟨_, pe_ifExp h1 h3 h5, ⟨fun {ρ Ω Φ} h {P F H σ Q} o rp k => h2.go h o rp fun {c Ω1 F1 H1} q o1 s1 => br_ite ?_⟩⟩
  replace q := br_out q
  cases c
  · exact h6.go q o1 (rpe_same s1 rp) fun q2 o2 s2 r2 => k q2 o2 (s1.trans s2) r2
  · exact h4.go q o1 (rpe_same s1 rp) fun q2 o2 s2 r2 => k q2 o2 (s1.trans s2) r2
/-! ### argument lists, displays -/
def aNil : AA := fun _ Ω Φ => Φ [] Ω
def aCons (a : AE) (t : AA) : AA := fun ρ Ω Φ => a ρ Ω fun x Ω1 => t ρ Ω1 fun xs Ω2 => Φ (x :: xs) Ω2
theorem cons_ok {E : En} {ta : TE} {tr : TA} {ar : AA} (h1 : SnE E ta aa) (h2 : SnA E tr ar) : SnA E (tCons ta tr) (aCons aa ar) := ⟨fun {ρ Ω Φ} h {P F H σ Q} o rp k =>
  h1.go h o rp fun {v sv Ω1 F1 H1} q o1 s1 r1 => h2.go q o1 (rpe_same s1 rp) fun {vs svs Ω2 F2 H2} q2 o2 s2 r2 => k q2 o2 (s1.trans s2) (.cons (r1.same s2) r2)⟩
theorem ja_nil : JA X G [] aNil := ⟨_, pa_nil, ⟨fun {ρ Ω Φ} h {P F H σ Q} o rp k => k h o (Same.refl F) .nil⟩⟩
theorem ja_cons {es : List Expr} {ar : AA} (ha : JE X G e aa) (hr : JA X G es ar) (hs : starEach (e :: es) X.env = (false, eval e X.env) :: starEach es X.env := by rfl) : JA X G (e :: es) (aCons aa ar) := by
  obtain ⟨t, h1, h2⟩ := ha
  obtain ⟨u, h3, h4⟩ := hr
  exact ⟨_, pa_cons h1 h3 hs, cons_ok h2 h4⟩
theorem jk_nil : JK X G [] aNil := ⟨_, pk_nil, ⟨fun {ρ Ω Φ} h {P F H σ Q} o rp k => k h o (Same.refl F) .nil⟩⟩
theorem jk_cons {kws : List Keyword} {ar : AA} {nm : Option Str} {kpos : Pos} (ha : JE X G e aa) (hr : JK X G kws ar) : JK X G (⟨nm, e, kpos⟩ :: kws) (aCons aa ar) := by
  obtain ⟨t, h1, h2⟩ := ha
  obtain ⟨u, h3, h4⟩ := hr
  exact ⟨_, pk_cons h1 h3, cons_ok h2 h4⟩
def aTup (t : AA) : AE := fun ρ Ω Φ => t ρ Ω fun xs Ω' => xs.length ≤ sizeLine ∧ match dataOf xs with | some ds => Φ (.d (.tuple ds)) Ω' | none => False
theorem je_tup {es : List Expr} {ar : AA} {x1} (h : JA X G es ar) : JE X G (.Tuple es x1 pos) (aTup ar) := by
  obtain ⟨t, h1, h2⟩ := h
  refine ⟨_, pe_tup h1, ⟨fun {ρ Ω Φ} h {P F H σ Q} o rp k => h2.go h o rp fun {vs svs Ω1 F1 H1} q o1 s1 r1 => ⟨by rw [r1.length]; exact q.1, fun p hp => ?_⟩⟩⟩
  have q2 := q.2
  split at q2
  · rename_i ds e
    obtain ⟨o2, s2⟩ := o1.newF (o := .tup vs) hp
    exact k q2 o2 (s1.trans s2) (Dq.tup (SqT.of upd_same) (dqa_same s2 _ _ (dataOf_ok e r1)))
  · exact q2.elim
def aLst (m : Mode) (t : AA) : AE := fun ρ Ω Φ => t ρ Ω fun xs Ω' => xs.length ≤ sizeLine ∧ newX m xs Ω' Φ
theorem je_lst {es : List Expr} {ar : AA} (hm : MOk (enX X G) m) (h : JA X G es ar) : JE X G (.List es pos) (aLst m ar) := by
  obtain ⟨t, h1, h2⟩ := h
  exact ⟨_, pe_lst h1, ⟨fun {ρ Ω Φ} h {P F H σ Q} o rp k => h2.go h o rp fun {vs svs Ω1 F1 H1} q o1 s1 r1 => ⟨by rw [r1.length]; exact q.1, fun p hp => newX_ok hm o1 r1 q.2 (fun q2 o2 s2 r2 => k q2 o2 (s1.trans s2) r2) hp⟩⟩⟩
end
end Z
/-! Z4: subscripts, slices, built-ins, methods, calls of defs; what a for walks; statements. -/
namespace Z
open PySem PySem.Spec PyProof.Rows L2
theorem dqa_rev {K : Frag} {F : Hp} {vs : List V} {ds : List PyData} (h : DqAll K F vs ds) : DqAll K F vs.reverse ds.reverse := by
  have q := pr_rev (of_dqa h)
  rw [← List.map_reverse] at q
  exact dqa_of q
theorem dqa_take {K : Frag} {F : Hp} {vs : List V} {ds : List PyData} (n : Nat) (h : DqAll K F vs ds) : DqAll K F (vs.take n) (ds.take n) := by
  have q := pr_take n (of_dqa h)
  rw [← List.map_take] at q
  exact dqa_of q
theorem dqa_drop {K : Frag} {F : Hp} {vs : List V} {ds : List PyData} (n : Nat) (h : DqAll K F vs ds) : DqAll K F (vs.drop n) (ds.drop n) := by
  have q := pr_drop n (of_dqa h)
  rw [← List.map_drop] at q
  exact dqa_of q
theorem dqa_get {K : Frag} {F : Hp} {vs : List V} {ds : List PyData} {i : Nat} {d : PyData} (h : DqAll K F vs ds) (e : ds[i]? = some d) : ∃ v, vs[i]? = some v ∧ Dq K F v d :=
  pr_get (R := Rp K F) (of_dqa h) (i := i) (y := .d d) (by rw [List.getElem?_map, e]; rfl)
theorem dqa_getL {K : Frag} {F : Hp} {vs : List V} {ds : List PyData} {i : Nat} {v : V} (h : DqAll K F vs ds) (e : vs[i]? = some v) : ∃ d, ds[i]? = some d ∧ Dq K F v d := by
  obtain ⟨y, hy, r⟩ := pr_getL (of_dqa h) e
  rw [List.getElem?_map] at hy
  cases hd : ds[i]? with
  | none => rw [hd] at hy; cases hy
  | some d => rw [hd] at hy; cases hy; exact ⟨d, rfl, r⟩
theorem dqa_set {K : Frag} {F : Hp} {vs : List V} {ds : List PyData} {v : V} {d : PyData} (i : Nat) (h : DqAll K F vs ds) (r : Dq K F v d) : DqAll K F (vs.set i v) (ds.set i d) := by
  have q := pr_set (R := Rp K F) (x := v) (y := .d d) r i (of_dqa h)
  rw [← List.map_set] at q
  exact dqa_of q
theorem dqa_erase {K : Frag} {F : Hp} {vs : List V} {ds : List PyData} (i : Nat) (h : DqAll K F vs ds) : DqAll K F (vs.eraseIdx i) (ds.eraseIdx i) := by
  have q := pr_erase i (of_dqa h)
  have e : (ds.map SV.d).eraseIdx i = (ds.eraseIdx i).map SV.d := by
    rw [List.eraseIdx_eq_take_drop_succ, List.eraseIdx_eq_take_drop_succ, List.map_append, List.map_take, List.map_drop]
  rw [e] at q
  exact dqa_of q
theorem dqa_ints {K : Frag} {F : Hp} : ∀ {vs : List V} {ns : List Int}, DqAll K F vs (ns.map PyData.int) → vs = ns.map V.int
  | _, [], h => by cases h; rfl
  | _, n :: ns, h => by
    cases h with
    | cons r t => rw [dqi r, dqa_ints t]; rfl
theorem ints_dqa {K : Frag} {F : Hp} : ∀ (ns : List Int), DqAll K F (ns.map V.int) (ns.map PyData.int)
  | [] => .nil
  | n :: ns => .cons (.int n) (ints_dqa ns)
theorem dqa_bools {K : Frag} {F : Hp} : ∀ {vs : List V} {ns : List Bool}, DqAll K F vs (ns.map PyData.bool) → vs = ns.map V.bl
  | _, [], h => by cases h; rfl
  | _, n :: ns, h => by
    cases h with
    | cons r t => rw [dqb r, dqa_bools t]; rfl
theorem at_len {K : Frag} {F : Hp} {vs : List V} {ds : List PyData} {i : Int} {d : PyData} (h : DqAll K F vs ds) (e : atI ds i = some d) : ∃ v, atI vs i = some v ∧ Dq K F v d := by
  unfold atI at e ⊢
  rw [dqa_len h]
  cases q : ixN ds.length i with
  | none => rw [q] at e; cases e
  | some j => rw [q] at e; exact dqa_get h e
theorem at_lenX {K : Frag} {F : Hp} {vs : List V} {xs : List SV} {i : Int} {x : SV} (h : Paired (Rp K F) vs xs) (e : atI xs i = some x) : ∃ v, atI vs i = some v ∧ Rp K F v x := by
  unfold atI at e ⊢
  rw [h.length]
  cases q : ixN xs.length i with
  | none => rw [q] at e; cases e
  | some j => rw [q] at e; exact pr_get h e
/-- the items of xs[lo:hi] -/
def cutD {α : Type} (xs : List α) (lo hi : Option Int) : List α := (xs.drop (HT.sIx xs.length 0 lo)).take (HT.sIx xs.length xs.length hi - HT.sIx xs.length 0 lo)
theorem dqa_cut {K : Frag} {F : Hp} {vs : List V} {ds : List PyData} (lo hi : Option Int) (h : DqAll K F vs ds) : DqAll K F (cutV vs lo hi) (cutD ds lo hi) := by
  unfold cutV cutD
  rw [dqa_len h]
  exact dqa_take _ (dqa_drop _ h)
section
variable {X : Cx} {G : Gn} {e a b : Expr} {aa ab : AE} {at_ bt : AT} {ta : AA} {pos : Pos} {m : Mode}
/-! ### a[i] -/
def ixC (c : OC) (i : Int) (Ω : Om) (Φ : PhiE) : Prop := match c with
  | .lst ds => ∃ d, atI ds i = some d ∧ Φ (.d d) Ω
  | .lx xs => ∃ x, atI xs i = some x ∧ Φ x Ω
  | _ => False
def arIx : AR := fun x y Ω Φ => match x, y with
  | .d (.list ds), .d (.int i) => ∃ d, atI ds i = some d ∧ Φ (.d d) Ω
  | .d (.tuple ds), .d (.int i) => ∃ d, atI ds i = some d ∧ Φ (.d d) Ω
  | .d (.str z), .d (.int i) => z.length ≤ sizeLine ∧ ∃ c, atI z.cps.toList i = some c ∧ Φ (.d (.str ⟨#[c]⟩)) Ω
  | .l ds, .d (.int i) => ∃ d, atI ds i = some d ∧ Φ (.d d) Ω
  | .r (.ref p), .d (.int i) => ∃ c f, At Ω p c f ∧ ixC c i Ω Φ
  | _, _ => False
theorem jx_seq : JIx X G arIx := by
  refine ⟨_, ix_seq, ⟨fun {x y Ω Φ} h {P F H vx vy Q} o r1 r2 k => ?_⟩⟩
  unfold arIx at h
  split at h
  · obtain ⟨d, e, q⟩ := h
    obtain ⟨p, vs, rfl, hF, da⟩ := dql r1
    obtain ⟨v, e2, rv⟩ := at_len da e
    exact Or.inl ⟨p, vs, _, v, rfl, dqi r2, SqL.of (o.ex _ _ hF), e2, k q o (Same.refl F) rv⟩
  · obtain ⟨d, e, q⟩ := h
    obtain ⟨p, vs, rfl, hF, da⟩ := dqt r1
    obtain ⟨v, e2, rv⟩ := at_len da e
    exact Or.inr (Or.inl ⟨p, vs, _, v, rfl, dqi r2, sqt_same o.ex hF, e2, k q o (Same.refl F) rv⟩)
  · obtain ⟨hz, c, e, q⟩ := h
    exact Or.inr (Or.inr ⟨_, _, c, dqs r1, dqi r2, hz, e, k q o (Same.refl F) (.str _)⟩)
  · obtain ⟨d, e, q⟩ := h
    obtain ⟨p, vs, rfl, hF, da⟩ := r1
    obtain ⟨v, e2, rv⟩ := at_len da e
    exact Or.inl ⟨p, vs, _, v, rfl, dqi r2, o.ex.seq hF, e2, k q o (Same.refl F) rv⟩
  · obtain ⟨c, f, t, q⟩ := h
    cases r1
    unfold ixC at q
    split at q
    · obtain ⟨d, e, q⟩ := q
      obtain ⟨vs, h1, h2⟩ := o.lst t
      obtain ⟨v, e2, rv⟩ := at_len h2 e
      exact Or.inl ⟨_, vs, _, v, rfl, dqi r2, SqL.of h1, e2, k q o (Same.refl F) rv⟩
    · obtain ⟨d, e, q⟩ := q
      obtain ⟨vs, h1, h2⟩ := o.lx t
      obtain ⟨v, e2, rv⟩ := at_lenX h2 e
      exact Or.inl ⟨_, vs, _, v, rfl, dqi r2, SqL.of h1, e2, k q o (Same.refl F) rv⟩
    · exact q.elim
  · exact h.elim
theorem je_ix {ar : AR} (hr : JIx X G ar) (ha : JE X G a aa) (hb : JE X G b ab) (hs : PlainIx b) : JE X G (.Subscript a b pos) (aBin ar aa ab) := by
  obtain ⟨r, h1, h2⟩ := hr
  obtain ⟨t, h3, h4⟩ := ha
  obtain ⟨u, h5, h6⟩ := hb
  exact ⟨_, pe_ix h1 h3 h5 hs, bin_ok h4 h6 h2⟩
/-! ### a[lo:hi] -/
abbrev AO := Rho → Om → (Option Int → Om → Prop) → Prop
structure SnO (E : En) (te : TO) (a : AO) : Prop where
  go : ∀ {ρ : Rho} {Ω : Om} {Φ : Option Int → Om → Prop}, a ρ Ω Φ → ∀ {P F H : Hp} {σ : L2.St} {Q : Option Int → Hp → Prop}, Ok E P F H Ω → RpE E.K F σ ρ →
    (∀ {b : Option Int} {Ω' : Om} {F' H' : Hp}, Φ b Ω' → Ok E P F' H' Ω' → Same F F' → Q b H') → te σ H Q
def JO (X : Cx) (G : Gn) (e : Option Expr) (a : AO) : Prop := ∃ te, PO X e te ∧ SnO (enX X G) te a
def aNoP : AO := fun _ Ω Φ => Φ none Ω
def aPart (a : AE) : AO := fun ρ Ω Φ => a ρ Ω fun x Ω' => match x with | .d (.int i) => Φ (some i) Ω' | _ => False
theorem jp_none : JO X G none aNoP := ⟨_, po_none, ⟨fun {ρ Ω Φ} h {P F H σ Q} o rp k => k h o (Same.refl F)⟩⟩
theorem jp_some (ha : JE X G a aa) : JO X G (some a) (aPart aa) := by
  obtain ⟨t, h1, h2⟩ := ha
  refine ⟨_, po_some h1, ⟨fun {ρ Ω Φ} h {P F H σ Q} o rp k => h2.go h o rp fun {v sv Ω1 F1 H1} q o1 s1 r1 => ?_⟩⟩
  dsimp only at q
  split at q
  · exact ⟨_, dqi r1, k q o1 s1⟩
  · exact q.elim
def slR (m : Mode) (x : SV) (lo hi : Option Int) (Ω : Om) (Φ : PhiE) : Prop := match x with
  | .d (.tuple ds) => Φ (.d (.tuple (cutD ds lo hi))) Ω
  | .l ds => newL m (cutD ds lo hi) Ω Φ
  | x => rdL x Ω fun ds => newL m (cutD ds lo hi) Ω Φ
def aSl (m : Mode) (a : AE) (lo hi : AO) : AE := fun ρ Ω Φ => a ρ Ω fun x Ω1 => lo ρ Ω1 fun i Ω2 => hi ρ Ω2 fun j Ω3 => slR m x i j Ω3 Φ
theorem cut_all {α : Type} {xs : List α} {lo hi : Option Int} (h : HT.sIx xs.length 0 lo = 0 ∧ HT.sIx xs.length xs.length hi = xs.length) : cutD xs lo hi = xs := by
  unfold cutD
  rw [h.1, h.2, List.drop_zero, Nat.sub_zero, List.take_length]
theorem je_sl {lo hi : Option Expr} {al ah : AO} {p2 : Pos} (hm : MOk (enX X G) m) (ha : JE X G a aa) (hl : JO X G lo al) (hh : JO X G hi ah) : JE X G (.Subscript a (.Slice lo hi none p2) pos) (aSl m aa al ah) := by
  obtain ⟨t, h1, h2⟩ := ha
  obtain ⟨u, h3, h4⟩ := hl
  obtain ⟨w, h5, h6⟩ := hh
  refine ⟨_, pe_slice (SlR.or sl_tupA sl_list) h1 h3 h5, ⟨fun {ρ Ω Φ} h {P F H σ Q} o rp k => h2.go h o rp fun {v sv Ω1 F1 H1} q o1 s1 r1 => h4.go q o1 (rpe_same s1 rp) fun {i Ω2 F2 H2} q2 o2 s2 => h6.go q2 o2 (rpe_same (s1.trans s2) rp) fun {j Ω3 F3 H3} q3 o3 s3 => ?_⟩⟩
  have r3 := (r1.same s2).same s3
  have k3 : Aft (enX X G) P F3 Φ Q := fun p1 p2 p3 p4 => k p1 p2 (((s1.trans s2).trans s3).trans p3) p4
  unfold slR at q3
  split at q3
  · rename_i ds
    obtain ⟨p, vs, rfl, hF, da⟩ := dqt r3
    refine Or.inl ⟨p, vs, rfl, sqt_same o3.ex hF, fun z => ?_, fun z q hq => ?_⟩
    · rw [dqa_len da] at z
      rw [cut_all z] at q3
      exact k3 q3 o3 (Same.refl F3) r3
    · obtain ⟨o4, s4⟩ := o3.newF (o := .tup (cutV vs i j)) hq
      exact k3 q3 o4 s4 (Dq.tup (SqT.of upd_same) (dqa_same s4 _ _ (dqa_cut i j da)))
  · obtain ⟨p, vs, rfl, hF, da⟩ := r3
    exact Or.inr ⟨p, vs, rfl, o3.ex.seq hF, fun q hq => newL_ok hm o3 (dqa_cut i j da) q3 k3 hq⟩
  · obtain ⟨p, vs, ds, rfl, hF, da, q4⟩ := rdL_ok q3 o3 r3
    exact Or.inr ⟨p, vs, rfl, SqL.of hF, fun q hq => newL_ok hm o3 (dqa_cut i j da) q4 k3 hq⟩
/-! ### built-ins -/
def aCB (ac : AC) (t : AA) : AE := fun ρ Ω Φ => t ρ Ω fun xs Ω' => ac xs Ω' Φ
theorem cb_ok {E : En} {r : List V → Hp → VK → Prop} {ac : AC} {t : TA} (h1 : SnA E t ta) (h2 : SnC E r ac) : SnE E (tCB r t) (aCB ac ta) := ⟨fun {ρ Ω Φ} h {P F H σ Q} o rp k =>
  h1.go h o rp fun q o1 s1 r1 => h2.go q o1 r1 fun q2 o2 s2 r2 => k q2 o2 (s1.trans s2) r2⟩
theorem je_callB {id : String} {ac : AC} {x : Str} {p : Pos} {es : List Expr} (hc : JC X G (.builtin id) ac) (hg : Gl X x) (hm : X.mg x = none) (hv : bootBuiltins x = some (.builtin id)) (ha : JA X G (e :: es) ta) (hn : x ≠ "__name__" := by decide) (hdb : (x == ("__debug__" : Str)) = false := by decide)
    (he : starEach (e :: es) X.env = (false, eval e X.env) :: starEach es X.env := by rfl) (hpl : (backTo pos (starEach es X.env)).any (·.1) = false := by rfl) : JE X G (.Call (.Name x p) (e :: es) [] pos) (aCB ac ta) := by
  obtain ⟨r, h1, h2⟩ := hc
  obtain ⟨t, h3, h4⟩ := ha
  exact ⟨_, pe_callB h1 hg hm hv h3 hn hdb he hpl, cb_ok h4 h2⟩
theorem je_callTy {T : String} {ac : AC} {x : Str} {p : Pos} {es : List Expr} (hc : JC X G (.type T) ac) (hg : Gl X x) (hm : X.mg x = none) (hv : bootBuiltins x = some (.type T)) (ha : JA X G (e :: es) ta) (hn : x ≠ "__name__" := by decide) (hdb : (x == ("__debug__" : Str)) = false := by decide)
    (he : starEach (e :: es) X.env = (false, eval e X.env) :: starEach es X.env := by rfl) (hpl : (backTo pos (starEach es X.env)).any (·.1) = false := by rfl) : JE X G (.Call (.Name x p) (e :: es) [] pos) (aCB ac ta) := by
  obtain ⟨r, h1, h2⟩ := hc
  obtain ⟨t, h3, h4⟩ := ha
  exact ⟨_, pe_callTy h1 hg hm hv h3 hn hdb he hpl, cb_ok h4 h2⟩
theorem pr1 {α β : Type} {R : α → β → Prop} {vs : List α} {x : β} (h : Paired R vs [x]) : ∃ v, vs = [v] ∧ R v x := by
  cases h with
  | cons r t => cases t; exact ⟨_, rfl, r⟩
theorem pr2 {α β : Type} {R : α → β → Prop} {vs : List α} {x y : β} (h : Paired R vs [x, y]) : ∃ v u, vs = [v, u] ∧ R v x ∧ R u y := by
  cases h with
  | cons r t =>
    obtain ⟨u, rfl, r2⟩ := pr1 t
    exact ⟨_, u, rfl, r, r2⟩
/-- of one argument -/
def ac1 (f : SV → Om → PhiE → Prop) : AC := fun xs Ω Φ => match xs with
  | [x] => f x Ω Φ
  | _ => False
def ac2 (f : SV → SV → Om → PhiE → Prop) : AC := fun xs Ω Φ => match xs with
  | [x, y] => f x y Ω Φ
  | _ => False
theorem ac1_ok {E : En} {r : List V → Hp → VK → Prop} {f : SV → Om → PhiE → Prop}
    (h : ∀ {x : SV} {Ω : Om} {Φ : PhiE}, f x Ω Φ → ∀ {P F H : Hp} {v : V} {Q : VK}, Ok E P F H Ω → Rp E.K F v x → Aft E P F Φ Q → r [v] H Q) : SnC E r (ac1 f) := by
  refine ⟨fun {xs Ω Φ} q {P F H vs Q} o rp k => ?_⟩
  unfold ac1 at q
  split at q
  · obtain ⟨v, rfl, r1⟩ := pr1 rp
    exact h q o r1 k
  · exact q.elim
theorem ac2_ok {E : En} {r : List V → Hp → VK → Prop} {f : SV → SV → Om → PhiE → Prop}
    (h : ∀ {x y : SV} {Ω : Om} {Φ : PhiE}, f x y Ω Φ → ∀ {P F H : Hp} {v u : V} {Q : VK}, Ok E P F H Ω → Rp E.K F v x → Rp E.K F u y → Aft E P F Φ Q → r [v, u] H Q) : SnC E r (ac2 f) := by
  refine ⟨fun {xs Ω Φ} q {P F H vs Q} o rp k => ?_⟩
  unfold ac2 at q
  split at q
  · obtain ⟨v, u, rfl, r1, r2⟩ := pr2 rp
    exact h q o r1 r2 k
  · exact q.elim
def fLen (x : SV) (Ω : Om) (Φ : PhiE) : Prop := match x with
  | .d (.str z) => z.length ≤ sizeLine ∧ Φ (.d (.int z.length)) Ω
  | x => rdS x Ω fun ds => Φ (.d (.int ds.length)) Ω
abbrev acLen : AC := ac1 fLen
theorem jc_len : JC X G (.builtin "len") acLen := by
  refine ⟨fun xs H Q => (∃ p ys, xs = [.ref p] ∧ (SqL X.K H p ys ∨ SqT X.K H p ys) ∧ Q (.int ys.length) H) ∨ ∃ z, xs = [.str z] ∧ z.length ≤ sizeLine ∧ Q (.int z.length) H, fun pins s σ H xs us Q I r h => ?_, ac1_ok fun {x Ω Φ} h {P F H v Q} o r k => ?_⟩
  · rcases h with h | h
    · exact call_len_seq pins s σ H xs us Q I r h
    · exact call_len_str pins s σ H xs us Q I r h
  · unfold fLen at h
    split at h
    · cases dqs r; exact Or.inr ⟨_, rfl, h.1, k h.2 o (Same.refl F) (.int _)⟩
    · obtain ⟨p, vs, ds, rfl, hs, da, q⟩ := rdS_ok h o r
      refine Or.inl ⟨p, vs, rfl, hs, k q o (Same.refl F) ?_⟩
      rw [dqa_len da]
      exact .int _
def fI1 (g : Int → Int) (x : SV) (Ω : Om) (Φ : PhiE) : Prop := match x with
  | .d (.int i) => Φ (.d (.int (g i))) Ω
  | _ => False
abbrev acAbs : AC := ac1 (fI1 fun i => if i < 0 then -i else i)
theorem jc_abs : JC X G (.builtin "abs") acAbs := by
  refine ⟨_, call_abs, ac1_ok fun {x Ω Φ} h {P F H v Q} o r k => ?_⟩
  unfold fI1 at h
  split at h
  · cases dqi r; exact ⟨_, rfl, k h o (Same.refl F) (.int _)⟩
  · exact h.elim
def fInt (x : SV) (Ω : Om) (Φ : PhiE) : Prop := match x with
  | .d (.int i) => Φ (.d (.int i)) Ω
  | .d (.bool b) => Φ (.d (.int (if b then 1 else 0))) Ω
  | _ => False
abbrev acInt : AC := ac1 fInt
theorem jc_int : JC X G (.type "int") acInt := by
  refine ⟨_, call_int1, ac1_ok fun {x Ω Φ} h {P F H v Q} o r k => ?_⟩
  unfold fInt at h
  split at h
  · cases dqi r; exact Or.inl ⟨_, rfl, k h o (Same.refl F) (.int _)⟩
  · cases dqb r; exact Or.inr ⟨_, rfl, k h o (Same.refl F) (.int _)⟩
  · exact h.elim
def fI2 (g : Int → Int → Int) (x y : SV) (Ω : Om) (Φ : PhiE) : Prop := match x, y with
  | .d (.int i), .d (.int j) => Φ (.d (.int (g i j))) Ω
  | _, _ => False
abbrev acMax2 : AC := ac2 (fI2 fun i j => if j > i then j else i)
abbrev acMin2 : AC := ac2 (fI2 fun i j => if j < i then j else i)
theorem jc_max2 (hc : X.calm = true) : JC X G (.builtin "max") acMax2 := by
  refine ⟨_, call_max2 hc, ac2_ok fun {x y Ω Φ} h {P F H v u Q} o r1 r2 k => ?_⟩
  unfold fI2 at h
  split at h
  · cases dqi r1; cases dqi r2; exact ⟨_, _, rfl, k h o (Same.refl F) (.int _)⟩
  · exact h.elim
theorem jc_min2 (hc : X.calm = true) : JC X G (.builtin "min") acMin2 := by
  refine ⟨_, call_min2 hc, ac2_ok fun {x y Ω Φ} h {P F H v u Q} o r1 r2 k => ?_⟩
  unfold fI2 at h
  split at h
  · cases dqi r1; cases dqi r2; exact ⟨_, _, rfl, k h o (Same.refl F) (.int _)⟩
  · exact h.elim
/-- tuple(x), list(x) of lists and tuples -/
def fTupOf (x : SV) (Ω : Om) (Φ : PhiE) : Prop := match x with
  | .d (.tuple ds) => Φ (.d (.tuple ds)) Ω
  | .l ds => Φ (.d (.tuple ds)) Ω
  | x => rdL x Ω fun ds => Φ (.d (.tuple ds)) Ω
abbrev acTupOf : AC := ac1 fTupOf
theorem jc_tupleOf : JC X G (.type "tuple") acTupOf := by
  refine ⟨_, call_tuple_of, ac1_ok fun {x Ω Φ} h {P F H v Q} o r k => ?_⟩
  have fin : ∀ {p : Addr} {vs : List V} {ds : List PyData}, DqAll X.K F vs ds → Φ (.d (.tuple ds)) Ω → ∀ l, H l = none → Q (.ref l) (upd H l (.tup vs)) := fun {p vs ds} da q l hl => by
    obtain ⟨o1, s1⟩ := o.newF (o := .tup vs) hl
    exact k q o1 s1 (Dq.tup (SqT.of upd_same) (dqa_same s1 _ _ da))
  unfold fTupOf at h
  split at h
  · obtain ⟨p, vs, rfl, hF, da⟩ := dqt r
    exact ⟨p, vs, rfl, Or.inr ⟨sqt_same o.ex hF, k h o (Same.refl F) r⟩⟩
  · obtain ⟨p, vs, rfl, hF, da⟩ := r
    exact ⟨p, vs, rfl, Or.inl ⟨o.ex.seq hF, fin (p := p) da h⟩⟩
  · obtain ⟨p, vs, ds, rfl, hs, da, q⟩ := rdL_ok h o r
    exact ⟨p, vs, rfl, Or.inl ⟨SqL.of hs, fin (p := p) da q⟩⟩
def fLstOf (m : Mode) (x : SV) (Ω : Om) (Φ : PhiE) : Prop := rdS x Ω fun ds => newL m ds Ω Φ
abbrev acLstOf (m : Mode) : AC := ac1 (fLstOf m)
theorem jc_listOf (hm : MOk (enX X G) m) : JC X G (.type "list") (acLstOf m) := by
  refine ⟨_, call_list_of, ac1_ok fun {x Ω Φ} h {P F H v Q} o r k => ?_⟩
  obtain ⟨p, vs, ds, rfl, hs, da, q⟩ := rdS_ok h o r
  exact ⟨p, vs, rfl, hs, fun l hl => newL_ok hm o da q k hl⟩
/-- list(range(n)), list(range(a, b)) -/
def rgD (a b : Int) : List PyData := (List.range (b - a).toNat).map fun i => PyData.int (a + (i : Nat))
theorem dqa_rg {K : Frag} {F : Hp} (a b : Int) : DqAll K F (rgV a b) (rgD a b) := by
  unfold rgV rgD
  generalize List.range (b - a).toNat = l
  induction l with
  | nil => exact .nil
  | cons i l ih => exact .cons (.int _) ih
abbrev ARg := Rho → Om → (Int → Int → Om → Prop) → Prop
def aRg1 (a : AE) : ARg := fun ρ Ω Φ => a ρ Ω fun x Ω' => match x with | .d (.int n) => Φ 0 n Ω' | _ => False
def aRg2 (a b : AE) : ARg := fun ρ Ω Φ => a ρ Ω fun x Ω1 => b ρ Ω1 fun y Ω2 => match x, y with | .d (.int i), .d (.int j) => Φ i j Ω2 | _, _ => False
structure SnRg (E : En) (te : L2.St → Hp → (Int → Int → Hp → Prop) → Prop) (a : ARg) : Prop where
  go : ∀ {ρ : Rho} {Ω : Om} {Φ : Int → Int → Om → Prop}, a ρ Ω Φ → ∀ {P F H : Hp} {σ : L2.St} {Q : Int → Int → Hp → Prop}, Ok E P F H Ω → RpE E.K F σ ρ →
    (∀ {i j : Int} {Ω' : Om} {F' H' : Hp}, Φ i j Ω' → Ok E P F' H' Ω' → Same F F' → Q i j H') → te σ H Q
def JRg (X : Cx) (G : Gn) (e : Expr) (a : ARg) : Prop := ∃ te, PRg X e te ∧ SnRg (enX X G) te a
theorem jrg_1 {p : Pos} (hg : Gl X "range") (hm : X.mg "range" = none) (ha : JE X G a aa) (na : starEach [a] X.env = (false, eval a X.env) :: starEach [] X.env := by rfl) : JRg X G (.Call (.Name "range" p) [a] [] pos) (aRg1 aa) := by
  obtain ⟨t, h1, h2⟩ := ha
  refine ⟨_, prg_1 hg hm h1 na, ⟨fun {ρ Ω Φ} h {P F H σ Q} o rp k => h2.go h o rp fun {v sv Ω1 F1 H1} q o1 s1 r1 => ?_⟩⟩
  dsimp only at q
  split at q
  · exact ⟨_, dqi r1, k q o1 s1⟩
  · exact q.elim
theorem jrg_2 {p : Pos} (hg : Gl X "range") (hm : X.mg "range" = none) (ha : JE X G a aa) (hb : JE X G b ab) (na : starEach [a, b] X.env = (false, eval a X.env) :: starEach [b] X.env := by rfl) (nb : starEach [b] X.env = (false, eval b X.env) :: starEach [] X.env := by rfl) (hp : (backTo pos (starEach [b] X.env)).any (·.1) = false := by rfl) : JRg X G (.Call (.Name "range" p) [a, b] [] pos) (aRg2 aa ab) := by
  obtain ⟨t, h1, h2⟩ := ha
  obtain ⟨u, h3, h4⟩ := hb
  refine ⟨_, prg_2 hg hm h1 h3 na nb hp, ⟨fun {ρ Ω Φ} h {P F H σ Q} o rp k => h2.go h o rp fun {v sv Ω1 F1 H1} q o1 s1 r1 => h4.go q o1 (rpe_same s1 rp) fun {v2 sv2 Ω2 F2 H2} q2 o2 s2 r2 => ?_⟩⟩
  dsimp only at q2
  split at q2
  · exact ⟨_, _, dqi (r1.same s2), dqi r2, k q2 o2 (s1.trans s2)⟩
  · exact q2.elim
def aLstRg (m : Mode) (a : ARg) : AE := fun ρ Ω Φ => a ρ Ω fun i j Ω' => RgOk i j ∧ newL m (rgD i j) Ω' Φ
theorem je_listRg {ar : ARg} {p : Pos} (hm : MOk (enX X G) m) (hc : X.calm = true) (hg : Gl X "list") (hmg : X.mg "list" = none) (ha : JRg X G e ar) (na : starEach [e] X.env = (false, eval e X.env) :: starEach [] X.env := by rfl) : JE X G (.Call (.Name "list" p) [e] [] pos) (aLstRg m ar) := by
  obtain ⟨t, h1, h2⟩ := ha
  exact ⟨_, pe_listRg hc hg hmg h1 na, ⟨fun {ρ Ω Φ} h {P F H σ Q} o rp k => h2.go h o rp fun {i j Ω1 F1 H1} q o1 s1 => ⟨q.1, fun p hp => newL_ok hm o1 (dqa_rg i j) q.2 (fun q2 o2 s2 r2 => k q2 o2 (s1.trans s2) r2) hp⟩⟩⟩
/-- sum, max, min of a list of ints; all, any of bools -/
def intsOf : List PyData → Option (List Int)
  | [] => some []
  | .int i :: r => match intsOf r with | some ns => some (i :: ns) | none => none
  | _ :: _ => none
theorem intsOf_ok : ∀ {ds : List PyData} {ns : List Int}, intsOf ds = some ns → ds = ns.map PyData.int
  | [], ns, h => by cases h; rfl
  | .int i :: r, ns, h => by
    unfold intsOf at h
    cases e : intsOf r with
    | none => rw [e] at h; cases h
    | some ms => rw [e] at h; cases h; rw [intsOf_ok e]; rfl
  | .none :: r, ns, h => by cases h
  | .bool b :: r, ns, h => by cases h
  | .str b :: r, ns, h => by cases h
  | .list b :: r, ns, h => by cases h
  | .tuple b :: r, ns, h => by cases h
  | .dict b :: r, ns, h => by cases h
def fSum (x : SV) (Ω : Om) (Φ : PhiE) : Prop := ∃ ns : List Int, rdS x Ω fun ds => (match x with | .d (.tuple _) => False | _ => True) ∧ ds = ns.map PyData.int ∧ Φ (.d (.int ns.sum)) Ω
theorem rdL_of_S {x : SV} {Ω : Om} {k : List PyData → Prop} (h : rdS x Ω fun ds => (match x with | .d (.tuple _) => False | _ => True) ∧ k ds) {E : En} {P F H : Hp} {v : V} (o : Ok E P F H Ω) (r : Rp E.K F v x) :
    ∃ a vs ds, v = .ref a ∧ SqL E.K H a vs ∧ DqAll E.K F vs ds ∧ k ds := by
  obtain ⟨a, vs, ds, rfl, hs, da, h1, h2⟩ := rdS_ok h o r
  rcases hs with hs | hs
  · exact ⟨a, vs, ds, rfl, hs, da, h2⟩
  · unfold rdS at h
    split at h
    · obtain ⟨a', xs, e, hF, ha⟩ := dql r
      cases e
      exact ⟨_, xs, _, rfl, SqL.of (o.ex _ _ hF), ha, h.2⟩
    · exact h1.elim
    · obtain ⟨a', xs, e, hF, ha⟩ := r
      cases e
      exact ⟨_, xs, _, rfl, o.ex.seq hF, ha, h.2⟩
    · obtain ⟨ds', f, t, hk⟩ := h
      obtain ⟨vs', h1, h2⟩ := o.lst t
      cases r
      exact ⟨_, vs', _, rfl, SqL.of h1, h2, hk.2⟩
    · exact h.elim
theorem jc_sum (hc : X.calm = true) : JC X G (.builtin "sum") (ac1 fSum) := by
  refine ⟨_, cr_sum hc, ac1_ok fun {x Ω Φ} h {P F H v Q} o r k => ?_⟩
  obtain ⟨ns, h⟩ := h
  obtain ⟨a, vs, ds, rfl, hs, da, rfl, q⟩ := rdL_of_S h o r
  rw [dqa_ints da] at hs
  exact ⟨a, ns, rfl, hs, k q o (Same.refl F) (.int _)⟩
def fAll (x : SV) (Ω : Om) (Φ : PhiE) : Prop := ∃ bs : List Bool, rdS x Ω fun ds => (match x with | .d (.tuple _) => False | _ => True) ∧ ds = bs.map PyData.bool ∧ Φ (.d (.bool (bs.all id))) Ω
def fAny (x : SV) (Ω : Om) (Φ : PhiE) : Prop := ∃ bs : List Bool, rdS x Ω fun ds => (match x with | .d (.tuple _) => False | _ => True) ∧ ds = bs.map PyData.bool ∧ Φ (.d (.bool (bs.any id))) Ω
theorem jc_all (hc : X.calm = true) : JC X G (.builtin "all") (ac1 fAll) := by
  refine ⟨_, cr_all hc, ac1_ok fun {x Ω Φ} h {P F H v Q} o r k => ?_⟩
  obtain ⟨ns, h⟩ := h
  obtain ⟨a, vs, ds, rfl, hs, da, rfl, q⟩ := rdL_of_S h o r
  rw [dqa_bools da] at hs
  exact ⟨a, ns, rfl, hs, k q o (Same.refl F) (.bl _)⟩
theorem jc_any (hc : X.calm = true) : JC X G (.builtin "any") (ac1 fAny) := by
  refine ⟨_, cr_any hc, ac1_ok fun {x Ω Φ} h {P F H v Q} o r k => ?_⟩
  obtain ⟨ns, h⟩ := h
  obtain ⟨a, vs, ds, rfl, hs, da, rfl, q⟩ := rdL_of_S h o r
  rw [dqa_bools da] at hs
  exact ⟨a, ns, rfl, hs, k q o (Same.refl F) (.bl _)⟩
/-- sorted of ints -/
def fSorted (m : Mode) (x : SV) (Ω : Om) (Φ : PhiE) : Prop := ∃ ns : List Int, rdS x Ω fun ds => (match x with | .d (.tuple _) => False | _ => True) ∧ ds = ns.map PyData.int ∧ ∀ ms : List Int, ms.Perm ns → ms.Pairwise (· ≤ ·) → newL m (ms.map PyData.int) Ω Φ
theorem jc_sorted (hm : MOk (enX X G) m) : JC X G (.builtin "sorted") (ac1 (fSorted m)) := by
  refine ⟨_, cr_sortedI, ac1_ok fun {x Ω Φ} h {P F H v Q} o r k => ?_⟩
  obtain ⟨ns, h⟩ := h
  obtain ⟨a, vs, ds, rfl, hs, da, rfl, q⟩ := rdL_of_S h o r
  rw [dqa_ints da] at hs
  exact ⟨a, ns, rfl, hs, fun ms p h1 h2 hp => newL_ok hm o (ints_dqa ms) (q ms h1 h2) k hp⟩
/-- isinstance(x, T) for a built-in T -/
def tyD : SV → Option String
  | .d .none => some "NoneType"
  | .d (.bool _) => some "bool"
  | .d (.int _) => some "int"
  | .d (.str _) => some "str"
  | .d (.list _) => some "list"
  | .d (.tuple _) => some "tuple"
  | _ => none
theorem tyX_of {E : En} {P F H : Hp} {Ω : Om} (o : Ok E P F H Ω) : ∀ {x : SV} {v : V} {t : String}, Rp E.K F v x → tyD x = some t → TyX E.K H v (.type t)
  | .d .none, v, t, r, e => by cases dqn r; cases e; exact .base .non
  | .d (.bool b), v, t, r, e => by cases dqb r; cases e; exact .base (.bl b)
  | .d (.int b), v, t, r, e => by cases dqi r; cases e; exact .base (.int b)
  | .d (.str b), v, t, r, e => by cases dqs r; cases e; exact .base (.str b)
  | .d (.list b), v, t, r, e => by
    obtain ⟨a, xs, rfl, hF, _⟩ := dql r
    cases e
    exact .base (.lst (o.ex _ _ hF))
  | .d (.tuple b), v, t, r, e => by
    obtain ⟨a, xs, rfl, hF, _⟩ := dqt r
    cases e
    rcases sqt_same o.ex hF with (h | ⟨ob, h⟩) | ⟨ob, its, n, h, hc, _⟩
    · exact .base (.tup h)
    · exact .fTuple h
    · exact .kTuple h hc
  | .d (.dict b), v, t, r, e => by cases e
  | .l ds, v, t, r, e => by cases e
  | .r u, v, t, r, e => by cases e
def fIsi (x y : SV) (Ω : Om) (Φ : PhiE) : Prop := match y with
  | .r (.ty n) => ∃ t b, tyD x = some t ∧ L2.kitB t n = some b ∧ Φ (.d (.bool b)) Ω
  | _ => False
theorem jc_isi : JC X G (.builtin "isinstance") (ac2 fIsi) := by
  refine ⟨_, call_isi, ac2_ok fun {x y Ω Φ} h {P F H v u Q} o r1 r2 k => ?_⟩
  unfold fIsi at h
  split at h
  · obtain ⟨t, b, h1, h2, h3⟩ := h
    cases (show u = _ from r2)
    exact ⟨_, _, _, _, b, rfl, ClsV.ty _, tyX_of o r1 h1, kit_ty h2, k h3 o (Same.refl F) (.bl b)⟩
  · exact h.elim
/-- math.gcd -/
theorem jc_gcd : JC X G (.builtin "math.gcd") (ac2 (fI2 fun i j => ((Nat.gcd i.natAbs j.natAbs : Nat) : Int))) := by
  refine ⟨_, cr_gcd, ac2_ok fun {x y Ω Φ} h {P F H v u Q} o r1 r2 k => ?_⟩
  unfold fI2 at h
  split at h
  · cases dqi r1; cases dqi r2; exact ⟨_, _, rfl, k h o (Same.refl F) (.int _)⟩
  · exact h.elim
/-- repr of data -/
def fRepr (x : SV) (Ω : Om) (Φ : PhiE) : Prop := rdD x Ω fun d => d.showable = true ∧ d.hasDict = false ∧ d.depth ≤ 60 ∧ d.shown.length ≤ sizeLine ∧ Φ (.d (.str d.shown)) Ω
theorem call_reprD (hu : X.A.units + 64 < cLine) (hgd : X.A.guards = some []) : CallR X (.builtin "repr") (fun xs H Q => ∃ v d, xs = [v] ∧ Dp X.K H v d ∧ d.showable = true ∧ d.hasDict = false ∧ d.depth ≤ 60 ∧ d.shown.length ≤ sizeLine ∧ Q (.str d.shown) H) := by
  intro pins s σ H xs us Q I r h
  obtain ⟨v, d, rfl, hd, h1, h2, h3, h4, q⟩ := h
  obtain ⟨u, rfl, ru⟩ := vals1 r
  have big : ∀ {p : Addr} {as : List Addr}, Reads s.heap (.ref p) d as → u = .ref p → wpAny (model X.prog X.w) X.A (call (.builtin "repr") [u]) (EP X pins σ Q) X.xe s := fun {p as} rd e => by
    rw [e]
    exact repr_of_reads' rd h1 (PyData.noDict_hsm h2) hgd (by omega) (fun _ _ e => e) (fun h' u tk hk => ⟨.str d.shown, H, I.kept hk, ⟨_, rfl⟩, q⟩) h4
  cases d with
  | none =>
    cases hd
    cases ru
    exact PySem.P.repr_of_none ⟨.str _, H, I.tok _, ⟨_, rfl⟩, by simpa only [PyData.shown] using q⟩
  | bool b =>
    cases hd
    cases ru
    exact PySem.P.repr_of_bool ⟨.str _, H, I.tok _, ⟨_, rfl⟩, by simpa only [PyData.shown] using q⟩
  | int i =>
    cases hd
    obtain ⟨t, rfl⟩ := ru
    exact PySem.P.repr_of_int (by simpa [PyData.showable] using h1) ⟨.str _, H, I.tok _, ⟨_, rfl⟩, by simpa only [PyData.shown] using q⟩
  | str x =>
    cases hd
    obtain ⟨t, rfl⟩ := ru
    exact PySem.P.repr_of_str ⟨.str _, H, I.tok _, ⟨_, rfl⟩, by simpa only [PyData.shown] using q⟩ (by simpa only [PyData.shown] using h4)
  | list ds =>
    obtain ⟨as, rd⟩ := Dp.reads I _ v u hd ru
    cases hd with
    | lst _ _ => cases ru; exact big rd rfl
  | tuple ds =>
    obtain ⟨as, rd⟩ := Dp.reads I _ v u hd ru
    cases hd with
    | tup _ _ => cases ru; exact big rd rfl
  | dict kvs => cases hd
theorem jc_repr (hu : X.A.units + 64 < cLine) (hgd : X.A.guards = some []) : JC X G (.builtin "repr") (ac1 fRepr) := by
  refine ⟨_, call_reprD hu hgd, ac1_ok fun {x Ω Φ} h {P F H v Q} o r k => ?_⟩
  obtain ⟨d, hd, h1, h2, h3, h4, q⟩ := rdD_ok h o r
  exact ⟨v, d, rfl, hd, h1, h2, h3, h4, k q o (Same.refl F) (.str _)⟩
/-! ### methods of lists -/
def isLs (x : SV) (Ω : Om) : Prop := match x with
  | .d (.list _) => True
  | .r (.ref a) => ∃ c f, At Ω a c f ∧ (match c with | .lst _ => True | .lx _ => True | _ => False)
  | _ => False
theorem isLs_ok {E : En} {P F H : Hp} {Ω : Om} {x : SV} {v : V} (h : isLs x Ω) (o : Ok E P F H Ω) (r : Rp E.K F v x) : tyV E.K "list" v H := by
  unfold isLs at h
  split at h
  · obtain ⟨a, xs, rfl, hF, _⟩ := dql r
    exact Or.inl ⟨rfl, _, SqL.of (o.ex _ _ hF)⟩
  · obtain ⟨c, f, t, hc⟩ := h
    cases (show v = _ from r)
    split at hc
    · obtain ⟨vs, h1, _⟩ := o.lst t
      exact Or.inl ⟨rfl, _, SqL.of h1⟩
    · obtain ⟨vs, h1, _⟩ := o.lx t
      exact Or.inl ⟨rfl, _, SqL.of h1⟩
    · exact hc.elim
  · exact h.elim
def aMl (am : AM) (a : AE) (t : AA) : AE := fun ρ Ω Φ => a ρ Ω fun x Ω1 => isLs x Ω1 ∧ t ρ Ω1 fun xs Ω2 => am x xs Ω2 Φ
def aMl0 (am : AM) (a : AE) : AE := fun ρ Ω Φ => a ρ Ω fun x Ω1 => isLs x Ω1 ∧ am x [] Ω1 Φ
theorem je_ml {name : Str} {id : String} {am : AM} {es : List Expr} {apos cpos : Pos} (slot : Slot "list" name id) (hty : typeOf (.builtin id) = pure (.type "method_descriptor")) (hm : JM X G id am) (ha : JE X G a aa) (ht : JA X G (e :: es) ta)
    (hbase : attributeBase a name X.env (eval a X.env) = eval a X.env := by rfl)
    (hfew : ((backTo cpos (starEach (e :: es) X.env)).all (fun x => !x.1) && (backToKw cpos (keywordEach [] X.env)).all (fun x => x.1.isSome)
      && decide ((e :: es).length + ([] : List Keyword).length + (if ([] : List Keyword).isEmpty then 0 else 1) < 30)) = true := by rfl)
    (hline : (apos.endLine == cpos.line) = true := by rfl) (hs : starEach (e :: es) X.env = (false, eval e X.env) :: starEach es X.env := by rfl) (hplain : (backTo cpos (starEach es X.env)).any (·.1) = false := by rfl) :
    JE X G (.Call (.Attribute a name apos) (e :: es) [] cpos) (aMl am aa ta) := by
  obtain ⟨r, h1, h2⟩ := hm
  obtain ⟨t, h3, h4⟩ := ha
  obtain ⟨u, h5, h6⟩ := ht
  refine ⟨_, pe_bm PySem.F.plainAttrs_list slot hty h1 h3 h5 hbase hfew hline hs hplain, ⟨fun {ρ Ω Φ} h {P F H σ Q} o rp k => h4.go h o rp fun {v sv Ω1 F1 H1} q o1 s1 r1 => ⟨isLs_ok q.1 o1 r1, ?_⟩⟩⟩
  exact h6.go q.2 o1 (rpe_same s1 rp) fun q2 o2 s2 r2 => h2.go q2 o2 (r1.same s2) r2 fun q3 o3 s3 r3 => k q3 o3 ((s1.trans s2).trans s3) r3
theorem je_ml0 {name : Str} {id : String} {am : AM} {apos cpos : Pos} (slot : Slot "list" name id) (hty : typeOf (.builtin id) = pure (.type "method_descriptor")) (hm : JM X G id am) (ha : JE X G a aa)
    (hbase : attributeBase a name X.env (eval a X.env) = eval a X.env := by rfl) (hline : (apos.endLine == cpos.line) = true := by rfl) : JE X G (.Call (.Attribute a name apos) [] [] cpos) (aMl0 am aa) := by
  obtain ⟨r, h1, h2⟩ := hm
  obtain ⟨t, h3, h4⟩ := ha
  refine ⟨_, pe_bm0 PySem.F.plainAttrs_list slot hty h1 h3 hbase hline, ⟨fun {ρ Ω Φ} h {P F H σ Q} o rp k => h4.go h o rp fun {v sv Ω1 F1 H1} q o1 s1 r1 => ⟨isLs_ok q.1 o1 r1, ?_⟩⟩⟩
  exact h2.go q.2 o1 r1 .nil fun q3 o3 s3 r3 => k q3 o3 (s1.trans s3) r3
/-- xs.append(y) -/
def amAppend : AM := fun x xs Ω Φ => match x, xs with
  | .r (.ref p), [y] => ∃ c f, At Ω p c f ∧ (match c, y with
    | .lst ds, .d d => ds.length < sizeLine ∧ Φ (.d .none) (f (.lst (ds ++ [d])))
    | .lx ys, y => ys.length < sizeLine ∧ Φ (.d .none) (f (.lx (ys ++ [y])))
    | .lst ds, y => ds.length < sizeLine ∧ Φ (.d .none) (f (.lx (ds.map SV.d ++ [y])))
    | _, _ => False)
  | _, _ => False
theorem jm_append : JM X G "list.append" amAppend := by
  refine ⟨_, mt_append, ⟨fun {x xs Ω Φ} h {P F H v vs Q} o r rs k => ?_⟩⟩
  unfold amAppend at h
  split at h
  · rename_i p y
    obtain ⟨c, f, t, h⟩ := h
    cases (show v = _ from r)
    obtain ⟨u, rfl, ru⟩ := pr1 rs
    split at h
    · obtain ⟨ws, h1, h2⟩ := o.lst t
      exact ⟨p, ws, u, rfl, rfl, h1, by rw [dqa_len h2]; exact h.1, k h.2 (o.put t (dqa_app h2 (.cons ru .nil))) (Same.refl F) .non⟩
    · obtain ⟨ws, h1, h2⟩ := o.lx t
      exact ⟨p, ws, u, rfl, rfl, h1, by rw [h2.length]; exact h.1, k h.2 (o.put t (pr_app h2 (.cons ru .nil))) (Same.refl F) .non⟩
    · obtain ⟨ws, h1, h2⟩ := o.lst t
      exact ⟨p, ws, u, rfl, rfl, h1, by rw [dqa_len h2]; exact h.1, k h.2 (o.put t (pr_app (of_dqa h2) (.cons ru .nil))) (Same.refl F) .non⟩
    · exact h.elim
  · exact h.elim
/-- xs.pop(), xs.pop(i) -/
def amPop : AM := fun x xs Ω Φ => match x, xs with
  | .r (.ref p), [] => ∃ ds f, At Ω p (.lst ds) f ∧ ∃ d, ds[ds.length - 1]? = some d ∧ Φ (.d d) (f (.lst ds.dropLast))
  | .r (.ref p), [.d (.int i)] => ∃ ds f, At Ω p (.lst ds) f ∧ ∃ d, 0 ≤ i ∧ i < 2 ^ 63 ∧ ds[i.toNat]? = some d ∧ Φ (.d d) (f (.lst (ds.eraseIdx i.toNat)))
  | _, _ => False
theorem dqa_dropLast {K : Frag} {F : Hp} {vs : List V} {ds : List PyData} (h : DqAll K F vs ds) : DqAll K F vs.dropLast ds.dropLast := by
  rw [List.dropLast_eq_take, List.dropLast_eq_take, dqa_len h]
  exact dqa_take _ h
theorem jm_pop : JM X G "list.pop" amPop := by
  refine ⟨_, MtR.or mt_pop mt_popAt, ⟨fun {x xs Ω Φ} h {P F H v vs Q} o r rs k => ?_⟩⟩
  unfold amPop at h
  split at h
  · obtain ⟨ds, f, t, d, e, q⟩ := h
    cases (show v = _ from r)
    cases rs
    obtain ⟨ws, h1, h2⟩ := o.lst t
    obtain ⟨u, e2, ru⟩ := dqa_get h2 e
    rw [← dqa_len h2] at e2
    exact Or.inl ⟨_, ws, u, rfl, rfl, h1, e2, k q (o.put t (dqa_dropLast h2)) (Same.refl F) ru⟩
  · rename_i p i
    obtain ⟨ds, f, t, d, h0, h63, e, q⟩ := h
    cases (show v = _ from r)
    obtain ⟨u, rfl, ru⟩ := pr1 rs
    cases dqi ru
    obtain ⟨ws, h1, h2⟩ := o.lst t
    obtain ⟨u, e2, ru⟩ := dqa_get h2 e
    have hlt : i.toNat < ws.length := (List.getElem?_eq_some_iff.mp e2).1
    exact Or.inr ⟨_, ws, i, i.toNat, u, rfl, rfl, h1, by omega, h63, by first | exact seqIndex_of h0 (by omega) | (unfold seqIndex?; simp; omega), e2, k q (o.put t (dqa_erase _ h2)) (Same.refl F) ru⟩
  · exact h.elim
/-- xs.extend(ys) -/
def amExtend : AM := fun x xs Ω Φ => match x, xs with
  | .r (.ref p), [y] => ∃ ds f, At Ω p (.lst ds) f ∧ rdL y Ω fun es => ds.length + es.length ≤ sizeLine ∧ Φ (.d .none) (f (.lst (ds ++ es)))
  | _, _ => False
theorem jm_extend : JM X G "list.extend" amExtend := by
  refine ⟨_, mt_extend, ⟨fun {x xs Ω Φ} h {P F H v vs Q} o r rs k => ?_⟩⟩
  unfold amExtend at h
  split at h
  · obtain ⟨ds, f, t, h⟩ := h
    cases (show v = _ from r)
    obtain ⟨u, rfl, ru⟩ := pr1 rs
    obtain ⟨ws, h1, h2⟩ := o.lst t
    obtain ⟨b, us, es, rfl, h3, h4, h5, q⟩ := rdL_ok h o ru
    exact ⟨_, b, ws, us, rfl, rfl, h1, h3, by rw [dqa_len h2, dqa_len h4]; exact h5, k q (o.put t (dqa_app h2 h4)) (Same.refl F) .non⟩
  · exact h.elim
end
end Z
/-! Z5: calls of defs by contracts; what a for walks; targets; statements; comprehensions; a def by its body. -/
namespace Z
open PySem PySem.Spec PyProof.Rows L2
/-! ### contracts -/
abbrev XI := Value × Option (List (Str × SV))
abbrev XA := XI → Om → Prop
abbrev Con := List SV → Om → PhiE → XA → Prop
def RpX (K : Frag) (F H : Hp) (cls : Value) (d : Option Addr) (x : XI) : Prop := cls = x.1 ∧ match d, x.2 with
  | none, none => True
  | some a, some fs => ∃ gs, H a = some (.xd gs) ∧ Paired (fun p q => p.1 = q.1 ∧ Rp K F p.2 q.2) gs fs
  | _, _ => False
def spOf (K : Frag) (T : Con) : Sp := fun vs H Q Ex => ∃ (P F : Hp) (Ω : Om) (svs : List SV) (Φ : PhiE) (Ξ : XA), Ok ⟨⟨F, H, P⟩, K⟩ P F H Ω ∧ Paired (Rp K F) vs svs ∧ T svs Ω Φ Ξ ∧
  (∀ v sv Ω' P' F' H', Φ sv Ω' → Ok ⟨⟨F, H, P⟩, K⟩ P' F' H' Ω' → Rp K F' v sv → Q v H') ∧ (∀ x Ω' P' F' H' cls d, Ξ x Ω' → Ok ⟨⟨F, H, P⟩, K⟩ P' F' H' Ω' → RpX K F' H' cls d x → Ex cls d H')
abbrev Ari (T : Con) (n : Nat) : Prop := ∀ svs Ω Φ Ξ, T svs Ω Φ Ξ → svs.length = n
/-- no exception is wished for -/
abbrev xno : Rho → XA := fun _ _ _ => False
def XOk (X : Cx) (G : Gn) (E : L2.St → XK) (Ξ : Rho → XA) : Prop := ∀ {σ : L2.St} {ρ : Rho} {x : XI} {Ω : Om} {P F H : Hp} {cls : Value} {d : Option Addr}, Ξ ρ x Ω → Ok (enX X G) P F H Ω → RpE X.K F σ ρ → RpX X.K F H cls d x → E σ cls d H
theorem xok0 {X : Cx} {G : Gn} {E : L2.St → XK} : XOk X G E xno := fun h => h.elim
section
variable {X : Cx} {G : Gn} {e a b : Expr} {aa ab : AE} {at_ bt : AT} {ta tb : AA} {pos : Pos} {m : Mode}
variable {CX : CXT} {k : Nat} {f : Addr} {fd : FuncData} {ps ks : List Str} {T : Con} {E : L2.St → XK} {Ξ : Rho → XA} {x : Str} {p : Pos} {es : List Expr} {kws : List Keyword}
def aCall (T : Con) (Ξ : Rho → XA) (t : AA) : AE := fun ρ Ω Φ => t ρ Ω fun svs Ω' => T svs Ω' Φ (Ξ ρ)
theorem enter_sp {P F H : Hp} {Ω : Om} {vs : List V} {svs : List SV} {Φ : PhiE} {Q : VK} {σ : L2.St} {ρ : Rho} (o : Ok (enX X G) P F H Ω) (r : Paired (Rp X.K F) vs svs) (rp : RpE X.K F σ ρ) (hE : XOk X G E Ξ) (h : T svs Ω Φ (Ξ ρ))
    (k : Aft (enX X G) P F Φ Q) : spOf X.K T vs H Q (E σ) := by
  refine ⟨P, F, Ω, svs, Φ, Ξ ρ, o.enter, r, h, fun v sv Ω' P' F' H' q o' r' => k q (o.leave o') o'.f0 r', fun x Ω' P' F' H' cls d q o' r' => ?_⟩
  exact hE q (o.leave o') (rpe_same o'.f0 rp) r'
theorem je_call (F : FnG X.prog X.w X.K X.mg X.base CX k f fd ps (spOf X.K T)) (hr : Room k X.A) (hgd : X.A.guards = some []) (hg : Gl X x) (hm : X.mg x = some (.ref f)) (hk : PySem.W.keepIn X.K (.ref f) = true)
    (hb : Binds X.K fd ps []) (hx : ∀ σ, PassAt CX X σ (E σ)) (hE : XOk X G E Ξ) (ha : JA X G (e :: es) ta) (hdb : (x == ("__debug__" : Str)) = false := by decide)
    (he : starEach (e :: es) X.env = (false, eval e X.env) :: starEach es X.env := by rfl) (hpl : (backTo pos (starEach es X.env)).any (·.1) = false := by rfl) :
    JE X G (.Call (.Name x p) (e :: es) [] pos) (aCall T Ξ ta) := by
  obtain ⟨t, h1, h2⟩ := ha
  exact ⟨_, pg_call F hr hgd hg hm hk hb hx h1 hdb he hpl, ⟨fun {ρ Ω Φ} h {P F H σ Q} o rp k => h2.go h o rp fun q o1 s1 r1 => enter_sp o1 r1 (rpe_same s1 rp) hE q fun q2 o2 s2 r2 => k q2 o2 (s1.trans s2) r2⟩⟩
theorem je_call0 (F : FnG X.prog X.w X.K X.mg X.base CX k f fd ps (spOf X.K T)) (hr : Room k X.A) (hgd : X.A.guards = some []) (hg : Gl X x) (hm : X.mg x = some (.ref f)) (hk : PySem.W.keepIn X.K (.ref f) = true)
    (hb : Binds X.K fd ps []) (hx : ∀ σ, PassAt CX X σ (E σ)) (hE : XOk X G E Ξ) (hdb : (x == ("__debug__" : Str)) = false := by decide) : JE X G (.Call (.Name x p) [] [] pos) (aCall T Ξ aNil) :=
  ⟨_, pg_call0 F hr hgd hg hm hk hb hx hdb, ⟨fun {ρ Ω Φ} h {P F H σ Q} o rp k => enter_sp o .nil rp hE h k⟩⟩
/-! ### calls with keywords: π tells where each parameter's value stands among the positional ones and the keywords' -/
def gP {α : Type} (d : α) (n m : Nat) (π : List Nat) (us ws : List α) : List α := if us.length = n ∧ ws.length = m then π.map fun i => (us ++ ws).getD i d else []
def KArg (K : Frag) (fd : FuncData) (ps ks : List Str) (n : Nat) (π : List Nat) : Prop := ∀ (s : Shared) (us ws : List Value), K.In s.heap → us.length = n → ws.length = ks.length → BindsTo s fd ⟨us, ks.zip ws⟩ (ps.zip (π.map fun i => (us ++ ws).getD i .none))
theorem vals_gP {n m : Nat} {π : List Nat} {vs zs : List V} {us ws : List Value} (r : Vals vs us) (rz : Vals zs ws) : Vals (gP .non n m π vs zs) (gP .none n m π us ws) := by
  unfold gP
  rw [r.length, rz.length]
  split
  · have q := r.append rz
    induction π with
    | nil => exact .nil
    | cons i π ih =>
      refine .cons ?_ ih
      show RelV ((vs ++ zs).getD i .non) ((us ++ ws).getD i .none)
      cases e : (vs ++ zs)[i]? with
      | none =>
        rw [List.getD_eq_getElem?_getD, List.getD_eq_getElem?_getD, e, q.none_of e]
        rfl
      | some v =>
        obtain ⟨u, hu, ru⟩ := q.get e
        rw [List.getD_eq_getElem?_getD, List.getD_eq_getElem?_getD, e, hu]
        exact ru
  · exact .nil
theorem rp_gP {K : Frag} {F : Hp} {n m : Nat} {π : List Nat} {vs zs : List V} {us ws : List SV} (r : Paired (Rp K F) vs us) (rz : Paired (Rp K F) zs ws) : Paired (Rp K F) (gP .non n m π vs zs) (gP (.d .none) n m π us ws) := by
  unfold gP
  rw [r.length, rz.length]
  split
  · have q := pr_app r rz
    induction π with
    | nil => exact .nil
    | cons i π ih =>
      refine .cons ?_ ih
      show Rp K F ((vs ++ zs).getD i .non) ((us ++ ws).getD i (.d .none))
      cases e : (us ++ ws)[i]? with
      | none =>
        have e2 : (vs ++ zs)[i]? = none := by
          have hl := q.length
          have := List.getElem?_eq_none_iff.mp e
          exact List.getElem?_eq_none_iff.mpr (by omega)
        rw [List.getD_eq_getElem?_getD, List.getD_eq_getElem?_getD, e, e2]
        exact Dq.non
      | some v =>
        obtain ⟨u, hu, ru⟩ := pr_get q e
        rw [List.getD_eq_getElem?_getD, List.getD_eq_getElem?_getD, e, hu]
        exact ru
  · exact .nil
theorem fin_callK {sp : Sp} {n : Nat} {π : List Nat} {pins : List (Addr × Obj)} {σ : L2.St} {H : Hp} {s : Shared} {Q : VK} {us ws : List Value} {vs zs : List V} (F : FnG X.prog X.w X.K X.mg X.base CX k f fd ps sp) (hr : Room k X.A) (hgd : X.A.guards = some [])
    (hb : KArg X.K fd ps ks n π) (hπ : 0 < ps.length) (hx : PassAt CX X σ (E σ)) (I : Inv X pins σ H s) (r : Vals vs us) (rz : Vals zs ws) (h : sp (gP .non n ks.length π vs zs) H Q (E σ)) :
    wpAny (model X.prog X.w) X.A (PySem.call (.ref f) us (ks.zip ws)) (EP X pins σ Q) X.xe s := by
  refine wp_of_code (runG (us := gP .none n ks.length π us ws) F hr hgd hx I (fun hl => ?_) (vals_gP r rz) h)
  by_cases hc : us.length = n ∧ ws.length = ks.length
  · have e : gP Value.none n ks.length π us ws = π.map fun i => (us ++ ws).getD i .none := by unfold gP; rw [if_pos hc]
    rw [e]
    exact hb s us ws I.kIn hc.1 hc.2
  · have e : gP Value.none n ks.length π us ws = [] := by unfold gP; rw [if_neg hc]
    rw [e] at hl
    exact absurd hl (by simp; omega)
theorem pg_callK {sp : Sp} {t tk : TA} {n : Nat} {π : List Nat} (F : FnG X.prog X.w X.K X.mg X.base CX k f fd ps sp) (hr : Room k X.A) (hgd : X.A.guards = some []) (hg : Gl X x) (hm : X.mg x = some (.ref f)) (hk : PySem.W.keepIn X.K (.ref f) = true)
    (hb : KArg X.K fd ps ks n π) (hπ : 0 < ps.length) (hx : ∀ σ, PassAt CX X σ (E σ)) (ha : PA X (e :: es) t) (hkw : PK X kws tk)
    (hall : (backToKw pos (keywordEach kws X.env)).all (·.1.isSome) = true) (hks : (backToKw pos (keywordEach kws X.env)).filterMap (·.1) = ks) (hdb : (x == ("__debug__" : Str)) = false)
    (he : starEach (e :: es) X.env = (false, eval e X.env) :: starEach es X.env)
    (hpl : ((backTo pos (starEach (e :: es) X.env)).any (·.1) || (backToKw pos (keywordEach kws X.env)).any (·.1.isNone)) = false) : PE X (.Call (.Name x p) (e :: es) kws pos) (tCallGK sp (gP .non n ks.length π) E t tk) := by
  refine ⟨fun pins s σ H Q I h => wpAny_Call_Name_kw (ld_glob I hg hm (PySem.W.callWith_KW (h₀ := X.base) I.ok.mod.kin hk hall ?_ hpl he) hdb)⟩
  refine thn (ha.run pos pins s σ H _ I h) fun us s1 ⟨vs, H1, I1, r, q⟩ => thn (hkw.run pos pins s1 σ H1 _ I1 q) fun ws s2 ⟨zs, H2, I2, rz, q2⟩ => ⟨I2.kIn, ?_⟩
  rw [hks]
  exact fin_callK F hr hgd hb hπ (hx σ) I2 r rz q2
theorem pg_callK0 {sp : Sp} {tk : TA} {n : Nat} {π : List Nat} (F : FnG X.prog X.w X.K X.mg X.base CX k f fd ps sp) (hr : Room k X.A) (hgd : X.A.guards = some []) (hg : Gl X x) (hm : X.mg x = some (.ref f)) (hk : PySem.W.keepIn X.K (.ref f) = true)
    (hb : KArg X.K fd ps ks n π) (hπ : 0 < ps.length) (hx : ∀ σ, PassAt CX X σ (E σ)) (hkw : PK X kws tk)
    (hall : (backToKw pos (keywordEach kws X.env)).all (·.1.isSome) = true) (hks : (backToKw pos (keywordEach kws X.env)).filterMap (·.1) = ks) (hdb : (x == ("__debug__" : Str)) = false)
    (hpl : ((backTo pos (starEach [] X.env)).any (·.1) || (backToKw pos (keywordEach kws X.env)).any (·.1.isNone)) = false) : PE X (.Call (.Name x p) [] kws pos) (tCallGK sp (gP .non n ks.length π) E tNil tk) := by
  refine ⟨fun pins s σ H Q I h => wpAny_Call_Name_kw (ld_glob I hg hm (PySem.W.callWith_KW0 (h₀ := X.base) I.ok.mod.kin hk hall ?_ hpl) hdb)⟩
  refine thn (hkw.run pos pins s σ H _ I h) fun ws s2 ⟨zs, H2, I2, rz, q2⟩ => ⟨I2.kIn, ?_⟩
  rw [hks]
  exact fin_callK (us := []) F hr hgd hb hπ (hx σ) I2 .nil rz q2
def aCallK (T : Con) (Ξ : Rho → XA) (n m : Nat) (π : List Nat) (t tk : AA) : AE := fun ρ Ω Φ => t ρ Ω fun xs Ω1 => tk ρ Ω1 fun zs Ω2 => T (gP (.d .none) n m π xs zs) Ω2 Φ (Ξ ρ)
theorem je_callK0 {n : Nat} {π : List Nat} (F : FnG X.prog X.w X.K X.mg X.base CX k f fd ps (spOf X.K T)) (hr : Room k X.A) (hgd : X.A.guards = some []) (hg : Gl X x) (hm : X.mg x = some (.ref f)) (hk : PySem.W.keepIn X.K (.ref f) = true)
    (hb : KArg X.K fd ps ks n π) (hπ : 0 < ps.length) (hx : ∀ σ, PassAt CX X σ (E σ)) (hE : XOk X G E Ξ) (hkw : JK X G kws tb)
    (hall : (backToKw pos (keywordEach kws X.env)).all (·.1.isSome) = true := by rfl) (hks : (backToKw pos (keywordEach kws X.env)).filterMap (·.1) = ks := by rfl) (hdb : (x == ("__debug__" : Str)) = false := by decide)
    (hpl : ((backTo pos (starEach [] X.env)).any (·.1) || (backToKw pos (keywordEach kws X.env)).any (·.1.isNone)) = false := by rfl) :
    JE X G (.Call (.Name x p) [] kws pos) (aCallK T Ξ n ks.length π aNil tb) := by
  obtain ⟨u, h3, h4⟩ := hkw
  exact ⟨_, pg_callK0 F hr hgd hg hm hk hb hπ hx h3 hall hks hdb hpl, ⟨fun {ρ Ω Φ} h {P F H σ Q} o rp k => h4.go h o rp fun q o1 s1 r1 => enter_sp o1 (rp_gP .nil r1) (rpe_same s1 rp) hE q fun q2 o2 s2 r2 => k q2 o2 (s1.trans s2) r2⟩⟩
theorem je_callK {n : Nat} {π : List Nat} (F : FnG X.prog X.w X.K X.mg X.base CX k f fd ps (spOf X.K T)) (hr : Room k X.A) (hgd : X.A.guards = some []) (hg : Gl X x) (hm : X.mg x = some (.ref f)) (hk : PySem.W.keepIn X.K (.ref f) = true)
    (hb : KArg X.K fd ps ks n π) (hπ : 0 < ps.length) (hx : ∀ σ, PassAt CX X σ (E σ)) (hE : XOk X G E Ξ) (ha : JA X G (e :: es) ta) (hkw : JK X G kws tb)
    (hall : (backToKw pos (keywordEach kws X.env)).all (·.1.isSome) = true := by rfl) (hks : (backToKw pos (keywordEach kws X.env)).filterMap (·.1) = ks := by rfl) (hdb : (x == ("__debug__" : Str)) = false := by decide)
    (he : starEach (e :: es) X.env = (false, eval e X.env) :: starEach es X.env := by rfl)
    (hpl : ((backTo pos (starEach (e :: es) X.env)).any (·.1) || (backToKw pos (keywordEach kws X.env)).any (·.1.isNone)) = false := by rfl) :
    JE X G (.Call (.Name x p) (e :: es) kws pos) (aCallK T Ξ n ks.length π ta tb) := by
  obtain ⟨t, h1, h2⟩ := ha
  obtain ⟨u, h3, h4⟩ := hkw
  exact ⟨_, pg_callK F hr hgd hg hm hk hb hπ hx h1 h3 hall hks hdb he hpl, ⟨fun {ρ Ω Φ} h {P F H σ Q} o rp k => h2.go h o rp fun q o1 s1 r1 => h4.go q o1 (rpe_same s1 rp) fun q2 o2 s2 r2 => enter_sp o2 (rp_gP (rps_same s2 r1) r2) (rpe_same (s1.trans s2) rp) hE q2 fun q3 o3 s3 r3 => k q3 o3 ((s1.trans s2).trans s3) r3⟩⟩
end
end Z
/-! Z6: what a for walks; targets; statements; a def by its body. -/
namespace Z
open PySem PySem.Spec PyProof.Rows L2
/-! ### targets -/
abbrev AG := SV → Rho → (Rho → Prop) → Prop
abbrev AGs := List SV → Rho → (Rho → Prop) → Prop
structure SnG (E : En) (g : TG) (ag : AG) : Prop where
  go : ∀ {x : SV} {ρ : Rho} {k : Rho → Prop}, ag x ρ k → ∀ {P F H : Hp} {Ω : Om} {v : V} {σ : L2.St} {Q : L2.St → Hp → Prop}, Ok E P F H Ω → RpE E.K F σ ρ → Rp E.K F v x → (∀ {σ' ρ'}, k ρ' → RpE E.K F σ' ρ' → Q σ' H) → g v σ H Q
structure SnGs (E : En) (g : TGs) (ag : AGs) : Prop where
  go : ∀ {xs : List SV} {ρ : Rho} {k : Rho → Prop}, ag xs ρ k → ∀ {P F H : Hp} {Ω : Om} {vs : List V} {σ : L2.St} {Q : L2.St → Hp → Prop}, Ok E P F H Ω → RpE E.K F σ ρ → Paired (Rp E.K F) vs xs → (∀ {σ' ρ'}, k ρ' → RpE E.K F σ' ρ' → Q σ' H) → g vs σ H Q
def JG (X : Cx) (G : Gn) (tg : Expr) (ag : AG) : Prop := ∃ g, PG X tg g ∧ SnG (enX X G) g ag
def JGs (X : Cx) (G : Gn) (tg : List Expr) (ag : AGs) : Prop := ∃ g, PGs X tg g ∧ SnGs (enX X G) g ag
def gN (i : Nat) : AG := fun x ρ k => k (ρ.set i (some x))
def gT (n : Nat) (gs : AGs) : AG := fun x ρ k => match x with
  | .d (.tuple ds) => ds.length = n ∧ gs (ds.map SV.d) ρ k
  | _ => False
def gs0 : AGs := fun xs ρ k => match xs with
  | [] => k ρ
  | _ => False
def gs1 (g : AG) (gs : AGs) : AGs := fun xs ρ k => match xs with
  | x :: r => g x ρ fun ρ' => gs r ρ' k
  | _ => False
/-! ### statements -/
structure AEnds where
  nx : Rho → Om → Prop
  rt : PhiE
  bk : Rho → Om → Prop := fun _ _ => False
  ct : Rho → Om → Prop := fun _ _ => False
abbrev AS := AEnds → Rho → Om → Prop
structure EndsOk (E : En) (P Fl : Hp) (D : AEnds) (D' : Ends) : Prop where
  nx : ∀ {ρ : Rho} {Ω : Om} {F H : Hp} {σ : L2.St}, D.nx ρ Ω → Ok E P F H Ω → Same Fl F → RpE E.K F σ ρ → D'.nx σ H
  rt : ∀ {x : SV} {Ω : Om} {F H : Hp} {v : V}, D.rt x Ω → Ok E P F H Ω → Same Fl F → Rp E.K F v x → D'.rt v H
  bk : ∀ {ρ : Rho} {Ω : Om} {F H : Hp} {σ : L2.St}, D.bk ρ Ω → Ok E P F H Ω → Same Fl F → RpE E.K F σ ρ → D'.bk σ H
  ct : ∀ {ρ : Rho} {Ω : Om} {F H : Hp} {σ : L2.St}, D.ct ρ Ω → Ok E P F H Ω → Same Fl F → RpE E.K F σ ρ → D'.ct σ H
theorem EndsOk.up {E : En} {P Fl Fm : Hp} {D : AEnds} {D' : Ends} (k : EndsOk E P Fl D D') (s : Same Fl Fm) : EndsOk E P Fm D D' :=
  ⟨fun q o z r => k.nx q o (s.trans z) r, fun q o z r => k.rt q o (s.trans z) r, fun q o z r => k.bk q o (s.trans z) r, fun q o z r => k.ct q o (s.trans z) r⟩
structure SnS (E : En) (ts : TS) (a : AS) : Prop where
  go : ∀ {D : AEnds} {ρ : Rho} {Ω : Om}, a D ρ Ω → ∀ {P F H : Hp} {σ : L2.St} {D' : Ends}, EndsOk E P F D D' → Ok E P F H Ω → RpE E.K F σ ρ → ts D' σ H
def JS (X : Cx) (G : Gn) (st : Stmt) (a : AS) : Prop := ∃ t, PS X st t ∧ SnS (enX X G) t a
def JSs (X : Cx) (G : Gn) (st : List Stmt) (a : AS) : Prop := ∃ t, PSs X st t ∧ SnS (enX X G) t a
/-! ### what is walked: the items, and what is to stand meanwhile -/
structure ItOk (E : En) (F0 : Hp) (J : It) (xs : List SV) (Kp : Om → Prop) : Prop where
  go : ∀ {i : Nat} {P F H : Hp} {Ω : Om}, Same F0 F → Ok E P F H Ω → Kp Ω → i < xs.length → J.go i H
  yl : ∀ {i : Nat} {P F H : Hp} {Ω : Om} {x : V} {H' : Hp} {y : SV}, Same F0 F → Ok E P F H Ω → Kp Ω → J.yld i H x H' → xs[i]? = some y → ∃ F', Ok E P F' H' Ω ∧ Same F F' ∧ Rp E.K F' x y
  st : ∀ {i : Nat} {P F H : Hp} {Ω : Om}, Same F0 F → Ok E P F H Ω → Kp Ω → xs.length ≤ i → J.stop i H
abbrev PhiI := List SV → (Om → Prop) → Om → Prop
abbrev AI := Rho → Om → PhiI → Prop
structure SnI (E : En) (wi : TI) (ai : AI) : Prop where
  go : ∀ {ρ : Rho} {Ω : Om} {Φ : PhiI}, ai ρ Ω Φ → ∀ {P F H : Hp} {σ : L2.St} {R : It → Hp → Prop}, Ok E P F H Ω → RpE E.K F σ ρ →
    (∀ {J : It} {xs : List SV} {Kp : Om → Prop} {Ω' : Om} {F' H' : Hp}, Φ xs Kp Ω' → Ok E P F' H' Ω' → Same F F' → ItOk E F' J xs Kp → R J H') → wi σ H R
def JI (X : Cx) (G : Gn) (tg iter : Expr) (ai : AI) : Prop := ∃ wi, PI X tg iter wi ∧ SnI (enX X G) wi ai
section
variable {X : Cx} {G : Gn} {e a b tg : Expr} {aa ab : AE} {at_ bt : AT} {ta tb : AA} {pos : Pos} {m : Mode} {g : AG} {gs : AGs} {s t : AS} {ai : AI}
theorem jg_name {i : Nat} {x : Str} (hN : X.N.Nodup) (hi : X.N[i]? = some x) (hx : Loc X.env.scope x) (hf : X.fn x = true ∨ X.env.scope.names.lookup x = some .local := by first | exact .inl rfl | exact .inr rfl | assumption) : JG X G (.Name x pos) (gN i) :=
  ⟨_, pg_name hN hi hx hf, ⟨fun {x ρ k} h {P F H Ω v σ Q} o rp r q => q h (pr_set (R := RpS X.K F) (y := some x) ⟨_, rfl, r⟩ i rp)⟩⟩
theorem jgs0 : JGs X G [] gs0 := by
  refine ⟨_, pgs_nil, ⟨fun {xs ρ k} h {P F H Ω vs σ Q} o rp r q => ?_⟩⟩
  unfold gs0 at h
  split at h
  · cases r
    exact ⟨rfl, q h rp⟩
  · exact h.elim
theorem jgs1 {es : List Expr} (h1 : JG X G e g) (h2 : JGs X G es gs) (hs : (assignEach (e :: es) X.env).map (·.2) = assign e X.env :: (assignEach es X.env).map (·.2) := by rfl) : JGs X G (e :: es) (gs1 g gs) := by
  obtain ⟨g', p1, q1⟩ := h1
  obtain ⟨u, p2, q2⟩ := h2
  refine ⟨_, pgs_cons p1 p2 hs, ⟨fun {xs ρ k} h {P F H Ω vs σ Q} o rp r q => ?_⟩⟩
  unfold gs1 at h
  split at h
  · cases r with
    | cons r1 r2 => exact ⟨_, _, rfl, q1.go h o rp r1 fun h' rp' => q2.go h' o rp' r2 q⟩
  · exact h.elim
theorem jg_tup {es : List Expr} {n k' : Nat} (hc : X.calm = true) (h : JGs X G es gs) (hn : (assignEach es X.env).length = n := by rfl) (hst : (assignEach es X.env).findIdx? (·.1) = none := by rfl) : JG X G (.Tuple es k' pos) (gT n gs) := by
  obtain ⟨u, p, q'⟩ := h
  refine ⟨_, pg_tup hc p hn hst, ⟨fun {x ρ k} h {P F H Ω v σ Q} o rp r q => ?_⟩⟩
  unfold gT at h
  split at h
  · obtain ⟨p, vs, rfl, hF, da⟩ := dqt r
    exact ⟨p, vs, rfl, sqt_same o.ex hF, by rw [dqa_len da]; exact h.1, q'.go h.2 o rp (of_dqa da) q⟩
  · exact h.elim
/-! ### what is walked -/
abbrev kpT : Om → Prop := fun _ => True
def kpAt (p : Addr) (c : OC) : Om → Prop := fun Ω => ∃ f, At Ω p c f
theorem itl_ok {E : En} {F0 : Hp} {p : Addr} {xs : List SV} {Kp : Om → Prop}
    (h : ∀ {P F H : Hp} {Ω : Om}, Same F0 F → Ok E P F H Ω → Kp Ω → ∃ vs, SqL E.K H p vs ∧ Paired (Rp E.K F) vs xs) : ItOk E F0 (Itl E.K p) xs Kp := by
  refine ⟨fun s o k hi => ?_, fun s o k y e => ?_, fun s o k hi => ?_⟩
  · obtain ⟨vs, h1, h2⟩ := h s o k
    obtain ⟨v, hv, _⟩ := pr_get h2 (List.getElem?_eq_getElem hi)
    exact ⟨vs, v, h1, hv⟩
  · obtain ⟨vs, h1, h2⟩ := h s o k
    obtain ⟨rfl, y2⟩ := y
    obtain ⟨v, hv, r⟩ := pr_get h2 e
    rw [y2 vs h1] at hv
    cases hv
    exact ⟨_, o, Same.refl _, r⟩
  · obtain ⟨vs, h1, h2⟩ := h s o k
    exact ⟨vs, h1, by rw [h2.length]; exact hi⟩
theorem itt_ok {E : En} {F0 : Hp} {p : Addr} {xs : List SV} {Kp : Om → Prop}
    (h : ∀ {P F H : Hp} {Ω : Om}, Same F0 F → Ok E P F H Ω → Kp Ω → ∃ vs, SqT E.K H p vs ∧ Paired (Rp E.K F) vs xs) : ItOk E F0 (Itt E.K p) xs Kp := by
  refine ⟨fun s o k hi => ?_, fun s o k y e => ?_, fun s o k hi => ?_⟩
  · obtain ⟨vs, h1, h2⟩ := h s o k
    obtain ⟨v, hv, _⟩ := pr_get h2 (List.getElem?_eq_getElem hi)
    exact ⟨vs, v, h1, hv⟩
  · obtain ⟨vs, h1, h2⟩ := h s o k
    obtain ⟨rfl, y2⟩ := y
    obtain ⟨v, hv, r⟩ := pr_get h2 e
    rw [y2 vs h1] at hv
    cases hv
    exact ⟨_, o, Same.refl _, r⟩
  · obtain ⟨vs, h1, h2⟩ := h s o k
    exact ⟨vs, h1, by rw [h2.length]; exact hi⟩
def seqI (x : SV) (Ω : Om) (Φ : PhiI) : Prop := match x with
  | .d (.list ds) => Φ (ds.map SV.d) kpT Ω
  | .d (.tuple ds) => Φ (ds.map SV.d) kpT Ω
  | .d (.str z) => Φ (z.cps.toList.map fun c => SV.d (.str ⟨#[c]⟩)) kpT Ω
  | .l ds => Φ (ds.map SV.d) kpT Ω
  | .r (.ref p) => ∃ c f, At Ω p c f ∧ (match c with
    | .lst ds => Φ (ds.map SV.d) (kpAt p (.lst ds)) Ω
    | .lx xs => Φ xs (kpAt p (.lx xs)) Ω
    | _ => False)
  | _ => False
def aIt (a : AE) : AI := fun ρ Ω Φ => a ρ Ω fun x Ω' => seqI x Ω' Φ
end
section
variable {X : Cx} {G : Gn} {e a b tg : Expr} {aa ab : AE} {at_ bt : AT} {ta tb : AA} {pos : Pos} {m : Mode} {g : AG} {gs : AGs} {s t : AS} {ai : AI}
/-- for x in e: e's reading is made once for each kind of thing walked -/
def iSeq (K : Frag) (tl : TE) : TI := fun σ H R => tl σ H fun x H1 => (∃ a, x = .ref a ∧ (∃ xs, SqL K H1 a xs) ∧ R (Itl K a) H1) ∨ (∃ a, x = .ref a ∧ (∃ xs, SqT K H1 a xs) ∧ R (Itt K a) H1) ∨ ∃ z, x = .str z ∧ R (Its z) H1
theorem pi_seq {l : Expr} {tl : TE} (hl : PE X l tl) : PI X tg l (iSeq X.K tl) := by
  refine ⟨fun pins s σ H R I h => thn (hl.run pins s σ H _ I h) fun v s1 ⟨x, H1, I1, r1, q⟩ => ?_⟩
  have fp : ∀ b ∈ [s1.heap.objs.size], FpOk X pins H1 b := fun b hb => by
    rw [List.mem_singleton.mp hb]
    exact I1.fpOk (Nat.le_refl _) (I1.hok.fresh (Nat.le_refl _))
  have kp : ∀ (ob : Obj), Inv X pins σ H1 { s1 with heap := s1.heap.push ob } := fun ob => I1.kept (t' := s1.toks) fun _ _ z => Heap.get?_push_of_some _ z
  rcases q with ⟨a, rfl, ⟨xs, hx⟩, q⟩ | ⟨a, rfl, ⟨xs, hx⟩, q⟩ | ⟨z, rfl, q⟩
  · cases r1
    obtain ⟨its, rv, p, hz⟩ := I1.list hx
    exact wpAny_pyIter_list p.isList ⟨_, [_], _, _, H1, rfl, kp _, turn_list a _, ⟨_, Heap.get?_push_size _ rfl, rfl, rfl⟩, fp, q⟩
  · cases r1
    obtain ⟨its, rv, p, hz⟩ := I1.tuple hx
    exact wpAny_pyIter_tuple (items := its.toArray) p ⟨_, [_], _, _, H1, rfl, kp _, turn_tuple a _, ⟨_, Heap.get?_push_size _ rfl, rfl, rfl⟩, fp, q⟩
  · obtain ⟨t, rfl⟩ := r1
    by_cases ha : z.cps.all (· < 128) = true
    · exact wpAny_pyIter_ascii ha (pi_one (tk := s1.toks) I1 _ (turn_str _ z t "str_ascii_iterator" (.inl rfl)) ⟨_, Heap.get?_push_size _ rfl, rfl, rfl⟩ q)
    · exact wpAny_pyIter_wide (by simpa using ha) (pi_one (tk := s1.toks) I1 _ (turn_str _ z t "str_iterator" (.inr rfl)) ⟨_, Heap.get?_push_size _ rfl, rfl, rfl⟩ q)
theorem its_ok {E : En} {F0 : Hp} {z : Str} : ItOk E F0 (Its z) (z.cps.toList.map fun c => SV.d (.str ⟨#[c]⟩)) kpT := by
  have hl : (z.cps.toList.map fun c => SV.d (.str ⟨#[c]⟩)).length = z.cps.size := by simp
  refine ⟨fun s o k hi => by rw [hl] at hi; exact hi, fun {i P F H Ω x H' y} s o k yy e => ?_, fun s o k hi => by rw [hl] at hi; exact hi⟩
  obtain ⟨rfl, c, hc, rfl⟩ := yy
  rw [List.getElem?_map, Array.getElem?_toList, hc] at e
  cases e
  exact ⟨F, o, Same.refl F, .str _⟩
theorem ji_of (ha : JE X G e aa) : JI X G tg e (aIt aa) := by
  obtain ⟨t, h1, h2⟩ := ha
  refine ⟨_, pi_seq h1, ⟨fun {ρ Ω Φ} h {P F H σ R} o rp k => h2.go h o rp fun {v sv Ω1 F1 H1} q o1 s1 r1 => ?_⟩⟩
  have q : seqI sv Ω1 Φ := q
  unfold seqI at q
  split at q
  · obtain ⟨p, vs, rfl, hF, da⟩ := dql r1
    exact Or.inl ⟨p, rfl, ⟨vs, SqL.of (o1.ex _ _ hF)⟩, k q o1 s1 (itl_ok fun s o _ => ⟨vs, SqL.of (o.ex _ _ (s _ _ hF)), of_dqa (dqa_same s _ _ da)⟩)⟩
  · obtain ⟨p, vs, rfl, hF, da⟩ := dqt r1
    exact Or.inr (Or.inl ⟨p, rfl, ⟨vs, sqt_same o1.ex hF⟩, k q o1 s1 (itt_ok fun s o _ => ⟨vs, sqt_same o.ex (sqt_same s hF), of_dqa (dqa_same s _ _ da)⟩)⟩)
  · cases dqs r1
    exact Or.inr (Or.inr ⟨_, rfl, k q o1 s1 its_ok⟩)
  · obtain ⟨p, vs, rfl, hF, da⟩ := r1
    exact Or.inl ⟨p, rfl, ⟨vs, o1.ex.seq hF⟩, k q o1 s1 (itl_ok fun s o _ => ⟨vs, o.ex.seq (s.seq hF), of_dqa (dqa_same s _ _ da)⟩)⟩
  · obtain ⟨c, f, t, q⟩ := q
    cases (show v = _ from r1)
    split at q
    · obtain ⟨vs, h3, h4⟩ := o1.lst t
      refine Or.inl ⟨_, rfl, ⟨vs, SqL.of h3⟩, k q o1 s1 (itl_ok fun s o kk => ?_)⟩
      obtain ⟨f', t'⟩ := kk
      obtain ⟨ws, h5, h6⟩ := o.lst t'
      exact ⟨ws, SqL.of h5, of_dqa h6⟩
    · obtain ⟨vs, h3, h4⟩ := o1.lx t
      refine Or.inl ⟨_, rfl, ⟨vs, SqL.of h3⟩, k q o1 s1 (itl_ok fun s o kk => ?_)⟩
      obtain ⟨f', t'⟩ := kk
      obtain ⟨ws, h5, h6⟩ := o.lx t'
      exact ⟨ws, SqL.of h5, h6⟩
    · exact q.elim
  · exact q.elim
/-- range(n), range(a, b) -/
def rgS (lo : Int) (n : Nat) : List SV := (List.range n).map fun i => SV.d (.int (lo + (i : Nat)))
theorem rgS_get {lo : Int} {n i : Nat} {x : SV} (h : (rgS lo n)[i]? = some x) : x = .d (.int (lo + (i : Nat))) ∧ i < n := by
  unfold rgS at h
  rw [List.getElem?_map] at h
  cases e : (List.range n)[i]? with
  | none => rw [e] at h; cases h
  | some j =>
    rw [e] at h
    obtain ⟨h1, h2⟩ := List.getElem?_eq_some_iff.mp e
    rw [List.getElem_range] at h2
    rw [List.length_range] at h1
    subst h2
    cases h
    exact ⟨rfl, h1⟩
theorem rgS_len {lo : Int} {n : Nat} : (rgS lo n).length = n := by unfold rgS; rw [List.length_map, List.length_range]
theorem itr_ok {E : En} {F0 : Hp} {lo : Int} {n : Nat} : ItOk E F0 (Itr lo n) (rgS lo n) kpT := by
  refine ⟨fun s o k hi => by rw [rgS_len] at hi; exact hi, fun {i P F H Ω x H' y} s o k yy e => ?_, fun s o k hi => by rw [rgS_len] at hi; exact hi⟩
  obtain ⟨rfl, rfl⟩ := yy
  obtain ⟨rfl, _⟩ := rgS_get e
  exact ⟨F, o, Same.refl F, .int _⟩
def bd62 (i : Int) : Prop := -(2 ^ 62) ≤ i ∧ i < 2 ^ 62
def aRng1 (t : AA) : AI := fun ρ Ω Φ => t ρ Ω fun xs Ω' => match xs with
  | [.d (.int j)] => bd62 j ∧ Φ (rgS 0 j.toNat) kpT Ω'
  | _ => False
def aRng2 (t : AA) : AI := fun ρ Ω Φ => t ρ Ω fun xs Ω' => match xs with
  | [.d (.int i), .d (.int j)] => bd62 i ∧ bd62 j ∧ Φ (rgS i (j - i).toNat) kpT Ω'
  | _ => False
theorem ji_range1 {p : Pos} (hg : Gl X "range") (hm : X.mg "range" = none) (ha : JA X G [a] ta) (hs : starEach [a] X.env = [(false, eval a X.env)] := by rfl) : JI X G tg (.Call (.Name "range" p) [a] [] pos) (aRng1 ta) := by
  obtain ⟨t, h1, h2⟩ := ha
  refine ⟨_, pi_range1 hg hm h1 hs, ⟨fun {ρ Ω Φ} h {P F H σ R} o rp k => h2.go h o rp fun {vs svs Ω1 F1 H1} q o1 s1 r1 => ?_⟩⟩
  split at q
  · obtain ⟨v, rfl, r⟩ := pr1 r1
    cases dqi r
    exact ⟨_, rfl, q.1.1, q.1.2, k q.2 o1 s1 itr_ok⟩
  · exact q.elim
theorem ji_range2 {p : Pos} (hg : Gl X "range") (hm : X.mg "range" = none) (ha : JA X G [a, b] ta) (hs : starEach [a, b] X.env = [(false, eval a X.env), (false, eval b X.env)] := by rfl) (hs2 : starEach [b] X.env = [(false, eval b X.env)] := by rfl) :
    JI X G tg (.Call (.Name "range" p) [a, b] [] pos) (aRng2 ta) := by
  obtain ⟨t, h1, h2⟩ := ha
  refine ⟨_, pi_range2 hg hm h1 hs hs2, ⟨fun {ρ Ω Φ} h {P F H σ R} o rp k => h2.go h o rp fun {vs svs Ω1 F1 H1} q o1 s1 r1 => ?_⟩⟩
  split at q
  · obtain ⟨v, u, rfl, r, r'⟩ := pr2 r1
    cases dqi r
    cases dqi r'
    exact ⟨_, _, rfl, ⟨q.1.1, q.1.2, q.2.1.1, q.2.1.2⟩, k q.2.2 o1 s1 itr_ok⟩
  · exact q.elim
/-! ### statements -/
variable {st : Stmt} {sts rest : List Stmt}
def aNx : AS := fun D ρ Ω => D.nx ρ Ω
def aSeq (s t : AS) : AS := fun D ρ Ω => s { D with nx := t D } ρ Ω
theorem jss_nil : JSs X G [] aNx := ⟨_, pss_nil, ⟨fun {D ρ Ω} h {P F H σ D'} k o rp => k.nx h o (Same.refl F) rp⟩⟩
theorem seq_ok {E : En} {ts tu : TS} {s t : AS} (h1 : SnS E ts s) (h2 : SnS E tu t) : SnS E (tSeq ts tu) (aSeq s t) :=
  ⟨fun {D ρ Ω} h {P F H σ D'} k o rp => h1.go h (D' := { D' with nx := tu D' }) ⟨fun q o z rp => h2.go q (k.up z) o rp, k.rt, k.bk, k.ct⟩ o rp⟩
theorem jss_cons (h1 : JS X G st s) (h2 : JSs X G rest t) : JSs X G (st :: rest) (aSeq s t) := by
  obtain ⟨_, p1, q1⟩ := h1
  obtain ⟨_, p2, q2⟩ := h2
  exact ⟨_, pss_cons p1 p2, seq_ok q1 q2⟩
theorem jss_one (h1 : JS X G st s) : JSs X G [st] s := by
  obtain ⟨_, p1, q1⟩ := h1
  exact ⟨_, pss_one p1, q1⟩
theorem js_pass : JS X G (.Pass pos) aNx := ⟨_, ps_pass, ⟨fun {D ρ Ω} h {P F H σ D'} k o rp => k.nx h o (Same.refl F) rp⟩⟩
def aBrk : AS := fun D ρ Ω => D.bk ρ Ω
def aCnt : AS := fun D ρ Ω => D.ct ρ Ω
theorem js_break : JS X G (.Break pos) aBrk := ⟨_, ps_break, ⟨fun {D ρ Ω} h {P F H σ D'} k o rp => k.bk h o (Same.refl F) rp⟩⟩
theorem js_cont : JS X G (.Continue pos) aCnt := ⟨_, ps_continue, ⟨fun {D ρ Ω} h {P F H σ D'} k o rp => k.ct h o (Same.refl F) rp⟩⟩
def aAsg (a : AE) (g : AG) : AS := fun D ρ Ω => a ρ Ω fun x Ω' => g x ρ fun ρ' => D.nx ρ' Ω'
theorem asg_ok {E : En} {te : TE} {tg : TG} {a : AE} {g : AG} (h1 : SnE E te a) (h2 : SnG E tg g) : SnS E (tAsg te tg) (aAsg a g) :=
  ⟨fun {D ρ Ω} h {P F H σ D'} k o rp => h1.go h o rp fun q o1 s1 r1 => h2.go q o1 (rpe_same s1 rp) r1 fun q2 rp2 => k.nx q2 o1 s1 rp2⟩
theorem js_asg (ha : JE X G e aa) (hg : JG X G tg g) (hs : swapsWithSole [tg] e pos.line X.env = pure false := by rfl) (hw : swappedStores [tg] e X.env = pure none := by rfl) (h1 : (assignEach [tg] X.env).map (·.2) = [assign tg X.env] := by rfl) : JS X G (.Assign [tg] e pos) (aAsg aa g) := by
  obtain ⟨_, p1, q1⟩ := ha
  obtain ⟨_, p2, q2⟩ := hg
  exact ⟨_, ps_asg p1 p2 hs hw h1, asg_ok q1 q2⟩
theorem gN_ok {E : En} {i : Nat} : SnG E (gName i) (gN i) := ⟨fun {x ρ k} h {P F H Ω v σ Q} o rp r q => q h (pr_set (R := RpS E.K F) (y := some x) ⟨_, rfl, r⟩ i rp)⟩
theorem js_set {i : Nat} {x : Str} {pos' : Pos} (hN : X.N.Nodup) (hi : X.N[i]? = some x) (hx : Loc X.env.scope x) (ha : JE X G e aa) (hs : swapsWith e (some (.Name x pos')) pos.line X.env = pure false := by rfl) (hf : X.fn x = true ∨ X.env.scope.names.lookup x = some .local := by first | exact .inl rfl | exact .inr rfl | assumption) :
    JS X G (.Assign [.Name x pos'] e pos) (aAsg aa (gN i)) := by
  obtain ⟨_, p1, q1⟩ := ha
  exact ⟨_, ps_set hN hi hx p1 hs hf, asg_ok q1 gN_ok⟩
/-- a, b = e1, e2 and a, b, c = e1, e2, e3, plain names -/
def aPar2 (i j : Nat) (t : AA) : AS := fun D ρ Ω => t ρ Ω fun xs Ω' => match xs with
  | [x, y] => D.nx ((ρ.set i (some x)).set j (some y)) Ω'
  | _ => False
def aPar3 (i j l : Nat) (t : AA) : AS := fun D ρ Ω => t ρ Ω fun xs Ω' => match xs with
  | [x, y, z] => D.nx (((ρ.set i (some x)).set j (some y)).set l (some z)) Ω'
  | _ => False
theorem js_par2 {i j : Nat} {x y : Str} {px py pt : Pos} {kt k2 pt2} (hc : X.calm = true) (hN : X.N.Nodup) (hi : X.N[i]? = some x) (hj : X.N[j]? = some y) (hij : i ≠ j)
    (hx : X.env.scope.names.lookup x = some .local) (hy : X.env.scope.names.lookup y = some .local) (ha : JA X G [a, b] ta)
    (hw : swappedStores [.Tuple [.Name x px, .Name y py] kt pt] (.Tuple [a, b] k2 pt2) X.env = pure (some [x, y]))
    (hs : swapsWithSole [.Tuple [.Name x px, .Name y py] kt pt] (.Tuple [a, b] k2 pt2) pos.line X.env = pure false := by rfl) :
    JS X G (.Assign [.Tuple [.Name x px, .Name y py] kt pt] (.Tuple [a, b] k2 pt2) pos) (aPar2 i j ta) := by
  obtain ⟨_, p1, q1⟩ := ha
  refine ⟨_, ps_par hc hN hi hj hij hx hy p1 hw hs, ⟨fun {D ρ Ω} h {P F H σ D'} k o rp => q1.go h o rp fun {vs svs Ω1 F1 H1} q o1 s1 r1 => ?_⟩⟩
  split at q
  · obtain ⟨v, u, rfl, r, r'⟩ := pr2 r1
    exact ⟨v, u, rfl, k.nx q o1 s1 (pr_set (R := RpS X.K F1) (y := some _) ⟨_, rfl, r'⟩ _ (pr_set (R := RpS X.K F1) (y := some _) ⟨_, rfl, r⟩ _ (rpe_same s1 rp)))⟩
  · exact q.elim
theorem js_par3 {c : Expr} {i j l : Nat} {x y z : Str} {px py pz pt : Pos} {kt k2 pt2} (hc : X.calm = true) (hN : X.N.Nodup) (hi : X.N[i]? = some x) (hj : X.N[j]? = some y) (hl : X.N[l]? = some z) (hij : i ≠ j) (hil : i ≠ l) (hjl : j ≠ l)
    (hx : X.env.scope.names.lookup x = some .local) (hy : X.env.scope.names.lookup y = some .local) (hz : X.env.scope.names.lookup z = some .local) (ha : JA X G [a, b, c] ta)
    (hw : swappedStores [.Tuple [.Name x px, .Name y py, .Name z pz] kt pt] (.Tuple [a, b, c] k2 pt2) X.env = pure (some [x, y, z]))
    (hs : swapsWithSole [.Tuple [.Name x px, .Name y py, .Name z pz] kt pt] (.Tuple [a, b, c] k2 pt2) pos.line X.env = pure false := by rfl) :
    JS X G (.Assign [.Tuple [.Name x px, .Name y py, .Name z pz] kt pt] (.Tuple [a, b, c] k2 pt2) pos) (aPar3 i j l ta) := by
  obtain ⟨_, p1, q1⟩ := ha
  refine ⟨_, ps_par3 hc hN hi hj hl hij hil hjl hx hy hz p1 hw hs, ⟨fun {D ρ Ω} h {P F H σ D'} k o rp => q1.go h o rp fun {vs svs Ω1 F1 H1} q o1 s1 r1 => ?_⟩⟩
  split at q
  · cases r1 with
    | cons r1 r2 =>
      obtain ⟨v, u, rfl, r, r'⟩ := pr2 r2
      exact ⟨_, v, u, rfl, k.nx q o1 s1 (pr_set (R := RpS X.K F1) (y := some _) ⟨_, rfl, r'⟩ _ (pr_set (R := RpS X.K F1) (y := some _) ⟨_, rfl, r⟩ _ (pr_set (R := RpS X.K F1) (y := some _) ⟨_, rfl, r1⟩ _ (rpe_same s1 rp))))⟩
  · exact q.elim
def aExp (a : AE) : AS := fun D ρ Ω => a ρ Ω fun _ Ω' => D.nx ρ Ω'
theorem js_expr (ha : JE X G e aa) (hs : swapsWith e none pos.line X.env = pure false := by rfl) : JS X G (.Expr e pos) (aExp aa) := by
  obtain ⟨_, p1, q1⟩ := ha
  exact ⟨_, ps_expr p1 hs, ⟨fun {D ρ Ω} h {P F H σ D'} k o rp => q1.go h o rp fun q o1 s1 r1 => k.nx q o1 s1 (rpe_same s1 rp)⟩⟩
def aRet (a : AE) : AS := fun D ρ Ω => a ρ Ω D.rt
theorem js_ret (ha : JE X G e aa) : JS X G (.Return (some e) pos) (aRet aa) := by
  obtain ⟨_, p1, q1⟩ := ha
  exact ⟨_, ps_ret p1, ⟨fun {D ρ Ω} h {P F H σ D'} k o rp => q1.go h o rp fun q o1 s1 r1 => k.rt q o1 s1 r1⟩⟩
/-- cells of the def's own are let go -/
theorem Ok.sub {E : En} {P F H : Hp} {Ω Ω' : Om} (o : Ok E P F H Ω) (s : Ω'.Sublist Ω) : Ok E P F H Ω' := ⟨o.p0, o.pf, fun p h => o.pd p (s.subset h), o.pF, o.f0, o.fn, o.dm, o.ex, fun p h => o.own p (s.subset h), o.nd.sublist (s.map _)⟩
def rtD (k : PhiE) (x : SV) (Ω : Om) : Prop := ∃ Ω2 : Om, Ω2.Sublist Ω ∧ k x Ω2
def aRetD (a : AE) : AS := fun D ρ Ω => a ρ Ω (rtD D.rt)
theorem js_retD (ha : JE X G e aa) : JS X G (.Return (some e) pos) (aRetD aa) := by
  obtain ⟨_, p1, q1⟩ := ha
  refine ⟨_, ps_ret p1, ⟨fun {D ρ Ω} h {P F H σ D'} k o rp => q1.go h o rp fun q o1 s1 r1 => ?_⟩⟩
  obtain ⟨Ω2, sl, q⟩ := q
  exact k.rt q (o1.sub sl) s1 r1
def aRetN : AS := fun D _ Ω => D.rt (.d .none) Ω
theorem js_retN : JS X G (.Return none pos) aRetN := ⟨_, ps_retN, ⟨fun {D ρ Ω} h {P F H σ D'} k o rp => k.rt h o (Same.refl F) .non⟩⟩
/-- a cell is taken out -/
inductive Cut : Om → Addr → Om → Prop where
  | here {a : Addr} {c : OC} {Ω : Om} : Cut ((a, c) :: Ω) a Ω
  | there {a : Addr} {Ω Ω' : Om} {p : Addr × OC} : Cut Ω a Ω' → Cut (p :: Ω) a (p :: Ω')
theorem Cut.addr : ∀ {Ω Ω' : Om} {a : Addr}, Cut Ω a Ω' → (Ω.map (·.1)).Nodup → (∀ x ∈ Ω', x ∈ Ω ∧ x.1 ≠ a) ∧ (Ω'.map (·.1)).Nodup
  | _, _, _, .here, nd => by
    rw [List.map_cons] at nd
    obtain ⟨n1, n2⟩ := List.nodup_cons.mp nd
    exact ⟨fun x hx => ⟨List.mem_cons_of_mem _ hx, fun z => n1 (by rw [← z]; exact List.mem_map_of_mem (f := (·.1)) hx)⟩, n2⟩
  | p :: _, _, a, .there h, nd => by
    have hm : ∀ {Ω Ω' : Om} {b : Addr}, Cut Ω b Ω' → b ∈ Ω.map (·.1) := fun {Ω Ω' b} h => by
      induction h with
      | here => exact List.mem_cons_self
      | there _ ih => exact List.mem_cons_of_mem _ ih
    rw [List.map_cons] at nd
    obtain ⟨n1, n2⟩ := List.nodup_cons.mp nd
    obtain ⟨h1, h2⟩ := h.addr n2
    refine ⟨fun x hx => ?_, ?_⟩
    · rcases List.mem_cons.mp hx with q | q
      · rw [q]; exact ⟨List.mem_cons_self, fun z => n1 (by rw [z]; exact hm h)⟩
      · exact ⟨List.mem_cons_of_mem _ (h1 x q).1, (h1 x q).2⟩
    · rw [List.map_cons]
      refine List.nodup_cons.mpr ⟨fun z => ?_, h2⟩
      obtain ⟨x, hx, e⟩ := List.mem_map.mp z
      exact n1 (by rw [← e]; exact List.mem_map_of_mem (f := (·.1)) (h1 x hx).1)
/-- return of a list of the def's own: it is frozen -/
def rtF (Fr : Addr → Prop) (k : PhiE) (x : SV) (Ω : Om) : Prop := match x with
  | .r (.ref p) => ∃ ds f, At Ω p (.lst ds) f ∧ Fr p ∧ ∃ Ω2, Cut Ω p Ω2 ∧ ∃ Ω3 : Om, Ω3.Sublist Ω2 ∧ k (.d (.list ds)) Ω3
  | _ => False
def aRetF (Fr : Addr → Prop) (a : AE) : AS := fun D ρ Ω => a ρ Ω (rtF Fr D.rt)
theorem js_retF (ha : JE X G e aa) : JS X G (.Return (some e) pos) (aRetF (fun p => G.H0 p = none) aa) := by
  obtain ⟨_, p1, q1⟩ := ha
  refine ⟨_, ps_ret p1, ⟨fun {D ρ Ω} h {P F H σ D'} k o rp => q1.go h o rp fun {v sv Ω1 F1 H1} q o1 s1 r1 => ?_⟩⟩
  unfold rtF at q
  split at q
  · obtain ⟨ds, f, t, fr, Ω2, c, Ω3, sl, q⟩ := q
    cases (show v = _ from r1)
    obtain ⟨nF, _⟩ := o1.at_ t
    obtain ⟨vs, h1, h2⟩ := o1.lst t
    obtain ⟨c1, c2⟩ := c.addr o1.nd
    obtain ⟨o2, s2⟩ := o1.frz (c := .lst ds) h1 fr nF (o1.pd _ t.mem) c1 c2
    exact k.rt q (o2.sub sl) (s1.trans s2) (Dq.lst upd_same (dqa_same s2 _ _ h2))
  · exact q.elim
def aIf (t : AT) (a b : AS) : AS := fun D ρ Ω => t ρ Ω fun c Ω' => br c (a D ρ Ω') (b D ρ Ω')
theorem js_if {c : Expr} {xs ys : List Stmt} (hc : JT X G c at_) (ha : JSs X G xs s) (hb : JSs X G ys t) : JS X G (.If c xs ys pos) (aIf at_ s t) := by
  obtain ⟨_, p1, q1⟩ := hc
  obtain ⟨_, p2, q2⟩ := ha
  obtain ⟨_, p3, q3⟩ := hb
  refine ⟨_, ps_if p1 p2 p3, ⟨fun {D ρ Ω} h {P F H σ D'} k o rp => q1.go h o rp fun {b Ω1 F1 H1} q o1 s1 => br_ite ?_⟩⟩
  replace q := br_out q
  cases b
  · exact q3.go q (k.up s1) o1 (rpe_same s1 rp)
  · exact q2.go q (k.up s1) o1 (rpe_same s1 rp)
def aWhile (t : AT) (s : AS) : AS := fun D ρ Ω => ∃ W : Nat → Rho → Om → Prop, (∃ m, W m ρ Ω) ∧ ∀ m ρ Ω, W m ρ Ω →
  t ρ Ω fun b Ω1 => br b (s { D with nx := fun ρ' Ω' => ∃ m', m' < m ∧ W m' ρ' Ω', ct := fun ρ' Ω' => ∃ m', m' < m ∧ W m' ρ' Ω', bk := D.nx } ρ Ω1) (D.nx ρ Ω1)
theorem js_while {c : Expr} {body : List Stmt} (hp : PassesOwn (model X.prog X.w) X.A X.env X.xe) (hc : JT X G c at_) (hb : JSs X G body s) : JS X G (.While c body [] pos) (aWhile at_ s) := by
  obtain ⟨_, p1, q1⟩ := hc
  obtain ⟨tb, p2, q2⟩ := hb
  refine ⟨_, ps_while hp p1 p2, ⟨fun {D ρ Ω} h {P F H σ D'} k o rp => ?_⟩⟩
  obtain ⟨W, ⟨m0, w0⟩, turn⟩ := h
  refine ⟨fun m σ H => ∃ ρ Ω F', Same F F' ∧ W m ρ Ω ∧ Ok (enX X G) P F' H Ω ∧ RpE X.K F' σ ρ, ⟨m0, ρ, Ω, F, Same.refl F, w0, o, rp⟩, ?_⟩
  rintro m σ1 H1 ⟨ρ1, Ω1, F1, z1, w1, o1, rp1⟩
  refine q1.go (turn m ρ1 Ω1 w1) o1 rp1 fun {b Ω2 F2 H2} q o2 s2 => br_ite ?_
  replace q := br_out q
  have z2 := z1.trans s2
  cases b
  · exact k.nx q o2 z2 (rpe_same s2 rp1)
  · refine ⟨fun σ' H' => ∃ m', m' < m ∧ ∃ ρ Ω F', Same F F' ∧ W m' ρ Ω ∧ Ok (enX X G) P F' H' Ω ∧ RpE X.K F' σ' ρ, fun σ' H' z => z, ?_⟩
    refine q2.go q ⟨fun z o z3 rp => ?_, fun z o z3 r => k.rt z o (z2.trans z3) r, fun z o z3 rp => k.nx z o (z2.trans z3) rp, fun z o z3 rp => ?_⟩ o2 (rpe_same s2 rp1)
    · obtain ⟨m', h1, h2⟩ := z
      exact ⟨m', h1, _, _, _, z2.trans z3, h2, o, rp⟩
    · obtain ⟨m', h1, h2⟩ := z
      exact ⟨m', h1, _, _, _, z2.trans z3, h2, o, rp⟩
def aFor (ai : AI) (g : AG) (s : AS) : AS := fun D ρ Ω => ai ρ Ω fun xs Kp Ω1 => ∃ W : Nat → Rho → Om → Prop, W 0 ρ Ω1 ∧ (∀ i ρ Ω, W i ρ Ω → Kp Ω) ∧
  (∀ i x ρ Ω, xs[i]? = some x → W i ρ Ω → g x ρ fun ρ' => s { D with nx := W (i + 1), ct := W (i + 1), bk := D.nx } ρ' Ω) ∧ ∀ ρ Ω, W xs.length ρ Ω → D.nx ρ Ω
theorem js_for {iter : Expr} {body : List Stmt} (hp : PassesOwn (model X.prog X.w) X.A X.env X.xe) (hc : X.calm = true) (hi : JI X G tg iter ai) (hg : JG X G tg g) (hb : JSs X G body s) (h : ∀ {wi : TI} {g' : TG} {tb : TS}, PI X tg iter wi → PG X tg g' → PSs X body tb → PS X (.For tg iter body [] pos) (tFor wi g' tb) := by intro _ _ _ a b c; exact ps_for PassesOwn.never rfl a b c) :
    JS X G (.For tg iter body [] pos) (aFor ai g s) := by
  obtain ⟨wi, p1, q1⟩ := hi
  obtain ⟨g', p2, q2⟩ := hg
  obtain ⟨tb, p3, q3⟩ := hb
  refine ⟨_, h p1 p2 p3, ⟨fun {D ρ Ω} h {P F H σ D'} k o rp => q1.go h o rp fun {J xs Kp Ω1 F1 H1} q o1 s1 it => ?_⟩⟩
  obtain ⟨W, w0, wk, turn, fin⟩ := q
  refine ⟨fun i m σ H => m = xs.length - i ∧ i ≤ xs.length ∧ ∃ ρ Ω F, Same F1 F ∧ W i ρ Ω ∧ Ok (enX X G) P F H Ω ∧ RpE X.K F σ ρ, ⟨_, rfl, Nat.zero_le _, ρ, Ω1, F1, Same.refl F1, w0, o1, rpe_same s1 rp⟩, ?_⟩
  rintro i m σ2 H2 ⟨rfl, hi, ρ2, Ω2, F2, s2, w2, o2, rp2⟩
  by_cases hlt : i < xs.length
  · refine Or.inr ⟨it.go s2 o2 (wk _ _ _ w2) hlt, fun σ' H' => ∃ ρ Ω F, Same F1 F ∧ W (i + 1) ρ Ω ∧ Ok (enX X G) P F H' Ω ∧ RpE X.K F σ' ρ, fun σ' H' z => ⟨_, by omega, rfl, hlt, z⟩, fun x H' y => ?_⟩
    have e : xs[i]? = some xs[i] := List.getElem?_eq_getElem hlt
    obtain ⟨F3, o3, s3, r3⟩ := it.yl s2 o2 (wk _ _ _ w2) y e
    refine q2.go (turn i _ ρ2 Ω2 e w2) o3 (rpe_same s3 rp2) r3 fun {σ4 ρ4} q4 rp4 => ?_
    have z3 := s2.trans s3
    exact q3.go q4 ⟨fun z o z4 rp => ⟨_, _, _, z3.trans z4, z, o, rp⟩, fun z o z4 r => k.rt z o ((s1.trans z3).trans z4) r, fun z o z4 rp => k.nx z o ((s1.trans z3).trans z4) rp, fun z o z4 rp => ⟨_, _, _, z3.trans z4, z, o, rp⟩⟩ o3 rp4
  · have e : i = xs.length := by omega
    subst e
    exact Or.inl ⟨it.st s2 o2 (wk _ _ _ w2) (Nat.le_refl _), k.nx (fin _ _ w2) o2 (s1.trans s2) rp2⟩
end
end Z
/-! Z7: xs[i] = e; comprehensions; a def by its body; the law's end. -/
namespace Z
open PySem PySem.Spec PyProof.Rows L2
section
variable {X : Cx} {G : Gn} {e a b tg : Expr} {aa ab ac : AE} {at_ bt : AT} {ta tb : AA} {pos : Pos} {m : Mode} {g : AG} {gs : AGs} {s t : AS} {ai : AI}
/-- o[i] = e on a cell's list -/
def aSetIx (a o i : AE) : AS := fun D ρ Ω => a ρ Ω fun x Ω1 => o ρ Ω1 fun l Ω2 => i ρ Ω2 fun j Ω3 => match l, j with
  | .r (.ref p), .d (.int n) => ∃ c f, At Ω3 p c f ∧ (match c, x with
    | .lst ds, .d d => ∃ q, ixN ds.length n = some q ∧ D.nx ρ (f (.lst (ds.set q d)))
    | .lx ys, x => ∃ q, ixN ys.length n = some q ∧ D.nx ρ (f (.lx (ys.set q x)))
    | _, _ => False)
  | _, _ => False
theorem js_setIx (he : JE X G e aa) (ha : JE X G a ab) (hb : JE X G b ac) {spos : Pos}
    (h : ∀ {te ta tb : TE}, PE X e te → PE X a ta → PE X b tb → PS X (.Assign [.Subscript a b pos] e spos) (tAsg te (gSub ta tb rSetL)) := by intro _ _ _ p q r; exact ps_asg p (pg_sub q r set_list)) :
    JS X G (.Assign [.Subscript a b pos] e spos) (aSetIx aa ab ac) := by
  obtain ⟨te, p1, q1⟩ := he
  obtain ⟨ta, p2, q2⟩ := ha
  obtain ⟨tb, p3, q3⟩ := hb
  refine ⟨_, h p1 p2 p3, ⟨fun {D ρ Ω} h {P F H σ D'} k o rp => q1.go h o rp fun {v sv Ω1 F1 H1} z1 o1 s1 r1 => q2.go z1 o1 (rpe_same s1 rp) fun {v2 sv2 Ω2 F2 H2} z2 o2 s2 r2 => q3.go z2 o2 (rpe_same (s1.trans s2) rp) fun {v3 sv3 Ω3 F3 H3} z3 o3 s3 r3 => ?_⟩⟩
  have k3 := (s1.trans s2).trans s3
  have r1' := (r1.same s2).same s3
  dsimp only at z3
  split at z3
  · obtain ⟨c, f, t, z3⟩ := z3
    cases (show v2 = _ from r2)
    cases dqi r3
    split at z3
    · obtain ⟨q, e1, z⟩ := z3
      obtain ⟨vs, h1, h2⟩ := o3.lst t
      exact ⟨_, vs, _, q, rfl, rfl, h1, by rw [dqa_len h2]; exact e1, k.nx z (o3.put t (dqa_set q h2 r1')) k3 (rpe_same k3 rp)⟩
    · obtain ⟨q, e1, z⟩ := z3
      obtain ⟨vs, h1, h2⟩ := o3.lx t
      exact ⟨_, vs, _, q, rfl, rfl, h1, by rw [h2.length]; exact e1, k.nx z (o3.put t (pr_set r1' q h2)) k3 (rpe_same k3 rp)⟩
    · exact z3.elim
  · exact z3.elim
/-! ### comprehensions -/
def wipR (ρ : Rho) : List Nat → Rho
  | [] => ρ
  | v :: vs => (wipR ρ vs).set v none
theorem wip_ok {K : Frag} {F : Hp} {σ : L2.St} {ρ : Rho} (h : RpE K F σ ρ) : ∀ vs : List Nat, RpE K F (wipe σ vs) (wipR ρ vs)
  | [] => h
  | v :: vs => pr_set (R := RpS K F) (x := none) (y := none) trivial v (wip_ok h vs)
/-- only the block's own slots are stored -/
def GOnly (g : TG) (vs : List Nat) : Prop := ∀ {v : V} {σ : L2.St} {H : Hp} {Q Q' : L2.St → Hp → Prop}, g v σ H Q → (∀ σ2 H2, wipe σ2 vs = wipe σ vs → Q σ2 H2 → Q' σ2 H2) → g v σ H Q'
theorem wipe_set {σ : L2.St} {x : Option V} {i : Nat} : ∀ {vs : List Nat}, i ∈ vs → wipe (σ.set i x) vs = wipe σ vs
  | [], h => by cases h
  | v :: vs, h => by
    show (wipe (σ.set i x) vs).set v none = (wipe σ vs).set v none
    have comm : ∀ ws : List Nat, i ∉ ws → wipe (σ.set i x) ws = (wipe σ ws).set i x := fun ws => by
      induction ws with
      | nil => exact fun _ => rfl
      | cons w ws ih =>
        intro hn
        show (wipe (σ.set i x) ws).set w none = ((wipe σ ws).set w none).set i x
        rw [ih fun z => hn (List.mem_cons_of_mem _ z)]
        exact (List.set_comm _ _ (fun z => hn (by rw [z]; exact List.mem_cons_self)))
    by_cases hm : i ∈ vs
    · rw [wipe_set hm]
    · rcases List.mem_cons.mp h with e | e
      · rw [comm vs hm, e, List.set_set]
      · exact absurd e hm
theorem wipe_wipe {σ : L2.St} : ∀ {vs ws : List Nat}, (∀ v ∈ vs, v ∈ ws) → wipe (wipe σ vs) ws = wipe σ ws
  | [], ws, _ => rfl
  | v :: vs, ws, h => by
    show wipe ((wipe σ vs).set v none) ws = wipe σ ws
    rw [wipe_set (h v List.mem_cons_self), wipe_wipe fun w hw => h w (List.mem_cons_of_mem _ hw)]
def JGo (X : Cx) (G : Gn) (tg : Expr) (ag : AG) (vs : List Nat) : Prop := ∃ g, PG X tg g ∧ SnG (enX X G) g ag ∧ GOnly g vs
def JGso (X : Cx) (G : Gn) (tg : List Expr) (ag : AGs) (vs : List Nat) : Prop := ∃ g, PGs X tg g ∧ SnGs (enX X G) g ag ∧ ∀ {xs : List V} {σ : L2.St} {H : Hp} {Q Q' : L2.St → Hp → Prop}, g xs σ H Q → (∀ σ2 H2, wipe σ2 vs = wipe σ vs → Q σ2 H2 → Q' σ2 H2) → g xs σ H Q'
theorem jgo_name {i : Nat} {x : Str} {vs : List Nat} (hi' : i ∈ vs) (hN : X.N.Nodup) (hi : X.N[i]? = some x) (hx : Loc X.env.scope x) (hf : X.fn x = true ∨ X.env.scope.names.lookup x = some .local := by first | exact .inl rfl | exact .inr rfl | assumption) : JGo X G (.Name x pos) (gN i) vs :=
  ⟨_, pg_name hN hi hx hf, gN_ok, fun h k => k _ _ (wipe_set hi') h⟩
theorem jgso0 {vs : List Nat} : JGso X G [] gs0 vs := by
  refine ⟨_, pgs_nil, ⟨fun {xs ρ k} h {P F H Ω vs σ Q} o rp r q => ?_⟩, fun h k => ⟨h.1, k _ _ rfl h.2⟩⟩
  unfold gs0 at h
  split at h
  · cases r
    exact ⟨rfl, q h rp⟩
  · exact h.elim
theorem jgso1 {es : List Expr} {vs : List Nat} (h1 : JGo X G e g vs) (h2 : JGso X G es gs vs) (hs : (assignEach (e :: es) X.env).map (·.2) = assign e X.env :: (assignEach es X.env).map (·.2) := by rfl) : JGso X G (e :: es) (gs1 g gs) vs := by
  obtain ⟨g', p1, q1, z1⟩ := h1
  obtain ⟨u, p2, q2, z2⟩ := h2
  refine ⟨_, pgs_cons p1 p2 hs, ⟨fun {xs ρ k} h {P F H Ω vs σ Q} o rp r q => ?_⟩, fun {xs σ H Q Q'} h k => ?_⟩
  · unfold gs1 at h
    split at h
    · cases r with
      | cons r1 r2 => exact ⟨_, _, rfl, q1.go h o rp r1 fun h' rp' => q2.go h' o rp' r2 q⟩
    · exact h.elim
  · obtain ⟨v, r, e, h⟩ := h
    exact ⟨v, r, e, z1 h fun σ2 H2 e2 h2 => z2 h2 fun σ3 H3 e3 h3 => k σ3 H3 (e3.trans e2) h3⟩
theorem jgo_tup {es : List Expr} {n k' : Nat} {vs : List Nat} (hc : X.calm = true) (h : JGso X G es gs vs) (hn : (assignEach es X.env).length = n := by rfl) (hst : (assignEach es X.env).findIdx? (·.1) = none := by rfl) : JGo X G (.Tuple es k' pos) (gT n gs) vs := by
  obtain ⟨u, p, q', z⟩ := h
  refine ⟨_, pg_tup hc p hn hst, ⟨fun {x ρ k} h {P F H Ω v σ Q} o rp r q => ?_⟩, fun {v σ H Q Q'} h k => ?_⟩
  · unfold gT at h
    split at h
    · obtain ⟨p, vs, rfl, hF, da⟩ := dqt r
      exact ⟨p, vs, rfl, sqt_same o.ex hF, by rw [dqa_len da]; exact h.1, q'.go h.2 o rp (of_dqa da) q⟩
    · exact h.elim
  · obtain ⟨a, xs, e, h1, h2, h3⟩ := h
    exact ⟨a, xs, e, h1, h2, z h3 k⟩
def JTs (X : Cx) (G : Gn) (e : List Expr) (a : AT) : Prop := ∃ te, PTs X e te ∧ SnT (enX X G) te a
def aYes : AT := fun _ Ω Φ => Φ true Ω
theorem jts_nil : JTs X G [] aYes := ⟨_, pts_nil, ⟨fun {ρ Ω Φ} h {P F H σ Q} o rp k => k h o (Same.refl F)⟩⟩
theorem jts_one {c : Expr} (h : JT X G c at_) : JTs X G [c] at_ := by
  obtain ⟨_, p, q⟩ := h
  exact ⟨_, pts_one p, q⟩
def aLc (m : Mode) (ai : AI) (g : AG) (tt : AT) (te : AE) (vs : List Nat) : AE := fun ρ Ω Φ => ai ρ Ω fun xs Kp Ω1 => xs.length ≤ 1000000 ∧ ∃ W : Nat → List SV → Om → Prop, W 0 [] Ω1 ∧ (∀ i acc Ω, W i acc Ω → Kp Ω ∧ acc.length ≤ i) ∧
  (∀ i x acc Ω, xs[i]? = some x → W i acc Ω → g x (wipR ρ vs) fun ρ' => tt ρ' Ω fun b Ω2 => br b (te ρ' Ω2 fun y Ω3 => W (i + 1) (acc ++ [y]) Ω3) (W (i + 1) acc Ω2)) ∧
  ∀ acc Ω, W xs.length acc Ω → newX m acc Ω Φ
theorem lc_ok {E : En} {wi : TI} {g' : TG} {tt' : TT} {te' : TE} {ai : AI} {g : AG} {tt : AT} {te : AE} {vs : List Nat} (hm : MOk E m) (h1 : SnI E wi ai) (h2 : SnG E g' g) (h2' : GOnly g' vs) (h3 : SnT E tt' tt) (h4 : SnE E te' te) : SnE E (tLc wi g' tt' te' vs) (aLc m ai g tt te vs) := by
  refine ⟨fun {ρ Ω Φ} h {P F H σ Q} o rp k => h1.go h o rp fun {J xs Kp Ω1 F1 H1} q o1 s1 it => fun Dl hD => ?_⟩
  obtain ⟨hz, W, w0, wk, turn, fin⟩ := q
  have nP : P Dl = none := o1.pf.free hD
  have s0 : Same E.P0 P := o1.p0
  have n00 : E.P0 Dl = none := s0.free nP
  have nF : ∀ {Q' F' H' : Hp} {Ω' : Om} {u : HO}, Ok E (upd Q' Dl u) F' H' Ω' → F' Dl = none := fun ok => ok.pF Dl (by rw [upd_same]; exact fun z => nomatch z)
  refine ⟨fun i m H => m = xs.length - i ∧ i ≤ xs.length ∧ ∃ acc ws F' Ω', Same F1 F' ∧ W i acc Ω' ∧ Ok E (upd P Dl (.lst ws)) F' H Ω' ∧ Paired (Rp E.K F') ws acc, ⟨_, rfl, Nat.zero_le _, [], [], F1, Ω1, Same.refl F1, w0, o1.guard hD, .nil⟩, ?_⟩
  rintro i mm H2 ⟨rfl, hi, acc, ws, F2, Ω2, s2, w2, o2, r2⟩
  obtain ⟨kp, hl⟩ := wk _ _ _ w2
  by_cases hlt : i < xs.length
  · refine Or.inr ⟨it.go s2 o2 kp hlt, fun H => ∃ acc ws F' Ω', Same F1 F' ∧ W (i + 1) acc Ω' ∧ Ok E (upd P Dl (.lst ws)) F' H Ω' ∧ Paired (Rp E.K F') ws acc, fun H' z => ⟨_, by omega, rfl, hlt, z⟩, fun x H' y => ?_⟩
    have e : xs[i]? = some xs[i] := List.getElem?_eq_getElem hlt
    obtain ⟨F3, o3, s3, r3⟩ := it.yl s2 o2 kp y e
    have z3 := s2.trans s3
    refine h2' (h2.go (turn i _ acc Ω2 e w2) o3 (wip_ok (rpe_same (s1.trans z3) rp) vs) r3 (Q := fun σ2 H4 => H4 = H' ∧ ∃ ρ', (tt ρ' Ω2 fun b Ω2 => br b (te ρ' Ω2 fun y Ω3 => W (i + 1) (acc ++ [y]) Ω3) (W (i + 1) acc Ω2)) ∧ RpE E.K F3 σ2 ρ') fun {σ' ρ'} h5 rp5 => ⟨rfl, ρ', h5, rp5⟩) ?_
    rintro σ2 H4 ew ⟨rfl, ρ', h5, rp5⟩
    refine ⟨by rw [ew, wipe_wipe fun v hv => hv], h3.go h5 o3 rp5 fun {b Ω5 F5 H5} q5 o5 s5 => br_ite ?_⟩
    replace q5 := br_out q5
    cases b
    · exact ⟨acc, ws, F5, Ω5, z3.trans s5, q5, o5, rps_same (s3.trans s5) r2⟩
    · refine h4.go q5 o5 (rpe_same s5 rp5) fun {v sv Ω6 F6 H6} q6 o6 s6 r6 => ⟨ws, o6.pf Dl _ upd_same, ?_, acc ++ [sv], ws ++ [v], F6, Ω6, (z3.trans s5).trans s6, q6, o6.poke n00 (nF o6) nP, pr_app (rps_same ((s3.trans s5).trans s6) r2) (.cons r6 .nil)⟩
      have := r2.length
      have l1 : (1000000 : Nat) < sizeLine := by decide
      omega
  · have e : i = xs.length := by omega
    subst e
    refine Or.inl ⟨it.st s2 o2 kp (Nat.le_refl _), ?_⟩
    have q := fin _ _ w2
    have n0 : E.H0 Dl = none := o1.dm _ hD
    cases m with
    | none =>
      have q' : (match dataOf acc with | some ds => Φ (.d (.list ds)) Ω2 | none => False) := q
      split at q'
      · rename_i ds e
        obtain ⟨o7, s7⟩ := o2.adoptF s0 nP n0
        exact k q' o7 ((s1.trans s2).trans s7) (Dq.lst upd_same (dqa_same s7 _ _ (dataOf_ok e r2)))
      · exact q'.elim
    | some Fr => exact k (q Dl (hm _ rfl Dl n0)) (o2.adopt s0 nP (mkL_ok r2)) (s1.trans s2) rfl
/-- one reading for all contexts of a block -/
theorem all_pe {ι : Type} {Xs : ι → Cx} {E : En} (h : ∀ i, ∃ te, PE (Xs i) e te ∧ SnE E te aa) : ∃ te, (∀ i, PE (Xs i) e te) ∧ SnE E te aa := by
  refine ⟨fun σ H Q => ∀ i, (h i).choose σ H Q, fun i => ⟨fun pins s σ H Q I q => (h i).choose_spec.1.run pins s σ H Q I (q i)⟩, ⟨fun {ρ Ω Φ} q {P F H σ Q} o rp k i => (h i).choose_spec.2.go q o rp k⟩⟩
theorem all_pts {ι : Type} {Xs : ι → Cx} {E : En} {es : List Expr} (h : ∀ i, ∃ te, PTs (Xs i) es te ∧ SnT E te at_) : ∃ te, (∀ i, PTs (Xs i) es te) ∧ SnT E te at_ := by
  refine ⟨fun σ H Q => ∀ i, (h i).choose σ H Q, fun i => ⟨fun pins s σ H Q I q => (h i).choose_spec.1.run pins s σ H Q I (q i)⟩, ⟨fun {ρ Ω Φ} q {P F H σ Q} o rp k i => (h i).choose_spec.2.go q o rp k⟩⟩
theorem all_pg {ι : Type} {Xs : ι → Cx} {E : En} {vs : List Nat} (h : ∀ i, ∃ g', PG (Xs i) e g' ∧ SnG E g' g ∧ GOnly g' vs) : ∃ g', (∀ i, PG (Xs i) e g') ∧ SnG E g' g ∧ GOnly g' vs := by
  refine ⟨fun v σ H Q => ∀ i, (h i).choose v σ H Q, fun i => ⟨fun pins s σ H v u Q I r q => (h i).choose_spec.1.run pins s σ H v u Q I r (q i)⟩, ⟨fun {x ρ k} q {P F H Ω v σ Q} o rp r k i => (h i).choose_spec.2.1.go q o rp r k⟩, fun {v σ H Q Q'} q k i => (h i).choose_spec.2.2 (q i) k⟩
section
variable {elt iter : Expr} {ifs : List Expr} {scope : Scope} {own : List (Str × Nat)} {tt : AT} {te : AE}
abbrev BI := Shared × Hp × Addr × List (Str × Addr) × List Addr
abbrev blkX (X : Cx) (scope : Scope) (i : BI) : Cx := X.blk i.1 i.2.1 scope (compEnvC scope i.2.2.2.1 i.2.2.1 X.env) i.2.2.2.2
theorem je_lc (hm : MOk (enX X G) m) (hc : X.calm = true) (hN : X.N.Nodup) (hi : JI X G tg iter ai) (ok : BlkOk X.N X.env.scope scope own)
    (hg : ∀ i, JGo (blkX X scope i) G tg g (own.map (·.2))) (ht : ∀ i, JTs (blkX X scope i) G ifs tt) (he : ∀ i, JE (blkX X scope i) G elt te) (hs : ∀ x, foldedSetIterable iter X.env x = pure x := by intro _; rfl) :
    JE X G (.ListComp elt [⟨tg, iter, ifs, 0⟩] scope pos) (aLc m ai g tt te (own.map (·.2))) := by
  obtain ⟨wi, p1, q1⟩ := hi
  obtain ⟨g', p2, q2, z2⟩ := all_pg (E := enX X G) hg
  obtain ⟨t', p3, q3⟩ := all_pts (E := enX X G) ht
  obtain ⟨e', p4, q4⟩ := all_pe (E := enX X G) he
  exact ⟨_, pe_lc hc hN p1 ok (fun s H C cl fp => p2 (s, H, C, cl, fp)) (fun s H C cl fp => p3 (s, H, C, cl, fp)) (fun s H C cl fp => p4 (s, H, C, cl, fp)) hs, lc_ok hm q1 q2 z2 q3 q4⟩
/-- y = [..] -/
theorem js_setLc {i : Nat} {y : Str} {py spos : Pos} (hm : MOk (enX X G) m) (hc : X.calm = true) (hN : X.N.Nodup) (hy : X.N[i]? = some y) (hyl : X.env.scope.names.lookup y = some .local)
    (hsw : swapsWith (.ListComp elt [⟨tg, iter, ifs, 0⟩] scope pos) (some (.Name y py)) spos.line X.env = pure true) (hi : JI X G tg iter ai) (ok : BlkOk X.N X.env.scope scope own)
    (hg : ∀ i, JGo (blkX X scope i) G tg g (own.map (·.2))) (ht : ∀ i, JTs (blkX X scope i) G ifs tt) (he : ∀ i, JE (blkX X scope i) G elt te) (hs : ∀ x, foldedSetIterable iter X.env x = pure x := by intro _; rfl) :
    JS X G (.Assign [.Name y py] (.ListComp elt [⟨tg, iter, ifs, 0⟩] scope pos) spos) (aAsg (aLc m ai g tt te (own.map (·.2))) (gN i)) := by
  obtain ⟨wi, p1, q1⟩ := hi
  obtain ⟨g', p2, q2, z2⟩ := all_pg (E := enX X G) hg
  obtain ⟨t', p3, q3⟩ := all_pts (E := enX X G) ht
  obtain ⟨e', p4, q4⟩ := all_pe (E := enX X G) he
  exact ⟨_, ps_setLc hc hN hy hyl hsw p1 ok (fun s H C cl fp => p2 (s, H, C, cl, fp)) (fun s H C cl fp => p3 (s, H, C, cl, fp)) (fun s H C cl fp => p4 (s, H, C, cl, fp)) hs, asg_ok (lc_ok hm q1 q2 z2 q3 q4) gN_ok⟩
end
end
/-! ### a def by its body -/
def startR (N : List Str) (svs : List SV) : Rho := svs.map some ++ List.replicate (N.length - svs.length) none
theorem pr_map {α β γ δ : Type} {R : α → β → Prop} {S : γ → δ → Prop} {f : α → γ} {g : β → δ} (h : ∀ a b, R a b → S (f a) (g b)) : ∀ {l : List α} {m : List β}, Paired R l m → Paired S (l.map f) (m.map g)
  | _, _, .nil => .nil
  | _, _, .cons r t => .cons (h _ _ r) (pr_map h t)
theorem pr_rep {α β : Type} {R : α → β → Prop} {a : α} {b : β} (h : R a b) : ∀ n, Paired R (List.replicate n a) (List.replicate n b)
  | 0 => .nil
  | n + 1 => .cons h (pr_rep h n)
theorem start_ok {K : Frag} {F : Hp} {N : List Str} {vs : List V} {svs : List SV} (r : Paired (Rp K F) vs svs) : RpE K F (L2.start N vs) (startR N svs) := by
  unfold L2.start startR
  rw [r.length]
  exact pr_app (pr_map (fun a b q => ⟨a, rfl, q⟩) r) (pr_rep trivial _)
section
variable {P : Program} {w : World} {K : Frag} {mg : Str → Option Value} {base : Heap} {CX : CXT} {k : Nat} {f : Addr} {fd : FuncData} {ps N : List Str} {T : Con} {x qual : Str} {st : Stmt} {as : (Addr → Prop) → XA → AS}
/-- THE RULE for a def: its body's reading as (for the addresses that are new, and what is wished of an exception), and that it keeps the contract T -/
theorem fn_ok (Fu : Fun K x qual st f fd) (S : FnScope N ps (defScope st)) (hT : Ari T ps.length)
    (hb : ∀ (cdv : Value) (A : Around) (outer : List Env) (s : Shared) (H : Hp) (E : XK) (G : Gn) (Ξ : XA), A.guards = some [] → Room k (A.deeper (envOfC qual (defScope st) s.heap.objs.size f cdv)) →
      (∀ {x : XI} {Ω : Om} {P' F H : Hp} {cls : Value} {d : Option Addr}, Ξ x Ω → Ok ⟨G, K⟩ P' F H Ω → RpX K F H cls d x → E cls d H) →
      JSs (cxOf CX P w K mg base N qual (defScope st) f cdv A outer s H E) G (defBody st) (as (fun p => G.H0 p = none) Ξ))
    (hr : ∀ Fr svs Ω Φ Ξ, T svs Ω Φ Ξ → as Fr Ξ { nx := fun _ Ω => Φ (.d .none) Ω, rt := Φ } (startR N svs) Ω) : FnG P w K mg base CX (k + 1) f fd ps (spOf K T) := by
  obtain ⟨oc, od, kV, doc, pm, an, cdv, ct, osl, rfl, lk, hcd⟩ := Fu.ex
  refine fnG_of lk hcd S (fun vs H Q E h => ?_) fun A outer s H vs Q E hgd hrm hsp => ?_
  · obtain ⟨P0, F, Ω, svs, Φ, Ξ, o, r, h, _⟩ := h
    rw [r.length]
    exact hT _ _ _ _ h
  · obtain ⟨P0, F, Ω, svs, Φ, Ξ, o, r, h, k1, k2⟩ := hsp
    obtain ⟨t, p, q⟩ := hb cdv A outer s H E ⟨F, H, P0⟩ Ξ hgd hrm fun z1 z2 z3 => k2 _ _ _ _ _ _ _ z1 z2 z3
    exact ⟨t, p, q.go (hr _ svs Ω Φ Ξ h) ⟨fun z o' _ _ => k1 _ _ _ _ _ _ z o' Dq.non, fun z o' _ r' => k1 _ _ _ _ _ _ z o' r', fun z _ _ _ => z.elim, fun z _ _ _ => z.elim⟩ o (start_ok r)⟩
/-- .. for a def that lets nothing out -/
theorem fn_ok0 {as : (Addr → Prop) → AS} (Fu : Fun K x qual st f fd) (S : FnScope N ps (defScope st)) (hT : Ari T ps.length)
    (hb : ∀ (cdv : Value) (A : Around) (outer : List Env) (s : Shared) (H : Hp) (E : XK) (G : Gn), A.guards = some [] → Room k (A.deeper (envOfC qual (defScope st) s.heap.objs.size f cdv)) →
      JSs (cxOf CX0 P w K mg base N qual (defScope st) f cdv A outer s H E).nox G (defBody st) (as (fun p => G.H0 p = none)))
    (hr : ∀ Fr svs Ω Φ Ξ, T svs Ω Φ Ξ → as Fr { nx := fun _ Ω => Φ (.d .none) Ω, rt := Φ } (startR N svs) Ω) : FnG P w K mg base CX0 (k + 1) f fd ps (spOf K T) :=
  fn_ok (as := fun Fr _ => as Fr) Fu S hT (fun cdv A outer s H E G Ξ h1 h2 h3 => by
    obtain ⟨t, p, q⟩ := hb cdv A outer s H E G h1 h2
    exact ⟨t, p.nox, ⟨fun {D ρ Ω} z {P F H σ D'} k o r => q.go z k o r⟩⟩) hr
theorem kargs (Fu : Fun K x qual st f fd) {ks : List Str} {n : Nat} {π : List Nat}
    (h : ∀ (kV doc pm : Value) (an : Option Addr) (cdv ct : Value) (us ws : List Value), us.length = n → ws.length = ks.length → bindArgs (PySem.W.fnOf x qual (defArgs st) (defBody st) (defScope st) .none kV doc pm an cdv ct) ⟨us, ks.zip ws⟩ = pure (ps.zip (π.map fun i => (us ++ ws).getD i .none))) : KArg K fd ps ks n π := by
  obtain ⟨oc, od, kV, doc, pm, an, cdv, ct, osl, rfl, lk, hcd⟩ := Fu.ex
  exact fun s us ws _ h1 h2 => .of_eq (h kV doc pm an cdv ct us ws h1 h2)
end
end Z
/-! Zr: list(reversed(xs)); xs[::-1]. -/
namespace Z
open PySem PySem.Spec PyProof.Rows L2
section
variable {prog : Program} {w : World} {A : Around} {E : Value → Shared → Prop} {s : Shared}
theorem rev_fill {R : Result → Shared → Prop} {it l S : Addr} {items : Array Value} {res : Value} {c₀ : Nat} (hh : A.handled = none) (hit : s.heap.IsRevIter it l ((items.size : Int) - 1)) (hl : s.heap.IsList l items) (hne : l ≠ it) (hn : items.size ≤ sizeLine)
    (hSi : S ≠ it) (hSl : S ≠ l) (hS : s.heap.get? S = some { cls := .type "list", data := .seq #[] c₀ })
    (hR : ∀ h' tk acc c', (∀ b o, b ≠ S → b ≠ it → s.heap.get? b = some o → h'.get? b = some o) → h'.get? S = some { cls := .type "list", dict := none, data := .seq acc c', slots := #[] } →
      ItemsOf (fun i v => items[items.size - 1 - i]? = some v) acc items.size → R (.ok (.ret res)) { s with heap := h', toks := tk }) :
    wpAny (model prog w) A.in1 (Builtin.List.listExtendWith (.ref S) (.ref it) res)
      (fun fin s' => match fin with | .done f => R (.ok f) s' | .again c' => c'.quiet = true ∧ codeAny (model prog w) A c' R s') (fun e s' => R (.error e) s') s := by
  have W := (Walks.listRev (prog := prog) (w := w) (A := A.in1) hh it l hne items).toS
  have hSf : S ∉ [it, l] := by
    intro z
    rcases List.mem_cons.mp z with q | q
    · exact hSi q
    · exact hSl (List.mem_singleton.mp q)
  have hT : s.TypeIs (.ref it) "list_reverseiterator" := hit.typeIs
  unfold Builtin.List.listExtendWith
  refine wpAny_bind (wpAny_typeOf hT ?_)
  have e1 : Builtin.List.listSameRef (.ref S) (.ref it) = false := by simp [Builtin.List.listSameRef, hSi]
  rw [if_neg (by rw [e1]; decide)]
  refine wpAny_bind (wpAny_pyIter_revIter hit (wpAny_bind (wpAny_holding ?_)))
  unfold Builtin.List.listLengthHint
  refine wpAny_bind (wpAny_specialOf hT RT.nolen_lri ?_)
  show wpAny _ _ (specialOf (Value.ref it) (Str.ofString "__length_hint__") >>= _) _ _ _
  refine wpAny_bind (wpAny_specialOf hT RT.hint_lri ?_)
  generalize hid : ("list_reverseiterator.__length_hint__" : String) = id0
  wp_delta
  rw [show splitId id0 = some ("list_reverseiterator", "__length_hint__") from by subst hid; decide +kernel]
  subst hid
  refine wpAny_bind (wpAny_isInstance (b := true) hT (by rw [isSubtype_type]; kernel_rfl) (wpAny_pure ?_))
  rw [if_neg (by decide)]
  have e0 : ((items.size : Nat) : Int) - 1 - ((0 : Nat) : Int) = (items.size : Int) - 1 := by omega
  refine wpAny_pure ⟨plainId_quiet F.plain_extend_loop _, codeAny_extend_loopS W hn S hSf res items.size 0 _ #[] c₀ rfl (Nat.zero_le _) ⟨Nat.zero_le _, by rw [e0]; exact hit, hl⟩ hS (ItemsOf.nil _) fun s' acc c' hm hS' hacc => ?_⟩
  rw [Moved.eq_with hm]
  refine hR s'.heap s'.toks acc c' (fun b o h1 h2 e => hm.heap b o (fun hmem => ?_) e) hS' hacc
  rcases List.mem_cons.mp hmem with q | q
  · exact h1 q
  · exact h2 (List.mem_singleton.mp q)
theorem call_list_revI {it l : Addr} {items : Array Value} {Q : Value → Shared → Prop} (hh : A.handled = none) (hit : s.heap.IsRevIter it l ((items.size : Int) - 1)) (hl : s.heap.IsList l items) (hne : l ≠ it) (hn : items.size ≤ sizeLine)
    (hQ : ∀ h' tk acc c', (∀ b o, b ≠ it → s.heap.get? b = some o → h'.get? b = some o) → h'.get? s.heap.objs.size = some { cls := .type "list", dict := none, data := .seq acc c', slots := #[] } →
      ItemsOf (fun i v => items[items.size - 1 - i]? = some v) acc items.size → Q (.ref s.heap.objs.size) { s with heap := h', toks := tk }) :
    wpAny (model prog w) A (PySem.call (.type "list") [.ref it]) Q E s := by
  refine callType_codes (Q₁ := fun obj s₁ => obj = .ref s.heap.objs.size ∧ s₁ = { s with heap := s.heap.push { cls := .type "list", data := .seq #[] } }) PySem.F.called_list (PySem.F.typeCall_list_1 _) PySem.F.entry_list_init
    (code_list_new _ ⟨rfl, rfl⟩) fun obj s₁ h₁ => ?_
  obtain ⟨rfl, rfl⟩ := h₁
  generalize hSz : s.heap.objs.size = S
  have hS : (s.heap.push { cls := .type "list", data := .seq #[] }).get? S = some { cls := .type "list", data := .seq #[] } := by rw [← hSz]; exact Heap.get?_push_size _ rfl
  obtain ⟨oi, hoi, _⟩ := id hit
  obtain ⟨ol, hol, _⟩ := id hl
  have hSi : S ≠ it := by rw [← hSz]; exact Nat.ne_of_gt (Heap.lt_size hoi)
  have hSl : S ≠ l := by rw [← hSz]; exact Nat.ne_of_gt (Heap.lt_size hol)
  refine ⟨⟨_, hS, rfl⟩, PySem.F.args_list_init_2 _ _, ?_⟩
  show wpAny _ _ (do let old ← Builtin.List.listItems (.ref S); Builtin.List.listUpdate (.ref S) (fun _ => #[]); letGo old.toList.reverse; Builtin.List.listExtendWith (.ref S) (.ref it) .none) _ _ _
  refine wpAny_bind ?_
  unfold Builtin.List.listItems
  refine wpAny_bind (wpAny_seqItems hS rfl (wpAny_pure ?_))
  refine wpAny_bind (m := Builtin.List.listUpdate (.ref S) (fun _ => #[])) ?_
  unfold Builtin.List.listUpdate
  refine wpAny_updateSeq hS rfl ?_
  have hS2 := Heap.get?_update_self (Obj.mapSeq (fun _ => (#[] : Array Value))) hS rfl
  have oth : ∀ b o, b ≠ S → s.heap.get? b = some o → ((s.heap.push { cls := .type "list", data := .seq #[] }).update S (Obj.mapSeq (fun _ => (#[] : Array Value)))).get? b = some o :=
    fun b o hb e => (Heap.get?_update_other _ _ (Ne.symm hb)).trans (Heap.get?_push_of_some _ e)
  refine wpAny_bind (wpAny_letGo ?_)
  refine rev_fill (A := A.in1) (c₀ := _) (items := items) (l := l) hh (hit.at fun o e => oth it o (Ne.symm hSi) e) ?_ hne hn hSi hSl hS2 (fun h' tk acc c' hk hS' hacc => ?_)
  · obtain ⟨ol, hol, hr⟩ := id hl
    exact ⟨ol, oth l ol (Ne.symm hSl) hol, hr⟩
  · rw [← hSz] at hS'
    refine ⟨rfl, ?_⟩
    have q := hQ h' tk acc c' (fun b o hb e => ?_) hS' hacc
    · rw [hSz] at q
      exact q
    · have hb2 : b ≠ S := by rw [← hSz]; exact Nat.ne_of_lt (Heap.lt_size e)
      exact hk b o hb2 hb (oth b o hb2 e)
end
section
variable {X : Cx} {G : Gn} {e : Expr} {aa : AE} {m : Mode}
/-- list(reversed(x)), x a list: a new list -/
def tLstRev (K : Frag) (te : TE) : TE := fun σ H Q => te σ H fun v H1 => ∃ (a : Addr) (xs : List V), v = .ref a ∧ SqL K H1 a xs ∧ ∀ q, H1 q = none → Q (.ref q) (upd H1 q (.lst xs.reverse))
theorem pe_lstRev {te : TE} {p p2 pos pos2 : Pos} (hc : X.calm = true) (hg : Gl X "list") (hm : X.mg "list" = none) (hg2 : Gl X "reversed") (hm2 : X.mg "reversed" = none) (he : PE X e te)
    (hs : starEach [e] X.env = (false, eval e X.env) :: starEach [] X.env)
    (hs2 : starEach [.Call (.Name "reversed" p2) [e] [] pos2] X.env = (false, eval (.Call (.Name "reversed" p2) [e] [] pos2) X.env) :: starEach [] X.env) :
    PE X (.Call (.Name "list" p) [.Call (.Name "reversed" p2) [e] [] pos2] [] pos) (tLstRev X.K te) := by
  refine ⟨fun pins s σ H Q I h => Call_ (ld_blt I hg hm boot_list (PyProof.Rows.callWith_type1 (args_cons (Call_ (ld_blt I hg2 hm2 PyProof.Rows.boot_reversed (PyProof.Rows.callWith_type1 (args_cons (thn (he.run pins s σ H _ I h) fun u s1 ⟨v, H1, I1, r1, q1⟩ => args_nil ?_) hs) hs rfl))) hs2) hs2 rfl))⟩
  obtain ⟨a, xs, rfl, hq, q⟩ := q1
  obtain rfl : u = Value.ref a := r1
  obtain ⟨its, rv, p', hz⟩ := I1.list hq
  refine call_reversed_list p'.isList (args_nil ?_)
  generalize hro : revObj a ((its.toArray.size : Int) - 1) = ro
  have k0 : ∀ b o, s1.heap.get? b = some o → (s1.heap.push ro).get? b = some o := fun b o z => Heap.get?_push_of_some _ z
  have I2 : Inv X pins σ H1 { s1 with heap := s1.heap.push ro } := I1.kept (t' := s1.toks) k0
  obtain ⟨f0, f1, f2, f3, f4, f5⟩ := I1.fpOk (H' := H1) (b := s1.heap.objs.size) (Nat.le_refl _) (I1.hok.fresh (Nat.le_refl _))
  have hl := p'.isList
  obtain ⟨ol, hol, _⟩ := id hl
  have hne : a ≠ s1.heap.objs.size := Nat.ne_of_lt (Heap.lt_size hol)
  have hn : its.toArray.size ≤ sizeLine := by rw [List.size_toArray, ← rv.length]; exact hz
  have hri : ({ s1 with heap := s1.heap.push ro } : Shared).heap.IsRevIter s1.heap.objs.size a ((its.toArray.size : Int) - 1) := by
    rw [← hro]
    exact ⟨_, Heap.get?_push_size _ rfl, rfl, rfl⟩
  have hDn : H1 (s1.heap.push ro).objs.size = none := I1.hok.fresh (by rw [Heap.size_push]; exact Nat.le_succ _)
  have hne2 : (s1.heap.push ro).objs.size ≠ s1.heap.objs.size := by rw [Heap.size_push]; exact Nat.succ_ne_self _
  refine call_list_revI (s := { s1 with heap := s1.heap.push ro }) (I1.ok.hd hc) hri (hl.push _) hne hn fun h' tk acc c' hk hS hi => ?_
  have hlen : xs.reverse.length ≤ sizeLine := by rw [List.length_reverse]; exact hz
  have hv : Vals xs.reverse acc.toList := RT.vals_rev rv hi
  have I3 := I2.laid (a := (s1.heap.push ro).objs.size) (o := .lst xs.reverse) (t' := tk) (h' := (s1.heap.push ro).push { cls := .type "list", data := .seq acc c' }) (fun b o z => Heap.get?_push_of_some _ z) (Nat.le_refl _)
    (show ObjOk X.prog X.w _ _ _ (.lst xs.reverse) from ⟨hlen, acc.toList, c', hv, by rw [Array.toArray_toList]; exact Heap.get?_push_size _ rfl⟩)
  have I4 := I3.turned (t' := tk) (h' := h') (it := s1.heap.objs.size) (fun b o hb z => ?_) (by rw [upd_ne (Ne.symm hne2)]; exact f0) f1 f3 f4 f5
  · exact ⟨.ref (s1.heap.push ro).objs.size, _, I4, rfl, q _ hDn⟩
  · by_cases hbS : b = (s1.heap.push ro).objs.size
    · rcases Heap.get?_push_cases z with ⟨_, e⟩ | z2
      · rw [hbS, e]
        exact hS
      · exact hk b o hb z2
    · rcases Heap.get?_push_cases z with ⟨e, _⟩ | z2
      · exact absurd e hbS
      · exact hk b o hb z2
def aLstRev (m : Mode) (a : AE) : AE := fun ρ Ω Φ => a ρ Ω fun x Ω' => rdS x Ω' fun ds => (match x with | .d (.tuple _) => False | _ => True) ∧ newL m ds.reverse Ω' Φ
theorem je_listRev {p p2 pos pos2 : Pos} (hm : MOk (enX X G) m) (hc : X.calm = true) (hg : Gl X "list") (hml : X.mg "list" = none) (hg2 : Gl X "reversed") (hm2 : X.mg "reversed" = none) (ha : JE X G e aa)
    (hs : starEach [e] X.env = (false, eval e X.env) :: starEach [] X.env := by rfl)
    (hs2 : starEach [.Call (.Name "reversed" p2) [e] [] pos2] X.env = (false, eval (.Call (.Name "reversed" p2) [e] [] pos2) X.env) :: starEach [] X.env := by rfl) :
    JE X G (.Call (.Name "list" p) [.Call (.Name "reversed" p2) [e] [] pos2] [] pos) (aLstRev m aa) := by
  obtain ⟨t, h1, h2⟩ := ha
  refine ⟨_, pe_lstRev hc hg hml hg2 hm2 h1 hs hs2, ⟨fun {ρ Ω Φ} h {P F H σ Q} o rp k => h2.go h o rp fun {v sv Ω1 F1 H1} q o1 s1 r1 => ?_⟩⟩
  obtain ⟨a, vs, ds, rfl, hs, da, q⟩ := rdL_of_S q o1 r1
  exact ⟨a, vs, rfl, hs, fun p hp => newL_ok hm o1 (dqa_rev da) q (fun q2 o2 s2 r2 => k q2 o2 (s1.trans s2) r2) hp⟩
end
end Z
/-! Zw: the law's end, for a def that is only called where no repr is under way. -/
namespace Z
open PySem PySem.Spec PyProof.Rows L2
section
variable {P : Program} {w : World} {K : Frag} {mg mb : Str → Option Value} {k : Nat} {fa a : Addr} {fd : FuncData} {x : Str} {sp : Sp} {s : Shared} {vs : List Value} {ns : List Int}
/-- what the law's call must come to -/
abbrev WellDone (s0 : Shared) : Except Value Flow → Shared → Prop := fun r s' => r = .ok (.ret (.bool true)) ∧ OldK s0.heap s'.heap ∧ s'.os = s0.os ∧ AllBare s'.gens
/-- .. from a heap of tracked objects in which at most the script lies -/
theorem lawG_in {H : Hp} (kin : K.In s.heap) (gns : s.heap.Ns mainGlobals mg) (bns : s.heap.Ns builtinsNs mb) (bok : ∀ y : Str, y ≠ "__name__" → mb y = bootBuiltins y) (nol : s.heap.NoLimit) (ng : s.gens = #[])
    (obj : s.heap.get? a = some { cls := .type "list", data := .seq vs.toArray }) (rm : Room k callerA)
    (F : ∀ b : Heap, K.In b → b.Ns mainGlobals mg → FnG P w K mg b CX0 k fa fd [x] sp) (bd : ∀ (z : Shared) (u : Value), BindsTo z fd ⟨[u], []⟩ [(x, u)])
    (only : Only H) (hs : sp [.ref a] H (fun v _ => v = .bl true) fun _ _ _ => False) (hok : HOk P w H s.heap) (just : ∀ b, H b ≠ none → b = a) (out : H a ≠ none → K.lookup a = none) :
    codeAny (model P w) callerA (.call (.ref fa) ⟨[.ref a], []⟩) (WellDone s) s := by
  have isA : ∀ {b : Addr} {u : HO}, H b = some u → b = a := fun {b u} e => just b fun z => by rw [e] at z; cases z
  have free : ∀ {b : Addr} {o : Obj} {es : Array DictEntry} {ep : Nat}, s.heap.get? b = some o → o.data = .dict es ep → H b = none := by
    intro b o es ep e d
    rcases hb : H b with _ | u
    · rfl
    · cases isA hb
      cases obj.symm.trans e
      exact absurd (show Data.seq vs.toArray _ = Data.dict es ep from d) (fun z => by cases z)
  have ns' : ∀ {b : Addr} {m : Str → Option Value}, s.heap.Ns b m → (hidT s.heap H).Ns b m := by
    rintro b m ⟨o, es, ep, e, d, r⟩
    exact ⟨o, es, ep, hidT_get e (free e d), d, r⟩
  have kin' : K.In (hidT s.heap H) := by
    intro b o e
    refine hidT_get (kin b o e) ?_
    rcases hb : H b with _ | u
    · rfl
    · cases isA hb
      have z := out (by rw [hb]; exact fun q => by cases q)
      cases z.symm.trans e
  obtain ⟨mc, c1, c2⟩ := nol
  have env : Env0 P w K mg (hidT s.heap H) callerA [] s H :=
    ⟨rfl, ⟨kin', ns' gns, ⟨mb, ns' bns, bok⟩, ⟨mc, ns' c1, c2⟩⟩, fun _ _ e => of_hidT e, Nat.le_of_eq (hidT_size _ _), trivial, fun _ z => absurd (show _ ∈ ([] : List Addr) from z) (by simp), hok, .of_eq ng⟩
  refine codeAny_mono ((F _ kin' (ns' gns)).go callerA [] s H ⟨[.ref a], []⟩ [.ref a] [.ref a] _ _ rm rfl env (bd s (.ref a)) (.cons rfl .nil) hs) fun r s' got => ?_
  match r, got with
  | .error _, got => exact got.elim
  | .ok .next, got => exact got.elim
  | .ok .brk, got => exact got.elim
  | .ok .cont, got => exact got.elim
  | .ok (.ret u), got =>
    obtain ⟨v, H', os, bare, un, hok', ru, rfl⟩ := got
    cases (show u = Value.bool true from ru)
    refine ⟨rfl, OldK.of_keep fun b o e => ?_, os, bare⟩
    rcases hb : H b with _ | u
    · exact un.keep b o e hb (fun z => absurd (show b ∈ ([] : List Addr) from z) (by simp)) (by simp)
    · rcases only b with z | ⟨ob, xs, z⟩
      · cases z.symm.trans hb
      · have g1 := (hok b _ z).1
        cases g1.symm.trans e
        exact (hok' b _ (un.frzs b _ _ z)).1
theorem lawG (kin : K.In s.heap) (gns : s.heap.Ns mainGlobals mg) (bns : s.heap.Ns builtinsNs mb) (bok : ∀ y : Str, y ≠ "__name__" → mb y = bootBuiltins y) (nol : s.heap.NoLimit) (ng : s.gens = #[])
    (obj : s.heap.get? a = some { cls := .type "list", data := .seq vs.toArray }) (hi : IntsAre vs ns) (hl : ns.length ≤ sizeLine) (rm : Room k callerA)
    (F : ∀ b : Heap, K.In b → b.Ns mainGlobals mg → FnG P w K mg b CX0 k fa fd [x] sp) (bd : ∀ (z : Shared) (u : Value), BindsTo z fd ⟨[u], []⟩ [(x, u)])
    (hsp : ∀ H : Hp, Only H → SqL K H a (ns.map V.int) → sp [.ref a] H (fun v _ => v = .bl true) fun _ _ _ => False) :
    codeAny (model P w) callerA (.call (.ref fa) ⟨[.ref a], []⟩) (WellDone s) s := by
  have ru := vals_ints hi
  rcases hk : K.lookup a with _ | o
  · -- the script stands outside the written part
    let o : Obj := { cls := .type "list", data := .seq vs.toArray }
    let H : Hp := fun b => if b = a then some (.frz o (.lst (ns.map V.int))) else none
    have at_ : H a = some (.frz o (.lst (ns.map V.int))) := if_pos rfl
    have off : ∀ {b}, b ≠ a → H b = none := fun h => if_neg h
    have only : Only H := fun b => by
      by_cases e : b = a
      · subst e; exact .inr ⟨_, _, at_⟩
      · exact .inl (off e)
    refine lawG_in (H := H) kin gns bns bok nol ng obj rm F bd only (hsp H only (.inl (.inr ⟨o, at_⟩))) (fun b u z => ?_) (fun b z => Classical.byContradiction fun e => z (off e)) fun _ => hk
    by_cases e : b = a
    · subst e
      cases at_.symm.trans z
      exact ⟨obj, by rw [List.length_map]; exact hl, vs, _, ru, obj⟩
    · cases (off e).symm.trans z
  · have e := kin a o hk
    cases obj.symm.trans e
    have only : Only fun _ => none := fun _ => .inl rfl
    refine lawG_in (H := fun _ => none) kin gns bns bok nol ng obj rm F bd only (hsp _ only (.inr ⟨_, vs.toArray, _, hk, rfl, rfl, rfl, by rw [List.size_toArray, hi.length]; exact hl, by simpa using ru⟩)) (fun b u z => ?_) (fun b z => absurd rfl z) fun z => absurd rfl z
    cases (show (none : Option HO) = some u from z)
end
/-- the script: a list of ints, of at most n, each of at most 2^20 bits -/
def ScrOk (n : Nat) (ns : List Int) : Prop := ns.length ≤ n ∧ ∀ z ∈ ns, Builtin.Int.intBits z ≤ 1048576
theorem dqa_ofInts {K : Frag} {F : Hp} : ∀ ns : List Int, DqAll K F (ns.map V.int) (ns.map PyData.int)
  | [] => .nil
  | n :: r => .cons (.int n) (dqa_ofInts r)
theorem ok_start {K : Frag} {H : Hp} : Ok ⟨⟨H, H, fun _ => none⟩, K⟩ (fun _ => none) H H [] :=
  ⟨Same.refl _, fun _ _ z => (by cases z), fun _ z => absurd z (by simp), fun _ z => absurd rfl z, Same.refl H, fun _ h1 h2 => absurd h2 h1, fun _ e => e, Same.refl H, fun _ z => absurd z (by simp), .nil⟩
/-- what the law promises: at a script of at most n ints, True -/
inductive LawC (n : Nat) : Con where
  | mk {ns : List Int} {Φ : PhiE} {Ξ : XA} : ScrOk n ns → (∀ Ω, Φ (.d (.bool true)) Ω) → LawC n [.l (ns.map PyData.int)] [] Φ Ξ
theorem LawC.ari {n : Nat} : Ari (LawC n) 1 := by rintro _ _ _ _ ⟨_, _⟩; rfl
/-- THE END -/
theorem walk {l : PySem.W.OpenLaw} {n k : Nat} {q : Program} {loose : List Str} {XP : (Str → Option Value) → Heap → Prop} {YP : World → Heap → Prop} {d : DefRec} {K : Params → Frag} {x : Str}
    (hn : l.most = some n) (hdf : d.params.defaults = []) (in_ : ∀ (w : World) (h : Heap), YP w h → (K w.params).In h) (hr : Room k callerA) (hz : n ≤ sizeLine)
    (F : ∀ (w : World) (mg : Str → Option Value) (fa : Addr) (h : Heap), (K w.params).In h → h.Ns mainGlobals mg → mg d.name = some (.ref fa) →
      ∃ fd : FuncData, (∀ (s : Shared) (v : Value), BindsTo s fd ⟨[v], []⟩ [(x, v)]) ∧ ∀ b : Heap, (K w.params).In b → b.Ns mainGlobals mg → FnG l.prog w (K w.params) mg b CX0 k fa fd [x] (spOf (K w.params) (LawC n))) :
    PySem.W.WalkO q loose XP YP l.row.toRowW d [] fun f vs => PySem.call f vs := by
  refine Att.attach_callB hn hdf fun w _ s mg mb fa _ _ _ _ a vs ns G Y _ _ _ nm obj iv len bits ng => ?_
  have kin := in_ w _ Y
  obtain ⟨fd, bd, f⟩ := F w mg fa _ kin G.T.g nm
  exact lawG kin G.T.g G.T.b G.T.builtins G.T.nolimit ng obj iv (Nat.le_trans len hz) hr f bd fun H _ hs =>
    ⟨_, H, [], [.l (ns.map PyData.int)], fun x _ => x = .d (.bool true), fun _ _ => False, ok_start, .cons ⟨a, _, rfl, hs, dqa_ofInts ns⟩ .nil, .mk ⟨len, bits⟩ fun _ => rfl,
      fun v sv Ω' P' F' H' e o' r => (by subst e; exact dqb r), fun _ _ _ _ _ _ _ z => z.elim⟩
end Z
/-! Zb: the bag of a law, as a pair of cells. -/
namespace Z
open PySem PySem.Spec PyProof.Rows L2
theorem At.app {Ω : Om} {a : Addr} {c : OC} {f : OC → Om} (t : At Ω a c f) : ∀ L : Om, At (L ++ Ω) a c (fun z => L ++ f z)
  | [] => t
  | p :: L => .there (At.app t L)
abbrev I (i : Int) : SV := .d (.int i)
abbrev T (ds : List PyData) : SV := .d (.tuple ds)
abbrev isD (is : List Int) : List PyData := is.map PyData.int
structure BagOk (n m : Int) (is : List Int) : Prop where
  n0 : 0 ≤ n
  m0 : 0 ≤ m
  m1 : m < 2147483647
  i0 : ∀ i ∈ is, 0 ≤ i
/-- the bag x: [cells, n, m] and its cells, behind L and before R -/
inductive Bag (x : SV) (L R : Om) : Om → Prop where
  | mk {b c : Addr} {n m : Int} {is : List Int} : x = .r (.ref b) → BagOk n m is → Bag x L R (L ++ (b, .lx [.r (.ref c), I n, I m]) :: (c, .lst (isD is)) :: R)
theorem Bag.push {x : SV} {L R Ω : Om} (h : Bag x L R Ω) (p : Addr × OC) : Bag x (p :: L) R (p :: Ω) := by
  obtain ⟨h1, h2⟩ := h
  exact .mk (L := p :: L) h1 h2
/-- _law_draw: anything below -/
inductive DrawC : Con where
  | mk {x : SV} {below : Int} {L R Ω : Om} {Φ : PhiE} {Ξ : XA} : Bag x L R Ω → 0 < below → below.natAbs.log2 < 9000 → (∀ r Ω', 0 ≤ r → r < below → Bag x L R Ω' → Φ (I r) Ω') → DrawC [x, I below] Ω Φ Ξ
theorem DrawC.ari : Ari DrawC 2 := by rintro _ _ _ _ ⟨_, _, _, _⟩; rfl
/-- _law_pick: any item of a list of data -/
inductive PickC : Con where
  | mk {x : SV} {ds : List PyData} {L R Ω : Om} {Φ : PhiE} {Ξ : XA} : Bag x L R Ω → ds ≠ [] → ds.length < 2 ^ 60 → (∀ d ∈ ds, ∀ Ω', Bag x L R Ω' → Φ (.d d) Ω') → PickC [x, .d (.list ds)] Ω Φ Ξ
theorem PickC.ari : Ari PickC 2 := by rintro _ _ _ _ ⟨_, _, _, _⟩; rfl
/-- _law_own_bag -/
inductive OwnC (k : Nat) : Con where
  | mk {ns : List Int} {Φ : PhiE} {Ξ : XA} : ScrOk k ns → (∀ x Ω, Bag x [] [] Ω → Φ x Ω) → OwnC k [.l (isD ns)] [] Φ Ξ
theorem OwnC.ari {k : Nat} : Ari (OwnC k) 1 := by rintro _ _ _ _ ⟨_, _⟩; rfl
/-- _law_great: anything below -/
inductive GreatC : Con where
  | mk {x : SV} {below : Int} {L R Ω : Om} {Φ : PhiE} {Ξ : XA} : Bag x L R Ω → 0 < below → below ≤ 10 ^ 60 → (∀ r Ω', 0 ≤ r → r < below → Bag x L R Ω' → Φ (I r) Ω') → GreatC [x, I below] Ω Φ Ξ
theorem GreatC.ari : Ari GreatC 2 := by rintro _ _ _ _ ⟨_, _, _, _⟩; rfl
end Z
/-! Zd: facts on data of ints: what can be told as text and compared. -/
namespace Z
open PySem PySem.Spec PyProof.Rows L2
theorem depthAll_isD : ∀ is : List Int, PyData.depthAll (isD is) ≤ 1
  | [] => by simp [isD, PyData.depthAll]
  | i :: r => by
    have h := depthAll_isD r
    simp only [isD, List.map_cons, PyData.depthAll, PyData.depth] at h ⊢
    omega
theorem depth_isD (is : List Int) : PyData.depth (.tuple (isD is)) ≤ 2 ∧ PyData.depth (.list (isD is)) ≤ 2 := by
  have h := depthAll_isD is
  simp only [PyData.depth]
  omega
theorem shaped_isD (is : List Int) : SeqAt.shaped (.tuple (isD is)) = true ∧ SeqAt.shaped (.list (isD is)) = true := by
  have h := depth_isD is
  have c := canLayAll_ints is
  unfold SeqAt.shaped
  simp only [PyData.canLay0, Bool.and_eq_true, decide_eq_true_eq]
  exact ⟨⟨c, by omega⟩, ⟨c, by omega⟩⟩
theorem showAll_isD : ∀ {is : List Int}, (∀ i ∈ is, i.natAbs.log2 < 1920) → PyData.showableAll (isD is) = true
  | [], _ => rfl
  | i :: r, h => by
    simp only [isD, List.map_cons, PyData.showableAll, PyData.showable, Bool.and_eq_true, decide_eq_true_eq]
    exact ⟨h i List.mem_cons_self, showAll_isD fun j hj => h j (List.mem_cons_of_mem _ hj)⟩
theorem noDict_isD : ∀ is : List Int, PyData.hasDictAll (isD is) = false
  | [] => rfl
  | i :: r => by
    simp only [isD, List.map_cons, PyData.hasDictAll, PyData.hasDict, Bool.false_or]
    exact noDict_isD r
theorem join_le {B : Nat} : ∀ {ts : List Str}, (∀ t ∈ ts, t.length ≤ B) → (Str.join ", " ts).length ≤ ts.length * (B + 2)
  | [], _ => Nat.zero_le _
  | [x], h => by
    have h1 := h x List.mem_cons_self
    show x.length ≤ 1 * (B + 2)
    omega
  | x :: y :: r, h => by
    have h1 := h x List.mem_cons_self
    have h2 := join_le (ts := y :: r) fun t ht => h t (List.mem_cons_of_mem _ ht)
    show (x ++ ", " ++ Str.join ", " (y :: r)).length ≤ _
    rw [strLen_append, strLen_append]
    have e : (Str.ofString ", ").length = 2 := by decide +kernel
    rw [e]
    simp only [List.length_cons] at h2 ⊢
    have e3 : (r.length + 1 + 1) * (B + 2) = (r.length + 1) * (B + 2) + (B + 2) := Nat.succ_mul _ _
    omega
theorem shown_isD : ∀ {is : List Int}, (∀ i ∈ is, i.natAbs.log2 < 1920) → (PyData.shownAll (isD is)).length = is.length ∧ ∀ t ∈ PyData.shownAll (isD is), t.length ≤ 1921
  | [], _ => ⟨rfl, fun _ h => by cases h⟩
  | i :: r, h => by
    obtain ⟨h1, h2⟩ := shown_isD (is := r) fun j hj => h j (List.mem_cons_of_mem _ hj)
    refine ⟨by simp only [isD, List.map_cons, PyData.shownAll, List.length_cons]; exact congrArg (· + 1) h1, fun t ht => ?_⟩
    simp only [isD, List.map_cons, PyData.shownAll, List.mem_cons] at ht
    rcases ht with rfl | ht
    · simp only [PyData.shown]; exact int_text_len_1921 (h i List.mem_cons_self)
    · exact h2 t ht
/-- what a law holds beside what is due -/
structure SameOk (d : PyData) : Prop where
  kind : (∃ i, d = .int i) ∨ (∃ ds, d = .tuple ds)
  sh : d.showable = true
  nd : d.hasDict = false
  dp : d.depth ≤ 60
  ln : d.shown.length ≤ sizeLine
  fm : SeqAt.shaped d = true
theorem SameOk.eq {d : PyData} (h : SameOk d) : PyData.eqv d d = true := SeqAt.eqv_refl d (SeqAt.canLay_of_shaped h.fm)
theorem log2_lt {n k : Nat} (h : n < 2 ^ k) (hk : 0 < k) : n.log2 < k := by
  rcases Nat.eq_zero_or_pos n with rfl | hn
  · simpa using hk
  · exact (Nat.log2_lt (by omega)).mpr h
theorem sameInt {i : Int} (h : i.natAbs < 2 ^ 1900) : SameOk (.int i) := by
  have h2 : i.natAbs.log2 < 1900 := log2_lt h (by decide)
  exact ⟨.inl ⟨_, rfl⟩, by simp only [PyData.showable, decide_eq_true_eq]; omega, rfl, by simp [PyData.depth], by
    have := int_text_len_1921 (i := i) (by omega)
    simp only [PyData.shown]
    have e : sizeLine = 16777216 := by decide
    omega, by unfold SeqAt.shaped; simp [PyData.canLay0, PyData.depth]⟩
theorem sameTup {is : List Int} (h : ∀ i ∈ is, i.natAbs < 2 ^ 1900) (hl : is.length ≤ 8000) : SameOk (.tuple (isD is)) := by
  have h2 : ∀ i ∈ is, i.natAbs.log2 < 1920 := fun i hi => by
    have := log2_lt (h i hi) (by decide)
    omega
  obtain ⟨a, b⟩ := shown_isD h2
  exact ⟨.inr ⟨_, rfl⟩, by simp only [PyData.showable]; exact showAll_isD h2, by simp only [PyData.hasDict]; exact noDict_isD is, by have := (depth_isD is).1; omega, by
    have e : sizeLine = 16777216 := by decide
    have j := join_le b
    simp only [PyData.shown, tupleText]
    rw [strLen_append, strLen_append]
    have e1 : (Str.ofString "(").length = 1 := by decide +kernel
    have e2 : (Str.ofString (if (PyData.shownAll (isD is)).length == 1 then ",)" else ")" : String)).length ≤ 2 := by split <;> decide +kernel
    rw [e1]
    rw [a] at j
    have : is.length * (1921 + 2) ≤ 8000 * (1921 + 2) := Nat.mul_le_mul_right _ hl
    omega, (shaped_isD is).1⟩
theorem eqvAll_isD : ∀ is js : List Int, PyData.eqvAll (isD is) (isD js) = decide (is = js)
  | [], [] => by simp [isD, PyData.eqvAll]
  | [], _ :: _ => by simp [isD, PyData.eqvAll]
  | _ :: _, [] => by simp [isD, PyData.eqvAll]
  | i :: r, j :: t => by
    have h := eqvAll_isD r t
    simp only [isD] at h
    simp only [isD, List.map_cons, PyData.eqvAll, PyData.eqv, h]
    by_cases e : i = j <;> by_cases e2 : r = t <;> simp [e, e2]
theorem eqv_nil (is : List Int) : PyData.eqv (.list (isD is)) (.list []) = decide (is = []) := by
  rw [PyData.eqv]
  exact eqvAll_isD is []
theorem shaped_nil : SeqAt.shaped (.list []) = true := (shaped_isD []).2
/-- _law_same: what is held beside itself -/
inductive SameC : Con where
  | mk {d : PyData} {Ω : Om} {Φ : PhiE} {Ξ : XA} : SameOk d → Φ (.d (.bool true)) Ω → SameC [.d d, .d d] Ω Φ Ξ
theorem SameC.ari : Ari SameC 2 := by rintro _ _ _ _ ⟨_, _⟩; rfl
/-! ### items -/
theorem erase_isD : ∀ (is : List Int) (k : Nat), (isD is).eraseIdx k = isD (is.eraseIdx k)
  | [], _ => rfl
  | _ :: _, 0 => rfl
  | i :: r, k + 1 => congrArg (PyData.int i :: ·) (erase_isD r k)
theorem app_isD (is js : List Int) : isD is ++ isD js = isD (is ++ js) := (List.map_append).symm
theorem dataOf_map : ∀ ds : List PyData, dataOf (ds.map SV.d) = some ds
  | [] => rfl
  | d :: r => by
    show (match dataOf (r.map SV.d) with | some ds => some (d :: ds) | none => none) = _
    rw [dataOf_map r]
theorem newX_d {m : Mode} {ds : List PyData} {Ω : Om} {Φ : PhiE} (h : newL m ds Ω Φ) : newX m (ds.map SV.d) Ω Φ := by
  cases m with
  | none =>
    show (match dataOf (ds.map SV.d) with | some ds => Φ (.d (.list ds)) Ω | none => False)
    rw [dataOf_map]
    exact h
  | some Fr =>
    intro a fa
    have e : mkL (ds.map SV.d) = .lst ds := by unfold mkL; rw [dataOf_map]
    rw [e]
    exact h a fa
theorem cutD_isD (is : List Int) (lo hi : Option Int) : cutD (isD is) lo hi = isD (cutD is lo hi) := by
  unfold cutD
  rw [isD, List.length_map, isD, List.map_take, List.map_drop]
theorem cutD_len {α : Type} (xs : List α) (lo hi : Option Int) : (cutD xs lo hi).length ≤ xs.length := by
  unfold cutD
  rw [List.length_take, List.length_drop]
  omega
theorem get_mapD {ds : List PyData} {i : Nat} {x : SV} (h : (ds.map SV.d)[i]? = some x) : ∃ d, ds[i]? = some d ∧ x = .d d := by
  rw [List.getElem?_map] at h
  cases e : ds[i]? with
  | none => rw [e] at h; cases h
  | some d => rw [e] at h; cases h; exact ⟨d, rfl, rfl⟩
theorem get_isD {is : List Int} {i : Nat} {x : SV} (h : ((isD is).map SV.d)[i]? = some x) : ∃ z, is[i]? = some z ∧ x = I z := by
  obtain ⟨d, h1, rfl⟩ := get_mapD h
  rw [isD, List.getElem?_map] at h1
  cases e : is[i]? with
  | none => rw [e] at h1; cases h1
  | some z => rw [e] at h1; cases h1; exact ⟨z, rfl, rfl⟩
theorem nat_bd {i : Int} {k : Nat} (h1 : -(2 ^ k) < i) (h2 : i < 2 ^ k) : i.natAbs < 2 ^ k := by
  have e : ((2 ^ k : Nat) : Int) = 2 ^ k := by simp
  omega
theorem cmul {i j : Int} (h1 : -(2 ^ 240) < i) (h2 : i < 2 ^ 240) (h3 : -(2 ^ 240) < j) (h4 : j < 2 ^ 240) : CMulX i j := mulx_ok (nat_bd h1 h2) (nat_bd h3 h4) (by decide)
theorem cdiv {i j : Int} (h1 : 0 < j) (h2 : j < 2 ^ 240) : CDivW i j := ⟨h1, by
  have := log2_lt (nat_bd (k := 240) (by omega) h2) (by decide)
  omega⟩
theorem bel {b : Int} (h0 : 0 < b) (h1 : b < 2 ^ 240) : b.natAbs.log2 < 9000 := (cdiv (i := 0) h0 h1).2
theorem atI_i {α : Type} {xs : List α} {i : Int} {a : α} (h0 : 0 ≤ i) (h : xs[i.toNat]? = some a) : atI xs i = some a := by
  have := atI_nat h
  rwa [Int.toNat_of_nonneg h0] at this
theorem atI_end {α : Type} {xs : List α} {a : α} (h : xs.getLast? = some a) : atI xs (-1) = some a := by
  obtain ⟨ys, rfl⟩ := List.getLast?_eq_some_iff.mp h
  exact atI_last ys a
end Z
/-! M84: the plain law of thinned rings. -/
namespace KK
open PySem PySem.Spec PyProof.Rows L2 Z
def Rm (m : Int) : Prop := 2 ≤ m ∧ m ≤ 10
theorem Rm.lits {m : Int} (h : Rm m) : m = 2 ∨ m = 3 ∨ m = 4 ∨ m = 5 ∨ m = 6 ∨ m = 7 ∨ m = 8 ∨ m = 9 ∨ m = 10 := by
  obtain ⟨h1, h2⟩ := h
  omega
def up (m x : Int) : Int := -(-m * x / (m - 1))
def it (m : Int) : Nat → Int
  | 0 => 1
  | k + 1 => up m (it m k)
theorem up_all {m x : Int} (h : Rm m) (hx : 1 ≤ x) : (m * x + m - 2) / (m - 1) = up m x ∧ x + 1 ≤ up m x ∧ 10 * x ≤ 9 * up m x ∧ up m x ≤ 2 * x := by
  unfold up
  rcases h.lits with rfl | rfl | rfl | rfl | rfl | rfl | rfl | rfl | rfl <;> simp only [Int.reduceSub, Int.reduceNeg] <;> omega
theorem it_pos {m : Int} (h : Rm m) : ∀ k, 1 ≤ it m k
  | 0 => Int.le_refl 1
  | k + 1 => by
    have h1 := it_pos h k
    have h2 := (up_all h h1).2.1
    show 1 ≤ up m (it m k)
    omega
theorem it_up {m : Int} (h : Rm m) (k : Nat) : it m k + 1 ≤ it m (k + 1) := (up_all h (it_pos h k)).2.1
theorem it_mono {m : Int} (h : Rm m) {j : Nat} : ∀ {k : Nat}, j ≤ k → it m j ≤ it m k
  | 0, hk => by
    obtain rfl : j = 0 := by omega
    exact Int.le_refl _
  | k + 1, hk => by
    rcases Nat.lt_or_eq_of_le hk with z | z
    · have := it_mono h (k := k) (j := j) (by omega)
      have := it_up h k
      omega
    · rw [z]; exact Int.le_refl _
theorem it_big {m : Int} (h : Rm m) : ∀ k, (10 : Int) ^ k ≤ 9 ^ k * it m k
  | 0 => by simp [it]
  | k + 1 => by
    have h1 := it_big h k
    have h2 : 10 * it m k ≤ 9 * it m (k + 1) := (up_all h (it_pos h k)).2.2.1
    have h3 : (0 : Int) ≤ 9 ^ k := Int.pow_nonneg (by omega)
    have h4 := Int.mul_le_mul_of_nonneg_left h2 h3
    rw [Int.pow_succ, Int.pow_succ]
    have e1 : (9 : Int) ^ k * (10 * it m k) = 9 ^ k * it m k * 10 := by rw [Int.mul_comm 10, Int.mul_assoc]
    have e2 : (9 : Int) ^ k * (9 * it m (k + 1)) = 9 ^ k * 9 * it m (k + 1) := by rw [Int.mul_assoc]
    rw [e1, e2] at h4
    omega
def IsK (n m : Int) (K : Nat) : Prop := (m - 1) * n < it m K ∧ ∀ j, j < K → it m j ≤ (m - 1) * n
theorem IsK.uniq {n m : Int} {K K' : Nat} (h : IsK n m K) (h' : IsK n m K') : K = K' := by
  rcases Nat.lt_trichotomy K K' with z | z | z
  · have := h'.2 K z; have := h.1; omega
  · exact z
  · have := h.2 K' z; have := h'.1; omega
theorem span {n m : Int} (h : Rm m) (h0 : 0 ≤ n) (hn : n ≤ 10 ^ 30) : (m - 1) * n ≤ 9 * 10 ^ 30 := by
  rcases h.lits with rfl | rfl | rfl | rfl | rfl | rfl | rfl | rfl | rfl <;> omega
theorem pows : (9 : Int) ^ 701 * (9 * 10 ^ 30) < 10 ^ 701 := by decide +kernel
theorem few {n m : Int} {k : Nat} (h : Rm m) (h0 : 0 ≤ n) (hn : n ≤ 10 ^ 30) (hk : it m k ≤ (m - 1) * n) (hz : ∀ j, j < k → it m j ≤ (m - 1) * n) : k < 701 := by
  refine Nat.lt_of_not_le fun z => ?_
  have h1 : it m 701 ≤ (m - 1) * n := by
    rcases Nat.lt_or_eq_of_le z with z | z
    · exact hz _ z
    · rw [z]; exact hk
  have h2 := span h h0 hn
  have h3 := it_big h 701
  have h4 : (9 : Int) ^ 701 * it m 701 ≤ 9 ^ 701 * (9 * 10 ^ 30) := Int.mul_le_mul_of_nonneg_left (by omega) (Int.pow_nonneg (by omega))
  exact absurd (Int.lt_of_le_of_lt (Int.le_trans h3 h4) pows) (Int.lt_irrefl _)
theorem IsK.le {n m : Int} {K : Nat} (h : IsK n m K) (hm : Rm m) (h0 : 0 ≤ n) (hn : n ≤ 10 ^ 30) : K ≤ 701 := by
  cases K with
  | zero => omega
  | succ k =>
    have := few hm h0 hn (h.2 k (Nat.lt_succ_self k)) fun j hj => h.2 j (by omega)
    omega
theorem IsK.bd {n m : Int} {K : Nat} (h : IsK n m K) (hm : Rm m) (h0 : 0 ≤ n) (hn : n ≤ 10 ^ 30) : ∀ j, j ≤ K → it m j ≤ 18 * 10 ^ 30 + 1 := fun j hj => by
  have h2 := span hm h0 hn
  cases j with
  | zero => show (1 : Int) ≤ _; omega
  | succ k =>
    have h1 := h.2 k (by omega)
    have h3 : it m (k + 1) ≤ 2 * it m k := (up_all hm (it_pos hm k)).2.2.2
    omega
/-- the row: 1 and on -/
def rowI (m : Int) (K : Nat) : List Int := (List.range (K + 1)).map (it m)
theorem rowI_len {m : Int} {K : Nat} : (rowI m K).length = K + 1 := by simp [rowI]
theorem rowI_succ {m : Int} {K : Nat} : rowI m (K + 1) = rowI m K ++ [up m (it m K)] := by
  unfold rowI
  rw [List.range_succ, List.map_append]
  rfl
theorem rowI_get {m : Int} {K j : Nat} (h : j ≤ K) : (rowI m K)[j]? = some (it m j) := by
  unfold rowI
  rw [List.getElem?_map, List.getElem?_range (by omega)]
  rfl
theorem rowI_end {m : Int} (K : Nat) : (rowI m K).getLast? = some (it m K) := by
  rw [List.getLast?_eq_getElem?, rowI_len]
  exact rowI_get (Nat.le_refl K)
theorem rowI_mem {m : Int} {K : Nat} {x : Int} (h : x ∈ rowI m K) : ∃ j, j ≤ K ∧ x = it m j := by
  unfold rowI at h
  obtain ⟨j, hj, rfl⟩ := List.mem_map.mp h
  exact ⟨j, by have := List.mem_range.mp hj; omega, rfl⟩
/-- who is taken at the count c -/
inductive Wb (n m : Int) : Int → Int → Prop where
  | stop {c : Int} : c ≤ n → Wb n m c (c - 1)
  | step {c r : Int} : n < c → Wb n m (c - n + (c - n - 1) / (m - 1)) r → Wb n m c r
theorem Wb.uniq {n m c r r' : Int} (h : Wb n m c r) : Wb n m c r' → r = r' := by
  induction h with
  | stop h => intro q; cases q with
    | stop _ => rfl
    | step h2 _ => omega
  | step h _ ih => intro q; cases q with
    | stop h2 => omega
    | step _ q => exact ih q
theorem Wb.rng {n m c r : Int} (hm : Rm m) (h : Wb n m c r) : 1 ≤ c → 0 ≤ r ∧ r < n := by
  induction h with
  | stop h => intro q; omega
  | @step c r h _ ih =>
    intro q
    refine ih ?_
    have := Int.ediv_nonneg (a := c - n - 1) (b := m - 1) (by omega) (by have := hm.1; omega)
    omega
theorem wb_next {n m c : Int} (hm : Rm m) (h0 : 0 ≤ n) (h1 : n < c) (h2 : c ≤ m * n) : 1 ≤ c - n + (c - n - 1) / (m - 1) ∧ c - n + (c - n - 1) / (m - 1) < c := by
  rcases hm.lits with rfl | rfl | rfl | rfl | rfl | rfl | rfl | rfl | rfl <;> simp only [Int.reduceSub, Int.reduceNeg] at * <;> omega
theorem wb_top {n m t : Int} (hm : Rm m) (h0 : 0 ≤ t) (h1 : t < n) : 1 ≤ m * (t + 1) ∧ m * (t + 1) ≤ m * n ∧ m * n ≤ 10 * n := by
  rcases hm.lits with rfl | rfl | rfl | rfl | rfl | rfl | rfl | rfl | rfl <;> omega
theorem wb_last {n m : Int} {K : Nat} (h : IsK n m K) (hm : Rm m) : Wb n m (m * n) (m * n - it m K) := by
  have go : ∀ d j, j + d = K → Wb n m (m * n + 1 - it m j) (m * n - it m K) := by
    intro d
    induction d with
    | zero =>
      intro j e
      obtain rfl : j = K := by omega
      have h1 := h.1
      have e2 : m * n - it m j = m * n + 1 - it m j - 1 := by omega
      rw [e2]
      refine .stop ?_
      rcases hm.lits with rfl | rfl | rfl | rfl | rfl | rfl | rfl | rfl | rfl <;> omega
    | succ d ih =>
      intro j e
      have h1 := h.2 j (by omega)
      have h2 := ih (j + 1) (by omega)
      have e3 : m * n + 1 - it m (j + 1) = m * n + 1 - it m j - n + (m * n + 1 - it m j - n - 1) / (m - 1) := by
        show m * n + 1 - up m (it m j) = _
        unfold up
        generalize it m j = x
        rcases hm.lits with rfl | rfl | rfl | rfl | rfl | rfl | rfl | rfl | rfl <;> simp only [Int.reduceSub, Int.reduceNeg] <;> omega
      rw [e3] at h2
      refine .step ?_ h2
      rcases hm.lits with rfl | rfl | rfl | rfl | rfl | rfl | rfl | rfl | rfl <;> omega
  have := go K 0 (by omega)
  simpa [it] using this
/-- the order in which they are taken -/
def OrdP (n m : Int) (l : List Int) : Prop := (l.length : Int) = n ∧ ∀ (j : Nat) (r : Int), l[j]? = some r → Wb n m (m * (j + 1)) r
theorem OrdP.uniq {n m : Int} {l l' : List Int} (h : OrdP n m l) (h' : OrdP n m l') : l = l' := by
  refine List.ext_getElem? fun j => ?_
  have e : l.length = l'.length := by have := h.1; have := h'.1; omega
  rcases Nat.lt_or_ge j l.length with z | z
  · have z' : j < l'.length := by omega
    rw [List.getElem?_eq_getElem z, List.getElem?_eq_getElem z']
    exact congrArg some ((h.2 j _ (List.getElem?_eq_getElem z)).uniq (h'.2 j _ (List.getElem?_eq_getElem z')))
  · rw [List.getElem?_eq_none z, List.getElem?_eq_none (by omega)]
theorem OrdP.mem {n m : Int} {l : List Int} (hm : Rm m) (h : OrdP n m l) {r : Int} (hr : r ∈ l) : 0 ≤ r ∧ r < n := by
  obtain ⟨j, hj, rfl⟩ := List.getElem_of_mem hr
  refine (h.2 j _ (List.getElem?_eq_getElem hj)).rng hm ?_
  have := hm.1
  rcases hm.lits with rfl | rfl | rfl | rfl | rfl | rfl | rfl | rfl | rfl <;> omega
theorem OrdP.last {n m : Int} {l : List Int} {K : Nat} (hm : Rm m) (h : OrdP n m l) (h1 : 1 ≤ n) (hK : IsK n m K) : l.getLast? = some (m * n - it m K) := by
  have e := h.1
  have z : l.length - 1 < l.length := by omega
  rw [List.getLast?_eq_getElem?, List.getElem?_eq_getElem z]
  have w := h.2 _ _ (List.getElem?_eq_getElem z)
  have e2 : m * (((l.length - 1 : Nat) : Int) + 1) = m * n := by congr 1; omega
  rw [e2] at w
  exact congrArg some (w.uniq (wb_last hK hm))
/-- the state of the counting out -/
structure OInv (n m : Nat) (ring : List Int) (at_ : Nat) (found : List Int) : Prop where
  ln : ring.length + found.length = n
  fd : ∀ (j : Nat) (r : Int), found[j]? = some r → Wb n m (m * (j + 1)) r
  q : ∀ i, i < ring.length → ∃ r, ring[(at_ + i) % ring.length]? = some r ∧ Wb n m (m * found.length + i + 1) r
theorem OInv.start (n m : Nat) : OInv n m ((List.range n).map fun i : Nat => (i : Int)) 0 [] := by
  refine ⟨by simp, fun j r h => by simp at h, fun i h => ?_⟩
  have h' : i < n := by simpa using h
  refine ⟨i, ?_, ?_⟩
  · rw [List.length_map, List.length_range, Nat.zero_add, Nat.mod_eq_of_lt h', List.getElem?_map, List.getElem?_range h']
    rfl
  · have w : Wb n m (i + 1 : Int) ((i + 1 : Int) - 1) := .stop (by omega)
    simpa using w
theorem OInv.done {n m : Nat} {at_ : Nat} {found : List Int} (h : OInv n m [] at_ found) : OrdP n m found := ⟨by have := h.ln; simp at this; omega, h.fd⟩
theorem step_eq {m t s L n : Int} (hm : Rm m) (h1 : L ≤ s) (h2 : s - L ≤ m - 2) (hn : n = L + t) : m * t + s + 1 - n + (m * t + s + 1 - n - 1) / (m - 1) = m * t + (s - L) + 1 := by
  subst hn
  rcases hm.lits with rfl | rfl | rfl | rfl | rfl | rfl | rfl | rfl | rfl <;> simp only [Int.reduceSub, Int.reduceNeg] at * <;> omega
theorem step_gt {m t s L n : Int} (hm : Rm m) (h0 : 0 ≤ t) (h1 : L ≤ s) (hn : n = L + t) : n < m * t + s + 1 := by
  subst hn
  rcases hm.lits with rfl | rfl | rfl | rfl | rfl | rfl | rfl | rfl | rfl <;> omega
theorem OInv.far {n m : Nat} {ring : List Int} {at_ : Nat} {found : List Int} (hm : Rm m) (h : OInv n m ring at_ found) (h0 : 0 < ring.length) : ∀ s, s ≤ m - 1 → ∃ r, ring[(at_ + s) % ring.length]? = some r ∧ Wb n m (m * found.length + s + 1) r := by
  intro s
  induction s using Nat.strongRecOn with
  | _ s ih =>
    intro hs
    rcases Nat.lt_or_ge s ring.length with z | z
    · exact h.q s z
    · obtain ⟨r, h1, h2⟩ := ih (s - ring.length) (by omega) (by omega)
      have hl := h.ln
      have hm2 := hm.1
      refine ⟨r, ?_, .step (step_gt hm (by omega) (L := ring.length) (by omega) (by omega)) ?_⟩
      · rw [← h1]
        congr 1
        have e : at_ + s = at_ + (s - ring.length) + ring.length := by omega
        rw [e, Nat.add_mod_right]
      · rw [step_eq hm (L := ring.length) (by omega) (by omega) (by omega)]
        have e : ((s - ring.length : Nat) : Int) = (s : Int) - ring.length := by omega
        rw [e] at h2
        exact h2
theorem OInv.next {n m : Nat} {ring : List Int} {at_ : Nat} {found : List Int} (hm : Rm m) (h : OInv n m ring at_ found) (h0 : 0 < ring.length) :
    ∃ r, ring[(at_ + m - 1) % ring.length]? = some r ∧ OInv n m (ring.eraseIdx ((at_ + m - 1) % ring.length)) ((at_ + m - 1) % ring.length) (found ++ [r]) := by
  have hm2 := hm.1
  obtain ⟨r, h1, h2⟩ := h.far hm h0 (m - 1) (Nat.le_refl _)
  have e1 : at_ + (m - 1) = at_ + m - 1 := by omega
  rw [e1] at h1
  have hlt := Nat.mod_lt (at_ + m - 1) h0
  have hl := h.ln
  refine ⟨r, h1, ?_, fun j x hj => ?_, fun i hi => ?_⟩
  · rw [List.length_eraseIdx_of_lt hlt, List.length_append, List.length_singleton]
    omega
  · rcases Nat.lt_or_ge j found.length with z | z
    · rw [List.getElem?_append_left z] at hj
      exact h.fd j x hj
    · rw [List.getElem?_append_right z] at hj
      have e : j = found.length := by
        have := (List.getElem?_eq_some_iff.mp hj).1
        simp at this
        omega
      subst e
      simp at hj
      subst hj
      have e2 : (m : Int) * found.length + ((m - 1 : Nat) : Int) + 1 = m * (found.length + 1) := by
        rw [Int.mul_add]; omega
      rw [e2] at h2
      exact h2
  · rw [List.length_eraseIdx_of_lt hlt] at hi ⊢
    rw [List.length_append, List.length_singleton]
    -- the item there, in the ring as it was
    have key : ∃ x, ring[(at_ + (m + i)) % ring.length]? = some x ∧ Wb n m (m * found.length + (m + i : Nat) + 1) x := by
      rcases Nat.lt_or_ge (m + i) ring.length with z | z
      · exact h.q _ z
      · obtain ⟨x, g1, g2⟩ := h.far hm h0 (m + i - ring.length) (by omega)
        refine ⟨x, ?_, .step (step_gt hm (by omega) (L := ring.length) (by omega) (by omega)) ?_⟩
        · rw [← g1]
          congr 1
          have e : at_ + (m + i) = at_ + (m + i - ring.length) + ring.length := by omega
          rw [e, Nat.add_mod_right]
        · rw [step_eq hm (L := ring.length) (by omega) (by omega) (by omega)]
          have e : ((m + i - ring.length : Nat) : Int) = ((m + i : Nat) : Int) - ring.length := by omega
          rw [e] at g2
          exact g2
    obtain ⟨x, g1, g2⟩ := key
    refine ⟨x, ?_, ?_⟩
    · rw [← g1, List.getElem?_eraseIdx]
      have e : (at_ + (m + i)) % ring.length = ((at_ + m - 1) % ring.length + 1 + i) % ring.length := by
        have e2 : at_ + (m + i) = (at_ + m - 1) + (1 + i) := by omega
        rw [e2, Nat.add_assoc, Nat.mod_add_mod]
      rw [e]
      generalize (at_ + m - 1) % ring.length = p at hlt ⊢
      rcases Nat.lt_or_ge (p + i) (ring.length - 1) with z | z
      · rw [Nat.mod_eq_of_lt z, if_neg (by omega), Nat.mod_eq_of_lt (by omega)]
        congr 1
        omega
      · have e3 : p + i = p + i - (ring.length - 1) + (ring.length - 1) := by omega
        have e4 : p + 1 + i = p + i - (ring.length - 1) + ring.length := by omega
        rw [e4, Nat.add_mod_right, Nat.mod_eq_of_lt (a := p + i - (ring.length - 1)) (by omega)]
        rw [e3, Nat.add_mod_right, Nat.mod_eq_of_lt (by omega), if_pos (by omega)]
        congr 1
        omega
    · have e : (m : Int) * (found.length : Int) + ((m + i : Nat) : Int) + 1 = m * ((found.length + 1 : Nat) : Int) + i + 1 := by
        rw [show ((found.length + 1 : Nat) : Int) = (found.length : Int) + 1 by omega, Int.mul_add]
        omega
      rw [e] at g2
      exact g2
end KK
/-! C84: what the defs of k84 keep. -/
namespace KK
open PySem PySem.Spec PyProof.Rows L2 Z
structure Rg (n m : Int) : Prop where
  m : Rm m
  n0 : 0 ≤ n
  n1 : n ≤ 10 ^ 30
inductive c_least_branch : Con where
  | mk {k m : Int} {Ω : Om} {Φ : PhiE} {Ξ : XA} : Rm m → 3 ≤ m → 0 ≤ k → k ≤ 800 → it m k.toNat ≤ 10 ^ 32 → Φ (I (it m k.toNat)) Ω → c_least_branch [I 1, I k, I m, I (m - 1)] Ω Φ Ξ
inductive c_thinned_order : Con where
  | mk {n m : Int} {Ω : Om} {Φ : PhiE} {Ξ : XA} : Rg n m → n ≤ 500 → (∀ l, OrdP n m l → Φ (T (isD l)) Ω) → c_thinned_order [I n, I m] Ω Φ Ξ
inductive c_l_order : Con where
  | mk {n m : Int} {Ω : Om} {Φ : PhiE} {Ξ : XA} : Rg n m → n ≤ 500 → (∀ l, OrdP n m l → Φ (.d (.list (isD l))) Ω) → c_l_order [I n, I m] Ω Φ Ξ
inductive c_thinned_row : Con where
  | mk {n m : Int} {Ω : Om} {Φ : PhiE} {Ξ : XA} : Rg n m → (∀ K, IsK n m K → Φ (T (isD (rowI m K))) Ω) → c_thinned_row [I n, I m] Ω Φ Ξ
inductive c_l_row : Con where
  | mk {n m : Int} {Ω : Om} {Φ : PhiE} {Ξ : XA} : Rg n m → (∀ K, IsK n m K → Φ (.d (.list (isD (rowI m K)))) Ω) → c_l_row [I n, I m] Ω Φ Ξ
inductive c_thinned_last : Con where
  | mk {n m : Int} {Ω : Om} {Φ : PhiE} {Ξ : XA} : Rg n m → (∀ K, IsK n m K → Φ (I (m * n - it m K)) Ω) → c_thinned_last [I n, I m] Ω Φ Ξ
inductive c_thinned_place : Con where
  | mk {n m t : Int} {Ω : Om} {Φ : PhiE} {Ξ : XA} : Rg n m → 0 ≤ t → t < n → (∀ r, Wb n m (m * (t + 1)) r → Φ (I r) Ω) → c_thinned_place [I n, I m, I t] Ω Φ Ξ
abbrev c_l_back : Con := c_thinned_place
abbrev c_l_own_bag : Con := OwnC 63
abbrev c_l_draw : Con := DrawC
abbrev c_l_pick : Con := PickC
abbrev c_l_great : Con := GreatC
abbrev c_l_same : Con := SameC
inductive c_l_some_great : Con where
  | mk {x : SV} {m : Int} {L R Ω : Om} {Φ : PhiE} {Ξ : XA} : Bag x L R Ω → Rm m → (∀ n Ω', 1 ≤ n → n ≤ 10 ^ 30 → Bag x L R Ω' → Φ (I n) Ω') → c_l_some_great [x, I m] Ω Φ Ξ
inductive c_l_are_small_right : Con where
  | mk {x : SV} {m n : Int} {L R Ω : Om} {Φ : PhiE} {Ξ : XA} : Bag x L R Ω → Rg n m → n ≤ 500 → (∀ Ω', Bag x L R Ω' → Φ (.d (.bool true)) Ω') → c_l_are_small_right [x, I m, I n] Ω Φ Ξ
inductive c_l_is_great_right : Con where
  | mk {x : SV} {m n : Int} {L R Ω : Om} {Φ : PhiE} {Ξ : XA} : Bag x L R Ω → Rg n m → 1 ≤ n → (∀ Ω', Bag x L R Ω' → Φ (.d (.bool true)) Ω') → c_l_is_great_right [x, I m, I n] Ω Φ Ξ
abbrev c_law : Con := LawC 63
theorem ari_least_branch : Ari c_least_branch 4 := by rintro _ _ _ _ ⟨_, _, _, _, _, _⟩; rfl
theorem ari_thinned_order : Ari c_thinned_order 2 := by rintro _ _ _ _ ⟨_, _, _⟩; rfl
theorem ari_l_order : Ari c_l_order 2 := by rintro _ _ _ _ ⟨_, _, _⟩; rfl
theorem ari_thinned_row : Ari c_thinned_row 2 := by rintro _ _ _ _ ⟨_, _⟩; rfl
theorem ari_l_row : Ari c_l_row 2 := by rintro _ _ _ _ ⟨_, _⟩; rfl
theorem ari_thinned_last : Ari c_thinned_last 2 := by rintro _ _ _ _ ⟨_, _⟩; rfl
theorem ari_thinned_place : Ari c_thinned_place 3 := by rintro _ _ _ _ ⟨_, _, _, _⟩; rfl
theorem ari_l_back : Ari c_l_back 3 := ari_thinned_place
theorem ari_l_own_bag : Ari c_l_own_bag 1 := OwnC.ari
theorem ari_l_draw : Ari c_l_draw 2 := DrawC.ari
theorem ari_l_pick : Ari c_l_pick 2 := PickC.ari
theorem ari_l_great : Ari c_l_great 2 := GreatC.ari
theorem ari_l_same : Ari c_l_same 2 := SameC.ari
theorem ari_l_some_great : Ari c_l_some_great 2 := by rintro _ _ _ _ ⟨_, _, _⟩; rfl
theorem ari_l_are_small_right : Ari c_l_are_small_right 3 := by rintro _ _ _ _ ⟨_, _, _, _⟩; rfl
theorem ari_l_is_great_right : Ari c_l_is_great_right 3 := by rintro _ _ _ _ ⟨_, _, _, _⟩; rfl
theorem ari_law : Ari c_law 1 := LawC.ari
end KK
namespace KK
open PySem PySem.Spec PyProof.Rows L2 Z
def topS (i : Nat) : Stmt := PySem.Challenge.pw_manybases_k84_whole_main_thinned.main.body.getD i (.Pass ⟨0, 0, 0, 0⟩)
abbrev s_least_branch : Stmt := topS 1
abbrev N_least_branch : List Str := ["number", "k", "p", "q", "turn"]
theorem sc_least_branch : FnScope N_least_branch ["number", "k", "p", "q"] (defScope s_least_branch) := ⟨rfl, rfl, rfl, by decide +kernel, rfl, by decide +kernel, by decide +kernel⟩
abbrev s_thinned_order : Stmt := topS 3
abbrev N_thinned_order : List Str := ["n", "m", "left", "here", "found"]
theorem sc_thinned_order : FnScope N_thinned_order ["n", "m"] (defScope s_thinned_order) := ⟨rfl, rfl, rfl, by decide +kernel, rfl, by decide +kernel, by decide +kernel⟩
abbrev s_thinned_row : Stmt := topS 4
abbrev N_thinned_row : List Str := ["n", "m", "found"]
theorem sc_thinned_row : FnScope N_thinned_row ["n", "m"] (defScope s_thinned_row) := ⟨rfl, rfl, rfl, by decide +kernel, rfl, by decide +kernel, by decide +kernel⟩
abbrev s_thinned_last : Stmt := topS 5
abbrev N_thinned_last : List Str := ["n", "m"]
theorem sc_thinned_last : FnScope N_thinned_last ["n", "m"] (defScope s_thinned_last) := ⟨rfl, rfl, rfl, by decide +kernel, rfl, by decide +kernel, by decide +kernel⟩
abbrev s_thinned_place : Stmt := topS 6
abbrev N_thinned_place : List Str := ["n", "m", "turn", "number"]
theorem sc_thinned_place : FnScope N_thinned_place ["n", "m", "turn"] (defScope s_thinned_place) := ⟨rfl, rfl, rfl, by decide +kernel, rfl, by decide +kernel, by decide +kernel⟩
abbrev s_l_own_bag : Stmt := topS 8
abbrev N_l_own_bag : List Str := ["script", "cells", "mixed", "cell"]
theorem sc_l_own_bag : FnScope N_l_own_bag ["script"] (defScope s_l_own_bag) := ⟨rfl, rfl, rfl, by decide +kernel, rfl, by decide +kernel, by decide +kernel⟩
abbrev s_l_draw : Stmt := topS 9
abbrev N_l_draw : List Str := ["bag", "below", "cell", "found"]
theorem sc_l_draw : FnScope N_l_draw ["bag", "below"] (defScope s_l_draw) := ⟨rfl, rfl, rfl, by decide +kernel, rfl, by decide +kernel, by decide +kernel⟩
abbrev s_l_pick : Stmt := topS 10
abbrev N_l_pick : List Str := ["bag", "some"]
theorem sc_l_pick : FnScope N_l_pick ["bag", "some"] (defScope s_l_pick) := ⟨rfl, rfl, rfl, by decide +kernel, rfl, by decide +kernel, by decide +kernel⟩
abbrev s_l_great : Stmt := topS 11
abbrev N_l_great : List Str := ["bag", "below", "found", "room"]
theorem sc_l_great : FnScope N_l_great ["bag", "below"] (defScope s_l_great) := ⟨rfl, rfl, rfl, by decide +kernel, rfl, by decide +kernel, by decide +kernel⟩
abbrev s_l_same : Stmt := topS 12
abbrev N_l_same : List Str := ["found", "due"]
theorem sc_l_same : FnScope N_l_same ["found", "due"] (defScope s_l_same) := ⟨rfl, rfl, rfl, by decide +kernel, rfl, by decide +kernel, by decide +kernel⟩
abbrev s_l_order : Stmt := topS 13
abbrev N_l_order : List Str := ["n", "m", "ring", "at", "found"]
theorem sc_l_order : FnScope N_l_order ["n", "m"] (defScope s_l_order) := ⟨rfl, rfl, rfl, by decide +kernel, rfl, by decide +kernel, by decide +kernel⟩
abbrev s_l_row : Stmt := topS 14
abbrev N_l_row : List Str := ["n", "m", "found"]
theorem sc_l_row : FnScope N_l_row ["n", "m"] (defScope s_l_row) := ⟨rfl, rfl, rfl, by decide +kernel, rfl, by decide +kernel, by decide +kernel⟩
abbrev s_l_back : Stmt := topS 15
abbrev N_l_back : List Str := ["n", "m", "turn", "number"]
theorem sc_l_back : FnScope N_l_back ["n", "m", "turn"] (defScope s_l_back) := ⟨rfl, rfl, rfl, by decide +kernel, rfl, by decide +kernel, by decide +kernel⟩
abbrev s_l_some_great : Stmt := topS 16
abbrev N_l_some_great : List Str := ["bag", "m", "kind", "top", "turn", "n", "row", "near", "item"]
theorem sc_l_some_great : FnScope N_l_some_great ["bag", "m"] (defScope s_l_some_great) := ⟨rfl, rfl, rfl, by decide +kernel, rfl, by decide +kernel, by decide +kernel⟩
abbrev s_l_are_small_right : Stmt := topS 17
abbrev N_l_are_small_right : List Str := ["bag", "m", "n", "due", "turn", "row"]
theorem sc_l_are_small_right : FnScope N_l_are_small_right ["bag", "m", "n"] (defScope s_l_are_small_right) := ⟨rfl, rfl, rfl, by decide +kernel, rfl, by decide +kernel, by decide +kernel⟩
abbrev s_l_is_great_right : Stmt := topS 18
abbrev N_l_is_great_right : List Str := ["bag", "m", "n", "row", "last", "late", "turn", "k"]
theorem sc_l_is_great_right : FnScope N_l_is_great_right ["bag", "m", "n"] (defScope s_l_is_great_right) := ⟨rfl, rfl, rfl, by decide +kernel, rfl, by decide +kernel, by decide +kernel⟩
abbrev s_law : Stmt := topS 19
abbrev N_law : List Str := ["script", "bag", "first", "second", "few", "many", "great", "further", "m", "last"]
theorem sc_law : FnScope N_law ["script"] (defScope s_law) := ⟨rfl, rfl, rfl, by decide +kernel, rfl, by decide +kernel, by decide +kernel⟩
structure Top (K : PySem.W.Frag) (mg : Str → Option Value) where
  f_least_branch : Addr
  fd_least_branch : FuncData
  F_least_branch : Fun K "least_branch" "least_branch" s_least_branch f_least_branch fd_least_branch
  m_least_branch : mg "least_branch" = some (.ref f_least_branch)
  f_thinned_order : Addr
  fd_thinned_order : FuncData
  F_thinned_order : Fun K "thinned_order" "thinned_order" s_thinned_order f_thinned_order fd_thinned_order
  m_thinned_order : mg "thinned_order" = some (.ref f_thinned_order)
  f_thinned_row : Addr
  fd_thinned_row : FuncData
  F_thinned_row : Fun K "thinned_row" "thinned_row" s_thinned_row f_thinned_row fd_thinned_row
  m_thinned_row : mg "thinned_row" = some (.ref f_thinned_row)
  f_thinned_last : Addr
  fd_thinned_last : FuncData
  F_thinned_last : Fun K "thinned_last" "thinned_last" s_thinned_last f_thinned_last fd_thinned_last
  m_thinned_last : mg "thinned_last" = some (.ref f_thinned_last)
  f_thinned_place : Addr
  fd_thinned_place : FuncData
  F_thinned_place : Fun K "thinned_place" "thinned_place" s_thinned_place f_thinned_place fd_thinned_place
  m_thinned_place : mg "thinned_place" = some (.ref f_thinned_place)
  f_l_own_bag : Addr
  fd_l_own_bag : FuncData
  F_l_own_bag : Fun K "_law_own_bag" "_law_own_bag" s_l_own_bag f_l_own_bag fd_l_own_bag
  m_l_own_bag : mg "_law_own_bag" = some (.ref f_l_own_bag)
  f_l_draw : Addr
  fd_l_draw : FuncData
  F_l_draw : Fun K "_law_draw" "_law_draw" s_l_draw f_l_draw fd_l_draw
  m_l_draw : mg "_law_draw" = some (.ref f_l_draw)
  f_l_pick : Addr
  fd_l_pick : FuncData
  F_l_pick : Fun K "_law_pick" "_law_pick" s_l_pick f_l_pick fd_l_pick
  m_l_pick : mg "_law_pick" = some (.ref f_l_pick)
  f_l_great : Addr
  fd_l_great : FuncData
  F_l_great : Fun K "_law_great" "_law_great" s_l_great f_l_great fd_l_great
  m_l_great : mg "_law_great" = some (.ref f_l_great)
  f_l_same : Addr
  fd_l_same : FuncData
  F_l_same : Fun K "_law_same" "_law_same" s_l_same f_l_same fd_l_same
  m_l_same : mg "_law_same" = some (.ref f_l_same)
  f_l_order : Addr
  fd_l_order : FuncData
  F_l_order : Fun K "_law_order" "_law_order" s_l_order f_l_order fd_l_order
  m_l_order : mg "_law_order" = some (.ref f_l_order)
  f_l_row : Addr
  fd_l_row : FuncData
  F_l_row : Fun K "_law_row" "_law_row" s_l_row f_l_row fd_l_row
  m_l_row : mg "_law_row" = some (.ref f_l_row)
  f_l_back : Addr
  fd_l_back : FuncData
  F_l_back : Fun K "_law_back" "_law_back" s_l_back f_l_back fd_l_back
  m_l_back : mg "_law_back" = some (.ref f_l_back)
  f_l_some_great : Addr
  fd_l_some_great : FuncData
  F_l_some_great : Fun K "_law_some_great" "_law_some_great" s_l_some_great f_l_some_great fd_l_some_great
  m_l_some_great : mg "_law_some_great" = some (.ref f_l_some_great)
  f_l_are_small_right : Addr
  fd_l_are_small_right : FuncData
  F_l_are_small_right : Fun K "_law_are_small_right" "_law_are_small_right" s_l_are_small_right f_l_are_small_right fd_l_are_small_right
  m_l_are_small_right : mg "_law_are_small_right" = some (.ref f_l_are_small_right)
  f_l_is_great_right : Addr
  fd_l_is_great_right : FuncData
  F_l_is_great_right : Fun K "_law_is_great_right" "_law_is_great_right" s_l_is_great_right f_l_is_great_right fd_l_is_great_right
  m_l_is_great_right : mg "_law_is_great_right" = some (.ref f_l_is_great_right)
  f_law : Addr
  fd_law : FuncData
  F_law : Fun K "law" "law" s_law f_law fd_law
  m_law : mg "law" = some (.ref f_law)
  n_abs : mg "abs" = none
  n_int : mg "int" = none
  n_isinstance : mg "isinstance" = none
  n_len : mg "len" = none
  n_list : mg "list" = none
  n_max : mg "max" = none
  n_min : mg "min" = none
  n_range : mg "range" = none
  n_repr : mg "repr" = none
  n_reversed : mg "reversed" = none
  n_str : mg "str" = none
  n_tuple : mg "tuple" = none
section
variable {K : PySem.W.Frag} {mg : Str → Option Value}
theorem b_least_branch (T : Top K mg) : Binds K T.fd_least_branch ["number", "k", "p", "q"] [] := T.F_least_branch.binds (ps := ["number", "k", "p", "q"]) fun _ _ _ _ _ _ us hl => match us, hl with | [_, _, _, _], _ => rfl
theorem b_thinned_order (T : Top K mg) : Binds K T.fd_thinned_order ["n", "m"] [] := T.F_thinned_order.binds (ps := ["n", "m"]) fun _ _ _ _ _ _ us hl => match us, hl with | [_, _], _ => rfl
theorem b_thinned_row (T : Top K mg) : Binds K T.fd_thinned_row ["n", "m"] [] := T.F_thinned_row.binds (ps := ["n", "m"]) fun _ _ _ _ _ _ us hl => match us, hl with | [_, _], _ => rfl
theorem b_thinned_last (T : Top K mg) : Binds K T.fd_thinned_last ["n", "m"] [] := T.F_thinned_last.binds (ps := ["n", "m"]) fun _ _ _ _ _ _ us hl => match us, hl with | [_, _], _ => rfl
theorem b_thinned_place (T : Top K mg) : Binds K T.fd_thinned_place ["n", "m", "turn"] [] := T.F_thinned_place.binds (ps := ["n", "m", "turn"]) fun _ _ _ _ _ _ us hl => match us, hl with | [_, _, _], _ => rfl
theorem b_l_own_bag (T : Top K mg) : Binds K T.fd_l_own_bag ["script"] [] := T.F_l_own_bag.binds (ps := ["script"]) fun _ _ _ _ _ _ us hl => match us, hl with | [_], _ => rfl
theorem b_l_draw (T : Top K mg) : Binds K T.fd_l_draw ["bag", "below"] [] := T.F_l_draw.binds (ps := ["bag", "below"]) fun _ _ _ _ _ _ us hl => match us, hl with | [_, _], _ => rfl
theorem b_l_pick (T : Top K mg) : Binds K T.fd_l_pick ["bag", "some"] [] := T.F_l_pick.binds (ps := ["bag", "some"]) fun _ _ _ _ _ _ us hl => match us, hl with | [_, _], _ => rfl
theorem b_l_great (T : Top K mg) : Binds K T.fd_l_great ["bag", "below"] [] := T.F_l_great.binds (ps := ["bag", "below"]) fun _ _ _ _ _ _ us hl => match us, hl with | [_, _], _ => rfl
theorem b_l_same (T : Top K mg) : Binds K T.fd_l_same ["found", "due"] [] := T.F_l_same.binds (ps := ["found", "due"]) fun _ _ _ _ _ _ us hl => match us, hl with | [_, _], _ => rfl
theorem b_l_order (T : Top K mg) : Binds K T.fd_l_order ["n", "m"] [] := T.F_l_order.binds (ps := ["n", "m"]) fun _ _ _ _ _ _ us hl => match us, hl with | [_, _], _ => rfl
theorem b_l_row (T : Top K mg) : Binds K T.fd_l_row ["n", "m"] [] := T.F_l_row.binds (ps := ["n", "m"]) fun _ _ _ _ _ _ us hl => match us, hl with | [_, _], _ => rfl
theorem b_l_back (T : Top K mg) : Binds K T.fd_l_back ["n", "m", "turn"] [] := T.F_l_back.binds (ps := ["n", "m", "turn"]) fun _ _ _ _ _ _ us hl => match us, hl with | [_, _, _], _ => rfl
theorem b_l_some_great (T : Top K mg) : Binds K T.fd_l_some_great ["bag", "m"] [] := T.F_l_some_great.binds (ps := ["bag", "m"]) fun _ _ _ _ _ _ us hl => match us, hl with | [_, _], _ => rfl
theorem b_l_are_small_right (T : Top K mg) : Binds K T.fd_l_are_small_right ["bag", "m", "n"] [] := T.F_l_are_small_right.binds (ps := ["bag", "m", "n"]) fun _ _ _ _ _ _ us hl => match us, hl with | [_, _, _], _ => rfl
theorem b_l_is_great_right (T : Top K mg) : Binds K T.fd_l_is_great_right ["bag", "m", "n"] [] := T.F_l_is_great_right.binds (ps := ["bag", "m", "n"]) fun _ _ _ _ _ _ us hl => match us, hl with | [_, _, _], _ => rfl
theorem b_law (T : Top K mg) : Binds K T.fd_law ["script"] [] := T.F_law.binds (ps := ["script"]) fun _ _ _ _ _ _ us hl => match us, hl with | [_], _ => rfl
end
def a_least_branch (Fr : Addr → Prop) : AS :=
    (aSeq (aFor (aRng1 (aCons (aVar 1) aNil)) (gN 4) (aAsg (aUn arNeg (aBin arDiv (aBin arMul (aUn arNeg (aVar 2)) (aVar 0)) (aVar 3))) (gN 0)))
    (aRet (aVar 0)))
def a_thinned_order (Fr : Addr → Prop) : AS :=
    (aSeq (aPar3 2 3 4 (aCons (aLstRg (some Fr) (aRg1 (aVar 0))) (aCons (aC (.d (.int 0))) (aCons (aLst (some Fr) aNil) aNil))))
    (aSeq (aWhile (aB (aBin arNe (aVar 2) (aLst none aNil))) (aSeq (aAsg (aBin arMod (aBin arSub (aBin (arAdd none) (aVar 3) (aVar 1)) (aC (.d (.int 1)))) (aCB acLen (aCons (aVar 2) aNil))) (gN 3))
    (aExp (aMl amAppend (aVar 4) (aCons (aMl amPop (aVar 2) (aCons (aVar 3) aNil)) aNil)))))
    (aRetD (aCB acTupOf (aCons (aVar 4) aNil)))))
def a_thinned_row (Fr : Addr → Prop) : AS :=
    (aSeq (aAsg (aLst (some Fr) (aCons (aC (.d (.int 1))) aNil)) (gN 2))
    (aSeq (aWhile (aB (aBin arLe (aBin arIx (aVar 2) (aUn arNeg (aC (.d (.int 1))))) (aBin arMul (aBin arSub (aVar 1) (aC (.d (.int 1)))) (aVar 0)))) (aExp (aMl amAppend (aVar 2) (aCons (aUn arNeg (aBin arDiv (aBin arMul (aUn arNeg (aVar 1)) (aBin arIx (aVar 2) (aUn arNeg (aC (.d (.int 1)))))) (aBin arSub (aVar 1) (aC (.d (.int 1)))))) aNil))))
    (aRetD (aCB acTupOf (aCons (aVar 2) aNil)))))
def a_thinned_last (Fr : Addr → Prop) : AS :=
    (aRet (aBin arSub (aBin arMul (aVar 1) (aVar 0)) (aBin arIx (aCall c_thinned_row xno (aCons (aVar 0) (aCons (aVar 1) aNil))) (aUn arNeg (aC (.d (.int 1)))))))
def a_thinned_place (Fr : Addr → Prop) : AS :=
    (aSeq (aAsg (aBin arMul (aVar 1) (aBin (arAdd none) (aVar 2) (aC (.d (.int 1))))) (gN 3))
    (aSeq (aWhile (aB (aBin arGt (aVar 3) (aVar 0))) (aAsg (aBin arSub (aBin (arAdd none) (aBin arDiv (aBin arSub (aBin arSub (aVar 3) (aVar 0)) (aC (.d (.int 1)))) (aBin arSub (aVar 1) (aC (.d (.int 1))))) (aVar 3)) (aVar 0)) (gN 3)))
    (aRet (aBin arSub (aVar 3) (aC (.d (.int 1)))))))
def a_l_own_bag (Fr : Addr → Prop) : AS :=
    (aSeq (aAsg (aLc none (aIt (aSl none (aVar 0) aNoP (aPart (aC (.d (.int 63)))))) (gN 3) aYes (aCB acAbs (aCons (aVar 3) aNil)) [3]) (gN 1))
    (aSeq (aAsg (aBin (arAdd none) (aC (.d (.int 2468))) (aCB acLen (aCons (aVar 1) aNil))) (gN 2))
    (aSeq (aFor (aIt (aVar 1)) (gN 3) (aAsg (aBin arMod (aBin (arAdd none) (aBin (arAdd none) (aBin arMul (aVar 2) (aC (.d (.int 48271)))) (aBin arMod (aCB acInt (aCons (aVar 3) aNil)) (aC (.d (.int 2147483629))))) (aC (.d (.int 7)))) (aC (.d (.int 2147483647)))) (gN 2)))
    (aRet (aLst (some Fr) (aCons (aLstRev (some Fr) (aCB (acLstOf none) (aCons (aVar 1) aNil))) (aCons (aC (.d (.int 0))) (aCons (aVar 2) aNil))))))))
def a_l_draw (Fr : Addr → Prop) : AS :=
    (aSeq (aWhile (aAnd (aB (aBin arEq (aBin arIx (aVar 0) (aC (.d (.int 1)))) (aC (.d (.int 0))))) (aB (aBin arNe (aBin arIx (aVar 0) (aC (.d (.int 0)))) (aLst none aNil)))) (aSeq (aAsg (aMl0 amPop (aBin arIx (aVar 0) (aC (.d (.int 0))))) (gN 2))
    (aSetIx (aIfE (aB (aBin arGt (aVar 2) (aBin arPow (aC (.d (.int 10))) (aC (.d (.int 9)))))) (aVar 2) (aC (.d (.int 0)))) (aVar 0) (aC (.d (.int 1))))))
    (aSeq (aIf (aB (aBin arGt (aBin arIx (aVar 0) (aC (.d (.int 1)))) (aC (.d (.int 0))))) (aSeq (aAsg (aBin arMod (aCB acInt (aCons (aBin arIx (aVar 0) (aC (.d (.int 1)))) aNil)) (aVar 1)) (gN 3))
    (aSeq (aSetIx (aBin arDiv (aBin arIx (aVar 0) (aC (.d (.int 1)))) (aVar 1)) (aVar 0) (aC (.d (.int 1))))
    (aRet (aVar 3)))) aNx)
    (aSeq (aSetIx (aBin arMod (aBin (arAdd none) (aBin arMul (aBin arIx (aVar 0) (aC (.d (.int 2)))) (aC (.d (.int 48271)))) (aC (.d (.int 11)))) (aC (.d (.int 2147483647)))) (aVar 0) (aC (.d (.int 2))))
    (aRet (aBin arMod (aBin arDiv (aBin arMod (aCB acInt (aCons (aBin arMul (aBin arIx (aVar 0) (aC (.d (.int 2)))) (aBin arIx (aVar 0) (aC (.d (.int 2))))) aNil)) (aC (.d (.int 2147483629)))) (aC (.d (.int 7)))) (aVar 1))))))
def a_l_pick (Fr : Addr → Prop) : AS :=
    (aRet (aBin arIx (aVar 1) (aCall c_l_draw xno (aCons (aVar 0) (aCons (aCB acLen (aCons (aVar 1) aNil)) aNil)))))
def a_l_great (Fr : Addr → Prop) : AS :=
    (aSeq (aAsg (aTup (aCons (aC (.d (.int 0))) (aCons (aC (.d (.int 1))) aNil))) (gT 2 (gs1 (gN 2) (gs1 (gN 3) gs0))))
    (aSeq (aWhile (aB (aBin arLt (aVar 3) (aBin arMul (aVar 1) (aC (.d (.int 1000)))))) (aPar2 2 3 (aCons (aBin (arAdd none) (aBin arMul (aVar 2) (aC (.d (.int 1000000)))) (aCall c_l_draw xno (aCons (aVar 0) (aCons (aC (.d (.int 1000000))) aNil)))) (aCons (aBin arMul (aVar 3) (aC (.d (.int 1000000)))) aNil))))
    (aRet (aBin arMod (aCB acInt (aCons (aVar 2) aNil)) (aVar 1)))))
def a_l_same (Fr : Addr → Prop) : AS :=
    (aSeq (aIf (aB (aBin arIs (aVar 1) (aC (.d .none)))) (aRet (aBin arIs (aVar 0) (aC (.d .none)))) aNx)
    (aSeq (aIf (aTru (aCB (ac2 fIsi) (aCons (aVar 1) (aCons (aC (.r (.ty "tuple"))) aNil)))) (aRet (aAndV (aCB (ac2 fIsi) (aCons (aVar 0) (aCons (aC (.r (.ty "tuple"))) aNil))) (aAndV (aBin arEq (aCB (ac1 fRepr) (aCons (aVar 0) aNil)) (aCB (ac1 fRepr) (aCons (aVar 1) aNil))) (aBin arEq (aVar 0) (aVar 1))))) aNx)
    (aSeq (aIf (aTru (aCB (ac2 fIsi) (aCons (aVar 1) (aCons (aC (.r (.ty "str"))) aNil)))) (aRet (aAndV (aCB (ac2 fIsi) (aCons (aVar 0) (aCons (aC (.r (.ty "str"))) aNil))) (aBin arEq (aCB (ac1 fRepr) (aCons (aVar 0) aNil)) (aCB (ac1 fRepr) (aCons (aVar 1) aNil))))) aNx)
    (aRet (aAndV (aCB (ac2 fIsi) (aCons (aVar 0) (aCons (aC (.r (.ty "int"))) aNil))) (aAndV (aBin arEq (aCB (ac1 fRepr) (aCons (aVar 0) aNil)) (aCB (ac1 fRepr) (aCons (aVar 1) aNil))) (aBin arEq (aVar 0) (aVar 1))))))))
def a_l_order (Fr : Addr → Prop) : AS :=
    (aSeq (aPar3 2 3 4 (aCons (aLstRg (some Fr) (aRg1 (aVar 0))) (aCons (aC (.d (.int 0))) (aCons (aLst (some Fr) aNil) aNil))))
    (aSeq (aWhile (aB (aBin arNe (aVar 2) (aLst none aNil))) (aSeq (aAsg (aBin arMod (aCB acInt (aCons (aBin arSub (aBin (arAdd none) (aVar 3) (aVar 1)) (aC (.d (.int 1)))) aNil)) (aCB acLen (aCons (aVar 2) aNil))) (gN 3))
    (aExp (aMl amAppend (aVar 4) (aCons (aMl amPop (aVar 2) (aCons (aVar 3) aNil)) aNil)))))
    (aRetF Fr (aVar 4))))
def a_l_row (Fr : Addr → Prop) : AS :=
    (aSeq (aAsg (aLst (some Fr) (aCons (aC (.d (.int 1))) aNil)) (gN 2))
    (aSeq (aWhile (aB (aBin arLe (aBin arIx (aVar 2) (aUn arNeg (aC (.d (.int 1))))) (aBin arMul (aBin arSub (aVar 1) (aC (.d (.int 1)))) (aVar 0)))) (aExp (aMl amAppend (aVar 2) (aCons (aBin arDiv (aBin arSub (aBin (arAdd none) (aBin arMul (aVar 1) (aBin arIx (aVar 2) (aUn arNeg (aC (.d (.int 1)))))) (aVar 1)) (aC (.d (.int 2)))) (aBin arSub (aVar 1) (aC (.d (.int 1))))) aNil))))
    (aRetF Fr (aVar 2))))
def a_l_back (Fr : Addr → Prop) : AS :=
    (aSeq (aAsg (aBin arMul (aVar 1) (aBin (arAdd none) (aVar 2) (aC (.d (.int 1))))) (gN 3))
    (aSeq (aWhile (aB (aBin arGt (aVar 3) (aVar 0))) (aAsg (aBin (arAdd none) (aBin arSub (aVar 3) (aVar 0)) (aBin arDiv (aBin arSub (aBin arSub (aVar 3) (aVar 0)) (aC (.d (.int 1)))) (aBin arSub (aVar 1) (aC (.d (.int 1)))))) (gN 3)))
    (aRet (aBin arSub (aVar 3) (aC (.d (.int 1)))))))
def a_l_some_great (Fr : Addr → Prop) : AS :=
    (aSeq (aPar2 2 3 (aCons (aCall c_l_draw xno (aCons (aVar 0) (aCons (aC (.d (.int 8))) aNil))) (aCons (aC (.d (.int 10))) aNil)))
    (aSeq (aIf (aB (aBin arEq (aVar 2) (aC (.d (.int 0))))) (aRet (aBin (arAdd none) (aC (.d (.int 1))) (aCall c_l_draw xno (aCons (aVar 0) (aCons (aC (.d (.int 1000))) aNil))))) aNx)
    (aSeq (aIf (aB (aBin arEq (aVar 2) (aC (.d (.int 1))))) (aRet (aBin arSub (aBin arPow (aC (.d (.int 10))) (aC (.d (.int 30)))) (aCall c_l_draw xno (aCons (aVar 0) (aCons (aC (.d (.int 3))) aNil))))) aNx)
    (aSeq (aFor (aRng1 (aCons (aCall c_l_draw xno (aCons (aVar 0) (aCons (aC (.d (.int 30))) aNil))) aNil)) (gN 4) (aAsg (aBin arMul (aVar 3) (aC (.d (.int 10)))) (gN 3)))
    (aSeq (aAsg (aBin (arAdd none) (aC (.d (.int 1))) (aCall c_l_great xno (aCons (aVar 0) (aCons (aVar 3) aNil)))) (gN 5))
    (aSeq (aIf (aB (aBin arLt (aVar 2) (aC (.d (.int 5))))) (aSeq (aAsg (aCall c_l_row xno (aCons (aVar 5) (aCons (aVar 1) aNil))) (gN 6))
    (aSeq (aAsg (aLc none (aIt (aVar 6)) (gN 8) (aAnd (aB (aBin arEq (aBin arMod (aCB acInt (aCons (aVar 8) aNil)) (aBin arSub (aVar 1) (aC (.d (.int 1))))) (aC (.d (.int 0))))) (aB (aBin arLe (aBin arDiv (aVar 8) (aBin arSub (aVar 1) (aC (.d (.int 1))))) (aVar 5)))) (aBin arDiv (aVar 8) (aBin arSub (aVar 1) (aC (.d (.int 1))))) [8]) (gN 7))
    (aAsg (aBin arSub (aBin (arAdd none) (aCall c_l_pick xno (aCons (aVar 0) (aCons (aIfE (aB (aBin arNe (aVar 7) (aLst none aNil))) (aVar 7) (aLst none (aCons (aVar 5) aNil))) aNil))) (aCall c_l_draw xno (aCons (aVar 0) (aCons (aC (.d (.int 3))) aNil)))) (aC (.d (.int 1)))) (gN 5)))) aNx)
    (aRet (aCB acMax2 (aCons (aC (.d (.int 1))) (aCons (aCB acMin2 (aCons (aVar 5) (aCons (aBin arPow (aC (.d (.int 10))) (aC (.d (.int 30)))) aNil))) aNil))))))))))
def a_l_are_small_right (Fr : Addr → Prop) : AS :=
    (aSeq (aAsg (aCall c_l_order xno (aCons (aVar 2) (aCons (aVar 1) aNil))) (gN 3))
    (aSeq (aIf (aOr (aNot (aTru (aCall c_l_same xno (aCons (aCall c_thinned_order xno (aCons (aVar 2) (aCons (aVar 1) aNil))) (aCons (aCB acTupOf (aCons (aVar 3) aNil)) aNil))))) (aNot (aTru (aCall c_l_same xno (aCons (aCallK c_thinned_order xno 0 2 [0, 1] aNil (aCons (aVar 2) (aCons (aVar 1) aNil))) (aCons (aCB acTupOf (aCons (aVar 3) aNil)) aNil)))))) (aRet (aC (.d (.bool false)))) aNx)
    (aSeq (aIf (aB (aBin arEq (aVar 2) (aC (.d (.int 0))))) (aRet (aC (.d (.bool true)))) aNx)
    (aSeq (aFor (aIt (aLst none (aCons (aC (.d (.int 0))) (aCons (aBin arSub (aVar 2) (aC (.d (.int 1)))) (aCons (aCall c_l_draw xno (aCons (aVar 0) (aCons (aVar 2) aNil))) (aCons (aCall c_l_draw xno (aCons (aVar 0) (aCons (aVar 2) aNil))) (aCons (aBin arSub (aBin arSub (aVar 2) (aC (.d (.int 1)))) (aBin arDiv (aCall c_l_draw xno (aCons (aVar 0) (aCons (aVar 2) aNil))) (aC (.d (.int 8))))) aNil))))))) (gN 4) (aIf (aNot (aTru (aCall c_l_same xno (aCons (aCall c_thinned_place xno (aCons (aVar 2) (aCons (aVar 1) (aCons (aVar 4) aNil)))) (aCons (aBin arIx (aVar 3) (aVar 4)) aNil))))) (aRet (aC (.d (.bool false)))) aNx))
    (aSeq (aAsg (aCall c_l_row xno (aCons (aVar 2) (aCons (aVar 1) aNil))) (gN 5))
    (aSeq (aIf (aOr (aNot (aTru (aCall c_l_same xno (aCons (aCall c_thinned_row xno (aCons (aVar 2) (aCons (aVar 1) aNil))) (aCons (aCB acTupOf (aCons (aVar 5) aNil)) aNil))))) (aB (aBin arNe (aBin arSub (aBin arMul (aVar 1) (aVar 2)) (aBin arIx (aVar 5) (aUn arNeg (aC (.d (.int 1)))))) (aBin arIx (aVar 3) (aUn arNeg (aC (.d (.int 1)))))))) (aRet (aC (.d (.bool false)))) aNx)
    (aRet (aAndV (aCall c_l_same xno (aCons (aCall c_thinned_last xno (aCons (aVar 2) (aCons (aVar 1) aNil))) (aCons (aBin arIx (aVar 3) (aUn arNeg (aC (.d (.int 1))))) aNil))) (aCall c_l_same xno (aCons (aCallK c_thinned_last xno 0 2 [0, 1] aNil (aCons (aVar 2) (aCons (aVar 1) aNil))) (aCons (aBin arIx (aVar 3) (aUn arNeg (aC (.d (.int 1))))) aNil)))))))))))
def a_l_is_great_right (Fr : Addr → Prop) : AS :=
    (aSeq (aAsg (aCall c_l_row xno (aCons (aVar 2) (aCons (aVar 1) aNil))) (gN 3))
    (aSeq (aAsg (aBin arSub (aBin arMul (aVar 1) (aVar 2)) (aBin arIx (aVar 3) (aUn arNeg (aC (.d (.int 1)))))) (gN 4))
    (aSeq (aIf (aOr (aNot (aTru (aCall c_l_same xno (aCons (aCall c_thinned_row xno (aCons (aVar 2) (aCons (aVar 1) aNil))) (aCons (aCB acTupOf (aCons (aVar 3) aNil)) aNil))))) (aNot (aTru (aCall c_l_same xno (aCons (aCallK c_thinned_row xno 0 2 [0, 1] aNil (aCons (aVar 2) (aCons (aVar 1) aNil))) (aCons (aCB acTupOf (aCons (aVar 3) aNil)) aNil)))))) (aRet (aC (.d (.bool false)))) aNx)
    (aSeq (aIf (aOr (aNot (aTru (aCall c_l_same xno (aCons (aCall c_thinned_last xno (aCons (aVar 2) (aCons (aVar 1) aNil))) (aCons (aVar 4) aNil))))) (aNot (aTru (aCall c_l_same xno (aCons (aCall c_thinned_place xno (aCons (aVar 2) (aCons (aVar 1) (aCons (aBin arSub (aVar 2) (aC (.d (.int 1)))) aNil)))) (aCons (aVar 4) aNil)))))) (aRet (aC (.d (.bool false)))) aNx)
    (aSeq (aAsg (aBin arSub (aBin arSub (aVar 2) (aC (.d (.int 1)))) (aCall c_l_great xno (aCons (aVar 0) (aCons (aCB acMin2 (aCons (aVar 2) (aCons (aCall c_l_pick xno (aCons (aVar 0) (aCons (aLst none (aCons (aC (.d (.int 10))) (aCons (aC (.d (.int 1000))) (aCons (aBin arPow (aC (.d (.int 10))) (aC (.d (.int 6)))) (aCons (aBin arPow (aC (.d (.int 10))) (aC (.d (.int 12)))) (aCons (aBin arPow (aC (.d (.int 10))) (aC (.d (.int 24)))) aNil)))))) aNil))) aNil))) aNil)))) (gN 5))
    (aSeq (aFor (aIt (aLst none (aCons (aC (.d (.int 0))) (aCons (aCall c_l_great xno (aCons (aVar 0) (aCons (aVar 2) aNil))) (aCons (aVar 5) (aCons (aCB acMin2 (aCons (aBin arSub (aVar 2) (aC (.d (.int 1)))) (aCons (aCB acMax2 (aCons (aC (.d (.int 0))) (aCons (aBin arSub (aBin arDiv (aVar 2) (aVar 1)) (aCall c_l_draw xno (aCons (aVar 0) (aCons (aC (.d (.int 2))) aNil)))) aNil))) aNil))) (aCons (aBin arSub (aBin arSub (aVar 2) (aC (.d (.int 1)))) (aBin arDiv (aVar 2) (aVar 1))) aNil))))))) (gN 6) (aIf (aNot (aTru (aCall c_l_same xno (aCons (aCall c_thinned_place xno (aCons (aVar 2) (aCons (aVar 1) (aCons (aVar 6) aNil)))) (aCons (aCall c_l_back xno (aCons (aVar 2) (aCons (aVar 1) (aCons (aVar 6) aNil)))) aNil))))) (aRet (aC (.d (.bool false)))) aNx))
    (aSeq (aIf (aNot (aTru (aCall c_l_same xno (aCons (aCallK c_thinned_place xno 0 3 [0, 1, 2] aNil (aCons (aVar 2) (aCons (aVar 1) (aCons (aVar 5) aNil)))) (aCons (aCall c_l_back xno (aCons (aVar 2) (aCons (aVar 1) (aCons (aVar 5) aNil)))) aNil))))) (aRet (aC (.d (.bool false)))) aNx)
    (aSeq (aAsg (aCall c_l_draw xno (aCons (aVar 0) (aCons (aCB acMin2 (aCons (aCB acLen (aCons (aVar 3) aNil)) (aCons (aC (.d (.int 201))) aNil))) aNil))) (gN 7))
    (aRet (aOrV (aBin arEq (aVar 1) (aC (.d (.int 2)))) (aCall c_l_same xno (aCons (aCall c_least_branch xno (aCons (aC (.d (.int 1))) (aCons (aVar 7) (aCons (aVar 1) (aCons (aBin arSub (aVar 1) (aC (.d (.int 1)))) aNil))))) (aCons (aBin arIx (aVar 3) (aVar 7)) aNil)))))))))))))
def a_law (Fr : Addr → Prop) : AS :=
    (aSeq (aAsg (aCall c_l_own_bag xno (aCons (aVar 0) aNil)) (gN 1))
    (aSeq (aPar2 2 3 (aCons (aBin (arAdd none) (aC (.d (.int 2))) (aCall c_l_draw xno (aCons (aVar 1) (aCons (aC (.d (.int 9))) aNil)))) (aCons (aBin (arAdd none) (aC (.d (.int 2))) (aCall c_l_draw xno (aCons (aVar 1) (aCons (aC (.d (.int 9))) aNil)))) aNil)))
    (aSeq (aAsg (aCall c_l_pick xno (aCons (aVar 1) (aCons (aLst none (aCons (aC (.d (.int 0))) (aCons (aC (.d (.int 1))) (aCons (aC (.d (.int 2))) (aCons (aVar 2) (aCons (aVar 3) (aCons (aCall c_l_draw xno (aCons (aVar 1) (aCons (aC (.d (.int 10))) aNil))) (aCons (aCall c_l_draw xno (aCons (aVar 1) (aCons (aC (.d (.int 40))) aNil))) aNil)))))))) aNil))) (gN 4))
    (aSeq (aAsg (aCall c_l_pick xno (aCons (aVar 1) (aCons (aLst none (aCons (aC (.d (.int 500))) (aCons (aC (.d (.int 499))) (aCons (aBin (arAdd none) (aC (.d (.int 40))) (aCall c_l_draw xno (aCons (aVar 1) (aCons (aC (.d (.int 460))) aNil)))) aNil)))) aNil))) (gN 5))
    (aSeq (aPar2 6 7 (aCons (aCall c_l_some_great xno (aCons (aVar 1) (aCons (aVar 2) aNil))) (aCons (aCall c_l_some_great xno (aCons (aVar 1) (aCons (aVar 3) aNil))) aNil)))
    (aSeq (aFor (aIt (aLst none (aCons (aVar 2) (aCons (aVar 3) aNil)))) (gN 8) (aSeq (aIf (aOr (aNot (aTru (aCall c_l_are_small_right xno (aCons (aVar 1) (aCons (aVar 8) (aCons (aVar 4) aNil)))))) (aNot (aTru (aCall c_l_are_small_right xno (aCons (aVar 1) (aCons (aVar 8) (aCons (aVar 5) aNil))))))) (aRet (aC (.d (.bool false)))) aNx)
    (aIf (aOr (aNot (aTru (aCall c_l_is_great_right xno (aCons (aVar 1) (aCons (aVar 8) (aCons (aVar 6) aNil)))))) (aNot (aTru (aCall c_l_is_great_right xno (aCons (aVar 1) (aCons (aVar 8) (aCons (aVar 7) aNil))))))) (aRet (aC (.d (.bool false)))) aNx)))
    (aSeq (aAsg (aBin arSub (aBin arMul (aVar 2) (aVar 6)) (aBin arIx (aCall c_l_row xno (aCons (aVar 6) (aCons (aVar 2) aNil))) (aUn arNeg (aC (.d (.int 1)))))) (gN 9))
    (aRet (aAndV (aCall c_l_same xno (aCons (aCall c_thinned_last xno (aCons (aVar 6) (aCons (aVar 2) aNil))) (aCons (aVar 9) aNil))) (aCall c_l_same xno (aCons (aCallK c_thinned_last xno 0 2 [0, 1] aNil (aCons (aC (.d (.int 1))) (aCons (aVar 3) aNil))) (aCons (aC (.d (.int 0))) aNil))))))))))))
theorem w_thinned_place (Fr : Addr → Prop) (svs : List SV) (Ω : Om) (Φ : PhiE) (Ξ : XA) (h : c_thinned_place svs Ω Φ Ξ) :
    a_thinned_place Fr { nx := fun _ Ω => Φ (.d .none) Ω, rt := Φ } (startR N_thinned_place svs) Ω := by
  obtain ⟨r, t0, t1, k⟩ := h
  rename_i n m t
  obtain ⟨hm, n0, n1⟩ := r
  have b := wb_top hm t0 t1
  have hm2 := hm
  unfold Rm at hm2
  conv => whnf
  refine ⟨cmul (by omega) (by omega) (by omega) (by omega), ?_⟩
  conv => whnf
  refine ⟨fun d ρ Ω' => ∃ c : Int, ρ = [some (I n), some (I m), some (I t), some (I c)] ∧ Ω' = Ω ∧ d = c.toNat ∧ 1 ≤ c ∧ c ≤ m * n ∧ ∀ r, Wb n m c r → Φ (I r) Ω, ⟨_, _, rfl, rfl, rfl, b.1, b.2.1, k⟩, ?_⟩
  rintro d ρ _ ⟨c, rfl, rfl, rfl, c1, c2, k⟩
  conv => whnf
  refine br_d (fun lt => ?_) fun ge => ?_
  · conv => whnf
    refine ⟨cdiv (by omega) (by omega), ?_⟩
    conv => whnf
    have nx := wb_next hm n0 lt c2
    refine ⟨_, ?_, _, rfl, rfl, rfl, ?_, ?_, fun r hr => k r (.step lt ?_)⟩
    · omega
    · omega
    · omega
    · have e : c - n + (c - n - 1) / (m - 1) = (c - n - 1) / (m - 1) + c - n := by omega
      rw [e]; exact hr
  · conv => whnf
    exact k _ (.stop (by omega))
theorem w_l_back (Fr : Addr → Prop) (svs : List SV) (Ω : Om) (Φ : PhiE) (Ξ : XA) (h : c_l_back svs Ω Φ Ξ) :
    a_l_back Fr { nx := fun _ Ω => Φ (.d .none) Ω, rt := Φ } (startR N_l_back svs) Ω := by
  obtain ⟨r, t0, t1, k⟩ := h
  rename_i n m t
  obtain ⟨hm, n0, n1⟩ := r
  have b := wb_top hm t0 t1
  have hm2 := hm
  unfold Rm at hm2
  conv => whnf
  refine ⟨cmul (by omega) (by omega) (by omega) (by omega), ?_⟩
  conv => whnf
  refine ⟨fun d ρ Ω' => ∃ c : Int, ρ = [some (I n), some (I m), some (I t), some (I c)] ∧ Ω' = Ω ∧ d = c.toNat ∧ 1 ≤ c ∧ c ≤ m * n ∧ ∀ r, Wb n m c r → Φ (I r) Ω, ⟨_, _, rfl, rfl, rfl, b.1, b.2.1, k⟩, ?_⟩
  rintro d ρ _ ⟨c, rfl, rfl, rfl, c1, c2, k⟩
  conv => whnf
  refine br_d (fun lt => ?_) fun ge => ?_
  · conv => whnf
    refine ⟨cdiv (by omega) (by omega), ?_⟩
    conv => whnf
    have nx := wb_next hm n0 lt c2
    refine ⟨_, ?_, _, rfl, rfl, rfl, ?_, ?_, fun r hr => k r (.step lt hr)⟩
    · omega
    · omega
    · omega
  · conv => whnf
    exact k _ (.stop (by omega))
theorem w_least_branch (Fr : Addr → Prop) (svs : List SV) (Ω : Om) (Φ : PhiE) (Ξ : XA) (h : c_least_branch svs Ω Φ Ξ) :
    a_least_branch Fr { nx := fun _ Ω => Φ (.d .none) Ω, rt := Φ } (startR N_least_branch svs) Ω := by
  obtain ⟨hm, m3, k0, k1, top, k⟩ := h
  rename_i K m
  have hm2 := hm
  unfold Rm at hm2
  conv => whnf
  refine ⟨⟨by omega, by omega⟩, ?_⟩
  conv => whnf
  refine ⟨fun j ρ Ω' => ∃ ρ4, ρ = [some (I (it m j)), some (I K), some (I m), some (I (m - 1)), ρ4] ∧ Ω' = Ω, ⟨none, rfl, rfl⟩, fun _ _ _ _ => trivial, ?_, ?_⟩
  · rintro j x ρ _ e ⟨ρ4, rfl, rfl⟩
    have lt : j < K.toNat := by
      have := (List.getElem?_eq_some_iff.mp e).1
      rwa [rgS_len] at this
    have g := it_mono hm (Nat.le_of_lt lt)
    have p := it_pos hm j
    conv => whnf
    refine ⟨cmul (by omega) (by omega) (by omega) (by omega), ?_⟩
    conv => whnf
    refine ⟨cdiv (by omega) (by omega), ?_⟩
    conv => whnf
    exact ⟨_, rfl, rfl⟩
  · rintro ρ _ ⟨ρ4, rfl, rfl⟩
    conv => whnf
    rw [rgS_len]
    exact k
theorem w_thinned_row (Fr : Addr → Prop) (svs : List SV) (Ω : Om) (Φ : PhiE) (Ξ : XA) (h : c_thinned_row svs Ω Φ Ξ) :
    a_thinned_row Fr { nx := fun _ Ω => Φ (.d .none) Ω, rt := Φ } (startR N_thinned_row svs) Ω := by
  obtain ⟨r, k⟩ := h
  rename_i n m
  obtain ⟨hm, n0, n1⟩ := r
  have hm2 := hm
  unfold Rm at hm2
  have sp := span hm n0 n1
  conv => whnf
  refine ⟨by decide, ?_⟩
  intro p fp
  conv => whnf
  refine ⟨fun d ρ Ω' => ∃ j : Nat, ρ = [some (I n), some (I m), some (.r (.ref p))] ∧ Ω' = (p, .lst (isD (rowI m j))) :: Ω ∧ d = ((m - 1) * n + 1 - it m j).toNat ∧ ∀ i, i < j → it m i ≤ (m - 1) * n, ⟨_, 0, rfl, rfl, rfl, fun _ h => absurd h (Nat.not_lt_zero _)⟩, ?_⟩
  rintro d ρ _ ⟨j, rfl, rfl, rfl, js⟩
  have lst : atI (isD (rowI m j)) (-1) = some (.int (it m j)) := atI_end (by rw [isD, List.getLast?_map, rowI_end]; rfl)
  conv => whnf
  refine ⟨_, _, .here, ?_⟩
  conv => whnf
  refine ⟨_, lst, ?_⟩
  conv => whnf
  refine ⟨cmul (by omega) (by omega) (by omega) (by omega), ?_⟩
  conv => whnf
  refine br_d (fun le => ?_) fun gt => ?_
  · have few := few hm n0 n1 le js
    have p1 := it_pos hm j
    have u := it_up hm j
    conv => whnf
    refine ⟨⟨_, _, .here, trivial⟩, ?_⟩
    conv => whnf
    refine ⟨_, _, .here, ?_⟩
    conv => whnf
    refine ⟨_, lst, ?_⟩
    conv => whnf
    refine ⟨cmul (by omega) (by omega) (by omega) (by omega), ?_⟩
    conv => whnf
    refine ⟨cdiv (by omega) (by omega), ?_⟩
    conv => whnf
    refine ⟨_, _, .here, ?_⟩
    conv => whnf
    refine ⟨?_, ?_⟩
    · rw [List.length_map, rowI_len]
      have e : sizeLine = 16777216 := by decide
      omega
    conv => whnf
    refine ⟨_, ?_, j + 1, rfl, ?_, rfl, fun i hi => ?_⟩
    · show ((m - 1) * n + 1 - it m (j + 1)).toNat < ((m - 1) * n + 1 - it m j).toNat
      omega
    · rw [rowI_succ, isD, isD, List.map_append]
      rfl
    · rcases Nat.lt_or_eq_of_le (Nat.le_of_lt_succ hi) with z | z
      · exact js i z
      · rw [z]; exact le
  · conv => whnf
    refine ⟨_, _, .here, ?_⟩
    conv => whnf
    exact ⟨_, .cons _ (.refl _), k j ⟨by omega, js⟩⟩
theorem w_l_row (Fr : Addr → Prop) (svs : List SV) (Ω : Om) (Φ : PhiE) (Ξ : XA) (h : c_l_row svs Ω Φ Ξ) :
    a_l_row Fr { nx := fun _ Ω => Φ (.d .none) Ω, rt := Φ } (startR N_l_row svs) Ω := by
  obtain ⟨r, k⟩ := h
  rename_i n m
  obtain ⟨hm, n0, n1⟩ := r
  have hm2 := hm
  unfold Rm at hm2
  have sp := span hm n0 n1
  conv => whnf
  refine ⟨by decide, ?_⟩
  intro p fp
  conv => whnf
  refine ⟨fun d ρ Ω' => ∃ j : Nat, ρ = [some (I n), some (I m), some (.r (.ref p))] ∧ Ω' = (p, .lst (isD (rowI m j))) :: Ω ∧ d = ((m - 1) * n + 1 - it m j).toNat ∧ ∀ i, i < j → it m i ≤ (m - 1) * n, ⟨_, 0, rfl, rfl, rfl, fun _ h => absurd h (Nat.not_lt_zero _)⟩, ?_⟩
  rintro d ρ _ ⟨j, rfl, rfl, rfl, js⟩
  have lst : atI (isD (rowI m j)) (-1) = some (.int (it m j)) := atI_end (by rw [isD, List.getLast?_map, rowI_end]; rfl)
  conv => whnf
  refine ⟨_, _, .here, ?_⟩
  conv => whnf
  refine ⟨_, lst, ?_⟩
  conv => whnf
  refine ⟨cmul (by omega) (by omega) (by omega) (by omega), ?_⟩
  conv => whnf
  refine br_d (fun le => ?_) fun gt => ?_
  · have few := few hm n0 n1 le js
    have p1 := it_pos hm j
    have u := it_up hm j
    conv => whnf
    refine ⟨⟨_, _, .here, trivial⟩, ?_⟩
    conv => whnf
    refine ⟨_, _, .here, ?_⟩
    conv => whnf
    refine ⟨_, lst, ?_⟩
    conv => whnf
    refine ⟨cmul (by omega) (by omega) (by omega) (by omega), ?_⟩
    conv => whnf
    refine ⟨cdiv (by omega) (by omega), ?_⟩
    conv => whnf
    refine ⟨_, _, .here, ?_⟩
    conv => whnf
    refine ⟨?_, ?_⟩
    · rw [List.length_map, rowI_len]
      have e : sizeLine = 16777216 := by decide
      omega
    conv => whnf
    refine ⟨_, ?_, j + 1, rfl, ?_, rfl, fun i hi => ?_⟩
    · show ((m - 1) * n + 1 - it m (j + 1)).toNat < ((m - 1) * n + 1 - it m j).toNat
      omega
    · rw [rowI_succ, isD, isD, List.map_append, ← (up_all hm p1).1]
      rfl
    · rcases Nat.lt_or_eq_of_le (Nat.le_of_lt_succ hi) with z | z
      · exact js i z
      · rw [z]; exact le
  · conv => whnf
    refine ⟨_, _, .here, fp, _, .here, _, .refl _, k j ⟨by omega, js⟩⟩
theorem w_thinned_last (Fr : Addr → Prop) (svs : List SV) (Ω : Om) (Φ : PhiE) (Ξ : XA) (h : c_thinned_last svs Ω Φ Ξ) :
    a_thinned_last Fr { nx := fun _ Ω => Φ (.d .none) Ω, rt := Φ } (startR N_thinned_last svs) Ω := by
  obtain ⟨r, k⟩ := h
  rename_i n m
  obtain ⟨hm, n0, n1⟩ := r
  have hm2 := hm
  unfold Rm at hm2
  conv => whnf
  refine ⟨cmul (by omega) (by omega) (by omega) (by omega), ?_⟩
  conv => whnf
  refine .mk ⟨hm, n0, n1⟩ fun K hK => ?_
  conv => whnf
  refine ⟨_, atI_end (by rw [isD, List.getLast?_map, rowI_end]; rfl), ?_⟩
  exact k K hK
theorem w_l_order (Fr : Addr → Prop) (svs : List SV) (Ω : Om) (Φ : PhiE) (Ξ : XA) (h : c_l_order svs Ω Φ Ξ) :
    a_l_order Fr { nx := fun _ Ω => Φ (.d .none) Ω, rt := Φ } (startR N_l_order svs) Ω := by
  obtain ⟨r, n5, k⟩ := h
  rename_i n m
  obtain ⟨hm, n0, n1⟩ := r
  have hm2 := hm
  unfold Rm at hm2
  obtain ⟨N, rfl⟩ := Int.eq_ofNat_of_zero_le n0
  obtain ⟨M, rfl⟩ := Int.eq_ofNat_of_zero_le (show 0 ≤ m by omega)
  conv => whnf
  refine ⟨⟨by omega, by omega, by omega, by omega⟩, ?_⟩
  conv => whnf
  intro p fp
  conv => whnf
  refine ⟨by decide, ?_⟩
  intro q fq
  conv => whnf
  refine ⟨fun d ρ Ω' => ∃ (ring : List Int) (c : Nat) (found : List Int), ρ = [some (I N), some (I M), some (.r (.ref p)), some (I c), some (.r (.ref q))] ∧ Ω' = (q, .lst (isD found)) :: (p, .lst (isD ring)) :: Ω ∧ d = ring.length ∧ OInv N M ring c found, ⟨_, _, 0, [], rfl, ?_, rfl, OInv.start N M⟩, ?_⟩
  · show (q, OC.lst []) :: (p, OC.lst (rgD 0 N)) :: Ω = _
    have e : rgD 0 N = isD ((List.range N).map fun i : Nat => (i : Int)) := by simp [rgD, isD, Function.comp_def]
    rw [e]
    rfl
  rintro d ρ _ ⟨ring, c, found, rfl, rfl, rfl, iv⟩
  conv => whnf
  refine ⟨by decide, ?_⟩
  conv => whnf
  refine ⟨_, _, .there .here, ?_⟩
  conv => whnf
  refine ⟨(shaped_isD ring).2, shaped_nil, ?_⟩
  conv => whnf
  rw [eqv_nil]
  refine br_n (br_d (fun e => ?_) fun ne => ?_)
  · subst e
    conv => whnf
    exact ⟨_, _, .here, fq, _, .here, _, .cons _ (.refl _), k _ iv.done⟩
  · have pos : 0 < ring.length := List.length_pos_iff.mpr ne
    obtain ⟨r, g, nx⟩ := iv.next hm pos
    have ln := iv.ln
    have lt := Nat.mod_lt (c + M - 1) pos
    have e : ((c : Int) + M - 1) % ((isD ring).length : Int) = (((c + M - 1) % ring.length : Nat) : Int) := by
      rw [isD, List.length_map, Int.natCast_emod]
      congr 1
      omega
    conv => whnf
    refine ⟨_, _, .there .here, ?_⟩
    conv => whnf
    refine ⟨by rw [isD, List.length_map]; omega, ?_⟩
    conv => whnf
    dsimp only
    rw [e]
    refine ⟨⟨_, _, .here, trivial⟩, ?_⟩
    conv => whnf
    refine ⟨⟨_, _, .there .here, trivial⟩, ?_⟩
    conv => whnf
    refine ⟨_, _, .there .here, ?_⟩
    conv => whnf
    refine ⟨.int r, by omega, by omega, ?_, ?_⟩
    · rw [Int.toNat_natCast, isD, List.getElem?_map, g]
      rfl
    conv => whnf
    refine ⟨_, _, .here, ?_⟩
    conv => whnf
    refine ⟨?_, ?_⟩
    · have z : sizeLine = 16777216 := by decide
      rw [isD, List.length_map]
      omega
    conv => whnf
    refine ⟨_, ?_, _, _, _, rfl, ?_, rfl, nx⟩
    · rw [List.length_eraseIdx_of_lt lt]
      omega
    · rw [Int.toNat_natCast, erase_isD, ← app_isD]
      rfl
theorem w_thinned_order (Fr : Addr → Prop) (svs : List SV) (Ω : Om) (Φ : PhiE) (Ξ : XA) (h : c_thinned_order svs Ω Φ Ξ) :
    a_thinned_order Fr { nx := fun _ Ω => Φ (.d .none) Ω, rt := Φ } (startR N_thinned_order svs) Ω := by
  obtain ⟨r, n5, k⟩ := h
  rename_i n m
  obtain ⟨hm, n0, n1⟩ := r
  have hm2 := hm
  unfold Rm at hm2
  obtain ⟨N, rfl⟩ := Int.eq_ofNat_of_zero_le n0
  obtain ⟨M, rfl⟩ := Int.eq_ofNat_of_zero_le (show 0 ≤ m by omega)
  conv => whnf
  refine ⟨⟨by omega, by omega, by omega, by omega⟩, ?_⟩
  conv => whnf
  intro p fp
  conv => whnf
  refine ⟨by decide, ?_⟩
  intro q fq
  conv => whnf
  refine ⟨fun d ρ Ω' => ∃ (ring : List Int) (c : Nat) (found : List Int), ρ = [some (I N), some (I M), some (.r (.ref p)), some (I c), some (.r (.ref q))] ∧ Ω' = (q, .lst (isD found)) :: (p, .lst (isD ring)) :: Ω ∧ d = ring.length ∧ OInv N M ring c found, ⟨_, _, 0, [], rfl, ?_, rfl, OInv.start N M⟩, ?_⟩
  · show (q, OC.lst []) :: (p, OC.lst (rgD 0 N)) :: Ω = _
    have e : rgD 0 N = isD ((List.range N).map fun i : Nat => (i : Int)) := by simp [rgD, isD, Function.comp_def]
    rw [e]
    rfl
  rintro d ρ _ ⟨ring, c, found, rfl, rfl, rfl, iv⟩
  conv => whnf
  refine ⟨by decide, ?_⟩
  conv => whnf
  refine ⟨_, _, .there .here, ?_⟩
  conv => whnf
  refine ⟨(shaped_isD ring).2, shaped_nil, ?_⟩
  conv => whnf
  rw [eqv_nil]
  refine br_n (br_d (fun e => ?_) fun ne => ?_)
  · subst e
    conv => whnf
    refine ⟨_, _, .here, ?_⟩
    conv => whnf
    exact ⟨_, .cons _ (.cons _ (.refl _)), k _ iv.done⟩
  · have pos : 0 < ring.length := List.length_pos_iff.mpr ne
    obtain ⟨r, g, nx⟩ := iv.next hm pos
    have ln := iv.ln
    have lt := Nat.mod_lt (c + M - 1) pos
    have e : ((c : Int) + M - 1) % ((isD ring).length : Int) = (((c + M - 1) % ring.length : Nat) : Int) := by
      rw [isD, List.length_map, Int.natCast_emod]
      congr 1
      omega
    conv => whnf
    refine ⟨_, _, .there .here, ?_⟩
    conv => whnf
    refine ⟨by rw [isD, List.length_map]; omega, ?_⟩
    conv => whnf
    dsimp only
    rw [e]
    refine ⟨⟨_, _, .here, trivial⟩, ?_⟩
    conv => whnf
    refine ⟨⟨_, _, .there .here, trivial⟩, ?_⟩
    conv => whnf
    refine ⟨_, _, .there .here, ?_⟩
    conv => whnf
    refine ⟨.int r, by omega, by omega, ?_, ?_⟩
    · rw [Int.toNat_natCast, isD, List.getElem?_map, g]
      rfl
    conv => whnf
    refine ⟨_, _, .here, ?_⟩
    conv => whnf
    refine ⟨?_, ?_⟩
    · have z : sizeLine = 16777216 := by decide
      rw [isD, List.length_map]
      omega
    conv => whnf
    refine ⟨_, ?_, _, _, _, rfl, ?_, rfl, nx⟩
    · rw [List.length_eraseIdx_of_lt lt]
      omega
    · rw [Int.toNat_natCast, erase_isD, ← app_isD]
      rfl
theorem w_l_pick (Fr : Addr → Prop) (svs : List SV) (Ω : Om) (Φ : PhiE) (Ξ : XA) (h : c_l_pick svs Ω Φ Ξ) :
    a_l_pick Fr { nx := fun _ Ω => Φ (.d .none) Ω, rt := Φ } (startR N_l_pick svs) Ω := by
  obtain ⟨hB, ne, ln, k⟩ := h
  rename_i x ds L R
  conv => whnf
  refine .mk hB ?_ ?_ fun r Ω' r0 r1 hB' => ?_
  · have := List.length_pos_iff.mpr ne
    omega
  · have := log2_lt (n := ((ds.length : Nat) : Int).natAbs) (k := 60) (by simpa using ln) (by decide)
    omega
  · have lt : r.toNat < ds.length := by omega
    conv => whnf
    exact ⟨_, atI_i r0 (List.getElem?_eq_getElem lt), k _ (List.getElem_mem lt) _ hB'⟩
theorem w_l_same (Fr : Addr → Prop) (svs : List SV) (Ω : Om) (Φ : PhiE) (Ξ : XA) (h : c_l_same svs Ω Φ Ξ) :
    a_l_same Fr { nx := fun _ Ω => Φ (.d .none) Ω, rt := Φ } (startR N_l_same svs) Ω := by
  obtain ⟨s, k⟩ := h
  rename_i d
  rcases s.kind with ⟨i, rfl⟩ | ⟨ds, rfl⟩
  · conv => whnf
    refine br_F ?_
    conv => whnf
    refine ⟨_, _, rfl, rfl, ?_⟩
    conv => whnf
    refine br_F ?_
    conv => whnf
    refine ⟨_, _, rfl, rfl, ?_⟩
    conv => whnf
    refine br_F ?_
    conv => whnf
    refine ⟨_, _, rfl, rfl, ?_⟩
    conv => whnf
    refine br_T ?_
    conv => whnf
    refine ⟨s.sh, s.nd, s.dp, s.ln, ?_⟩
    conv => whnf
    refine ⟨s.sh, s.nd, s.dp, s.ln, ?_⟩
    conv => whnf
    refine br_d (fun _ => ?_) fun ne => absurd rfl ne
    conv => whnf
    rw [decide_eq_true rfl]
    exact k
  · conv => whnf
    refine br_F ?_
    conv => whnf
    refine ⟨_, _, rfl, rfl, ?_⟩
    conv => whnf
    refine br_T ?_
    conv => whnf
    refine ⟨_, _, rfl, rfl, ?_⟩
    conv => whnf
    refine br_T ?_
    conv => whnf
    refine ⟨s.sh, s.nd, s.dp, s.ln, ?_⟩
    conv => whnf
    refine ⟨s.sh, s.nd, s.dp, s.ln, ?_⟩
    conv => whnf
    refine br_d (fun _ => ?_) fun ne => absurd rfl ne
    conv => whnf
    refine ⟨s.fm, s.fm, ?_⟩
    conv => whnf
    rw [s.eq]
    exact k
theorem w_l_draw (Fr : Addr → Prop) (svs : List SV) (Ω : Om) (Φ : PhiE) (Ξ : XA) (h : c_l_draw svs Ω Φ Ξ) :
    a_l_draw Fr { nx := fun _ Ω => Φ (.d .none) Ω, rt := Φ } (startR N_l_draw svs) Ω := by
  obtain ⟨hB, b0, b1, k⟩ := h
  obtain ⟨hx, ok⟩ := hB
  rename_i x below L R b c n m is
  subst hx
  conv => whnf
  refine ⟨fun d ρ Ω' => ∃ (n : Int) (is : List Int) (ρ2 : Option SV), ρ = [some (.r (.ref b)), some (I below), ρ2, none] ∧ Ω' = L ++ (b, .lx [.r (.ref c), I n, I m]) :: (c, .lst (isD is)) :: R ∧ d = is.length ∧ BagOk n m is, ⟨_, _, _, _, rfl, rfl, rfl, ok⟩, ?_⟩
  clear ok n is
  rintro d ρ _ ⟨n, is, ρ2, rfl, rfl, rfl, ok⟩
  have A1 := At.app (At.here (a := b) (c := .lx [.r (.ref c), I n, I m]) (Ω := (c, .lst (isD is)) :: R)) L
  have A2 := At.app (At.there (p := (b, .lx [.r (.ref c), I n, I m])) (At.here (a := c) (c := .lst (isD is)) (Ω := R))) L
  have fin : ∀ ρ2, (aSeq
        (aIf (aB (aBin arGt (aBin arIx (aVar 0) (aC (.d (.int 1)))) (aC (.d (.int 0))))) (aSeq (aAsg (aBin arMod (aCB acInt (aCons (aBin arIx (aVar 0) (aC (.d (.int 1)))) aNil)) (aVar 1)) (gN 3))
    (aSeq (aSetIx (aBin arDiv (aBin arIx (aVar 0) (aC (.d (.int 1)))) (aVar 1)) (aVar 0) (aC (.d (.int 1))))
    (aRet (aVar 3)))) aNx)
    (aSeq (aSetIx (aBin arMod (aBin (arAdd none) (aBin arMul (aBin arIx (aVar 0) (aC (.d (.int 2)))) (aC (.d (.int 48271)))) (aC (.d (.int 11)))) (aC (.d (.int 2147483647)))) (aVar 0) (aC (.d (.int 2))))
    (aRet (aBin arMod (aBin arDiv (aBin arMod (aCB acInt (aCons (aBin arMul (aBin arIx (aVar 0) (aC (.d (.int 2)))) (aBin arIx (aVar 0) (aC (.d (.int 2))))) aNil)) (aC (.d (.int 2147483629)))) (aC (.d (.int 7)))) (aVar 1))))) { nx := fun _ Ω => Φ (.d .none) Ω, rt := Φ } [some (.r (.ref b)), some (I below), ρ2, none] (L ++ (b, .lx [.r (.ref c), I n, I m]) :: (c, .lst (isD is)) :: R) := by
    intro ρ2
    conv => whnf
    refine ⟨_, _, A1, ?_⟩
    conv => whnf
    refine ⟨_, rfl, ?_⟩
    conv => whnf
    refine br_d (fun gt => ?_) fun le => ?_
    · conv => whnf
      refine ⟨_, _, A1, ?_⟩
      conv => whnf
      refine ⟨_, rfl, ?_⟩
      conv => whnf
      refine ⟨b0, ?_⟩
      conv => whnf
      refine ⟨_, _, A1, ?_⟩
      conv => whnf
      refine ⟨_, rfl, ?_⟩
      conv => whnf
      refine ⟨⟨b0, b1⟩, ?_⟩
      conv => whnf
      refine ⟨_, _, A1, ?_⟩
      conv => whnf
      refine ⟨1, rfl, ?_⟩
      conv => whnf
      exact k _ _ (Int.emod_nonneg _ (by omega)) (Int.emod_lt_of_pos _ b0) (.mk rfl ⟨Int.ediv_nonneg ok.n0 (by omega), ok.m0, ok.m1, ok.i0⟩)
    · have m0 := ok.m0
      have m1 := ok.m1
      conv => whnf
      refine ⟨_, _, A1, ?_⟩
      conv => whnf
      refine ⟨_, rfl, ?_⟩
      conv => whnf
      refine ⟨cmul (by omega) (by omega) (by omega) (by omega), ?_⟩
      conv => whnf
      refine ⟨(by decide : (0 : Int) < 2147483647), ?_⟩
      conv => whnf
      refine ⟨_, _, A1, ?_⟩
      conv => whnf
      refine ⟨2, rfl, ?_⟩
      have z0 : 0 ≤ (m * 48271 + 11) % 2147483647 := by omega
      have z1 : (m * 48271 + 11) % 2147483647 < 2147483647 := by omega
      have A3 := At.app (At.here (a := b) (c := .lx [.r (.ref c), I n, I ((m * 48271 + 11) % 2147483647)]) (Ω := (c, .lst (isD is)) :: R)) L
      conv => whnf
      refine ⟨_, _, A3, ?_⟩
      conv => whnf
      refine ⟨_, rfl, ?_⟩
      conv => whnf
      refine ⟨_, _, A3, ?_⟩
      conv => whnf
      refine ⟨_, rfl, ?_⟩
      conv => whnf
      refine ⟨cmul (by omega) (by omega) (by omega) (by omega), ?_⟩
      conv => whnf
      refine ⟨(by decide : (0 : Int) < 2147483629), ?_⟩
      conv => whnf
      refine ⟨cdiv (by decide) (by decide), ?_⟩
      conv => whnf
      refine ⟨b0, ?_⟩
      conv => whnf
      exact k _ _ (Int.emod_nonneg _ (by omega)) (Int.emod_lt_of_pos _ b0) (.mk rfl ⟨ok.n0, z0, z1, ok.i0⟩)
  conv => whnf
  refine ⟨_, _, A1, ?_⟩
  conv => whnf
  refine ⟨_, rfl, ?_⟩
  conv => whnf
  refine br_d (fun e0 => ?_) fun ne => ?_
  · conv => whnf
    refine ⟨_, _, A1, ?_⟩
    conv => whnf
    refine ⟨_, rfl, ?_⟩
    conv => whnf
    refine ⟨by decide, ?_⟩
    conv => whnf
    refine ⟨_, _, A2, ?_⟩
    conv => whnf
    refine ⟨(shaped_isD is).2, shaped_nil, ?_⟩
    conv => whnf
    rw [eqv_nil]
    refine br_n (br_d (fun e => ?_) fun ne => ?_)
    · exact fin ρ2
    · conv => whnf
      refine ⟨_, _, A1, ?_⟩
      conv => whnf
      refine ⟨_, rfl, ?_⟩
      conv => whnf
      refine ⟨⟨_, _, A2, trivial⟩, ?_⟩
      obtain ⟨js, i, rfl⟩ : ∃ js i, is = js ++ [i] := ⟨is.dropLast, is.getLast ne, (List.dropLast_concat_getLast ne).symm⟩
      conv => whnf
      refine ⟨_, _, A2, .int i, by simp [isD], ?_⟩
      have e9 : (isD (js ++ [i])).dropLast = isD js := by simp [isD]
      have i0 := ok.i0 i (by simp)
      conv => whnf
      rw [e9]
      refine ⟨⟨by decide, by decide, by decide⟩, ?_⟩
      conv => whnf
      have A4 := At.app (At.here (a := b) (c := .lx [.r (.ref c), I n, I m]) (Ω := (c, .lst (isD js)) :: R)) L
      refine br_d (fun gt => ?_) fun le => ?_
      · conv => whnf
        refine ⟨_, _, A4, ?_⟩
        conv => whnf
        refine ⟨1, rfl, ?_⟩
        conv => whnf
        exact ⟨_, by simp, _, _, _, rfl, rfl, rfl, i0, ok.m0, ok.m1, fun j hj => ok.i0 j (by simp [hj])⟩
      · conv => whnf
        refine ⟨_, _, A4, ?_⟩
        conv => whnf
        refine ⟨1, rfl, ?_⟩
        conv => whnf
        exact ⟨_, by simp, _, _, _, rfl, rfl, rfl, Int.le_refl 0, ok.m0, ok.m1, fun j hj => ok.i0 j (by simp [hj])⟩
  · conv => whnf
    refine br_F ?_
    exact fin ρ2
theorem w_l_great (Fr : Addr → Prop) (svs : List SV) (Ω : Om) (Φ : PhiE) (Ξ : XA) (h : c_l_great svs Ω Φ Ξ) :
    a_l_great Fr { nx := fun _ Ω => Φ (.d .none) Ω, rt := Φ } (startR N_l_great svs) Ω := by
  obtain ⟨hB, b0, b1, k⟩ := h
  rename_i x below L R
  conv => whnf
  refine ⟨by decide, ?_⟩
  conv => whnf
  refine ⟨rfl, ?_⟩
  conv => whnf
  refine ⟨fun d ρ Ω' => ∃ f r : Int, ρ = [some x, some (I below), some (I f), some (I r)] ∧ Bag x L R Ω' ∧ d = (below * 10 ^ 9 - r).toNat ∧ 0 ≤ f ∧ f < r ∧ 1 ≤ r ∧ r ≤ below * 10 ^ 9, ⟨_, 0, 1, rfl, hB, rfl, by omega, by omega, by omega, by omega⟩, ?_⟩
  rintro d ρ Ω1 ⟨f, r, rfl, hB, rfl, f0, fr, r1, r2⟩
  conv => whnf
  refine ⟨cmul (by omega) (by omega) (by omega) (by omega), ?_⟩
  conv => whnf
  refine br_d (fun lt => ?_) fun ge => ?_
  · conv => whnf
    refine ⟨cmul (by omega) (by omega) (by omega) (by omega), ?_⟩
    conv => whnf
    refine .mk hB (by omega) (by decide) fun z Ω2 z0 z1 hB => ?_
    conv => whnf
    refine ⟨cmul (by omega) (by omega) (by omega) (by omega), ?_⟩
    conv => whnf
    refine ⟨_, ?_, _, _, rfl, hB, rfl, ?_, ?_, ?_, ?_⟩ <;> (try dsimp only) <;> omega
  · conv => whnf
    refine ⟨b0, ?_⟩
    conv => whnf
    exact k _ _ (Int.emod_nonneg _ (by omega)) (Int.emod_lt_of_pos _ b0) hB
theorem w_l_own_bag (Fr : Addr → Prop) (svs : List SV) (Ω : Om) (Φ : PhiE) (Ξ : XA) (h : c_l_own_bag svs Ω Φ Ξ) :
    a_l_own_bag Fr { nx := fun _ Ω => Φ (.d .none) Ω, rt := Φ } (startR N_l_own_bag svs) Ω := by
  obtain ⟨ok, k⟩ := h
  rename_i ns
  have cl := Nat.le_trans (cutD_len ns none (some 63)) ok.1
  conv => whnf
  refine ⟨?_, ?_⟩
  · rw [List.length_map, cutD_isD, isD, List.length_map]
    omega
  refine ⟨fun i acc Ω' => ∃ is : List Int, acc = (isD is).map SV.d ∧ Ω' = [] ∧ is.length = i ∧ ∀ z ∈ is, 0 ≤ z, ⟨[], rfl, rfl, rfl, by simp⟩, fun i acc Ω' ⟨is, h1, h2, h3, h4⟩ => ⟨trivial, by rw [h1, List.length_map, isD, List.length_map]; omega⟩, ?_, ?_⟩
  · rintro i x acc _ e ⟨is, rfl, rfl, rfl, nn⟩
    rw [cutD_isD] at e
    obtain ⟨z, -, rfl⟩ := get_isD e
    conv => whnf
    refine br_T ?_
    conv => whnf
    refine ⟨is ++ [if z < 0 then -z else z], ?_, rfl, by simp, ?_⟩
    · rw [← app_isD, List.map_append]
      rfl
    · intro y hy
      rcases List.mem_append.mp hy with hy | hy
      · exact nn y hy
      · obtain rfl := List.mem_singleton.mp hy
        split <;> omega
  rintro acc _ ⟨is, rfl, rfl, ln, nn⟩
  rw [List.length_map, cutD_isD, isD, List.length_map] at ln
  refine newX_d ?_
  conv => whnf
  refine ⟨fun j ρ Ω' => ∃ (mx : Int) (ρ3 : Option SV), ρ = [some (.l (isD ns)), some (.d (.list (isD is))), some (I mx), ρ3] ∧ Ω' = [] ∧ 0 ≤ mx ∧ mx < 2147483647, ⟨_, _, rfl, rfl, ?_, ?_⟩, fun _ _ _ _ => trivial, ?_, ?_⟩
  · omega
  · rw [isD, List.length_map]; omega
  · rintro j x ρ _ e ⟨mx, ρ3, rfl, rfl, m0, m1⟩
    obtain ⟨z, -, rfl⟩ := get_isD e
    conv => whnf
    refine ⟨cmul (by omega) (by omega) (by omega) (by omega), ?_⟩
    conv => whnf
    refine ⟨(by decide : (0 : Int) < 2147483629), ?_⟩
    conv => whnf
    refine ⟨(by decide : (0 : Int) < 2147483647), ?_⟩
    conv => whnf
    exact ⟨_, _, rfl, rfl, Int.emod_nonneg _ (by omega), Int.emod_lt_of_pos _ (by omega)⟩
  · rintro ρ _ ⟨mx, ρ3, rfl, rfl, m0, m1⟩
    conv => whnf
    refine ⟨trivial, ?_⟩
    intro c fc
    conv => whnf
    refine ⟨(by decide : 3 ≤ sizeLine), ?_⟩
    intro b fb
    conv => whnf
    have e : (isD is).reverse = isD is.reverse := by rw [isD, isD, List.map_reverse]
    refine k _ _ ?_
    show Bag (.r (.ref b)) [] [] ([(b, .lx [.r (.ref c), I 0, I mx]), (c, .lst (isD is).reverse)])
    rw [e]
    exact .mk (L := []) rfl ⟨Int.le_refl 0, m0, m1, fun i hi => nn i (List.mem_reverse.mp hi)⟩
theorem tens : ∀ j : Nat, j < 31 → (1 : Int) ≤ 10 ^ j ∧ (10 : Int) ^ j ≤ 10 ^ 30 := by decide
theorem w_l_some_great (Fr : Addr → Prop) (svs : List SV) (Ω : Om) (Φ : PhiE) (Ξ : XA) (h : c_l_some_great svs Ω Φ Ξ) :
    a_l_some_great Fr { nx := fun _ Ω => Φ (.d .none) Ω, rt := Φ } (startR N_l_some_great svs) Ω := by
  obtain ⟨hB, hm, k⟩ := h
  rename_i x m L R
  have hm2 := hm
  unfold Rm at hm2
  have t30 : (10 : Int) ^ (30 : Int).toNat = 10 ^ 30 := rfl
  conv => whnf
  refine .mk hB (by decide) (by decide) fun kind Ω1 k0 k1 hB => ?_
  conv => whnf
  refine br_d (fun e0 => ?_) fun _ => ?_
  · conv => whnf
    refine .mk hB (by decide) (by decide) fun z Ω1 z0 z1 hB => ?_
    exact k _ _ (by omega) (by omega) hB
  conv => whnf
  refine br_d (fun e1 => ?_) fun _ => ?_
  · conv => whnf
    refine ⟨⟨by decide, by decide, by decide⟩, ?_⟩
    conv => whnf
    refine .mk hB (by decide) (by decide) fun z Ω1 z0 z1 hB => ?_
    exact k _ _ (by omega) (by omega) hB
  conv => whnf
  refine .mk hB (by decide) (by decide) fun top Ω1 t0 t1 hB => ?_
  conv => whnf
  refine ⟨⟨by omega, by omega⟩, ?_⟩
  conv => whnf
  refine ⟨fun j ρ Ω' => ∃ ρ4, ρ = [some x, some (I m), some (I kind), some (I (10 ^ (j + 1))), ρ4, none, none, none, none] ∧ Bag x L R Ω', ⟨none, rfl, hB⟩, fun _ _ _ _ => trivial, ?_, ?_⟩
  · rintro j y ρ Ω2 e ⟨ρ4, rfl, hB⟩
    have lt : j < top.toNat := by
      have := (List.getElem?_eq_some_iff.mp e).1
      rwa [rgS_len] at this
    have b := tens (j + 1) (by omega)
    conv => whnf
    refine ⟨cmul (by omega) (by omega) (by omega) (by omega), ?_⟩
    conv => whnf
    exact ⟨_, rfl, hB⟩
  rintro ρ Ω2 ⟨ρ4, rfl, hB⟩
  rw [rgS_len] at *
  have b := tens (top.toNat + 1) (by omega)
  generalize (10 : Int) ^ (top.toNat + 1) = tp at b ⊢
  conv => whnf
  refine .mk hB (by omega) (by omega) fun g Ω3 g0 g1 hB => ?_
  conv => whnf
  refine br_d (fun lt => ?_) fun ge => ?_
  · conv => whnf
    refine .mk ⟨hm, by omega, by omega⟩ fun K hK => ?_
    conv => whnf
    refine ⟨by rw [List.length_map, isD, List.length_map, rowI_len]; have := hK.le hm (by omega) (by omega); omega, ?_⟩
    refine ⟨fun i acc Ω' => ∃ is : List Int, acc = (isD is).map SV.d ∧ Bag x L R Ω' ∧ is.length ≤ i ∧ ∀ z ∈ is, 0 ≤ z ∧ z ≤ 1 + g, ⟨[], rfl, hB, by simp, by simp⟩, fun i acc Ω' ⟨is, h1, h2, h3, h4⟩ => ⟨trivial, by rw [h1, List.length_map, isD, List.length_map]; omega⟩, ?_, ?_⟩
    · rintro i y acc Ω4 e ⟨is, rfl, hB, ln, nn⟩
      obtain ⟨z, hz, rfl⟩ := get_isD e
      obtain ⟨j, hj, rfl⟩ := rowI_mem (List.mem_of_getElem? hz)
      have zp := it_pos hm j
      conv => whnf
      refine ⟨show 0 < m - 1 by omega, ?_⟩
      conv => whnf
      refine br_d (fun e0 => ?_) fun ne => ?_
      · conv => whnf
        refine ⟨cdiv (by omega) (by omega), ?_⟩
        conv => whnf
        refine br_d (fun le => ?_) fun gt => ?_
        · conv => whnf
          refine ⟨cdiv (by omega) (by omega), ?_⟩
          conv => whnf
          refine ⟨is ++ [it m j / (m - 1)], ?_, hB, by simp; omega, ?_⟩
          · rw [← app_isD, List.map_append]
            rfl
          · intro y hy
            rcases List.mem_append.mp hy with hy | hy
            · exact nn y hy
            · obtain rfl := List.mem_singleton.mp hy
              exact ⟨Int.ediv_nonneg (by omega) (by omega), le⟩
        · conv => whnf
          exact ⟨is, rfl, hB, by omega, nn⟩
      · refine br_F ?_
        exact ⟨is, rfl, hB, by omega, nn⟩
    rintro acc Ω4 ⟨is, rfl, hB, ln, nn⟩
    refine newX_d ?_
    rw [List.length_map, isD, List.length_map, rowI_len] at ln
    have kl := hK.le hm (by omega) (by omega)
    conv => whnf
    refine ⟨by decide, ?_⟩
    conv => whnf
    refine ⟨(shaped_isD is).2, shaped_nil, ?_⟩
    conv => whnf
    rw [eqv_nil]
    refine br_n (br_d (fun e => ?_) fun ne => ?_)
    · conv => whnf
      refine ⟨(by decide : 1 ≤ sizeLine), ?_⟩
      conv => whnf
      refine .mk hB (by simp) (by simp) fun d hd Ω5 hB => ?_
      have hz : ∃ z : Int, d = .int z ∧ 0 ≤ z ∧ z ≤ 1 + g := by
        exact ⟨_, List.mem_singleton.mp hd, by omega, by omega⟩
      obtain ⟨z, rfl, z0, z1⟩ := hz
      conv => whnf
      refine .mk hB (by decide) (by decide) fun t Ω6 t0 t1 hB => ?_
      conv => whnf
      refine ⟨⟨by decide, by decide, by decide⟩, ?_⟩
      conv => whnf
      refine k _ _ ?_ ?_ hB <;> dsimp only <;> (repeat' split) <;> omega
    · conv => whnf
      refine .mk hB (by simpa [isD] using ne) (by rw [isD, List.length_map]; omega) fun d hd Ω5 hB => ?_
      have hz : ∃ z : Int, d = .int z ∧ 0 ≤ z ∧ z ≤ 1 + g := by
        obtain ⟨z, hz, rfl⟩ := List.mem_map.mp hd
        exact ⟨z, rfl, nn z hz⟩
      obtain ⟨z, rfl, z0, z1⟩ := hz
      conv => whnf
      refine .mk hB (by decide) (by decide) fun t Ω6 t0 t1 hB => ?_
      conv => whnf
      refine ⟨⟨by decide, by decide, by decide⟩, ?_⟩
      conv => whnf
      refine k _ _ ?_ ?_ hB <;> dsimp only <;> (repeat' split) <;> omega
  · conv => whnf
    refine ⟨⟨by decide, by decide, by decide⟩, ?_⟩
    conv => whnf
    refine k _ _ ?_ ?_ hB <;> dsimp only <;> (repeat' split) <;> omega
theorem ordSame {n m : Int} {l : List Int} (r : Rg n m) (n5 : n ≤ 500) (o : OrdP n m l) : SameOk (.tuple (isD l)) := sameTup (fun i hi => by
  have := o.mem r.m hi
  exact nat_bd (Int.lt_of_lt_of_le (by decide +kernel : -(2 ^ 1900 : Int) < 0) this.1) (Int.lt_trans (show i < 501 by omega) (by decide +kernel))) (by have := o.1; omega)
theorem smallSame {i : Int} (h0 : 0 ≤ i) (h1 : i ≤ 10 ^ 40) : SameOk (.int i) := sameInt (nat_bd (Int.lt_of_lt_of_le (by decide +kernel : -(2 ^ 1900 : Int) < 0) h0) (Int.lt_of_le_of_lt h1 (by decide +kernel)))
theorem rowSame {n m : Int} {K : Nat} (r : Rg n m) (h : IsK n m K) : SameOk (.tuple (isD (rowI m K))) := sameTup (fun i hi => by
  obtain ⟨j, hj, rfl⟩ := rowI_mem hi
  have a := h.bd r.m r.n0 r.n1 j hj
  have b := it_pos r.m j
  exact nat_bd (Int.lt_of_lt_of_le (by decide +kernel : -(2 ^ 1900 : Int) < 0) (show 0 ≤ it m j by omega)) (Int.lt_of_le_of_lt (show it m j ≤ 10 ^ 40 by omega) (by decide +kernel))) (by rw [rowI_len]; have := h.le r.m r.n0 r.n1; omega)
theorem wbSame {n m t z : Int} (r : Rg n m) (t0 : 0 ≤ t) (t1 : t < n) (w : Wb n m (m * (t + 1)) z) : SameOk (.int z) := by
  have a := w.rng r.m (wb_top r.m t0 t1).1
  have := r.n1
  exact smallSame a.1 (by omega)
theorem row_last {m : Int} (K : Nat) : atI (isD (rowI m K)) (-1) = some (.int (it m K)) := atI_end (by rw [isD, List.getLast?_map, rowI_end]; rfl)
theorem lastTop {n m : Int} {K : Nat} (r : Rg n m) (h1 : 1 ≤ n) (hK : IsK n m K) : 0 ≤ m * n - it m K ∧ m * n - it m K < n := by
  have t := wb_top (n := n) (t := n - 1) r.m (by omega) (by omega)
  have e : n - 1 + 1 = n := by omega
  rw [e] at t
  exact (wb_last hK r.m).rng r.m t.1
theorem w_l_are_small_right (Fr : Addr → Prop) (svs : List SV) (Ω : Om) (Φ : PhiE) (Ξ : XA) (h : c_l_are_small_right svs Ω Φ Ξ) :
    a_l_are_small_right Fr { nx := fun _ Ω => Φ (.d .none) Ω, rt := Φ } (startR N_l_are_small_right svs) Ω := by
  obtain ⟨hB, r, n5, k⟩ := h
  rename_i x m n L R
  have hm := r.m
  have n0 := r.n0
  have hm2 := hm
  unfold Rm at hm2
  conv => whnf
  refine .mk r n5 fun l ol => ?_
  conv => whnf
  refine .mk r n5 fun l' ol' => ?_
  obtain rfl := ol'.uniq ol
  conv => whnf
  refine .mk (ordSame r n5 ol) ?_
  conv => whnf
  refine br_F ?_
  conv => whnf
  refine .mk r n5 fun l'' ol'' => ?_
  obtain rfl := ol''.uniq ol
  conv => whnf
  refine .mk (ordSame r n5 ol) ?_
  conv => whnf
  refine br_F ?_
  conv => whnf
  refine br_d (fun e0 => ?_) fun ne => ?_
  · conv => whnf
    exact k _ hB
  conv => whnf
  refine .mk hB (by omega) (bel (by omega) (by omega)) fun a Ω1 a0 a1 hB => ?_
  conv => whnf
  refine .mk hB (by omega) (bel (by omega) (by omega)) fun b Ω2 b0 b1 hB => ?_
  conv => whnf
  refine .mk hB (by omega) (bel (by omega) (by omega)) fun c Ω3 c0 c1 hB => ?_
  conv => whnf
  refine ⟨cdiv (by decide) (by decide), ?_⟩
  conv => whnf
  refine ⟨(by decide : 5 ≤ sizeLine), ?_⟩
  conv => whnf
  refine ⟨fun j ρ Ω' => ∃ ρ4, ρ = [some x, some (I m), some (I n), some (.d (.list (isD l''))), ρ4, none] ∧ Bag x L R Ω', ⟨none, rfl, hB⟩, fun _ _ _ _ => trivial, ?_, ?_⟩
  · rintro j y ρ Ω4 e ⟨ρ4, rfl, hB⟩
    have hy : ∃ t, y = I t ∧ 0 ≤ t ∧ t < n := by
      have := List.mem_of_getElem? e
      simp at this
      rcases this with rfl | rfl | rfl | rfl | rfl
      · exact ⟨_, rfl, by omega, by omega⟩
      · exact ⟨_, rfl, by omega, by omega⟩
      · exact ⟨_, rfl, by omega, by omega⟩
      · exact ⟨_, rfl, by omega, by omega⟩
      · exact ⟨_, rfl, by omega, by omega⟩
    obtain ⟨t, rfl, t0, t1⟩ := hy
    have lt : t.toNat < l''.length := by have := ol.1; omega
    conv => whnf
    refine .mk r t0 t1 fun z wz => ?_
    conv => whnf
    refine ⟨.int z, atI_i t0 ?_, ?_⟩
    · have w2 := ol.2 _ _ (List.getElem?_eq_getElem lt)
      rw [Int.toNat_of_nonneg t0] at w2
      rw [isD, List.getElem?_map, List.getElem?_eq_getElem lt, wz.uniq w2]
      rfl
    conv => whnf
    refine .mk (wbSame r t0 t1 wz) ?_
    conv => whnf
    refine br_F ?_
    conv => whnf
    exact ⟨_, rfl, hB⟩
  rintro ρ Ω4 ⟨ρ4, rfl, hB⟩
  conv => whnf
  refine .mk r fun K hK => ?_
  have dl : atI (isD l'') (-1) = some (.int (m * n - it m K)) := atI_end (by rw [isD, List.getLast?_map, ol.last hm (by omega) hK]; rfl)
  have top := lastTop r (by omega) hK
  have n1 := r.n1
  conv => whnf
  refine .mk r fun K' hK' => ?_
  obtain rfl := hK'.uniq hK
  conv => whnf
  refine .mk (rowSame r hK) ?_
  conv => whnf
  refine br_F ?_
  conv => whnf
  refine ⟨cmul (by omega) (by omega) (by omega) (by omega), ?_⟩
  conv => whnf
  refine ⟨_, row_last _, ?_⟩
  conv => whnf
  refine ⟨_, dl, ?_⟩
  conv => whnf
  refine br_n (br_d (fun _ => ?_) fun ne => absurd rfl ne)
  conv => whnf
  refine .mk r fun K' hK' => ?_
  obtain rfl := hK'.uniq hK
  conv => whnf
  refine ⟨_, dl, ?_⟩
  conv => whnf
  refine .mk (smallSame (by omega) (by omega)) ?_
  conv => whnf
  refine br_T ?_
  conv => whnf
  refine .mk r fun K' hK' => ?_
  obtain rfl := hK'.uniq hK
  conv => whnf
  refine ⟨_, dl, ?_⟩
  conv => whnf
  refine .mk (smallSame (by omega) (by omega)) ?_
  exact k _ hB
theorem w_l_is_great_right (Fr : Addr → Prop) (svs : List SV) (Ω : Om) (Φ : PhiE) (Ξ : XA) (h : c_l_is_great_right svs Ω Φ Ξ) :
    a_l_is_great_right Fr { nx := fun _ Ω => Φ (.d .none) Ω, rt := Φ } (startR N_l_is_great_right svs) Ω := by
  obtain ⟨hB, r, n1', k⟩ := h
  rename_i x m n L R
  have hm := r.m
  have n0 := r.n0
  have n1 := r.n1
  have hm2 := hm
  unfold Rm at hm2
  conv => whnf
  refine .mk r fun K hK => ?_
  have top := lastTop r (by omega) hK
  conv => whnf
  refine ⟨cmul (by omega) (by omega) (by omega) (by omega), ?_⟩
  conv => whnf
  refine ⟨_, row_last _, ?_⟩
  conv => whnf
  refine .mk r fun K' hK' => ?_
  obtain rfl := hK'.uniq hK
  conv => whnf
  refine .mk (rowSame r hK) ?_
  conv => whnf
  refine br_F ?_
  conv => whnf
  refine .mk r fun K' hK' => ?_
  obtain rfl := hK'.uniq hK
  conv => whnf
  refine .mk (rowSame r hK) ?_
  conv => whnf
  refine br_F ?_
  conv => whnf
  refine .mk r fun K' hK' => ?_
  obtain rfl := hK'.uniq hK
  conv => whnf
  refine .mk (smallSame (by omega) (by omega)) ?_
  conv => whnf
  refine br_F ?_
  conv => whnf
  refine .mk r (by omega) (by omega) fun z wz => ?_
  have e : n - 1 + 1 = n := by omega
  rw [e] at wz
  obtain rfl := wz.uniq (wb_last hK hm)
  conv => whnf
  refine .mk (smallSame (by omega) (by omega)) ?_
  conv => whnf
  refine br_F ?_
  conv => whnf
  refine ⟨⟨by decide, by decide, by decide⟩, ?_⟩
  conv => whnf
  refine ⟨⟨by decide, by decide, by decide⟩, ?_⟩
  conv => whnf
  refine ⟨⟨by decide, by decide, by decide⟩, ?_⟩
  conv => whnf
  refine ⟨(by decide : 5 ≤ sizeLine), ?_⟩
  conv => whnf
  refine .mk hB (by simp) (by simp) fun d hd Ω1 hB => ?_
  have hd2 : ∃ p : Int, d = .int p ∧ 10 ≤ p ∧ p ≤ 10 ^ 24 := by
    simp at hd
    rcases hd with rfl | rfl | rfl | rfl | rfl <;> exact ⟨_, rfl, by decide, by decide⟩
  obtain ⟨p, rfl, p0, p1⟩ := hd2
  conv => whnf
  have mn : ∃ q : Int, (if p < n then p else n) = q ∧ 1 ≤ q ∧ q ≤ n := by
    split
    · exact ⟨_, rfl, by omega, by omega⟩
    · exact ⟨_, rfl, by omega, by omega⟩
  obtain ⟨q, eq, q0, q1⟩ := mn
  dsimp only
  rw [eq]
  refine .mk hB (by omega) (by omega) fun g Ω2 g0 g1 hB => ?_
  conv => whnf
  refine .mk hB (by omega) (by omega) fun g' Ω3 g0' g1' hB => ?_
  conv => whnf
  refine ⟨cdiv (by omega) (by omega), ?_⟩
  conv => whnf
  refine .mk hB (by omega) (by decide) fun s Ω4 s0 s1 hB => ?_
  conv => whnf
  refine ⟨cdiv (by omega) (by omega), ?_⟩
  conv => whnf
  refine ⟨(by decide : 5 ≤ sizeLine), ?_⟩
  have dv : 0 ≤ n / m ∧ n / m ≤ n - 1 := by
    rcases hm.lits with rfl | rfl | rfl | rfl | rfl | rfl | rfl | rfl | rfl <;> omega
  conv => whnf
  refine ⟨fun j ρ Ω' => ∃ ρ6, ρ = [some x, some (I m), some (I n), some (.d (.list (isD (rowI m K')))), some (I (m * n - it m K')), some (I (n - 1 - g)), ρ6, none] ∧ Bag x L R Ω', ⟨none, rfl, hB⟩, fun _ _ _ _ => trivial, ?_, ?_⟩
  · rintro j y ρ Ω5 e ⟨ρ6, rfl, hB⟩
    have hy : ∃ t, y = I t ∧ 0 ≤ t ∧ t < n := by
      have := List.mem_of_getElem? e
      simp at this
      rcases this with rfl | rfl | rfl | rfl | rfl
      · exact ⟨_, rfl, by omega, by omega⟩
      · exact ⟨_, rfl, by omega, by omega⟩
      · exact ⟨_, rfl, by omega, by omega⟩
      · refine ⟨_, rfl, ?_, ?_⟩ <;> (repeat' split) <;> omega
      · exact ⟨_, rfl, by omega, by omega⟩
    obtain ⟨t, rfl, t0, t1⟩ := hy
    conv => whnf
    refine .mk r t0 t1 fun z wz => ?_
    conv => whnf
    refine .mk r t0 t1 fun z' wz' => ?_
    obtain rfl := wz.uniq wz'
    conv => whnf
    refine .mk (wbSame r t0 t1 wz) ?_
    conv => whnf
    refine br_F ?_
    conv => whnf
    exact ⟨_, rfl, hB⟩
  rintro ρ Ω5 ⟨ρ6, rfl, hB⟩
  conv => whnf
  refine .mk r (by omega) (by omega) fun z wz => ?_
  conv => whnf
  refine .mk r (by omega) (by omega) fun z' wz' => ?_
  obtain rfl := wz.uniq wz'
  conv => whnf
  refine .mk (wbSame r (by omega) (by omega) wz) ?_
  conv => whnf
  refine br_F ?_
  conv => whnf
  have kl := hK.le hm n0 n1
  have mn : ∃ q : Int, (if (201 : Int) < ((isD (rowI m K')).length : Int) then (201 : Int) else ((isD (rowI m K')).length : Int)) = q ∧ 1 ≤ q ∧ q ≤ K' + 1 ∧ q ≤ 201 := by
    rw [isD, List.length_map, rowI_len]
    split
    · exact ⟨_, rfl, by omega, by omega, by omega⟩
    · exact ⟨_, rfl, by omega, by omega, by omega⟩
  obtain ⟨q', eq', q0', q1', q2'⟩ := mn
  dsimp only
  rw [eq']
  refine .mk hB (by omega) (bel (by omega) (by omega)) fun b Ω6 b0 b1 hB => ?_
  conv => whnf
  refine br_d (fun e2 => ?_) fun ne => ?_
  · exact k _ hB
  conv => whnf
  have g := hK.bd hm n0 n1 b.toNat (by omega)
  have gp := it_pos hm b.toNat
  refine .mk hm (by omega) b0 (by omega) (by omega) ?_
  conv => whnf
  refine ⟨.int (it m b.toNat), atI_i b0 ?_, ?_⟩
  · rw [isD, List.getElem?_map, rowI_get (by omega)]
    rfl
  conv => whnf
  refine .mk (smallSame (by omega) (by omega)) ?_
  exact k _ hB
theorem w_law (Fr : Addr → Prop) (svs : List SV) (Ω : Om) (Φ : PhiE) (Ξ : XA) (h : c_law svs Ω Φ Ξ) :
    a_law Fr { nx := fun _ Ω => Φ (.d .none) Ω, rt := Φ } (startR N_law svs) Ω := by
  obtain ⟨ok, k⟩ := h
  conv => whnf
  refine .mk ok fun x Ω hB => ?_
  conv => whnf
  refine .mk hB (by decide) (by decide) fun a Ω1 a0 a1 hB => ?_
  conv => whnf
  refine .mk hB (by decide) (by decide) fun b Ω2 b0 b1 hB => ?_
  conv => whnf
  refine .mk hB (by decide) (by decide) fun c Ω2 c0 c1 hB => ?_
  conv => whnf
  refine .mk hB (by decide) (by decide) fun d Ω2 d0 d1 hB => ?_
  conv => whnf
  refine ⟨(by decide : 7 ≤ sizeLine), ?_⟩
  conv => whnf
  refine .mk hB (by simp) (by simp) fun f hf Ω2 hB => ?_
  have hf2 : ∃ z : Int, f = .int z ∧ 0 ≤ z ∧ z ≤ 500 := by
    simp at hf
    rcases hf with rfl | rfl | rfl | rfl | rfl | rfl | rfl <;> exact ⟨_, rfl, by omega, by omega⟩
  obtain ⟨few, rfl, f0, f1⟩ := hf2
  conv => whnf
  refine .mk hB (by decide) (by decide) fun c Ω2 c0 c1 hB => ?_
  conv => whnf
  refine ⟨(by decide : 3 ≤ sizeLine), ?_⟩
  conv => whnf
  refine .mk hB (by simp) (by simp) fun f hf Ω2 hB => ?_
  have hf2 : ∃ z : Int, f = .int z ∧ 0 ≤ z ∧ z ≤ 500 := by
    simp at hf
    rcases hf with rfl | rfl | rfl <;> exact ⟨_, rfl, by omega, by omega⟩
  obtain ⟨many, rfl, m0, m1⟩ := hf2
  have rma : Rm (2 + a) := ⟨by omega, by omega⟩
  have rmb : Rm (2 + b) := ⟨by omega, by omega⟩
  conv => whnf
  refine .mk hB rma fun gr Ω2 g0 g1 hB => ?_
  conv => whnf
  refine .mk hB rmb fun fu Ω2 u0 u1 hB => ?_
  conv => whnf
  refine ⟨(by decide : 2 ≤ sizeLine), ?_⟩
  conv => whnf
  refine ⟨fun j ρ Ω' => ∃ ρ8, ρ = [some _, some x, some (I (2 + a)), some (I (2 + b)), some (I few), some (I many), some (I gr), some (I fu), ρ8, none] ∧ Bag x [] [] Ω', ⟨none, rfl, hB⟩, fun _ _ _ _ => trivial, ?_, ?_⟩
  · rintro j y ρ Ω5 e ⟨ρ8, rfl, hB⟩
    have hy : ∃ m, y = I m ∧ Rm m := by
      have := List.mem_of_getElem? e
      simp at this
      rcases this with rfl | rfl
      · exact ⟨_, rfl, rma⟩
      · exact ⟨_, rfl, rmb⟩
    obtain ⟨m, rfl, hm⟩ := hy
    conv => whnf
    refine .mk hB ⟨hm, by omega, by omega⟩ (by omega) fun Ω6 hB => ?_
    conv => whnf
    refine br_F ?_
    conv => whnf
    refine .mk hB ⟨hm, by omega, by omega⟩ (by omega) fun Ω6 hB => ?_
    conv => whnf
    refine br_F ?_
    conv => whnf
    refine .mk hB ⟨hm, by omega, by omega⟩ (by omega) fun Ω6 hB => ?_
    conv => whnf
    refine br_F ?_
    conv => whnf
    refine .mk hB ⟨hm, by omega, by omega⟩ (by omega) fun Ω6 hB => ?_
    conv => whnf
    refine br_F ?_
    conv => whnf
    exact ⟨_, rfl, hB⟩
  rintro ρ Ω5 ⟨ρ8, rfl, hB⟩
  have ra : Rg gr (2 + a) := ⟨rma, by omega, g1⟩
  conv => whnf
  refine ⟨cmul (by omega) (by omega) (by omega) (by omega), ?_⟩
  conv => whnf
  refine .mk ra fun K hK => ?_
  have top := lastTop ra (by omega) hK
  conv => whnf
  refine ⟨_, row_last _, ?_⟩
  conv => whnf
  refine .mk ra fun K' hK' => ?_
  obtain rfl := hK'.uniq hK
  conv => whnf
  refine .mk (smallSame (by omega) (by omega)) ?_
  conv => whnf
  refine br_T ?_
  have rb : Rg 1 (2 + b) := ⟨rmb, by decide, by decide⟩
  conv => whnf
  refine .mk rb fun K2 hK2 => ?_
  have t2 := lastTop rb (by decide) hK2
  have e0 : (2 + b) * 1 - it (2 + b) K2 = 0 := by omega
  rw [e0]
  conv => whnf
  refine .mk (smallSame (by omega) (by omega)) ?_
  exact k _
theorem d_least_branch {P : Program} {w : World} {K : PySem.W.Frag} {mg : Str → Option Value} {base : Heap} {f : Addr} {cdv : Value} {A : Around} {outer : List Env} {s : Shared} {H : Hp} {E : XK} {G : Gn} (T : Top K mg) (hgd : A.guards = some [])
    (hr : Room 0 (A.deeper (envOfC "least_branch" (defScope s_least_branch) s.heap.objs.size f cdv))) :
    JSs (cxOf CX0 P w K mg base N_least_branch "least_branch" (defScope s_least_branch) f cdv A outer s H E).nox G (defBody s_least_branch) (a_least_branch fun p => G.H0 p = none) :=
    (jss_cons (js_for PassesOwn.never rfl (ji_range1 rfl T.n_range (ja_cons (je_var (pv 1)) ja_nil)) (jg_name (i := 4) sc_least_branch.nd rfl (Or.inl rfl)) (jss_one (js_set (i := 0) sc_least_branch.nd rfl (Or.inl rfl) (je_un ju_neg (je_bin jo_div (je_bin jo_mulI (je_un ju_neg (je_var (pv 2))) (je_var (pv 0))) (je_var (pv 3)))))))
    (jss_one (js_ret (je_var (pv 0)))))
theorem ok_least_branch {P : Program} {w : World} {K : PySem.W.Frag} {mg : Str → Option Value} {base : Heap} (T : Top K mg) : FnG P w K mg base CX0 1 T.f_least_branch T.fd_least_branch ["number", "k", "p", "q"] (spOf K c_least_branch) :=
  fn_ok0 (k := 0) T.F_least_branch sc_least_branch ari_least_branch (fun cdv A outer s H E G hgd hr => d_least_branch T hgd hr) w_least_branch
theorem d_thinned_order {P : Program} {w : World} {K : PySem.W.Frag} {mg : Str → Option Value} {base : Heap} {f : Addr} {cdv : Value} {A : Around} {outer : List Env} {s : Shared} {H : Hp} {E : XK} {G : Gn} (T : Top K mg) (hgd : A.guards = some [])
    (hr : Room 0 (A.deeper (envOfC "thinned_order" (defScope s_thinned_order) s.heap.objs.size f cdv))) :
    JSs (cxOf CX0 P w K mg base N_thinned_order "thinned_order" (defScope s_thinned_order) f cdv A outer s H E).nox G (defBody s_thinned_order) (a_thinned_order fun p => G.H0 p = none) :=
    (jss_cons (js_par3 (i := 2) (j := 3) (l := 4) rfl sc_thinned_order.nd rfl rfl rfl (by decide) (by decide) (by decide) rfl rfl rfl (ja_cons (je_listRg mok1 rfl rfl T.n_list (jrg_1 rfl T.n_range (je_var (pv 0)))) (ja_cons je_int (ja_cons (je_lst mok1 ja_nil) ja_nil))) rfl)
    (jss_cons (js_while PassesOwn.never (jt_cmp (jo_ne hr.units) (je_var (pv 2)) (je_lst mok0 ja_nil) (nomark _)) (jss_cons (js_set (i := 3) sc_thinned_order.nd rfl (Or.inl rfl) (je_bin jo_mod (je_bin jo_sub (je_bin (jo_add mok0) (je_var (pv 3)) (je_var (pv 1))) je_int) (je_callB jc_len rfl T.n_len (by decide +kernel) (ja_cons (je_var (pv 2)) ja_nil))))
    (jss_one (js_expr (je_ml PySem.F.slot_list_append PySem.F.type_list_append jm_append (je_var (pv 4)) (ja_cons (je_ml PySem.F.slot_list_pop PySem.F.type_list_pop jm_pop (je_var (pv 2)) (ja_cons (je_var (pv 3)) ja_nil)) ja_nil))))))
    (jss_one (js_retD (je_callTy jc_tupleOf rfl T.n_tuple (by decide +kernel) (ja_cons (je_var (pv 4)) ja_nil))))))
theorem ok_thinned_order {P : Program} {w : World} {K : PySem.W.Frag} {mg : Str → Option Value} {base : Heap} (T : Top K mg) : FnG P w K mg base CX0 1 T.f_thinned_order T.fd_thinned_order ["n", "m"] (spOf K c_thinned_order) :=
  fn_ok0 (k := 0) T.F_thinned_order sc_thinned_order ari_thinned_order (fun cdv A outer s H E G hgd hr => d_thinned_order T hgd hr) w_thinned_order
theorem d_thinned_row {P : Program} {w : World} {K : PySem.W.Frag} {mg : Str → Option Value} {base : Heap} {f : Addr} {cdv : Value} {A : Around} {outer : List Env} {s : Shared} {H : Hp} {E : XK} {G : Gn} (T : Top K mg) (hgd : A.guards = some [])
    (hr : Room 0 (A.deeper (envOfC "thinned_row" (defScope s_thinned_row) s.heap.objs.size f cdv))) :
    JSs (cxOf CX0 P w K mg base N_thinned_row "thinned_row" (defScope s_thinned_row) f cdv A outer s H E).nox G (defBody s_thinned_row) (a_thinned_row fun p => G.H0 p = none) :=
    (jss_cons (js_set (i := 2) sc_thinned_row.nd rfl (Or.inl rfl) (je_lst mok1 (ja_cons je_int ja_nil)))
    (jss_cons (js_while PassesOwn.never (jt_cmp jo_le (je_ix jx_seq (je_var (pv 2)) (je_un ju_neg je_int) (fun _ _ => rfl)) (je_bin jo_mulI (je_bin jo_sub (je_var (pv 1)) je_int) (je_var (pv 0))) (nomark _)) (jss_one (js_expr (je_ml PySem.F.slot_list_append PySem.F.type_list_append jm_append (je_var (pv 2)) (ja_cons (je_un ju_neg (je_bin jo_div (je_bin jo_mulI (je_un ju_neg (je_var (pv 1))) (je_ix jx_seq (je_var (pv 2)) (je_un ju_neg je_int) (fun _ _ => rfl))) (je_bin jo_sub (je_var (pv 1)) je_int))) ja_nil)))))
    (jss_one (js_retD (je_callTy jc_tupleOf rfl T.n_tuple (by decide +kernel) (ja_cons (je_var (pv 2)) ja_nil))))))
theorem ok_thinned_row {P : Program} {w : World} {K : PySem.W.Frag} {mg : Str → Option Value} {base : Heap} (T : Top K mg) : FnG P w K mg base CX0 1 T.f_thinned_row T.fd_thinned_row ["n", "m"] (spOf K c_thinned_row) :=
  fn_ok0 (k := 0) T.F_thinned_row sc_thinned_row ari_thinned_row (fun cdv A outer s H E G hgd hr => d_thinned_row T hgd hr) w_thinned_row
theorem d_thinned_place {P : Program} {w : World} {K : PySem.W.Frag} {mg : Str → Option Value} {base : Heap} {f : Addr} {cdv : Value} {A : Around} {outer : List Env} {s : Shared} {H : Hp} {E : XK} {G : Gn} (T : Top K mg) (hgd : A.guards = some [])
    (hr : Room 0 (A.deeper (envOfC "thinned_place" (defScope s_thinned_place) s.heap.objs.size f cdv))) :
    JSs (cxOf CX0 P w K mg base N_thinned_place "thinned_place" (defScope s_thinned_place) f cdv A outer s H E).nox G (defBody s_thinned_place) (a_thinned_place fun p => G.H0 p = none) :=
    (jss_cons (js_set (i := 3) sc_thinned_place.nd rfl (Or.inl rfl) (je_bin jo_mulI (je_var (pv 1)) (je_bin (jo_add mok0) (je_var (pv 2)) je_int)))
    (jss_cons (js_while PassesOwn.never (jt_cmp jo_gt (je_var (pv 3)) (je_var (pv 0)) (nomark _)) (jss_one (js_set (i := 3) sc_thinned_place.nd rfl (Or.inl rfl) (je_bin jo_sub (je_bin (jo_add mok0) (je_bin jo_div (je_bin jo_sub (je_bin jo_sub (je_var (pv 3)) (je_var (pv 0))) je_int) (je_bin jo_sub (je_var (pv 1)) je_int)) (je_var (pv 3))) (je_var (pv 0))))))
    (jss_one (js_ret (je_bin jo_sub (je_var (pv 3)) je_int)))))
theorem ok_thinned_place {P : Program} {w : World} {K : PySem.W.Frag} {mg : Str → Option Value} {base : Heap} (T : Top K mg) : FnG P w K mg base CX0 1 T.f_thinned_place T.fd_thinned_place ["n", "m", "turn"] (spOf K c_thinned_place) :=
  fn_ok0 (k := 0) T.F_thinned_place sc_thinned_place ari_thinned_place (fun cdv A outer s H E G hgd hr => d_thinned_place T hgd hr) w_thinned_place
theorem d_l_own_bag {P : Program} {w : World} {K : PySem.W.Frag} {mg : Str → Option Value} {base : Heap} {f : Addr} {cdv : Value} {A : Around} {outer : List Env} {s : Shared} {H : Hp} {E : XK} {G : Gn} (T : Top K mg) (hgd : A.guards = some [])
    (hr : Room 0 (A.deeper (envOfC "_law_own_bag" (defScope s_l_own_bag) s.heap.objs.size f cdv))) :
    JSs (cxOf CX0 P w K mg base N_l_own_bag "_law_own_bag" (defScope s_l_own_bag) f cdv A outer s H E).nox G (defBody s_l_own_bag) (a_l_own_bag fun p => G.H0 p = none) :=
    (jss_cons (js_setLc mok0 rfl sc_l_own_bag.nd rfl rfl (sw_true rfl rfl rfl (by decide +kernel)) (ji_of (je_sl mok0 (je_var (pv 0)) jp_none (jp_some je_int))) (blkOk_by (own := [("cell", 3)]) (N := N_l_own_bag) (sc := defScope s_l_own_bag) (by decide +kernel)) (fun _ => (jgo_name (i := 3) (by first | decide | simp) sc_l_own_bag.nd rfl (Or.inl rfl))) (fun _ => jts_nil) (fun _ => (je_callB jc_abs rfl T.n_abs (by decide +kernel) (ja_cons (je_var (pv 3)) ja_nil))) (own := [("cell", 3)]))
    (jss_cons (js_set (i := 2) sc_l_own_bag.nd rfl (Or.inl rfl) (je_bin (jo_add mok0) je_int (je_callB jc_len rfl T.n_len (by decide +kernel) (ja_cons (je_var (pv 1)) ja_nil))))
    (jss_cons (js_for PassesOwn.never rfl (ji_of (je_var (pv 1))) (jg_name (i := 3) sc_l_own_bag.nd rfl (Or.inl rfl)) (jss_one (js_set (i := 2) sc_l_own_bag.nd rfl (Or.inl rfl) (je_bin jo_mod (je_bin (jo_add mok0) (je_bin (jo_add mok0) (je_bin jo_mulI (je_var (pv 2)) je_int) (je_bin jo_mod (je_callTy jc_int rfl T.n_int (by decide +kernel) (ja_cons (je_var (pv 3)) ja_nil)) je_int)) je_int) je_int))))
    (jss_one (js_ret (je_lst mok1 (ja_cons (je_listRev mok1 rfl rfl T.n_list rfl T.n_reversed (je_callTy (jc_listOf mok0) rfl T.n_list (by decide +kernel) (ja_cons (je_var (pv 1)) ja_nil))) (ja_cons je_int (ja_cons (je_var (pv 2)) ja_nil)))))))))
theorem ok_l_own_bag {P : Program} {w : World} {K : PySem.W.Frag} {mg : Str → Option Value} {base : Heap} (T : Top K mg) : FnG P w K mg base CX0 1 T.f_l_own_bag T.fd_l_own_bag ["script"] (spOf K c_l_own_bag) :=
  fn_ok0 (k := 0) T.F_l_own_bag sc_l_own_bag ari_l_own_bag (fun cdv A outer s H E G hgd hr => d_l_own_bag T hgd hr) w_l_own_bag
theorem d_l_draw {P : Program} {w : World} {K : PySem.W.Frag} {mg : Str → Option Value} {base : Heap} {f : Addr} {cdv : Value} {A : Around} {outer : List Env} {s : Shared} {H : Hp} {E : XK} {G : Gn} (T : Top K mg) (hgd : A.guards = some [])
    (hr : Room 0 (A.deeper (envOfC "_law_draw" (defScope s_l_draw) s.heap.objs.size f cdv))) :
    JSs (cxOf CX0 P w K mg base N_l_draw "_law_draw" (defScope s_l_draw) f cdv A outer s H E).nox G (defBody s_l_draw) (a_l_draw fun p => G.H0 p = none) :=
    (jss_cons (js_while PassesOwn.never (jw_pt (jw_and (jt_cmp (jo_eq hr.units) (je_ix jx_seq (je_var (pv 0)) je_int (fun _ _ => rfl)) je_int (nomark _)) (jw_and1 (jt_cmp (jo_ne hr.units) (je_ix jx_seq (je_var (pv 0)) je_int (fun _ _ => rfl)) (je_lst mok0 ja_nil) (nomark _))))) (jss_cons (js_set (i := 2) sc_l_draw.nd rfl (Or.inl rfl) (je_ml0 PySem.F.slot_list_pop PySem.F.type_list_pop jm_pop (je_ix jx_seq (je_var (pv 0)) je_int (fun _ _ => rfl))))
    (jss_one (js_setIx (je_if (jt_cmp jo_gt (je_var (pv 2)) (je_bin jo_pow je_int je_int) (nomark _)) (je_var (pv 2)) je_int) (je_var (pv 0)) je_int))))
    (jss_cons (js_if (jt_cmp jo_gt (je_ix jx_seq (je_var (pv 0)) je_int (fun _ _ => rfl)) je_int (nomark _)) (jss_cons (js_set (i := 3) sc_l_draw.nd rfl (Or.inl rfl) (je_bin jo_mod (je_callTy jc_int rfl T.n_int (by decide +kernel) (ja_cons (je_ix jx_seq (je_var (pv 0)) je_int (fun _ _ => rfl)) ja_nil)) (je_var (pv 1))))
    (jss_cons (js_setIx (je_bin jo_div (je_ix jx_seq (je_var (pv 0)) je_int (fun _ _ => rfl)) (je_var (pv 1))) (je_var (pv 0)) je_int)
    (jss_one (js_ret (je_var (pv 3)))))) jss_nil)
    (jss_cons (js_setIx (je_bin jo_mod (je_bin (jo_add mok0) (je_bin jo_mulI (je_ix jx_seq (je_var (pv 0)) je_int (fun _ _ => rfl)) je_int) je_int) je_int) (je_var (pv 0)) je_int)
    (jss_one (js_ret (je_bin jo_mod (je_bin jo_div (je_bin jo_mod (je_callTy jc_int rfl T.n_int (by decide +kernel) (ja_cons (je_bin jo_mulI (je_ix jx_seq (je_var (pv 0)) je_int (fun _ _ => rfl)) (je_ix jx_seq (je_var (pv 0)) je_int (fun _ _ => rfl))) ja_nil)) je_int) je_int) (je_var (pv 1))))))))
theorem ok_l_draw {P : Program} {w : World} {K : PySem.W.Frag} {mg : Str → Option Value} {base : Heap} (T : Top K mg) : FnG P w K mg base CX0 1 T.f_l_draw T.fd_l_draw ["bag", "below"] (spOf K c_l_draw) :=
  fn_ok0 (k := 0) T.F_l_draw sc_l_draw ari_l_draw (fun cdv A outer s H E G hgd hr => d_l_draw T hgd hr) w_l_draw
theorem d_l_same {P : Program} {w : World} {K : PySem.W.Frag} {mg : Str → Option Value} {base : Heap} {f : Addr} {cdv : Value} {A : Around} {outer : List Env} {s : Shared} {H : Hp} {E : XK} {G : Gn} (T : Top K mg) (hgd : A.guards = some [])
    (hr : Room 0 (A.deeper (envOfC "_law_same" (defScope s_l_same) s.heap.objs.size f cdv))) :
    JSs (cxOf CX0 P w K mg base N_l_same "_law_same" (defScope s_l_same) f cdv A outer s H E).nox G (defBody s_l_same) (a_l_same fun p => G.H0 p = none) :=
    (jss_cons (js_if (jt_cmp jo_is (je_var (pv 1)) je_non (nomark _)) (jss_one (js_ret (je_cmp jo_is (je_var (pv 0)) je_non (nomark _)))) jss_nil)
    (jss_cons (js_if (jt_of (je_callB jc_isi rfl T.n_isinstance (by decide +kernel) (ja_cons (je_var (pv 1)) (ja_cons (je_raw (v := .ty "tuple") (pe_bltn rfl T.n_tuple (by decide +kernel) rfl)) ja_nil)))) (jss_one (js_ret (je_and (je_callB jc_isi rfl T.n_isinstance (by decide +kernel) (ja_cons (je_var (pv 0)) (ja_cons (je_raw (v := .ty "tuple") (pe_bltn rfl T.n_tuple (by decide +kernel) rfl)) ja_nil))) (je_and (je_cmp (jo_eq hr.units) (je_callB (jc_repr hr.units hgd) rfl T.n_repr (by decide +kernel) (ja_cons (je_var (pv 0)) ja_nil)) (je_callB (jc_repr hr.units hgd) rfl T.n_repr (by decide +kernel) (ja_cons (je_var (pv 1)) ja_nil)) (nomark _)) (je_one (je_cmp (jo_eq hr.units) (je_var (pv 0)) (je_var (pv 1)) (nomark _))))))) jss_nil)
    (jss_cons (js_if (jt_of (je_callB jc_isi rfl T.n_isinstance (by decide +kernel) (ja_cons (je_var (pv 1)) (ja_cons (je_raw (v := .ty "str") (pe_bltn rfl T.n_str (by decide +kernel) rfl)) ja_nil)))) (jss_one (js_ret (je_and (je_callB jc_isi rfl T.n_isinstance (by decide +kernel) (ja_cons (je_var (pv 0)) (ja_cons (je_raw (v := .ty "str") (pe_bltn rfl T.n_str (by decide +kernel) rfl)) ja_nil))) (je_one (je_cmp (jo_eq hr.units) (je_callB (jc_repr hr.units hgd) rfl T.n_repr (by decide +kernel) (ja_cons (je_var (pv 0)) ja_nil)) (je_callB (jc_repr hr.units hgd) rfl T.n_repr (by decide +kernel) (ja_cons (je_var (pv 1)) ja_nil)) (nomark _)))))) jss_nil)
    (jss_one (js_ret (je_and (je_callB jc_isi rfl T.n_isinstance (by decide +kernel) (ja_cons (je_var (pv 0)) (ja_cons (je_raw (v := .ty "int") (pe_bltn rfl T.n_int (by decide +kernel) rfl)) ja_nil))) (je_and (je_cmp (jo_eq hr.units) (je_callB (jc_repr hr.units hgd) rfl T.n_repr (by decide +kernel) (ja_cons (je_var (pv 0)) ja_nil)) (je_callB (jc_repr hr.units hgd) rfl T.n_repr (by decide +kernel) (ja_cons (je_var (pv 1)) ja_nil)) (nomark _)) (je_one (je_cmp (jo_eq hr.units) (je_var (pv 0)) (je_var (pv 1)) (nomark _))))))))))
theorem ok_l_same {P : Program} {w : World} {K : PySem.W.Frag} {mg : Str → Option Value} {base : Heap} (T : Top K mg) : FnG P w K mg base CX0 1 T.f_l_same T.fd_l_same ["found", "due"] (spOf K c_l_same) :=
  fn_ok0 (k := 0) T.F_l_same sc_l_same ari_l_same (fun cdv A outer s H E G hgd hr => d_l_same T hgd hr) w_l_same
theorem d_l_order {P : Program} {w : World} {K : PySem.W.Frag} {mg : Str → Option Value} {base : Heap} {f : Addr} {cdv : Value} {A : Around} {outer : List Env} {s : Shared} {H : Hp} {E : XK} {G : Gn} (T : Top K mg) (hgd : A.guards = some [])
    (hr : Room 0 (A.deeper (envOfC "_law_order" (defScope s_l_order) s.heap.objs.size f cdv))) :
    JSs (cxOf CX0 P w K mg base N_l_order "_law_order" (defScope s_l_order) f cdv A outer s H E).nox G (defBody s_l_order) (a_l_order fun p => G.H0 p = none) :=
    (jss_cons (js_par3 (i := 2) (j := 3) (l := 4) rfl sc_l_order.nd rfl rfl rfl (by decide) (by decide) (by decide) rfl rfl rfl (ja_cons (je_listRg mok1 rfl rfl T.n_list (jrg_1 rfl T.n_range (je_var (pv 0)))) (ja_cons je_int (ja_cons (je_lst mok1 ja_nil) ja_nil))) rfl)
    (jss_cons (js_while PassesOwn.never (jt_cmp (jo_ne hr.units) (je_var (pv 2)) (je_lst mok0 ja_nil) (nomark _)) (jss_cons (js_set (i := 3) sc_l_order.nd rfl (Or.inl rfl) (je_bin jo_mod (je_callTy jc_int rfl T.n_int (by decide +kernel) (ja_cons (je_bin jo_sub (je_bin (jo_add mok0) (je_var (pv 3)) (je_var (pv 1))) je_int) ja_nil)) (je_callB jc_len rfl T.n_len (by decide +kernel) (ja_cons (je_var (pv 2)) ja_nil))))
    (jss_one (js_expr (je_ml PySem.F.slot_list_append PySem.F.type_list_append jm_append (je_var (pv 4)) (ja_cons (je_ml PySem.F.slot_list_pop PySem.F.type_list_pop jm_pop (je_var (pv 2)) (ja_cons (je_var (pv 3)) ja_nil)) ja_nil))))))
    (jss_one (js_retF (je_var (pv 4))))))
theorem ok_l_order {P : Program} {w : World} {K : PySem.W.Frag} {mg : Str → Option Value} {base : Heap} (T : Top K mg) : FnG P w K mg base CX0 1 T.f_l_order T.fd_l_order ["n", "m"] (spOf K c_l_order) :=
  fn_ok0 (k := 0) T.F_l_order sc_l_order ari_l_order (fun cdv A outer s H E G hgd hr => d_l_order T hgd hr) w_l_order
theorem d_l_row {P : Program} {w : World} {K : PySem.W.Frag} {mg : Str → Option Value} {base : Heap} {f : Addr} {cdv : Value} {A : Around} {outer : List Env} {s : Shared} {H : Hp} {E : XK} {G : Gn} (T : Top K mg) (hgd : A.guards = some [])
    (hr : Room 0 (A.deeper (envOfC "_law_row" (defScope s_l_row) s.heap.objs.size f cdv))) :
    JSs (cxOf CX0 P w K mg base N_l_row "_law_row" (defScope s_l_row) f cdv A outer s H E).nox G (defBody s_l_row) (a_l_row fun p => G.H0 p = none) :=
    (jss_cons (js_set (i := 2) sc_l_row.nd rfl (Or.inl rfl) (je_lst mok1 (ja_cons je_int ja_nil)))
    (jss_cons (js_while PassesOwn.never (jt_cmp jo_le (je_ix jx_seq (je_var (pv 2)) (je_un ju_neg je_int) (fun _ _ => rfl)) (je_bin jo_mulI (je_bin jo_sub (je_var (pv 1)) je_int) (je_var (pv 0))) (nomark _)) (jss_one (js_expr (je_ml PySem.F.slot_list_append PySem.F.type_list_append jm_append (je_var (pv 2)) (ja_cons (je_bin jo_div (je_bin jo_sub (je_bin (jo_add mok0) (je_bin jo_mulI (je_var (pv 1)) (je_ix jx_seq (je_var (pv 2)) (je_un ju_neg je_int) (fun _ _ => rfl))) (je_var (pv 1))) je_int) (je_bin jo_sub (je_var (pv 1)) je_int)) ja_nil)))))
    (jss_one (js_retF (je_var (pv 2))))))
theorem ok_l_row {P : Program} {w : World} {K : PySem.W.Frag} {mg : Str → Option Value} {base : Heap} (T : Top K mg) : FnG P w K mg base CX0 1 T.f_l_row T.fd_l_row ["n", "m"] (spOf K c_l_row) :=
  fn_ok0 (k := 0) T.F_l_row sc_l_row ari_l_row (fun cdv A outer s H E G hgd hr => d_l_row T hgd hr) w_l_row
theorem d_l_back {P : Program} {w : World} {K : PySem.W.Frag} {mg : Str → Option Value} {base : Heap} {f : Addr} {cdv : Value} {A : Around} {outer : List Env} {s : Shared} {H : Hp} {E : XK} {G : Gn} (T : Top K mg) (hgd : A.guards = some [])
    (hr : Room 0 (A.deeper (envOfC "_law_back" (defScope s_l_back) s.heap.objs.size f cdv))) :
    JSs (cxOf CX0 P w K mg base N_l_back "_law_back" (defScope s_l_back) f cdv A outer s H E).nox G (defBody s_l_back) (a_l_back fun p => G.H0 p = none) :=
    (jss_cons (js_set (i := 3) sc_l_back.nd rfl (Or.inl rfl) (je_bin jo_mulI (je_var (pv 1)) (je_bin (jo_add mok0) (je_var (pv 2)) je_int)))
    (jss_cons (js_while PassesOwn.never (jt_cmp jo_gt (je_var (pv 3)) (je_var (pv 0)) (nomark _)) (jss_one (js_set (i := 3) sc_l_back.nd rfl (Or.inl rfl) (je_bin (jo_add mok0) (je_bin jo_sub (je_var (pv 3)) (je_var (pv 0))) (je_bin jo_div (je_bin jo_sub (je_bin jo_sub (je_var (pv 3)) (je_var (pv 0))) je_int) (je_bin jo_sub (je_var (pv 1)) je_int))))))
    (jss_one (js_ret (je_bin jo_sub (je_var (pv 3)) je_int)))))
theorem ok_l_back {P : Program} {w : World} {K : PySem.W.Frag} {mg : Str → Option Value} {base : Heap} (T : Top K mg) : FnG P w K mg base CX0 1 T.f_l_back T.fd_l_back ["n", "m", "turn"] (spOf K c_l_back) :=
  fn_ok0 (k := 0) T.F_l_back sc_l_back ari_l_back (fun cdv A outer s H E G hgd hr => d_l_back T hgd hr) w_l_back
theorem d_thinned_last {P : Program} {w : World} {K : PySem.W.Frag} {mg : Str → Option Value} {base : Heap} {f : Addr} {cdv : Value} {A : Around} {outer : List Env} {s : Shared} {H : Hp} {E : XK} {G : Gn} (T : Top K mg) (hgd : A.guards = some [])
    (hr : Room 1 (A.deeper (envOfC "thinned_last" (defScope s_thinned_last) s.heap.objs.size f cdv))) :
    JSs (cxOf CX0 P w K mg base N_thinned_last "thinned_last" (defScope s_thinned_last) f cdv A outer s H E).nox G (defBody s_thinned_last) (a_thinned_last fun p => G.H0 p = none) :=
    (jss_one (js_ret (je_bin jo_sub (je_bin jo_mulI (je_var (pv 1)) (je_var (pv 0))) (je_ix jx_seq (je_call (ok_thinned_row T) (hr.mono (by decide)) hgd rfl T.m_thinned_row T.F_thinned_row.kp (b_thinned_row T) (fun _ => passAt0) (@xok0 _ _ _) (ja_cons (je_var (pv 0)) (ja_cons (je_var (pv 1)) ja_nil))) (je_un ju_neg je_int) (fun _ _ => rfl)))))
theorem ok_thinned_last {P : Program} {w : World} {K : PySem.W.Frag} {mg : Str → Option Value} {base : Heap} (T : Top K mg) : FnG P w K mg base CX0 2 T.f_thinned_last T.fd_thinned_last ["n", "m"] (spOf K c_thinned_last) :=
  fn_ok0 (k := 1) T.F_thinned_last sc_thinned_last ari_thinned_last (fun cdv A outer s H E G hgd hr => d_thinned_last T hgd hr) w_thinned_last
theorem d_l_pick {P : Program} {w : World} {K : PySem.W.Frag} {mg : Str → Option Value} {base : Heap} {f : Addr} {cdv : Value} {A : Around} {outer : List Env} {s : Shared} {H : Hp} {E : XK} {G : Gn} (T : Top K mg) (hgd : A.guards = some [])
    (hr : Room 1 (A.deeper (envOfC "_law_pick" (defScope s_l_pick) s.heap.objs.size f cdv))) :
    JSs (cxOf CX0 P w K mg base N_l_pick "_law_pick" (defScope s_l_pick) f cdv A outer s H E).nox G (defBody s_l_pick) (a_l_pick fun p => G.H0 p = none) :=
    (jss_one (js_ret (je_ix jx_seq (je_var (pv 1)) (je_call (ok_l_draw T) (hr.mono (by decide)) hgd rfl T.m_l_draw T.F_l_draw.kp (b_l_draw T) (fun _ => passAt0) (@xok0 _ _ _) (ja_cons (je_var (pv 0)) (ja_cons (je_callB jc_len rfl T.n_len (by decide +kernel) (ja_cons (je_var (pv 1)) ja_nil)) ja_nil))) (fun _ _ => rfl))))
theorem ok_l_pick {P : Program} {w : World} {K : PySem.W.Frag} {mg : Str → Option Value} {base : Heap} (T : Top K mg) : FnG P w K mg base CX0 2 T.f_l_pick T.fd_l_pick ["bag", "some"] (spOf K c_l_pick) :=
  fn_ok0 (k := 1) T.F_l_pick sc_l_pick ari_l_pick (fun cdv A outer s H E G hgd hr => d_l_pick T hgd hr) w_l_pick
theorem d_l_great {P : Program} {w : World} {K : PySem.W.Frag} {mg : Str → Option Value} {base : Heap} {f : Addr} {cdv : Value} {A : Around} {outer : List Env} {s : Shared} {H : Hp} {E : XK} {G : Gn} (T : Top K mg) (hgd : A.guards = some [])
    (hr : Room 1 (A.deeper (envOfC "_law_great" (defScope s_l_great) s.heap.objs.size f cdv))) :
    JSs (cxOf CX0 P w K mg base N_l_great "_law_great" (defScope s_l_great) f cdv A outer s H E).nox G (defBody s_l_great) (a_l_great fun p => G.H0 p = none) :=
    (jss_cons (js_asg (je_tup (ja_cons je_int (ja_cons je_int ja_nil))) (jg_tup rfl (jgs1 (jg_name (i := 2) sc_l_great.nd rfl (Or.inl rfl)) (jgs1 (jg_name (i := 3) sc_l_great.nd rfl (Or.inl rfl)) jgs0))))
    (jss_cons (js_while PassesOwn.never (jt_cmp jo_lt (je_var (pv 3)) (je_bin jo_mulI (je_var (pv 1)) je_int) (nomark _)) (jss_one (js_par2 (i := 2) (j := 3) rfl sc_l_great.nd rfl rfl (by decide) rfl rfl (ja_cons (je_bin (jo_add mok0) (je_bin jo_mulI (je_var (pv 2)) je_int) (je_call (ok_l_draw T) (hr.mono (by decide)) hgd rfl T.m_l_draw T.F_l_draw.kp (b_l_draw T) (fun _ => passAt0) (@xok0 _ _ _) (ja_cons (je_var (pv 0)) (ja_cons je_int ja_nil)))) (ja_cons (je_bin jo_mulI (je_var (pv 3)) je_int) ja_nil)) rfl)))
    (jss_one (js_ret (je_bin jo_mod (je_callTy jc_int rfl T.n_int (by decide +kernel) (ja_cons (je_var (pv 2)) ja_nil)) (je_var (pv 1)))))))
theorem ok_l_great {P : Program} {w : World} {K : PySem.W.Frag} {mg : Str → Option Value} {base : Heap} (T : Top K mg) : FnG P w K mg base CX0 2 T.f_l_great T.fd_l_great ["bag", "below"] (spOf K c_l_great) :=
  fn_ok0 (k := 1) T.F_l_great sc_l_great ari_l_great (fun cdv A outer s H E G hgd hr => d_l_great T hgd hr) w_l_great
theorem d_l_some_great {P : Program} {w : World} {K : PySem.W.Frag} {mg : Str → Option Value} {base : Heap} {f : Addr} {cdv : Value} {A : Around} {outer : List Env} {s : Shared} {H : Hp} {E : XK} {G : Gn} (T : Top K mg) (hgd : A.guards = some [])
    (hr : Room 2 (A.deeper (envOfC "_law_some_great" (defScope s_l_some_great) s.heap.objs.size f cdv))) :
    JSs (cxOf CX0 P w K mg base N_l_some_great "_law_some_great" (defScope s_l_some_great) f cdv A outer s H E).nox G (defBody s_l_some_great) (a_l_some_great fun p => G.H0 p = none) :=
    (jss_cons (js_par2 (i := 2) (j := 3) rfl sc_l_some_great.nd rfl rfl (by decide) rfl rfl (ja_cons (je_call (ok_l_draw T) (hr.mono (by decide)) hgd rfl T.m_l_draw T.F_l_draw.kp (b_l_draw T) (fun _ => passAt0) (@xok0 _ _ _) (ja_cons (je_var (pv 0)) (ja_cons je_int ja_nil))) (ja_cons je_int ja_nil)) rfl)
    (jss_cons (js_if (jt_cmp (jo_eq hr.units) (je_var (pv 2)) je_int (nomark _)) (jss_one (js_ret (je_bin (jo_add mok0) je_int (je_call (ok_l_draw T) (hr.mono (by decide)) hgd rfl T.m_l_draw T.F_l_draw.kp (b_l_draw T) (fun _ => passAt0) (@xok0 _ _ _) (ja_cons (je_var (pv 0)) (ja_cons je_int ja_nil)))))) jss_nil)
    (jss_cons (js_if (jt_cmp (jo_eq hr.units) (je_var (pv 2)) je_int (nomark _)) (jss_one (js_ret (je_bin jo_sub (je_bin jo_pow je_int je_int) (je_call (ok_l_draw T) (hr.mono (by decide)) hgd rfl T.m_l_draw T.F_l_draw.kp (b_l_draw T) (fun _ => passAt0) (@xok0 _ _ _) (ja_cons (je_var (pv 0)) (ja_cons je_int ja_nil)))))) jss_nil)
    (jss_cons (js_for PassesOwn.never rfl (ji_range1 rfl T.n_range (ja_cons (je_call (ok_l_draw T) (hr.mono (by decide)) hgd rfl T.m_l_draw T.F_l_draw.kp (b_l_draw T) (fun _ => passAt0) (@xok0 _ _ _) (ja_cons (je_var (pv 0)) (ja_cons je_int ja_nil))) ja_nil)) (jg_name (i := 4) sc_l_some_great.nd rfl (Or.inl rfl)) (jss_one (js_set (i := 3) sc_l_some_great.nd rfl (Or.inl rfl) (je_bin jo_mulI (je_var (pv 3)) je_int))))
    (jss_cons (js_set (i := 5) sc_l_some_great.nd rfl (Or.inr rfl) (je_bin (jo_add mok0) je_int (je_call (ok_l_great T) (hr.mono (by decide)) hgd rfl T.m_l_great T.F_l_great.kp (b_l_great T) (fun _ => passAt0) (@xok0 _ _ _) (ja_cons (je_var (pv 0)) (ja_cons (je_var (pv 3)) ja_nil)))))
    (jss_cons (js_if (jt_cmp jo_lt (je_var (pv 2)) je_int (nomark _)) (jss_cons (js_set (i := 6) sc_l_some_great.nd rfl (Or.inl rfl) (je_call (ok_l_row T) (hr.mono (by decide)) hgd rfl T.m_l_row T.F_l_row.kp (b_l_row T) (fun _ => passAt0) (@xok0 _ _ _) (ja_cons (je_var (pv 5)) (ja_cons (je_var (pv 1)) ja_nil))))
    (jss_cons (js_setLc mok0 rfl sc_l_some_great.nd rfl rfl (sw_true rfl rfl rfl (by decide +kernel)) (ji_of (je_var (pv 6))) (blkOk_by (own := [("item", 8)]) (N := N_l_some_great) (sc := defScope s_l_some_great) (by decide +kernel)) (fun _ => (jgo_name (i := 8) (by first | decide | simp) sc_l_some_great.nd rfl (Or.inl rfl))) (fun _ => (jts_one (jw_pt (jw_and (jt_cmp (jo_eq hr.units) (je_bin jo_mod (je_callTy jc_int rfl T.n_int (by decide +kernel) (ja_cons (je_var (pv 8)) ja_nil)) (je_bin jo_sub (je_var (pv 1)) je_int)) je_int (nomark _)) (jw_and1 (jt_cmp jo_le (je_bin jo_div (je_var (pv 8)) (je_bin jo_sub (je_var (pv 1)) je_int)) (je_var (pv 5)) (nomark _))))))) (fun _ => (je_bin jo_div (je_var (pv 8)) (je_bin jo_sub (je_var (pv 1)) je_int))) (own := [("item", 8)]))
    (jss_one (js_set (i := 5) sc_l_some_great.nd rfl (Or.inr rfl) (je_bin jo_sub (je_bin (jo_add mok0) (je_call (ok_l_pick T) (hr.mono (by decide)) hgd rfl T.m_l_pick T.F_l_pick.kp (b_l_pick T) (fun _ => passAt0) (@xok0 _ _ _) (ja_cons (je_var (pv 0)) (ja_cons (je_if (jt_cmp (jo_ne hr.units) (je_var (pv 7)) (je_lst mok0 ja_nil) (nomark _)) (je_var (pv 7)) (je_lst mok0 (ja_cons (je_var (pv 5)) ja_nil))) ja_nil))) (je_call (ok_l_draw T) (hr.mono (by decide)) hgd rfl T.m_l_draw T.F_l_draw.kp (b_l_draw T) (fun _ => passAt0) (@xok0 _ _ _) (ja_cons (je_var (pv 0)) (ja_cons je_int ja_nil)))) je_int))))) jss_nil)
    (jss_one (js_ret (je_callB (jc_max2 rfl) rfl T.n_max (by decide +kernel) (ja_cons je_int (ja_cons (je_callB (jc_min2 rfl) rfl T.n_min (by decide +kernel) (ja_cons (je_var (pv 5)) (ja_cons (je_bin jo_pow je_int je_int) ja_nil))) ja_nil)))))))))))
theorem ok_l_some_great {P : Program} {w : World} {K : PySem.W.Frag} {mg : Str → Option Value} {base : Heap} (T : Top K mg) : FnG P w K mg base CX0 3 T.f_l_some_great T.fd_l_some_great ["bag", "m"] (spOf K c_l_some_great) :=
  fn_ok0 (k := 2) T.F_l_some_great sc_l_some_great ari_l_some_great (fun cdv A outer s H E G hgd hr => d_l_some_great T hgd hr) w_l_some_great
theorem d_l_are_small_right {P : Program} {w : World} {K : PySem.W.Frag} {mg : Str → Option Value} {base : Heap} {f : Addr} {cdv : Value} {A : Around} {outer : List Env} {s : Shared} {H : Hp} {E : XK} {G : Gn} (T : Top K mg) (hgd : A.guards = some [])
    (hr : Room 2 (A.deeper (envOfC "_law_are_small_right" (defScope s_l_are_small_right) s.heap.objs.size f cdv))) :
    JSs (cxOf CX0 P w K mg base N_l_are_small_right "_law_are_small_right" (defScope s_l_are_small_right) f cdv A outer s H E).nox G (defBody s_l_are_small_right) (a_l_are_small_right fun p => G.H0 p = none) :=
    (jss_cons (js_set (i := 3) sc_l_are_small_right.nd rfl (Or.inl rfl) (je_call (ok_l_order T) (hr.mono (by decide)) hgd rfl T.m_l_order T.F_l_order.kp (b_l_order T) (fun _ => passAt0) (@xok0 _ _ _) (ja_cons (je_var (pv 2)) (ja_cons (je_var (pv 1)) ja_nil))))
    (jss_cons (js_if (jw_pt (jw_or (jt_not (jt_of (je_call (ok_l_same T) (hr.mono (by decide)) hgd rfl T.m_l_same T.F_l_same.kp (b_l_same T) (fun _ => passAt0) (@xok0 _ _ _) (ja_cons (je_call (ok_thinned_order T) (hr.mono (by decide)) hgd rfl T.m_thinned_order T.F_thinned_order.kp (b_thinned_order T) (fun _ => passAt0) (@xok0 _ _ _) (ja_cons (je_var (pv 2)) (ja_cons (je_var (pv 1)) ja_nil))) (ja_cons (je_callTy jc_tupleOf rfl T.n_tuple (by decide +kernel) (ja_cons (je_var (pv 3)) ja_nil)) ja_nil))))) (jw_or1 (jt_not (jt_of (je_call (ok_l_same T) (hr.mono (by decide)) hgd rfl T.m_l_same T.F_l_same.kp (b_l_same T) (fun _ => passAt0) (@xok0 _ _ _) (ja_cons (je_callK0 (ks := ["n", "m"]) (ok_thinned_order T) (hr.mono (by decide)) hgd rfl T.m_thinned_order T.F_thinned_order.kp (kargs T.F_thinned_order (ps := ["n", "m"]) (ks := ["n", "m"]) (n := 0) (π := [0, 1]) fun _ _ _ _ _ _ us ws h1 h2 => match us, ws, h1, h2 with | [], [_, _], _, _ => rfl) (by decide) (fun _ => passAt0) (@xok0 _ _ _) (jk_cons (je_var (pv 2)) (jk_cons (je_var (pv 1)) jk_nil))) (ja_cons (je_callTy jc_tupleOf rfl T.n_tuple (by decide +kernel) (ja_cons (je_var (pv 3)) ja_nil)) ja_nil)))))))) (jss_one (js_ret je_bl)) jss_nil)
    (jss_cons (js_if (jt_cmp (jo_eq hr.units) (je_var (pv 2)) je_int (nomark _)) (jss_one (js_ret je_bl)) jss_nil)
    (jss_cons (js_for PassesOwn.never rfl (ji_of (je_lst mok0 (ja_cons je_int (ja_cons (je_bin jo_sub (je_var (pv 2)) je_int) (ja_cons (je_call (ok_l_draw T) (hr.mono (by decide)) hgd rfl T.m_l_draw T.F_l_draw.kp (b_l_draw T) (fun _ => passAt0) (@xok0 _ _ _) (ja_cons (je_var (pv 0)) (ja_cons (je_var (pv 2)) ja_nil))) (ja_cons (je_call (ok_l_draw T) (hr.mono (by decide)) hgd rfl T.m_l_draw T.F_l_draw.kp (b_l_draw T) (fun _ => passAt0) (@xok0 _ _ _) (ja_cons (je_var (pv 0)) (ja_cons (je_var (pv 2)) ja_nil))) (ja_cons (je_bin jo_sub (je_bin jo_sub (je_var (pv 2)) je_int) (je_bin jo_div (je_call (ok_l_draw T) (hr.mono (by decide)) hgd rfl T.m_l_draw T.F_l_draw.kp (b_l_draw T) (fun _ => passAt0) (@xok0 _ _ _) (ja_cons (je_var (pv 0)) (ja_cons (je_var (pv 2)) ja_nil))) je_int)) ja_nil))))))) (jg_name (i := 4) sc_l_are_small_right.nd rfl (Or.inl rfl)) (jss_one (js_if (jt_not (jt_of (je_call (ok_l_same T) (hr.mono (by decide)) hgd rfl T.m_l_same T.F_l_same.kp (b_l_same T) (fun _ => passAt0) (@xok0 _ _ _) (ja_cons (je_call (ok_thinned_place T) (hr.mono (by decide)) hgd rfl T.m_thinned_place T.F_thinned_place.kp (b_thinned_place T) (fun _ => passAt0) (@xok0 _ _ _) (ja_cons (je_var (pv 2)) (ja_cons (je_var (pv 1)) (ja_cons (je_var (pv 4)) ja_nil)))) (ja_cons (je_ix jx_seq (je_var (pv 3)) (je_var (pv 4)) (fun _ _ => rfl)) ja_nil))))) (jss_one (js_ret je_bl)) jss_nil)))
    (jss_cons (js_set (i := 5) sc_l_are_small_right.nd rfl (Or.inl rfl) (je_call (ok_l_row T) (hr.mono (by decide)) hgd rfl T.m_l_row T.F_l_row.kp (b_l_row T) (fun _ => passAt0) (@xok0 _ _ _) (ja_cons (je_var (pv 2)) (ja_cons (je_var (pv 1)) ja_nil))))
    (jss_cons (js_if (jw_pt (jw_or (jt_not (jt_of (je_call (ok_l_same T) (hr.mono (by decide)) hgd rfl T.m_l_same T.F_l_same.kp (b_l_same T) (fun _ => passAt0) (@xok0 _ _ _) (ja_cons (je_call (ok_thinned_row T) (hr.mono (by decide)) hgd rfl T.m_thinned_row T.F_thinned_row.kp (b_thinned_row T) (fun _ => passAt0) (@xok0 _ _ _) (ja_cons (je_var (pv 2)) (ja_cons (je_var (pv 1)) ja_nil))) (ja_cons (je_callTy jc_tupleOf rfl T.n_tuple (by decide +kernel) (ja_cons (je_var (pv 5)) ja_nil)) ja_nil))))) (jw_or1 (jt_cmp (jo_ne hr.units) (je_bin jo_sub (je_bin jo_mulI (je_var (pv 1)) (je_var (pv 2))) (je_ix jx_seq (je_var (pv 5)) (je_un ju_neg je_int) (fun _ _ => rfl))) (je_ix jx_seq (je_var (pv 3)) (je_un ju_neg je_int) (fun _ _ => rfl)) (nomark _))))) (jss_one (js_ret je_bl)) jss_nil)
    (jss_one (js_ret (je_and (je_call (ok_l_same T) (hr.mono (by decide)) hgd rfl T.m_l_same T.F_l_same.kp (b_l_same T) (fun _ => passAt0) (@xok0 _ _ _) (ja_cons (je_call (ok_thinned_last T) (hr.mono (by decide)) hgd rfl T.m_thinned_last T.F_thinned_last.kp (b_thinned_last T) (fun _ => passAt0) (@xok0 _ _ _) (ja_cons (je_var (pv 2)) (ja_cons (je_var (pv 1)) ja_nil))) (ja_cons (je_ix jx_seq (je_var (pv 3)) (je_un ju_neg je_int) (fun _ _ => rfl)) ja_nil))) (je_one (je_call (ok_l_same T) (hr.mono (by decide)) hgd rfl T.m_l_same T.F_l_same.kp (b_l_same T) (fun _ => passAt0) (@xok0 _ _ _) (ja_cons (je_callK0 (ks := ["n", "m"]) (ok_thinned_last T) (hr.mono (by decide)) hgd rfl T.m_thinned_last T.F_thinned_last.kp (kargs T.F_thinned_last (ps := ["n", "m"]) (ks := ["n", "m"]) (n := 0) (π := [0, 1]) fun _ _ _ _ _ _ us ws h1 h2 => match us, ws, h1, h2 with | [], [_, _], _, _ => rfl) (by decide) (fun _ => passAt0) (@xok0 _ _ _) (jk_cons (je_var (pv 2)) (jk_cons (je_var (pv 1)) jk_nil))) (ja_cons (je_ix jx_seq (je_var (pv 3)) (je_un ju_neg je_int) (fun _ _ => rfl)) ja_nil)))))))))))))
theorem ok_l_are_small_right {P : Program} {w : World} {K : PySem.W.Frag} {mg : Str → Option Value} {base : Heap} (T : Top K mg) : FnG P w K mg base CX0 3 T.f_l_are_small_right T.fd_l_are_small_right ["bag", "m", "n"] (spOf K c_l_are_small_right) :=
  fn_ok0 (k := 2) T.F_l_are_small_right sc_l_are_small_right ari_l_are_small_right (fun cdv A outer s H E G hgd hr => d_l_are_small_right T hgd hr) w_l_are_small_right
theorem d_l_is_great_right {P : Program} {w : World} {K : PySem.W.Frag} {mg : Str → Option Value} {base : Heap} {f : Addr} {cdv : Value} {A : Around} {outer : List Env} {s : Shared} {H : Hp} {E : XK} {G : Gn} (T : Top K mg) (hgd : A.guards = some [])
    (hr : Room 2 (A.deeper (envOfC "_law_is_great_right" (defScope s_l_is_great_right) s.heap.objs.size f cdv))) :
    JSs (cxOf CX0 P w K mg base N_l_is_great_right "_law_is_great_right" (defScope s_l_is_great_right) f cdv A outer s H E).nox G (defBody s_l_is_great_right) (a_l_is_great_right fun p => G.H0 p = none) :=
    (jss_cons (js_set (i := 3) sc_l_is_great_right.nd rfl (Or.inl rfl) (je_call (ok_l_row T) (hr.mono (by decide)) hgd rfl T.m_l_row T.F_l_row.kp (b_l_row T) (fun _ => passAt0) (@xok0 _ _ _) (ja_cons (je_var (pv 2)) (ja_cons (je_var (pv 1)) ja_nil))))
    (jss_cons (js_set (i := 4) sc_l_is_great_right.nd rfl (Or.inl rfl) (je_bin jo_sub (je_bin jo_mulI (je_var (pv 1)) (je_var (pv 2))) (je_ix jx_seq (je_var (pv 3)) (je_un ju_neg je_int) (fun _ _ => rfl))))
    (jss_cons (js_if (jw_pt (jw_or (jt_not (jt_of (je_call (ok_l_same T) (hr.mono (by decide)) hgd rfl T.m_l_same T.F_l_same.kp (b_l_same T) (fun _ => passAt0) (@xok0 _ _ _) (ja_cons (je_call (ok_thinned_row T) (hr.mono (by decide)) hgd rfl T.m_thinned_row T.F_thinned_row.kp (b_thinned_row T) (fun _ => passAt0) (@xok0 _ _ _) (ja_cons (je_var (pv 2)) (ja_cons (je_var (pv 1)) ja_nil))) (ja_cons (je_callTy jc_tupleOf rfl T.n_tuple (by decide +kernel) (ja_cons (je_var (pv 3)) ja_nil)) ja_nil))))) (jw_or1 (jt_not (jt_of (je_call (ok_l_same T) (hr.mono (by decide)) hgd rfl T.m_l_same T.F_l_same.kp (b_l_same T) (fun _ => passAt0) (@xok0 _ _ _) (ja_cons (je_callK0 (ks := ["n", "m"]) (ok_thinned_row T) (hr.mono (by decide)) hgd rfl T.m_thinned_row T.F_thinned_row.kp (kargs T.F_thinned_row (ps := ["n", "m"]) (ks := ["n", "m"]) (n := 0) (π := [0, 1]) fun _ _ _ _ _ _ us ws h1 h2 => match us, ws, h1, h2 with | [], [_, _], _, _ => rfl) (by decide) (fun _ => passAt0) (@xok0 _ _ _) (jk_cons (je_var (pv 2)) (jk_cons (je_var (pv 1)) jk_nil))) (ja_cons (je_callTy jc_tupleOf rfl T.n_tuple (by decide +kernel) (ja_cons (je_var (pv 3)) ja_nil)) ja_nil)))))))) (jss_one (js_ret je_bl)) jss_nil)
    (jss_cons (js_if (jw_pt (jw_or (jt_not (jt_of (je_call (ok_l_same T) (hr.mono (by decide)) hgd rfl T.m_l_same T.F_l_same.kp (b_l_same T) (fun _ => passAt0) (@xok0 _ _ _) (ja_cons (je_call (ok_thinned_last T) (hr.mono (by decide)) hgd rfl T.m_thinned_last T.F_thinned_last.kp (b_thinned_last T) (fun _ => passAt0) (@xok0 _ _ _) (ja_cons (je_var (pv 2)) (ja_cons (je_var (pv 1)) ja_nil))) (ja_cons (je_var (pv 4)) ja_nil))))) (jw_or1 (jt_not (jt_of (je_call (ok_l_same T) (hr.mono (by decide)) hgd rfl T.m_l_same T.F_l_same.kp (b_l_same T) (fun _ => passAt0) (@xok0 _ _ _) (ja_cons (je_call (ok_thinned_place T) (hr.mono (by decide)) hgd rfl T.m_thinned_place T.F_thinned_place.kp (b_thinned_place T) (fun _ => passAt0) (@xok0 _ _ _) (ja_cons (je_var (pv 2)) (ja_cons (je_var (pv 1)) (ja_cons (je_bin jo_sub (je_var (pv 2)) je_int) ja_nil)))) (ja_cons (je_var (pv 4)) ja_nil)))))))) (jss_one (js_ret je_bl)) jss_nil)
    (jss_cons (js_set (i := 5) sc_l_is_great_right.nd rfl (Or.inl rfl) (je_bin jo_sub (je_bin jo_sub (je_var (pv 2)) je_int) (je_call (ok_l_great T) (hr.mono (by decide)) hgd rfl T.m_l_great T.F_l_great.kp (b_l_great T) (fun _ => passAt0) (@xok0 _ _ _) (ja_cons (je_var (pv 0)) (ja_cons (je_callB (jc_min2 rfl) rfl T.n_min (by decide +kernel) (ja_cons (je_var (pv 2)) (ja_cons (je_call (ok_l_pick T) (hr.mono (by decide)) hgd rfl T.m_l_pick T.F_l_pick.kp (b_l_pick T) (fun _ => passAt0) (@xok0 _ _ _) (ja_cons (je_var (pv 0)) (ja_cons (je_lst mok0 (ja_cons je_int (ja_cons je_int (ja_cons (je_bin jo_pow je_int je_int) (ja_cons (je_bin jo_pow je_int je_int) (ja_cons (je_bin jo_pow je_int je_int) ja_nil)))))) ja_nil))) ja_nil))) ja_nil)))))
    (jss_cons (js_for PassesOwn.never rfl (ji_of (je_lst mok0 (ja_cons je_int (ja_cons (je_call (ok_l_great T) (hr.mono (by decide)) hgd rfl T.m_l_great T.F_l_great.kp (b_l_great T) (fun _ => passAt0) (@xok0 _ _ _) (ja_cons (je_var (pv 0)) (ja_cons (je_var (pv 2)) ja_nil))) (ja_cons (je_var (pv 5)) (ja_cons (je_callB (jc_min2 rfl) rfl T.n_min (by decide +kernel) (ja_cons (je_bin jo_sub (je_var (pv 2)) je_int) (ja_cons (je_callB (jc_max2 rfl) rfl T.n_max (by decide +kernel) (ja_cons je_int (ja_cons (je_bin jo_sub (je_bin jo_div (je_var (pv 2)) (je_var (pv 1))) (je_call (ok_l_draw T) (hr.mono (by decide)) hgd rfl T.m_l_draw T.F_l_draw.kp (b_l_draw T) (fun _ => passAt0) (@xok0 _ _ _) (ja_cons (je_var (pv 0)) (ja_cons je_int ja_nil)))) ja_nil))) ja_nil))) (ja_cons (je_bin jo_sub (je_bin jo_sub (je_var (pv 2)) je_int) (je_bin jo_div (je_var (pv 2)) (je_var (pv 1)))) ja_nil))))))) (jg_name (i := 6) sc_l_is_great_right.nd rfl (Or.inl rfl)) (jss_one (js_if (jt_not (jt_of (je_call (ok_l_same T) (hr.mono (by decide)) hgd rfl T.m_l_same T.F_l_same.kp (b_l_same T) (fun _ => passAt0) (@xok0 _ _ _) (ja_cons (je_call (ok_thinned_place T) (hr.mono (by decide)) hgd rfl T.m_thinned_place T.F_thinned_place.kp (b_thinned_place T) (fun _ => passAt0) (@xok0 _ _ _) (ja_cons (je_var (pv 2)) (ja_cons (je_var (pv 1)) (ja_cons (je_var (pv 6)) ja_nil)))) (ja_cons (je_call (ok_l_back T) (hr.mono (by decide)) hgd rfl T.m_l_back T.F_l_back.kp (b_l_back T) (fun _ => passAt0) (@xok0 _ _ _) (ja_cons (je_var (pv 2)) (ja_cons (je_var (pv 1)) (ja_cons (je_var (pv 6)) ja_nil)))) ja_nil))))) (jss_one (js_ret je_bl)) jss_nil)))
    (jss_cons (js_if (jt_not (jt_of (je_call (ok_l_same T) (hr.mono (by decide)) hgd rfl T.m_l_same T.F_l_same.kp (b_l_same T) (fun _ => passAt0) (@xok0 _ _ _) (ja_cons (je_callK0 (ks := ["n", "m", "turn"]) (ok_thinned_place T) (hr.mono (by decide)) hgd rfl T.m_thinned_place T.F_thinned_place.kp (kargs T.F_thinned_place (ps := ["n", "m", "turn"]) (ks := ["n", "m", "turn"]) (n := 0) (π := [0, 1, 2]) fun _ _ _ _ _ _ us ws h1 h2 => match us, ws, h1, h2 with | [], [_, _, _], _, _ => rfl) (by decide) (fun _ => passAt0) (@xok0 _ _ _) (jk_cons (je_var (pv 2)) (jk_cons (je_var (pv 1)) (jk_cons (je_var (pv 5)) jk_nil)))) (ja_cons (je_call (ok_l_back T) (hr.mono (by decide)) hgd rfl T.m_l_back T.F_l_back.kp (b_l_back T) (fun _ => passAt0) (@xok0 _ _ _) (ja_cons (je_var (pv 2)) (ja_cons (je_var (pv 1)) (ja_cons (je_var (pv 5)) ja_nil)))) ja_nil))))) (jss_one (js_ret je_bl)) jss_nil)
    (jss_cons (js_set (i := 7) sc_l_is_great_right.nd rfl (Or.inl rfl) (je_call (ok_l_draw T) (hr.mono (by decide)) hgd rfl T.m_l_draw T.F_l_draw.kp (b_l_draw T) (fun _ => passAt0) (@xok0 _ _ _) (ja_cons (je_var (pv 0)) (ja_cons (je_callB (jc_min2 rfl) rfl T.n_min (by decide +kernel) (ja_cons (je_callB jc_len rfl T.n_len (by decide +kernel) (ja_cons (je_var (pv 3)) ja_nil)) (ja_cons je_int ja_nil))) ja_nil))))
    (jss_one (js_ret (je_or (je_cmp (jo_eq hr.units) (je_var (pv 1)) je_int (nomark _)) (je_one (je_call (ok_l_same T) (hr.mono (by decide)) hgd rfl T.m_l_same T.F_l_same.kp (b_l_same T) (fun _ => passAt0) (@xok0 _ _ _) (ja_cons (je_call (ok_least_branch T) (hr.mono (by decide)) hgd rfl T.m_least_branch T.F_least_branch.kp (b_least_branch T) (fun _ => passAt0) (@xok0 _ _ _) (ja_cons je_int (ja_cons (je_var (pv 7)) (ja_cons (je_var (pv 1)) (ja_cons (je_bin jo_sub (je_var (pv 1)) je_int) ja_nil))))) (ja_cons (je_ix jx_seq (je_var (pv 3)) (je_var (pv 7)) (fun _ _ => rfl)) ja_nil)))))))))))))))
theorem ok_l_is_great_right {P : Program} {w : World} {K : PySem.W.Frag} {mg : Str → Option Value} {base : Heap} (T : Top K mg) : FnG P w K mg base CX0 3 T.f_l_is_great_right T.fd_l_is_great_right ["bag", "m", "n"] (spOf K c_l_is_great_right) :=
  fn_ok0 (k := 2) T.F_l_is_great_right sc_l_is_great_right ari_l_is_great_right (fun cdv A outer s H E G hgd hr => d_l_is_great_right T hgd hr) w_l_is_great_right
theorem d_law {P : Program} {w : World} {K : PySem.W.Frag} {mg : Str → Option Value} {base : Heap} {f : Addr} {cdv : Value} {A : Around} {outer : List Env} {s : Shared} {H : Hp} {E : XK} {G : Gn} (T : Top K mg) (hgd : A.guards = some [])
    (hr : Room 3 (A.deeper (envOfC "law" (defScope s_law) s.heap.objs.size f cdv))) :
    JSs (cxOf CX0 P w K mg base N_law "law" (defScope s_law) f cdv A outer s H E).nox G (defBody s_law) (a_law fun p => G.H0 p = none) :=
    (jss_cons (js_set (i := 1) sc_law.nd rfl (Or.inl rfl) (je_call (ok_l_own_bag T) (hr.mono (by decide)) hgd rfl T.m_l_own_bag T.F_l_own_bag.kp (b_l_own_bag T) (fun _ => passAt0) (@xok0 _ _ _) (ja_cons (je_var (pv 0)) ja_nil)))
    (jss_cons (js_par2 (i := 2) (j := 3) rfl sc_law.nd rfl rfl (by decide) rfl rfl (ja_cons (je_bin (jo_add mok0) je_int (je_call (ok_l_draw T) (hr.mono (by decide)) hgd rfl T.m_l_draw T.F_l_draw.kp (b_l_draw T) (fun _ => passAt0) (@xok0 _ _ _) (ja_cons (je_var (pv 1)) (ja_cons je_int ja_nil)))) (ja_cons (je_bin (jo_add mok0) je_int (je_call (ok_l_draw T) (hr.mono (by decide)) hgd rfl T.m_l_draw T.F_l_draw.kp (b_l_draw T) (fun _ => passAt0) (@xok0 _ _ _) (ja_cons (je_var (pv 1)) (ja_cons je_int ja_nil)))) ja_nil)) rfl)
    (jss_cons (js_set (i := 4) sc_law.nd rfl (Or.inl rfl) (je_call (ok_l_pick T) (hr.mono (by decide)) hgd rfl T.m_l_pick T.F_l_pick.kp (b_l_pick T) (fun _ => passAt0) (@xok0 _ _ _) (ja_cons (je_var (pv 1)) (ja_cons (je_lst mok0 (ja_cons je_int (ja_cons je_int (ja_cons je_int (ja_cons (je_var (pv 2)) (ja_cons (je_var (pv 3)) (ja_cons (je_call (ok_l_draw T) (hr.mono (by decide)) hgd rfl T.m_l_draw T.F_l_draw.kp (b_l_draw T) (fun _ => passAt0) (@xok0 _ _ _) (ja_cons (je_var (pv 1)) (ja_cons je_int ja_nil))) (ja_cons (je_call (ok_l_draw T) (hr.mono (by decide)) hgd rfl T.m_l_draw T.F_l_draw.kp (b_l_draw T) (fun _ => passAt0) (@xok0 _ _ _) (ja_cons (je_var (pv 1)) (ja_cons je_int ja_nil))) ja_nil)))))))) ja_nil))))
    (jss_cons (js_set (i := 5) sc_law.nd rfl (Or.inl rfl) (je_call (ok_l_pick T) (hr.mono (by decide)) hgd rfl T.m_l_pick T.F_l_pick.kp (b_l_pick T) (fun _ => passAt0) (@xok0 _ _ _) (ja_cons (je_var (pv 1)) (ja_cons (je_lst mok0 (ja_cons je_int (ja_cons je_int (ja_cons (je_bin (jo_add mok0) je_int (je_call (ok_l_draw T) (hr.mono (by decide)) hgd rfl T.m_l_draw T.F_l_draw.kp (b_l_draw T) (fun _ => passAt0) (@xok0 _ _ _) (ja_cons (je_var (pv 1)) (ja_cons je_int ja_nil)))) ja_nil)))) ja_nil))))
    (jss_cons (js_par2 (i := 6) (j := 7) rfl sc_law.nd rfl rfl (by decide) rfl rfl (ja_cons (je_call (ok_l_some_great T) (hr.mono (by decide)) hgd rfl T.m_l_some_great T.F_l_some_great.kp (b_l_some_great T) (fun _ => passAt0) (@xok0 _ _ _) (ja_cons (je_var (pv 1)) (ja_cons (je_var (pv 2)) ja_nil))) (ja_cons (je_call (ok_l_some_great T) (hr.mono (by decide)) hgd rfl T.m_l_some_great T.F_l_some_great.kp (b_l_some_great T) (fun _ => passAt0) (@xok0 _ _ _) (ja_cons (je_var (pv 1)) (ja_cons (je_var (pv 3)) ja_nil))) ja_nil)) rfl)
    (jss_cons (js_for PassesOwn.never rfl (ji_of (je_lst mok0 (ja_cons (je_var (pv 2)) (ja_cons (je_var (pv 3)) ja_nil)))) (jg_name (i := 8) sc_law.nd rfl (Or.inl rfl)) (jss_cons (js_if (jw_pt (jw_or (jt_not (jt_of (je_call (ok_l_are_small_right T) (hr.mono (by decide)) hgd rfl T.m_l_are_small_right T.F_l_are_small_right.kp (b_l_are_small_right T) (fun _ => passAt0) (@xok0 _ _ _) (ja_cons (je_var (pv 1)) (ja_cons (je_var (pv 8)) (ja_cons (je_var (pv 4)) ja_nil)))))) (jw_or1 (jt_not (jt_of (je_call (ok_l_are_small_right T) (hr.mono (by decide)) hgd rfl T.m_l_are_small_right T.F_l_are_small_right.kp (b_l_are_small_right T) (fun _ => passAt0) (@xok0 _ _ _) (ja_cons (je_var (pv 1)) (ja_cons (je_var (pv 8)) (ja_cons (je_var (pv 5)) ja_nil))))))))) (jss_one (js_ret je_bl)) jss_nil)
    (jss_one (js_if (jw_pt (jw_or (jt_not (jt_of (je_call (ok_l_is_great_right T) (hr.mono (by decide)) hgd rfl T.m_l_is_great_right T.F_l_is_great_right.kp (b_l_is_great_right T) (fun _ => passAt0) (@xok0 _ _ _) (ja_cons (je_var (pv 1)) (ja_cons (je_var (pv 8)) (ja_cons (je_var (pv 6)) ja_nil)))))) (jw_or1 (jt_not (jt_of (je_call (ok_l_is_great_right T) (hr.mono (by decide)) hgd rfl T.m_l_is_great_right T.F_l_is_great_right.kp (b_l_is_great_right T) (fun _ => passAt0) (@xok0 _ _ _) (ja_cons (je_var (pv 1)) (ja_cons (je_var (pv 8)) (ja_cons (je_var (pv 7)) ja_nil))))))))) (jss_one (js_ret je_bl)) jss_nil))))
    (jss_cons (js_set (i := 9) sc_law.nd rfl (Or.inl rfl) (je_bin jo_sub (je_bin jo_mulI (je_var (pv 2)) (je_var (pv 6))) (je_ix jx_seq (je_call (ok_l_row T) (hr.mono (by decide)) hgd rfl T.m_l_row T.F_l_row.kp (b_l_row T) (fun _ => passAt0) (@xok0 _ _ _) (ja_cons (je_var (pv 6)) (ja_cons (je_var (pv 2)) ja_nil))) (je_un ju_neg je_int) (fun _ _ => rfl))))
    (jss_one (js_ret (je_and (je_call (ok_l_same T) (hr.mono (by decide)) hgd rfl T.m_l_same T.F_l_same.kp (b_l_same T) (fun _ => passAt0) (@xok0 _ _ _) (ja_cons (je_call (ok_thinned_last T) (hr.mono (by decide)) hgd rfl T.m_thinned_last T.F_thinned_last.kp (b_thinned_last T) (fun _ => passAt0) (@xok0 _ _ _) (ja_cons (je_var (pv 6)) (ja_cons (je_var (pv 2)) ja_nil))) (ja_cons (je_var (pv 9)) ja_nil))) (je_one (je_call (ok_l_same T) (hr.mono (by decide)) hgd rfl T.m_l_same T.F_l_same.kp (b_l_same T) (fun _ => passAt0) (@xok0 _ _ _) (ja_cons (je_callK0 (ks := ["n", "m"]) (ok_thinned_last T) (hr.mono (by decide)) hgd rfl T.m_thinned_last T.F_thinned_last.kp (kargs T.F_thinned_last (ps := ["n", "m"]) (ks := ["n", "m"]) (n := 0) (π := [0, 1]) fun _ _ _ _ _ _ us ws h1 h2 => match us, ws, h1, h2 with | [], [_, _], _, _ => rfl) (by decide) (fun _ => passAt0) (@xok0 _ _ _) (jk_cons je_int (jk_cons (je_var (pv 3)) jk_nil))) (ja_cons je_int ja_nil))))))))))))))
theorem ok_law {P : Program} {w : World} {K : PySem.W.Frag} {mg : Str → Option Value} {base : Heap} (T : Top K mg) : FnG P w K mg base CX0 4 T.f_law T.fd_law ["script"] (spOf K c_law) :=
  fn_ok0 (k := 3) T.F_law sc_law ari_law (fun cdv A outer s H E G hgd hr => d_law T hgd hr) w_law
theorem all_mk {l : PySem.W.OpenLaw} {w : World} {K : PySem.W.Frag} {h : Heap} {mg : Str → Option Value} {fa : Addr} (X : K.In h) (G : h.Ns mainGlobals mg) (hfa : mg "law" = some (.ref fa))
    {f0 : Addr} {od0 an0 : Option Addr} {sl0 : Array (Option Value)} {oc0 kV0 dc0 pm0 cd0 ct0 : Value} {f1 : Addr} {od1 an1 : Option Addr} {sl1 : Array (Option Value)} {oc1 kV1 dc1 pm1 cd1 ct1 : Value} {f2 : Addr} {od2 an2 : Option Addr} {sl2 : Array (Option Value)} {oc2 kV2 dc2 pm2 cd2 ct2 : Value} {f3 : Addr} {od3 an3 : Option Addr} {sl3 : Array (Option Value)} {oc3 kV3 dc3 pm3 cd3 ct3 : Value} {f4 : Addr} {od4 an4 : Option Addr} {sl4 : Array (Option Value)} {oc4 kV4 dc4 pm4 cd4 ct4 : Value} {f5 : Addr} {od5 an5 : Option Addr} {sl5 : Array (Option Value)} {oc5 kV5 dc5 pm5 cd5 ct5 : Value} {f6 : Addr} {od6 an6 : Option Addr} {sl6 : Array (Option Value)} {oc6 kV6 dc6 pm6 cd6 ct6 : Value} {f7 : Addr} {od7 an7 : Option Addr} {sl7 : Array (Option Value)} {oc7 kV7 dc7 pm7 cd7 ct7 : Value} {f8 : Addr} {od8 an8 : Option Addr} {sl8 : Array (Option Value)} {oc8 kV8 dc8 pm8 cd8 ct8 : Value} {f9 : Addr} {od9 an9 : Option Addr} {sl9 : Array (Option Value)} {oc9 kV9 dc9 pm9 cd9 ct9 : Value} {f10 : Addr} {od10 an10 : Option Addr} {sl10 : Array (Option Value)} {oc10 kV10 dc10 pm10 cd10 ct10 : Value} {f11 : Addr} {od11 an11 : Option Addr} {sl11 : Array (Option Value)} {oc11 kV11 dc11 pm11 cd11 ct11 : Value} {f12 : Addr} {od12 an12 : Option Addr} {sl12 : Array (Option Value)} {oc12 kV12 dc12 pm12 cd12 ct12 : Value} {f13 : Addr} {od13 an13 : Option Addr} {sl13 : Array (Option Value)} {oc13 kV13 dc13 pm13 cd13 ct13 : Value} {f14 : Addr} {od14 an14 : Option Addr} {sl14 : Array (Option Value)} {oc14 kV14 dc14 pm14 cd14 ct14 : Value} {f15 : Addr} {od15 an15 : Option Addr} {sl15 : Array (Option Value)} {oc15 kV15 dc15 pm15 cd15 ct15 : Value} {f16 : Addr} {od16 an16 : Option Addr} {sl16 : Array (Option Value)} {oc16 kV16 dc16 pm16 cd16 ct16 : Value} 
    (a0 : PySem.W.nsIn K mainGlobals "least_branch" = some (some (.ref f0))) (l0 : K.lookup f0 = some ⟨oc0, od0, .func (PySem.W.fnOf "least_branch" "least_branch" (defArgs s_least_branch) (defBody s_least_branch) (defScope s_least_branch) .none kV0 dc0 pm0 an0 cd0 ct0), sl0⟩) (c0 : PySem.W.codeIn K cd0 "least_branch" = true) (k0 : PySem.W.keepIn K (.ref f0) = true)
    (a1 : PySem.W.nsIn K mainGlobals "thinned_order" = some (some (.ref f1))) (l1 : K.lookup f1 = some ⟨oc1, od1, .func (PySem.W.fnOf "thinned_order" "thinned_order" (defArgs s_thinned_order) (defBody s_thinned_order) (defScope s_thinned_order) .none kV1 dc1 pm1 an1 cd1 ct1), sl1⟩) (c1 : PySem.W.codeIn K cd1 "thinned_order" = true) (k1 : PySem.W.keepIn K (.ref f1) = true)
    (a2 : PySem.W.nsIn K mainGlobals "thinned_row" = some (some (.ref f2))) (l2 : K.lookup f2 = some ⟨oc2, od2, .func (PySem.W.fnOf "thinned_row" "thinned_row" (defArgs s_thinned_row) (defBody s_thinned_row) (defScope s_thinned_row) .none kV2 dc2 pm2 an2 cd2 ct2), sl2⟩) (c2 : PySem.W.codeIn K cd2 "thinned_row" = true) (k2 : PySem.W.keepIn K (.ref f2) = true)
    (a3 : PySem.W.nsIn K mainGlobals "thinned_last" = some (some (.ref f3))) (l3 : K.lookup f3 = some ⟨oc3, od3, .func (PySem.W.fnOf "thinned_last" "thinned_last" (defArgs s_thinned_last) (defBody s_thinned_last) (defScope s_thinned_last) .none kV3 dc3 pm3 an3 cd3 ct3), sl3⟩) (c3 : PySem.W.codeIn K cd3 "thinned_last" = true) (k3 : PySem.W.keepIn K (.ref f3) = true)
    (a4 : PySem.W.nsIn K mainGlobals "thinned_place" = some (some (.ref f4))) (l4 : K.lookup f4 = some ⟨oc4, od4, .func (PySem.W.fnOf "thinned_place" "thinned_place" (defArgs s_thinned_place) (defBody s_thinned_place) (defScope s_thinned_place) .none kV4 dc4 pm4 an4 cd4 ct4), sl4⟩) (c4 : PySem.W.codeIn K cd4 "thinned_place" = true) (k4 : PySem.W.keepIn K (.ref f4) = true)
    (a5 : PySem.W.nsIn K mainGlobals "_law_own_bag" = some (some (.ref f5))) (l5 : K.lookup f5 = some ⟨oc5, od5, .func (PySem.W.fnOf "_law_own_bag" "_law_own_bag" (defArgs s_l_own_bag) (defBody s_l_own_bag) (defScope s_l_own_bag) .none kV5 dc5 pm5 an5 cd5 ct5), sl5⟩) (c5 : PySem.W.codeIn K cd5 "_law_own_bag" = true) (k5 : PySem.W.keepIn K (.ref f5) = true)
    (a6 : PySem.W.nsIn K mainGlobals "_law_draw" = some (some (.ref f6))) (l6 : K.lookup f6 = some ⟨oc6, od6, .func (PySem.W.fnOf "_law_draw" "_law_draw" (defArgs s_l_draw) (defBody s_l_draw) (defScope s_l_draw) .none kV6 dc6 pm6 an6 cd6 ct6), sl6⟩) (c6 : PySem.W.codeIn K cd6 "_law_draw" = true) (k6 : PySem.W.keepIn K (.ref f6) = true)
    (a7 : PySem.W.nsIn K mainGlobals "_law_pick" = some (some (.ref f7))) (l7 : K.lookup f7 = some ⟨oc7, od7, .func (PySem.W.fnOf "_law_pick" "_law_pick" (defArgs s_l_pick) (defBody s_l_pick) (defScope s_l_pick) .none kV7 dc7 pm7 an7 cd7 ct7), sl7⟩) (c7 : PySem.W.codeIn K cd7 "_law_pick" = true) (k7 : PySem.W.keepIn K (.ref f7) = true)
    (a8 : PySem.W.nsIn K mainGlobals "_law_great" = some (some (.ref f8))) (l8 : K.lookup f8 = some ⟨oc8, od8, .func (PySem.W.fnOf "_law_great" "_law_great" (defArgs s_l_great) (defBody s_l_great) (defScope s_l_great) .none kV8 dc8 pm8 an8 cd8 ct8), sl8⟩) (c8 : PySem.W.codeIn K cd8 "_law_great" = true) (k8 : PySem.W.keepIn K (.ref f8) = true)
    (a9 : PySem.W.nsIn K mainGlobals "_law_same" = some (some (.ref f9))) (l9 : K.lookup f9 = some ⟨oc9, od9, .func (PySem.W.fnOf "_law_same" "_law_same" (defArgs s_l_same) (defBody s_l_same) (defScope s_l_same) .none kV9 dc9 pm9 an9 cd9 ct9), sl9⟩) (c9 : PySem.W.codeIn K cd9 "_law_same" = true) (k9 : PySem.W.keepIn K (.ref f9) = true)
    (a10 : PySem.W.nsIn K mainGlobals "_law_order" = some (some (.ref f10))) (l10 : K.lookup f10 = some ⟨oc10, od10, .func (PySem.W.fnOf "_law_order" "_law_order" (defArgs s_l_order) (defBody s_l_order) (defScope s_l_order) .none kV10 dc10 pm10 an10 cd10 ct10), sl10⟩) (c10 : PySem.W.codeIn K cd10 "_law_order" = true) (k10 : PySem.W.keepIn K (.ref f10) = true)
    (a11 : PySem.W.nsIn K mainGlobals "_law_row" = some (some (.ref f11))) (l11 : K.lookup f11 = some ⟨oc11, od11, .func (PySem.W.fnOf "_law_row" "_law_row" (defArgs s_l_row) (defBody s_l_row) (defScope s_l_row) .none kV11 dc11 pm11 an11 cd11 ct11), sl11⟩) (c11 : PySem.W.codeIn K cd11 "_law_row" = true) (k11 : PySem.W.keepIn K (.ref f11) = true)
    (a12 : PySem.W.nsIn K mainGlobals "_law_back" = some (some (.ref f12))) (l12 : K.lookup f12 = some ⟨oc12, od12, .func (PySem.W.fnOf "_law_back" "_law_back" (defArgs s_l_back) (defBody s_l_back) (defScope s_l_back) .none kV12 dc12 pm12 an12 cd12 ct12), sl12⟩) (c12 : PySem.W.codeIn K cd12 "_law_back" = true) (k12 : PySem.W.keepIn K (.ref f12) = true)
    (a13 : PySem.W.nsIn K mainGlobals "_law_some_great" = some (some (.ref f13))) (l13 : K.lookup f13 = some ⟨oc13, od13, .func (PySem.W.fnOf "_law_some_great" "_law_some_great" (defArgs s_l_some_great) (defBody s_l_some_great) (defScope s_l_some_great) .none kV13 dc13 pm13 an13 cd13 ct13), sl13⟩) (c13 : PySem.W.codeIn K cd13 "_law_some_great" = true) (k13 : PySem.W.keepIn K (.ref f13) = true)
    (a14 : PySem.W.nsIn K mainGlobals "_law_are_small_right" = some (some (.ref f14))) (l14 : K.lookup f14 = some ⟨oc14, od14, .func (PySem.W.fnOf "_law_are_small_right" "_law_are_small_right" (defArgs s_l_are_small_right) (defBody s_l_are_small_right) (defScope s_l_are_small_right) .none kV14 dc14 pm14 an14 cd14 ct14), sl14⟩) (c14 : PySem.W.codeIn K cd14 "_law_are_small_right" = true) (k14 : PySem.W.keepIn K (.ref f14) = true)
    (a15 : PySem.W.nsIn K mainGlobals "_law_is_great_right" = some (some (.ref f15))) (l15 : K.lookup f15 = some ⟨oc15, od15, .func (PySem.W.fnOf "_law_is_great_right" "_law_is_great_right" (defArgs s_l_is_great_right) (defBody s_l_is_great_right) (defScope s_l_is_great_right) .none kV15 dc15 pm15 an15 cd15 ct15), sl15⟩) (c15 : PySem.W.codeIn K cd15 "_law_is_great_right" = true) (k15 : PySem.W.keepIn K (.ref f15) = true)
    (a16 : PySem.W.nsIn K mainGlobals "law" = some (some (.ref f16))) (l16 : K.lookup f16 = some ⟨oc16, od16, .func (PySem.W.fnOf "law" "law" (defArgs s_law) (defBody s_law) (defScope s_law) .none kV16 dc16 pm16 an16 cd16 ct16), sl16⟩) (c16 : PySem.W.codeIn K cd16 "law" = true) (k16 : PySem.W.keepIn K (.ref f16) = true)
    (n_abs : PySem.W.nsIn K mainGlobals "abs" = some none)
    (n_int : PySem.W.nsIn K mainGlobals "int" = some none)
    (n_isinstance : PySem.W.nsIn K mainGlobals "isinstance" = some none)
    (n_len : PySem.W.nsIn K mainGlobals "len" = some none)
    (n_list : PySem.W.nsIn K mainGlobals "list" = some none)
    (n_max : PySem.W.nsIn K mainGlobals "max" = some none)
    (n_min : PySem.W.nsIn K mainGlobals "min" = some none)
    (n_range : PySem.W.nsIn K mainGlobals "range" = some none)
    (n_repr : PySem.W.nsIn K mainGlobals "repr" = some none)
    (n_reversed : PySem.W.nsIn K mainGlobals "reversed" = some none)
    (n_str : PySem.W.nsIn K mainGlobals "str" = some none)
    (n_tuple : PySem.W.nsIn K mainGlobals "tuple" = some none) :
    ∃ fd : FuncData, (∀ (s : Shared) (v : Value), BindsTo s fd ⟨[v], []⟩ [("script", v)]) ∧ ∀ base : Heap, K.In base → base.Ns mainGlobals mg → FnG l.prog w K mg base CX0 4 fa fd ["script"] (spOf K c_law) := by
  have e := (PySem.W.mg_of X G a16).symm.trans hfa
  cases e
  let T : Top K mg := {
    f_least_branch := f0, fd_least_branch := _, F_least_branch := fun_mk (st := s_least_branch) l0 c0 k0, m_least_branch := PySem.W.mg_of X G a0,
    f_thinned_order := f1, fd_thinned_order := _, F_thinned_order := fun_mk (st := s_thinned_order) l1 c1 k1, m_thinned_order := PySem.W.mg_of X G a1,
    f_thinned_row := f2, fd_thinned_row := _, F_thinned_row := fun_mk (st := s_thinned_row) l2 c2 k2, m_thinned_row := PySem.W.mg_of X G a2,
    f_thinned_last := f3, fd_thinned_last := _, F_thinned_last := fun_mk (st := s_thinned_last) l3 c3 k3, m_thinned_last := PySem.W.mg_of X G a3,
    f_thinned_place := f4, fd_thinned_place := _, F_thinned_place := fun_mk (st := s_thinned_place) l4 c4 k4, m_thinned_place := PySem.W.mg_of X G a4,
    f_l_own_bag := f5, fd_l_own_bag := _, F_l_own_bag := fun_mk (st := s_l_own_bag) l5 c5 k5, m_l_own_bag := PySem.W.mg_of X G a5,
    f_l_draw := f6, fd_l_draw := _, F_l_draw := fun_mk (st := s_l_draw) l6 c6 k6, m_l_draw := PySem.W.mg_of X G a6,
    f_l_pick := f7, fd_l_pick := _, F_l_pick := fun_mk (st := s_l_pick) l7 c7 k7, m_l_pick := PySem.W.mg_of X G a7,
    f_l_great := f8, fd_l_great := _, F_l_great := fun_mk (st := s_l_great) l8 c8 k8, m_l_great := PySem.W.mg_of X G a8,
    f_l_same := f9, fd_l_same := _, F_l_same := fun_mk (st := s_l_same) l9 c9 k9, m_l_same := PySem.W.mg_of X G a9,
    f_l_order := f10, fd_l_order := _, F_l_order := fun_mk (st := s_l_order) l10 c10 k10, m_l_order := PySem.W.mg_of X G a10,
    f_l_row := f11, fd_l_row := _, F_l_row := fun_mk (st := s_l_row) l11 c11 k11, m_l_row := PySem.W.mg_of X G a11,
    f_l_back := f12, fd_l_back := _, F_l_back := fun_mk (st := s_l_back) l12 c12 k12, m_l_back := PySem.W.mg_of X G a12,
    f_l_some_great := f13, fd_l_some_great := _, F_l_some_great := fun_mk (st := s_l_some_great) l13 c13 k13, m_l_some_great := PySem.W.mg_of X G a13,
    f_l_are_small_right := f14, fd_l_are_small_right := _, F_l_are_small_right := fun_mk (st := s_l_are_small_right) l14 c14 k14, m_l_are_small_right := PySem.W.mg_of X G a14,
    f_l_is_great_right := f15, fd_l_is_great_right := _, F_l_is_great_right := fun_mk (st := s_l_is_great_right) l15 c15 k15, m_l_is_great_right := PySem.W.mg_of X G a15,
    f_law := fa, fd_law := _, F_law := fun_mk (st := s_law) l16 c16 k16, m_law := PySem.W.mg_of X G a16,
    n_abs := PySem.W.mg_none_of X G n_abs,
    n_int := PySem.W.mg_none_of X G n_int,
    n_isinstance := PySem.W.mg_none_of X G n_isinstance,
    n_len := PySem.W.mg_none_of X G n_len,
    n_list := PySem.W.mg_none_of X G n_list,
    n_max := PySem.W.mg_none_of X G n_max,
    n_min := PySem.W.mg_none_of X G n_min,
    n_range := PySem.W.mg_none_of X G n_range,
    n_repr := PySem.W.mg_none_of X G n_repr,
    n_reversed := PySem.W.mg_none_of X G n_reversed,
    n_str := PySem.W.mg_none_of X G n_str,
    n_tuple := PySem.W.mg_none_of X G n_tuple }
  exact ⟨T.fd_law, fun s v => .of_eq rfl, fun base _ _ => ok_law T⟩
end KK
open PySem PySem.W PyProof.Rows in
set_option maxRecDepth 100000 in
set_option maxHeartbeats 0 in
theorem PySem.Challenge.cw_manybases_k84_whole_main_thinned_holds : PySem.Challenge.rw_manybases_k84_whole_main_thinned.Holds := by
  w_on; o_law; k_head; (case hw => w_witness2)
  k_fill
  refine Z.walk (l := PySem.Challenge.rw_manybases_k84_whole_main_thinned) (n := 63) (k := 4) (x := "script") rfl rfl (fun w h Y => PySem.W.kIn_of Y) ⟨rfl, by decide +kernel, by decide +kernel⟩ (by decide) ?F
  case F =>
    intro w mg fa h KX G hmg
    refine' KK.all_mk KX G hmg ?a0 ?l0 ?c0 ?k0 ?a1 ?l1 ?c1 ?k1 ?a2 ?l2 ?c2 ?k2 ?a3 ?l3 ?c3 ?k3 ?a4 ?l4 ?c4 ?k4 ?a5 ?l5 ?c5 ?k5 ?a6 ?l6 ?c6 ?k6 ?a7 ?l7 ?c7 ?k7 ?a8 ?l8 ?c8 ?k8 ?a9 ?l9 ?c9 ?k9 ?a10 ?l10 ?c10 ?k10 ?a11 ?l11 ?c11 ?k11 ?a12 ?l12 ?c12 ?k12 ?a13 ?l13 ?c13 ?k13 ?a14 ?l14 ?c14 ?k14 ?a15 ?l15 ?c15 ?k15 ?a16 ?l16 ?c16 ?k16 ?n_abs ?n_int ?n_isinstance ?n_len ?n_list ?n_max ?n_min ?n_range ?n_repr ?n_reversed ?n_str ?n_tuple
    (case a0 => k_is)
    (case l0 => k_is)
    (case c0 => k_is)
    (case k0 => k_is)
    (case a1 => k_is)
    (case l1 => k_is)
    (case c1 => k_is)
    (case k1 => k_is)
    (case a2 => k_is)
    (case l2 => k_is)
    (case c2 => k_is)
    (case k2 => k_is)
    (case a3 => k_is)
    (case l3 => k_is)
    (case c3 => k_is)
    (case k3 => k_is)
    (case a4 => k_is)
    (case l4 => k_is)
    (case c4 => k_is)
    (case k4 => k_is)
    (case a5 => k_is)
    (case l5 => k_is)
    (case c5 => k_is)
    (case k5 => k_is)
    (case a6 => k_is)
    (case l6 => k_is)
    (case c6 => k_is)
    (case k6 => k_is)
    (case a7 => k_is)
    (case l7 => k_is)
    (case c7 => k_is)
    (case k7 => k_is)
    (case a8 => k_is)
    (case l8 => k_is)
    (case c8 => k_is)
    (case k8 => k_is)
    (case a9 => k_is)
    (case l9 => k_is)
    (case c9 => k_is)
    (case k9 => k_is)
    (case a10 => k_is)
    (case l10 => k_is)
    (case c10 => k_is)
    (case k10 => k_is)
    (case a11 => k_is)
    (case l11 => k_is)
    (case c11 => k_is)
    (case k11 => k_is)
    (case a12 => k_is)
    (case l12 => k_is)
    (case c12 => k_is)
    (case k12 => k_is)
    (case a13 => k_is)
    (case l13 => k_is)
    (case c13 => k_is)
    (case k13 => k_is)
    (case a14 => k_is)
    (case l14 => k_is)
    (case c14 => k_is)
    (case k14 => k_is)
    (case a15 => k_is)
    (case l15 => k_is)
    (case c15 => k_is)
    (case k15 => k_is)
    (case a16 => k_is)
    (case l16 => k_is)
    (case c16 => k_is)
    (case k16 => k_is)
    (case n_abs => k_is)
    (case n_int => k_is)
    (case n_isinstance => k_is)
    (case n_len => k_is)
    (case n_list => k_is)
    (case n_max => k_is)
    (case n_min => k_is)
    (case n_range => k_is)
    (case n_repr => k_is)
    (case n_reversed => k_is)
    (case n_str => k_is)
    (case n_tuple => k_is)
