import PyProof.Rows.All
import Wide.All
import OpenK.AllK
import Wide.FinOn
import HandS.ForMost
import HandS.Wide
import HandS.EndBits
import HandS.RaiseMore
import HandS.IsInst
import HandS.Conv
import HandS.WordsExc
import HandS.TupAny
import HandS.WideBits
import HandS.Deep
import HandS.SortInts
import HandS.Gcd
import HandS.Style
import HandS.Zip
import HandS.Rev
import HandS.HotCalls
import HandS.ExcIs
import HandS.TupMul
import HandS.Iter
import PySem.Challenge.RW_manybases_k81_whole_main_pieces
set_option Elab.async false
set_option linter.all false
set_option maxRecDepth 100000
set_option maxHeartbeats 4000000
/-! Z1: a layer over data: slots hold data (PyData) or raw values, what is mutable lies in a list of cells. -/
namespace Z
open PySem PySem.Spec PyProof.Rows L2
/-! ### values, cells, states -/
/-- data (lists in it are objects of our own that never change again); a list that is only read (the script); any other value, raw -/
inductive SV where
  | d (x : PyData)
  | l (xs : List PyData)
  | r (v : V)
inductive OC where
  | lst (xs : List PyData)
  | lx (xs : List SV)
  | dk (kvs : List (Key × SV))
  | dt (kvs : List (List Key × SV))
  | raw (o : HO)
abbrev Rho := List (Option SV)
abbrev Om := List (Addr × OC)
abbrev Frag := PySem.W.Frag
theorem sqt_same {K : Frag} {H H' : Hp} {a : Addr} {xs : List V} (e : Same H H') (h : SqT K H a xs) : SqT K H' a xs := by
  rcases h with (h | ⟨o, h⟩) | h
  · exact Or.inl (Or.inl (e _ _ h))
  · exact Or.inl (Or.inr ⟨o, e _ _ h⟩)
  · exact Or.inr h
mutual
/-- v is data d in F: as Dp, but a list is an object that F tracks itself -/
inductive Dq (K : Frag) (F : Hp) : V → PyData → Prop
  | non : Dq K F .non .none
  | bl (b : Bool) : Dq K F (.bl b) (.bool b)
  | int (i : Int) : Dq K F (.int i) (.int i)
  | str (x : Str) : Dq K F (.str x) (.str x)
  | lst {a : Addr} {xs : List V} {ds : List PyData} : F a = some (.lst xs) → DqAll K F xs ds → Dq K F (.ref a) (.list ds)
  | tup {a : Addr} {xs : List V} {ds : List PyData} : SqT K F a xs → DqAll K F xs ds → Dq K F (.ref a) (.tuple ds)
inductive DqAll (K : Frag) (F : Hp) : List V → List PyData → Prop
  | nil : DqAll K F [] []
  | cons {v : V} {vs : List V} {d : PyData} {ds : List PyData} : Dq K F v d → DqAll K F vs ds → DqAll K F (v :: vs) (d :: ds)
end
mutual
theorem dq_same {K : Frag} {H H' : Hp} (e : Same H H') : ∀ (d : PyData) (v : V), Dq K H v d → Dq K H' v d
  | .none, _, h => by cases h; exact .non
  | .bool b, _, h => by cases h; exact .bl b
  | .int i, _, h => by cases h; exact .int i
  | .str x, _, h => by cases h; exact .str x
  | .list ds, _, h => by
    cases h with
    | lst hs ha => exact .lst (e _ _ hs) (dqa_same e ds _ ha)
  | .tuple ds, _, h => by
    cases h with
    | tup hs ha => exact .tup (sqt_same e hs) (dqa_same e ds _ ha)
  | .dict _, _, h => by cases h
theorem dqa_same {K : Frag} {H H' : Hp} (e : Same H H') : ∀ (ds : List PyData) (vs : List V), DqAll K H vs ds → DqAll K H' vs ds
  | [], _, h => by cases h; exact .nil
  | d :: ds, _, h => by
    cases h with
    | cons h1 h2 => exact .cons (dq_same e d _ h1) (dqa_same e ds _ h2)
end
mutual
theorem Dq.dp {K : Frag} {H : Hp} : ∀ (d : PyData) (v : V), Dq K H v d → Dp K H v d
  | .none, _, h => by cases h; exact .non
  | .bool b, _, h => by cases h; exact .bl b
  | .int i, _, h => by cases h; exact .int i
  | .str x, _, h => by cases h; exact .str x
  | .list ds, _, h => by
    cases h with
    | lst hs ha => exact .lst (SqL.of hs) (DqAll.dp ds _ ha)
  | .tuple ds, _, h => by
    cases h with
    | tup hs ha => exact .tup hs (DqAll.dp ds _ ha)
  | .dict _, _, h => by cases h
theorem DqAll.dp {K : Frag} {H : Hp} : ∀ (ds : List PyData) (vs : List V), DqAll K H vs ds → DpAll K H vs ds
  | [], _, h => by cases h; exact .nil
  | d :: ds, _, h => by
    cases h with
    | cons h1 h2 => exact .cons (Dq.dp d _ h1) (DqAll.dp ds _ h2)
end
theorem dqi {K : Frag} {F : Hp} {v : V} {i : Int} (h : Dq K F v (.int i)) : v = .int i := by cases h; rfl
theorem dqb {K : Frag} {F : Hp} {v : V} {b : Bool} (h : Dq K F v (.bool b)) : v = .bl b := by cases h; rfl
theorem dqs {K : Frag} {F : Hp} {v : V} {x : Str} (h : Dq K F v (.str x)) : v = .str x := by cases h; rfl
theorem dqn {K : Frag} {F : Hp} {v : V} (h : Dq K F v .none) : v = .non := by cases h; rfl
theorem dql {K : Frag} {F : Hp} {v : V} {ds : List PyData} (h : Dq K F v (.list ds)) : ∃ a xs, v = .ref a ∧ F a = some (.lst xs) ∧ DqAll K F xs ds := by cases h with | lst hs ha => exact ⟨_, _, rfl, hs, ha⟩
theorem dqt {K : Frag} {F : Hp} {v : V} {ds : List PyData} (h : Dq K F v (.tuple ds)) : ∃ a xs, v = .ref a ∧ SqT K F a xs ∧ DqAll K F xs ds := by cases h with | tup hs ha => exact ⟨_, _, rfl, hs, ha⟩
def Rp (K : Frag) (F : Hp) (v : V) : SV → Prop
  | .d x => Dq K F v x
  | .l ds => ∃ a xs, v = .ref a ∧ SqL K F a xs ∧ DqAll K F xs ds
  | .r u => v = u
theorem Rp.same {K : Frag} {F F' : Hp} (e : Same F F') : ∀ {v : V} {s : SV}, Rp K F v s → Rp K F' v s
  | v, .d x, h => dq_same e x v h
  | _, .l ds, ⟨a, xs, h1, h2, h3⟩ => ⟨a, xs, h1, e.seq h2, dqa_same e ds xs h3⟩
  | _, .r _, h => h
def RpO (K : Frag) (F : Hp) : HO → OC → Prop
  | .lst vs, .lst xs => DqAll K F vs xs
  | .lst vs, .lx xs => Paired (Rp K F) vs xs
  | .dK kvs, .dk ys => Paired (fun p q => p.1 = q.1 ∧ Rp K F p.2 q.2) kvs ys
  | .dT kvs, .dt ys => Paired (fun p q => p.1 = q.1 ∧ Rp K F p.2 q.2) kvs ys
  | o, .raw o' => o = o'
  | _, _ => False
theorem RpO.same {K : Frag} {F F' : Hp} (e : Same F F') {o : HO} {c : OC} (h : RpO K F o c) : RpO K F' o c := by
  unfold RpO at h ⊢
  split at h
  · exact dqa_same e _ _ h
  · exact Paired.mapP h fun _ _ q => q.same e
  · exact Paired.mapP h fun _ _ q => ⟨q.1, q.2.same e⟩
  · exact Paired.mapP h fun _ _ q => ⟨q.1, q.2.same e⟩
  · exact h
  · exact h.elim
def RpS (K : Frag) (F : Hp) (o : Option V) : Option SV → Prop
  | none => True
  | some x => ∃ v, o = some v ∧ Rp K F v x
abbrev RpE (K : Frag) (F : Hp) : L2.St → Rho → Prop := Paired (RpS K F)
theorem RpS.same {K : Frag} {F F' : Hp} (e : Same F F') : ∀ {o : Option V} {s : Option SV}, RpS K F o s → RpS K F' o s
  | _, none, _ => trivial
  | _, some _, ⟨v, h, q⟩ => ⟨v, h, q.same e⟩
theorem rpe_same {K : Frag} {F F' : Hp} (e : Same F F') {σ : L2.St} {ρ : Rho} (h : RpE K F σ ρ) : RpE K F' σ ρ := Paired.mapP h fun _ _ q => q.same e
theorem rps_same {K : Frag} {F F' : Hp} (e : Same F F') {σ : List V} {ρ : List SV} (h : Paired (Rp K F) σ ρ) : Paired (Rp K F') σ ρ := Paired.mapP h fun _ _ q => q.same e
theorem rpe_get {K : Frag} {F : Hp} : ∀ {σ : L2.St} {ρ : Rho} {i : Nat} {x : SV}, RpE K F σ ρ → ρ[i]? = some (some x) → ∃ v, σ[i]? = some (some v) ∧ Rp K F v x
  | _, _, _, _, .nil, e => by simp at e
  | _, _, 0, x, .cons r _, e => by
    simp at e; subst e
    obtain ⟨v, rfl, q⟩ := r
    exact ⟨v, rfl, q⟩
  | _, _, i + 1, x, .cons _ t, e => by
    obtain ⟨v, h1, h2⟩ := rpe_get (i := i) (x := x) t (by simpa using e)
    exact ⟨v, by simpa using h1, h2⟩
theorem pr_set {α β : Type} {R : α → β → Prop} {x : α} {y : β} (r : R x y) : ∀ {l : List α} {m : List β} (i : Nat), Paired R l m → Paired R (l.set i x) (m.set i y)
  | _, _, _, .nil => .nil
  | _, _, 0, .cons _ t => .cons r t
  | _, _, i + 1, .cons q t => .cons q (pr_set r i t)
theorem pr_app {α β : Type} {R : α → β → Prop} : ∀ {l l' : List α} {m m' : List β}, Paired R l m → Paired R l' m' → Paired R (l ++ l') (m ++ m')
  | _, _, _, _, .nil, s => s
  | _, _, _, _, .cons r t, s => .cons r (pr_app t s)
theorem pr_take {α β : Type} {R : α → β → Prop} : ∀ {l : List α} {m : List β} (n : Nat), Paired R l m → Paired R (l.take n) (m.take n)
  | _, _, 0, _ => .nil
  | _, _, _ + 1, .nil => .nil
  | _, _, n + 1, .cons r t => .cons r (pr_take n t)
theorem pr_drop {α β : Type} {R : α → β → Prop} : ∀ {l : List α} {m : List β} (n : Nat), Paired R l m → Paired R (l.drop n) (m.drop n)
  | _, _, 0, r => r
  | _, _, _ + 1, .nil => .nil
  | _, _, n + 1, .cons _ t => pr_drop n t
theorem pr_get {α β : Type} {R : α → β → Prop} : ∀ {l : List α} {m : List β} {i : Nat} {y : β}, Paired R l m → m[i]? = some y → ∃ x, l[i]? = some x ∧ R x y
  | _, _, _, _, .nil, e => by simp at e
  | _, _, 0, y, .cons r _, e => by simp at e; subst e; exact ⟨_, rfl, r⟩
  | _, _, i + 1, y, .cons _ t, e => by
    obtain ⟨v, h1, h2⟩ := pr_get (i := i) (y := y) t (by simpa using e)
    exact ⟨v, by simpa using h1, h2⟩
theorem pr_getL {α β : Type} {R : α → β → Prop} : ∀ {l : List α} {m : List β} {i : Nat} {x : α}, Paired R l m → l[i]? = some x → ∃ y, m[i]? = some y ∧ R x y
  | _, _, _, _, .nil, e => by simp at e
  | _, _, 0, y, .cons r _, e => by simp at e; subst e; exact ⟨_, rfl, r⟩
  | _, _, i + 1, y, .cons _ t, e => by
    obtain ⟨v, h1, h2⟩ := pr_getL (i := i) (x := y) t (by simpa using e)
    exact ⟨v, by simpa using h1, h2⟩
theorem pr_rev {α β : Type} {R : α → β → Prop} : ∀ {l : List α} {m : List β}, Paired R l m → Paired R l.reverse m.reverse
  | _, _, .nil => .nil
  | _, _, .cons r t => by
    rw [List.reverse_cons, List.reverse_cons]
    exact pr_app (pr_rev t) (.cons r .nil)
theorem pr_erase {α β : Type} {R : α → β → Prop} : ∀ {l : List α} {m : List β} (n : Nat), Paired R l m → Paired R (l.eraseIdx n) (m.eraseIdx n)
  | _, _, _, .nil => .nil
  | _, _, 0, .cons _ t => t
  | _, _, n + 1, .cons r t => .cons r (pr_erase n t)
theorem pr_dropLast {α β : Type} {R : α → β → Prop} {l : List α} {m : List β} (h : Paired R l m) : Paired R l.dropLast m.dropLast := by
  rw [List.dropLast_eq_take, List.dropLast_eq_take, h.length]
  exact pr_take _ h
/-- data lists -/
theorem dqa_of {K : Frag} {F : Hp} : ∀ {vs : List V} {ds : List PyData}, Paired (Rp K F) vs (ds.map SV.d) → DqAll K F vs ds
  | _, [], h => by cases h; exact .nil
  | _, d :: ds, h => by
    cases h with
    | cons r t => exact .cons r (dqa_of t)
theorem of_dqa {K : Frag} {F : Hp} : ∀ {vs : List V} {ds : List PyData}, DqAll K F vs ds → Paired (Rp K F) vs (ds.map SV.d)
  | _, [], h => by cases h; exact .nil
  | _, d :: ds, h => by
    cases h with
    | cons r t => exact .cons r (of_dqa t)
theorem dqa_len {K : Frag} {F : Hp} {vs : List V} {ds : List PyData} (h : DqAll K F vs ds) : vs.length = ds.length := by
  have q := (of_dqa h).length
  rw [List.length_map] at q
  exact q
/-! ### the entry of a def, and the state -/
structure Gn where
  F0 : Hp
  H0 : Hp
  P0 : Hp
structure En extends Gn where
  K : Frag
/-- P: what is left alone; F: what is frozen (data rests on it); Ω: the cells, apart from both -/
structure Ok (E : En) (P F H : Hp) (Ω : Om) : Prop where
  p0 : Same E.P0 P
  pf : Same P H
  pd : ∀ p ∈ Ω, P p.1 = none
  pF : ∀ a, P a ≠ none → F a = none
  f0 : Same E.F0 F
  fn : ∀ a, F a ≠ none → E.F0 a = none → E.H0 a = none
  dm : ∀ a, H a = none → E.H0 a = none
  ex : Same F H
  own : ∀ p ∈ Ω, F p.1 = none ∧ ∃ o, H p.1 = some o ∧ RpO E.K F o p.2
  nd : (Ω.map (·.1)).Nodup
section
variable {E : En} {P F H : Hp} {Ω : Om}
theorem Ok.free (h : Ok E P F H Ω) {a : Addr} (e : H a = none) : F a = none := h.ex.free e
/-- a new object, frozen at once -/
theorem Ok.newF (h : Ok E P F H Ω) {p : Addr} {o : HO} (e : H p = none) : Ok E P (upd F p o) (upd H p o) Ω ∧ Same F (upd F p o) := by
  have sF : Same F (upd F p o) := fun b u q => by rw [upd_ne (ne_of_none q (h.free e))]; exact q
  refine ⟨⟨h.p0, fun b u q => by rw [upd_ne (ne_of_none (h.pf b u q) e)]; exact h.pf b u q, h.pd, fun a q => by rw [upd_ne (fun z => q (by rw [z]; exact h.pf.free e))]; exact h.pF a q, h.f0.trans sF, fun a q z => ?_, fun a q => ?_, fun b u q => ?_, fun x hx => ?_, h.nd⟩, sF⟩
  · by_cases ha : a = p
    · rw [ha]; exact h.dm p e
    · rw [upd_ne ha] at q; exact h.fn a q z
  · by_cases ha : a = p
    · rw [ha]; exact h.dm p e
    · rw [upd_ne ha] at q; exact h.dm a q
  · by_cases hb : b = p
    · rw [hb] at q ⊢; rw [upd_same] at q ⊢; exact q
    · rw [upd_ne hb] at q ⊢; exact h.ex b u q
  · obtain ⟨h1, u, h2, h3⟩ := h.own x hx
    have ne : x.1 ≠ p := ne_of_none h2 e
    exact ⟨by rw [upd_ne ne]; exact h1, u, by rw [upd_ne ne]; exact h2, h3.same sF⟩
/-- a new object, a cell -/
theorem Ok.newO (h : Ok E P F H Ω) {p : Addr} {o : HO} {c : OC} (e : H p = none) (r : RpO E.K F o c) : Ok E P F (upd H p o) ((p, c) :: Ω) := by
  have nF := h.free e
  refine ⟨h.p0, fun b u q => by rw [upd_ne (ne_of_none (h.pf b u q) e)]; exact h.pf b u q, fun x hx => ?_, h.pF, h.f0, h.fn, fun a q => ?_, fun b u q => ?_, fun x hx => ?_, ?_⟩
  · rcases List.mem_cons.mp hx with rfl | hx
    · exact h.pf.free e
    · exact h.pd x hx
  · by_cases ha : a = p
    · rw [ha]; exact h.dm p e
    · rw [upd_ne ha] at q; exact h.dm a q
  · rw [upd_ne (ne_of_none q nF)]; exact h.ex b u q
  · rcases List.mem_cons.mp hx with rfl | hx
    · exact ⟨nF, o, upd_same, r⟩
    · obtain ⟨h1, u, h2, h3⟩ := h.own x hx
      exact ⟨h1, u, by rw [upd_ne (ne_of_none h2 e)]; exact h2, h3⟩
  · rw [List.map_cons]
    refine List.nodup_cons.mpr ⟨fun hm => ?_, h.nd⟩
    obtain ⟨x, hx, hp⟩ := List.mem_map.mp hm
    obtain ⟨_, u, h2, _⟩ := h.own x hx
    rw [hp, e] at h2
    cases h2
/-- a new object that nothing is to know -/
theorem Ok.newX (h : Ok E P F H Ω) {p : Addr} {o : HO} (e : H p = none) : Ok E P F (upd H p o) Ω := by
  have k := h.newO (c := .raw o) e (show RpO E.K F o (.raw o) by cases o <;> rfl)
  exact ⟨k.p0, k.pf, fun x hx => k.pd x (List.mem_cons_of_mem _ hx), k.pF, k.f0, k.fn, k.dm, k.ex, fun x hx => k.own x (List.mem_cons_of_mem _ hx), (List.nodup_cons.mp k.nd).2⟩
end
/-- the cell at a, and what the cells are with another thing there -/
inductive At : Om → Addr → OC → (OC → Om) → Prop where
  | here {a : Addr} {c : OC} {Ω : Om} : At ((a, c) :: Ω) a c (fun z => (a, z) :: Ω)
  | there {a : Addr} {c : OC} {Ω : Om} {p : Addr × OC} {f : OC → Om} : At Ω a c f → At (p :: Ω) a c (fun z => p :: f z)
theorem At.mem : ∀ {Ω : Om} {a : Addr} {c : OC} {f : OC → Om}, At Ω a c f → (a, c) ∈ Ω
  | _, _, _, _, .here => List.mem_cons_self
  | _, _, _, _, .there h => List.mem_cons_of_mem _ h.mem
theorem At.addrs : ∀ {Ω : Om} {a : Addr} {c : OC} {f : OC → Om}, At Ω a c f → ∀ z, (f z).map (·.1) = Ω.map (·.1)
  | _, _, _, _, .here, _ => rfl
  | _, _, _, _, .there h, z => by rw [List.map_cons, List.map_cons, h.addrs z]
theorem At.mems : ∀ {Ω : Om} {a : Addr} {c : OC} {f : OC → Om}, At Ω a c f → ∀ z x, x ∈ f z → x = (a, z) ∨ x ∈ Ω
  | _, _, _, _, .here, z, x, h => by
    rcases List.mem_cons.mp h with h | h
    · exact Or.inl h
    · exact Or.inr (List.mem_cons_of_mem _ h)
  | _, _, _, _, .there t, z, x, h => by
    rcases List.mem_cons.mp h with h | h
    · exact Or.inr (h ▸ List.mem_cons_self)
    · rcases t.mems z x h with q | q
      · exact Or.inl q
      · exact Or.inr (List.mem_cons_of_mem _ q)
theorem At.after : ∀ {Ω : Om} {a : Addr} {c : OC} {f : OC → Om}, At Ω a c f → ∀ z, At (f z) a z f
  | _, _, _, _, .here, z => .here
  | _, _, _, _, .there h, z => .there (h.after z)
section
variable {E : En} {P F H : Hp} {Ω : Om}
theorem nd_inj {α β : Type} {f : α → β} : ∀ {l : List α} {x y : α}, (l.map f).Nodup → x ∈ l → y ∈ l → f x = f y → x = y
  | [], _, _, _, h, _, _ => by cases h
  | z :: l, x, y, nd, hx, hy, e => by
    rw [List.map_cons] at nd
    obtain ⟨n1, n2⟩ := List.nodup_cons.mp nd
    rcases List.mem_cons.mp hx with h1 | h1
    · rcases List.mem_cons.mp hy with h2 | h2
      · rw [h1, h2]
      · rw [h1] at e
        exact absurd (by rw [e]; exact List.mem_map_of_mem h2) n1
    · rcases List.mem_cons.mp hy with h2 | h2
      · rw [h2] at e
        exact absurd (by rw [← e]; exact List.mem_map_of_mem h1) n1
      · exact nd_inj n2 h1 h2 e
theorem Ok.at_ (h : Ok E P F H Ω) {a : Addr} {c : OC} {f : OC → Om} (t : At Ω a c f) : F a = none ∧ ∃ o, H a = some o ∧ RpO E.K F o c := h.own _ t.mem
theorem Ok.lst (h : Ok E P F H Ω) {a : Addr} {xs : List PyData} {f : OC → Om} (t : At Ω a (.lst xs) f) : ∃ vs, H a = some (.lst vs) ∧ DqAll E.K F vs xs := by
  obtain ⟨_, o, h1, h2⟩ := h.at_ t
  cases o <;> first | exact ⟨_, h1, h2⟩ | exact (show False from h2).elim
theorem Ok.lx (h : Ok E P F H Ω) {a : Addr} {xs : List SV} {f : OC → Om} (t : At Ω a (.lx xs) f) : ∃ vs, H a = some (.lst vs) ∧ Paired (Rp E.K F) vs xs := by
  obtain ⟨_, o, h1, h2⟩ := h.at_ t
  cases o <;> first | exact ⟨_, h1, h2⟩ | exact (show False from h2).elim
theorem Ok.dk (h : Ok E P F H Ω) {a : Addr} {xs : List (Key × SV)} {f : OC → Om} (t : At Ω a (.dk xs) f) : ∃ vs, H a = some (.dK vs) ∧ Paired (fun p q => p.1 = q.1 ∧ Rp E.K F p.2 q.2) vs xs := by
  obtain ⟨_, o, h1, h2⟩ := h.at_ t
  cases o <;> first | exact ⟨_, h1, h2⟩ | exact (show False from h2).elim
/-- the cell at a is changed -/
theorem Ok.put (h : Ok E P F H Ω) {a : Addr} {c z : OC} {f : OC → Om} {o : HO} (t : At Ω a c f) (r : RpO E.K F o z) : Ok E P F (upd H a o) (f z) := by
  obtain ⟨nF, o0, h0, _⟩ := h.at_ t
  have nP : P a = none := h.pd _ t.mem
  refine ⟨h.p0, fun b u q => by rw [upd_ne (ne_of_none q nP)]; exact h.pf b u q, fun x hx => ?_, h.pF, h.f0, h.fn, fun b q => ?_, fun b u q => ?_, fun x hx => ?_, by rw [t.addrs z]; exact h.nd⟩
  · rcases t.mems z x hx with q | q
    · rw [q]; exact nP
    · exact h.pd x q
  · by_cases hb : b = a
    · rw [hb, upd_same] at q; cases q
    · rw [upd_ne hb] at q; exact h.dm b q
  · rw [upd_ne (ne_of_none q nF)]; exact h.ex b u q
  · by_cases hb : x.1 = a
    · have e : x = (a, z) := nd_inj (f := (·.1)) (l := f z) (by rw [t.addrs z]; exact h.nd) hx (t.after z).mem hb
      rw [e]
      exact ⟨nF, o, upd_same, r⟩
    · rcases t.mems z x hx with q | q
      · rw [q] at hb; exact absurd rfl hb
      · obtain ⟨h1, u, h2, h3⟩ := h.own x q
        exact ⟨h1, u, by rw [upd_ne hb]; exact h2, h3⟩
/-- a cell is frozen -/
theorem Ok.frz (h : Ok E P F H Ω) {Ω' : Om} {a : Addr} {c : OC} {o : HO} (ha : H a = some o) (n0 : E.H0 a = none) (nF : F a = none) (nP : P a = none) (hm : ∀ x ∈ Ω', x ∈ Ω ∧ x.1 ≠ a) (nd : (Ω'.map (·.1)).Nodup) : Ok E P (upd F a o) H Ω' ∧ Same F (upd F a o) := by
  have sF : Same F (upd F a o) := fun b u q => by rw [upd_ne (ne_of_none q nF)]; exact q
  refine ⟨⟨h.p0, h.pf, fun x hx => h.pd x (hm x hx).1, fun b q => by rw [upd_ne (fun z => q (by rw [z]; exact nP))]; exact h.pF b q, h.f0.trans sF, fun b q z => ?_, h.dm, fun b u q => ?_, fun x hx => ?_, nd⟩, sF⟩
  · by_cases hb : b = a
    · rw [hb]; exact n0
    · rw [upd_ne hb] at q; exact h.fn b q z
  · by_cases hb : b = a
    · rw [hb] at q ⊢; rw [upd_same] at q; rw [ha]; exact q
    · rw [upd_ne hb] at q; exact h.ex b u q
  · obtain ⟨q, ne⟩ := hm x hx
    obtain ⟨h1, u, h2, h3⟩ := h.own x q
    exact ⟨by rw [upd_ne ne]; exact h1, u, h2, h3.same sF⟩
/-- a callee's state, and back -/
theorem Ok.enter (h : Ok E P F H Ω) : Ok ⟨⟨F, H, P⟩, E.K⟩ P F H Ω := ⟨Same.refl P, h.pf, h.pd, h.pF, Same.refl F, fun a q z => absurd z q, fun a q => q, h.ex, h.own, h.nd⟩
theorem Ok.leave {P' F' H' : Hp} {Ω' : Om} (h : Ok E P F H Ω) (k : Ok ⟨⟨F, H, P⟩, E.K⟩ P' F' H' Ω') : Ok E P F' H' Ω' := by
  refine ⟨h.p0, fun b u q => k.pf b u (k.p0 b u q), fun x hx => k.p0.free (k.pd x hx), fun a q => k.pF a (fun z => q (k.p0.free z)), h.f0.trans k.f0, fun a q z => ?_, fun a q => h.dm a (k.dm a q), k.ex, k.own, k.nd⟩
  by_cases e : F a = none
  · exact h.dm a (k.fn a q e)
  · exact h.fn a e z
/-- one more thing that is left alone -/
theorem Ok.guard (h : Ok E P F H Ω) {p : Addr} {o : HO} (e : H p = none) : Ok E (upd P p o) F (upd H p o) Ω := by
  have nP := h.pf.free e
  have k := h.newX (o := o) e
  refine ⟨h.p0.trans fun b u q => by rw [upd_ne (ne_of_none q nP)]; exact q, fun b u q => ?_, fun x hx => ?_, fun a q => ?_, k.f0, k.fn, k.dm, k.ex, k.own, k.nd⟩
  · by_cases hb : b = p
    · rw [hb] at q ⊢; rw [upd_same] at q ⊢; exact q
    · rw [upd_ne hb] at q ⊢; exact h.pf b u q
  · obtain ⟨_, u, h2, _⟩ := h.own x hx
    rw [upd_ne (ne_of_none h2 e)]
    exact h.pd x hx
  · by_cases ha : a = p
    · rw [ha]; exact h.free e
    · rw [upd_ne ha] at q; exact h.pF a q
/-- the guarded thing is changed by its owner -/
theorem Ok.poke {p : Addr} {o o' : HO} (h : Ok E (upd P p o) F H Ω) (n0 : E.P0 p = none) (nF : F p = none) (np : P p = none) : Ok E (upd P p o') F (upd H p o') Ω := by
  have hp : H p = some o := h.pf p o upd_same
  refine ⟨fun b u q => ?_, fun b u q => ?_, fun x hx => ?_, fun b q => ?_, h.f0, h.fn, fun b q => ?_, fun b u q => ?_, fun x hx => ?_, h.nd⟩
  · have ne : b ≠ p := ne_of_none q n0
    have := h.p0 b u q
    rw [upd_ne ne] at this ⊢
    exact this
  · by_cases hb : b = p
    · rw [hb] at q ⊢; rw [upd_same] at q ⊢; exact q
    · have := h.pf b u (by rw [upd_ne hb] at q ⊢; exact q)
      rw [upd_ne hb]; exact this
  · have := h.pd x hx
    have ne : x.1 ≠ p := fun z => by rw [z, upd_same] at this; cases this
    rw [upd_ne ne] at this ⊢
    exact this
  · by_cases hb : b = p
    · rw [hb]; exact nF
    · exact h.pF b (by rw [upd_ne hb] at q ⊢; exact q)
  · by_cases hb : b = p
    · rw [hb, upd_same] at q; cases q
    · rw [upd_ne hb] at q; exact h.dm b q
  · rw [upd_ne (ne_of_none q nF)]; exact h.ex b u q
  · obtain ⟨h1, u, h2, h3⟩ := h.own x hx
    have := h.pd x hx
    have ne : x.1 ≠ p := fun z => by rw [z, upd_same] at this; cases this
    exact ⟨h1, u, by rw [upd_ne ne]; exact h2, h3⟩
/-- no longer guarded: frozen, a cell, or let go -/
theorem Ok.letP {P' : Hp} (h : Ok E P' F H Ω) (s0 : Same E.P0 P) (s : Same P P') : Ok E P F H Ω := ⟨s0, fun b u q => h.pf b u (s b u q), fun x hx => s.free (h.pd x hx), fun a q => h.pF a (fun z => q (s.free z)), h.f0, h.fn, h.dm, h.ex, h.own, h.nd⟩
/-- what was guarded becomes a cell -/
theorem Ok.adopt {p : Addr} {o : HO} {c : OC} (h : Ok E (upd P p o) F H Ω) (s0 : Same E.P0 P) (np : P p = none) (r : RpO E.K F o c) : Ok E P F H ((p, c) :: Ω) := by
  have sP : Same P (upd P p o) := fun b u q => by rw [upd_ne (ne_of_none q np)]; exact q
  have k := h.letP s0 sP
  have hp : H p = some o := h.pf p o upd_same
  have nF : F p = none := h.pF p (by rw [upd_same]; exact fun z => nomatch z)
  have ne : ∀ x ∈ Ω, x.1 ≠ p := fun x hx z => by
    have := h.pd x hx
    rw [z, upd_same] at this
    cases this
  refine ⟨k.p0, k.pf, fun x hx => ?_, k.pF, k.f0, k.fn, k.dm, k.ex, fun x hx => ?_, ?_⟩
  · rcases List.mem_cons.mp hx with q | q
    · rw [q]; exact np
    · exact k.pd x q
  · rcases List.mem_cons.mp hx with q | q
    · rw [q]; exact ⟨nF, o, hp, r⟩
    · exact k.own x q
  · rw [List.map_cons]
    refine List.nodup_cons.mpr ⟨fun z => ?_, k.nd⟩
    obtain ⟨x, hx, e⟩ := List.mem_map.mp z
    exact ne x hx e
/-- what was guarded becomes data -/
theorem Ok.adoptF {p : Addr} {o : HO} (h : Ok E (upd P p o) F H Ω) (s0 : Same E.P0 P) (np : P p = none) (n0 : E.H0 p = none) : Ok E P (upd F p o) H Ω ∧ Same F (upd F p o) := by
  have sP : Same P (upd P p o) := fun b u q => by rw [upd_ne (ne_of_none q np)]; exact q
  have k := h.letP s0 sP
  have nF : F p = none := h.pF p (by rw [upd_same]; exact fun z => nomatch z)
  refine k.frz (c := .raw o) (h.pf p o upd_same) n0 nF np (fun x hx => ⟨hx, fun z => ?_⟩) k.nd
  have := h.pd x hx
  rw [z, upd_same] at this
  cases this
end
end Z
/-! Z2: calls of defs where no repr is under way (A.guards = some []). -/
namespace Z
open PySem PySem.Spec PyProof.Rows L2
structure FnG (P : Program) (w : World) (K : Frag) (mg : Str → Option Value) (base : Heap) (CX : CXT) (k : Nat) (f : Addr) (fd : FuncData) (ps : List Str) (sp : Sp) : Prop where
  len : ∀ vs H Q E, sp vs H Q E → vs.length = ps.length
  go : ∀ (A : Around) (outer : List Env) (s : Shared) (H : Hp) (args : Args) (us : List Value) (vs : List V) (Q : VK) (E : XK),
    Room k A → A.guards = some [] → Env0 P w K mg base A outer s H → BindsTo s fd args (ps.zip us) → Vals vs us → sp vs H Q E →
    codeAny (model P w) A (.call (.ref f) args) (CR CX outer P w H s Q E) s
section
variable {P : Program} {w : World} {K : Frag} {mg : Str → Option Value} {base : Heap} {CX : CXT} {k : Nat} {f : Addr} {fd : FuncData} {ps : List Str} {sp : Sp}
theorem FnG.up {j : Nat} (F : FnG P w K mg base CX j f fd ps sp) (h : j ≤ k) : FnG P w K mg base CX k f fd ps sp :=
  ⟨F.len, fun A outer s H args us vs Q E hr => F.go A outer s H args us vs Q E (hr.mono h)⟩
/-- a def by its body -/
theorem fnG_of {name qual : Str} {params : Arguments} {body : List Stmt} {scope : Scope} {dV kV doc pm cdv ct oc : Value} {an od : Option Addr} {osl : Array (Option Value)} {N : List Str}
    (lk : K.lookup f = some ⟨oc, od, .func (PySem.W.fnOf name qual params body scope dV kV doc pm an cdv ct), osl⟩) (hcd : PySem.W.codeIn K cdv qual = true) (S : FnScope N ps scope)
    (len : ∀ vs H Q E, sp vs H Q E → vs.length = ps.length)
    (hbody : ∀ (A : Around) (outer : List Env) (s : Shared) (H : Hp) (vs : List V) (Q : VK) (E : XK), A.guards = some [] → Room k (A.deeper (envOfC qual scope s.heap.objs.size f cdv)) → sp vs H Q E →
      ∃ t, PSs (cxOf CX P w K mg base N qual scope f cdv A outer s H E) body t ∧ t { nx := fun _ H' => Q .non H', rt := Q } (start N vs) H) :
    FnG P w K mg base CX (k + 1) f (PySem.W.fnOf name qual params body scope dV kV doc pm an cdv ct) ps sp := by
  refine ⟨len, fun A outer s H args us vs Q E hr hgd e0 hb rv hsp => ?_⟩
  have old := fun b o e => (e0.bs b o e).1
  have KX : K.In s.heap := e0.mod.kin.keeps old
  have lim : s.heap.NoLimit := e0.mod.nolimit.keeps old
  have hkind : ∀ y ∈ ps.zip us, scope.names.lookup y.1 = some .local ∨ (scope.names.lookup y.1 = some .cell ∧ ((cellsFrom (s.heap.objs.size + 1) scope.names []).lookup y.1).isSome = true) := by
    rintro ⟨n, v⟩ hy
    exact (S.par n (List.of_mem_zip hy).1).elim .inl fun q => .inr ⟨q, PySem.W.cellsFrom_some _ _ _ (.inl q)⟩
  refine codeAny_call_function hr.depth (KX _ _ lk) rfl S.co S.gen rfl (PySem.W.codeRec_of KX hcd) (hb _ _ _ _ (wpAny_newFunctionEnv_cells S.kind hkind fun env he s1 x => ?_))
  cases he
  refine ⟨lim.keeps x.toInCall.keep, codeAny_func ?_⟩
  obtain ⟨t, ht, hq⟩ := hbody A outer s H vs Q E hgd (hr.deeper _) hsp
  have I0 := inv_start (CX := CX) (P := P) (w := w) (mg := mg) (E := E) S hr.hd e0 (len _ _ _ _ hsp) rv x
  refine wpAny_mono (ht.run [] s1 (start N vs) H _ I0 hq) (fun fl s' hs => ?_) fun _ _ z => z
  cases fl with
  | ret u => obtain ⟨v, σ', H', J, rv, q⟩ := hs; exact ⟨v, H', J.os, J.bare, J.base, J.hok, rv, q⟩
  | next => obtain ⟨σ', H', J, q⟩ := hs; exact ⟨.non, H', J.os, J.bare, J.base, J.hok, rfl, q⟩
  | brk => obtain ⟨_, _, _, q⟩ := hs; exact q.elim
  | cont => obtain ⟨_, _, _, q⟩ := hs; exact q.elim
end
section
variable {X : Cx} {CX : CXT} {k : Nat} {f : Addr} {fd : FuncData} {ps ks : List Str} {sp : Sp} {E : L2.St → XK} {x : Str} {p pos : Pos} {e : Expr} {es : List Expr} {kws : List Keyword} {t tk : TA}
/-- what a callee raises, at the caller's slots, reaches what this body wants -/
def PassAt (CX : CXT) (X : Cx) (σ : L2.St) (E : XK) : Prop := ∀ (pins : List (Addr × Obj)) (H : Hp) (s : Shared) (e : Value) (s' : Shared), Inv X pins σ H s → CX X.stack H s E e s' → X.xe e s'
theorem passAt0 {σ : L2.St} : PassAt CX0 X σ E0 := fun _ _ _ _ _ _ h => h.elim
theorem runG {pins : List (Addr × Obj)} {σ : L2.St} {H : Hp} {s : Shared} {Q : VK} {args : Args} {us : List Value} {vs : List V} (F : FnG X.prog X.w X.K X.mg X.base CX k f fd ps sp) (hr : Room k X.A) (hgd : X.A.guards = some []) (hx : PassAt CX X σ (E σ))
    (I : Inv X pins σ H s) (hb : us.length = ps.length → BindsTo s fd args (ps.zip us)) (r : Vals vs us) (h : sp vs H Q (E σ)) :
    codeAny (model X.prog X.w) X.A (.call (.ref f) args) (fun r s' => match r with | .ok (.ret u) => EP X pins σ Q u s' | .ok _ => False | .error e => X.xe e s') s := by
  have hl : us.length = ps.length := by rw [← r.length]; exact F.len _ _ _ _ h
  refine codeAny_mono (F.go X.A X.stack s H args us vs Q (E σ) hr hgd I.env0 (hb hl) r h) fun r s' hq => ?_
  match r, hq with
  | .error e, hq => exact hx pins H s e s' I hq
  | .ok (.ret u), hq => exact I.after hq
  | .ok .next, hq => exact hq
  | .ok .brk, hq => exact hq
  | .ok .cont, hq => exact hq
theorem wp_of_code {A : Around} {u : Value} {us : List Value} {kw : List (Str × Value)} {s : Shared} {Q : Value → Shared → Prop} {M : Model} {E' : Value → Shared → Prop}
    (h : codeAny M A (.call u ⟨us, kw⟩) (fun r s' => match r with | .ok (.ret u) => Q u s' | .ok _ => False | .error e => E' e s') s) : wpAny M A (call u us kw) Q E' s := by
  refine wpAny_call (codeAny_mono h fun r s' hq => ?_)
  match r, hq with
  | .error e, hq => exact hq
  | .ok (.ret u), hq => exact hq
  | .ok .next, hq => exact hq.elim
  | .ok .brk, hq => exact hq.elim
  | .ok .cont, hq => exact hq.elim
def tCallG (sp : Sp) (E : L2.St → XK) (t : TA) : TE := fun σ H Q => t σ H fun vs H1 => sp vs H1 Q (E σ)
def tCallGK (sp : Sp) (gV : List V → List V → List V) (E : L2.St → XK) (t tk : TA) : TE := fun σ H Q => t σ H fun vs H1 => tk σ H1 fun zs H2 => sp (gV vs zs) H2 Q (E σ)
/-- f(e, ..) -/
theorem pg_call (F : FnG X.prog X.w X.K X.mg X.base CX k f fd ps sp) (hr : Room k X.A) (hgd : X.A.guards = some []) (hg : Gl X x) (hm : X.mg x = some (.ref f)) (hk : PySem.W.keepIn X.K (.ref f) = true)
    (hb : Binds X.K fd ps []) (hx : ∀ σ, PassAt CX X σ (E σ)) (ha : PA X (e :: es) t) (hdb : (x == ("__debug__" : Str)) = false := by decide)
    (he : starEach (e :: es) X.env = (false, eval e X.env) :: starEach es X.env := by rfl) (hpl : (backTo pos (starEach es X.env)).any (·.1) = false := by rfl) :
    PE X (.Call (.Name x p) (e :: es) [] pos) (tCallG sp E t) := by
  refine ⟨fun pins s σ H Q I h => wpAny_Call_Name_kw (ld_glob I hg hm (PySem.W.callWith_K (h₀ := X.base) I.ok.mod.kin hk
    (thn (ha.run pos pins s σ H _ I h) fun us s1 ⟨vs, H1, I1, r, q⟩ => ⟨I1.kIn, ?_⟩) he hpl) hdb)⟩
  refine wp_of_code (runG F hr hgd (hx σ) I1 (fun hl => ?_) r q)
  have b := hb s1 us I1.kIn (by rw [List.append_nil]; exact hl)
  rw [List.append_nil] at b
  exact b
/-- f() -/
theorem pg_call0 (F : FnG X.prog X.w X.K X.mg X.base CX k f fd ps sp) (hr : Room k X.A) (hgd : X.A.guards = some []) (hg : Gl X x) (hm : X.mg x = some (.ref f)) (hk : PySem.W.keepIn X.K (.ref f) = true)
    (hb : Binds X.K fd ps []) (hx : ∀ σ, PassAt CX X σ (E σ)) (hdb : (x == ("__debug__" : Str)) = false := by decide) : PE X (.Call (.Name x p) [] [] pos) (tCallG sp E tNil) := by
  refine ⟨fun pins s σ H Q I h => wpAny_Call_Name_kw (ld_glob I hg hm (PySem.W.callWith_K0 I.kIn hk ?_) hdb)⟩
  exact wp_of_code (runG (us := []) F hr hgd (hx σ) I (fun hl => hb s [] I.kIn hl) .nil h)
end
end Z
/-! Z3: expressions over data: what is to hold (AE, AT, AA), and that it is enough (JE, JT, JA). -/
namespace Z
open PySem PySem.Spec PyProof.Rows L2
abbrev PhiE := SV → Om → Prop
abbrev AE := Rho → Om → PhiE → Prop
abbrev AT := Rho → Om → (Bool → Om → Prop) → Prop
abbrev AA := Rho → Om → (List SV → Om → Prop) → Prop
abbrev AR := SV → SV → Om → PhiE → Prop
abbrev AC := List SV → Om → PhiE → Prop
abbrev AM := SV → List SV → Om → PhiE → Prop
/-- what is known behind a step -/
abbrev Aft (E : En) (P F : Hp) (Φ : PhiE) (Q : VK) : Prop := ∀ {v : V} {sv : SV} {Ω' : Om} {F' H' : Hp}, Φ sv Ω' → Ok E P F' H' Ω' → Same F F' → Rp E.K F' v sv → Q v H'
structure SnE (E : En) (te : TE) (a : AE) : Prop where
  go : ∀ {ρ : Rho} {Ω : Om} {Φ : PhiE}, a ρ Ω Φ → ∀ {P F H : Hp} {σ : L2.St} {Q : VK}, Ok E P F H Ω → RpE E.K F σ ρ → Aft E P F Φ Q → te σ H Q
structure SnT (E : En) (te : TT) (a : AT) : Prop where
  go : ∀ {ρ : Rho} {Ω : Om} {Φ : Bool → Om → Prop}, a ρ Ω Φ → ∀ {P F H : Hp} {σ : L2.St} {Q : Bool → Hp → Prop}, Ok E P F H Ω → RpE E.K F σ ρ →
  (∀ {b : Bool} {Ω' : Om} {F' H' : Hp}, Φ b Ω' → Ok E P F' H' Ω' → Same F F' → Q b H') → te σ H Q
structure SnA (E : En) (te : TA) (a : AA) : Prop where
  go : ∀ {ρ : Rho} {Ω : Om} {Φ : List SV → Om → Prop}, a ρ Ω Φ → ∀ {P F H : Hp} {σ : L2.St} {Q : List V → Hp → Prop}, Ok E P F H Ω → RpE E.K F σ ρ →
  (∀ {vs : List V} {svs : List SV} {Ω' : Om} {F' H' : Hp}, Φ svs Ω' → Ok E P F' H' Ω' → Same F F' → Paired (Rp E.K F') vs svs → Q vs H') → te σ H Q
structure SnR (E : En) (r : R2) (ar : AR) : Prop where
  go : ∀ {x y : SV} {Ω : Om} {Φ : PhiE}, ar x y Ω Φ → ∀ {P F H : Hp} {vx vy : V} {Q : VK}, Ok E P F H Ω → Rp E.K F vx x → Rp E.K F vy y → Aft E P F Φ Q → r vx vy H Q
structure SnU (E : En) (r : V → Hp → VK → Prop) (ar : SV → Om → PhiE → Prop) : Prop where
  go : ∀ {x : SV} {Ω : Om} {Φ : PhiE}, ar x Ω Φ → ∀ {P F H : Hp} {vx : V} {Q : VK}, Ok E P F H Ω → Rp E.K F vx x → Aft E P F Φ Q → r vx H Q
structure SnC (E : En) (r : List V → Hp → VK → Prop) (ac : AC) : Prop where
  go : ∀ {xs : List SV} {Ω : Om} {Φ : PhiE}, ac xs Ω Φ → ∀ {P F H : Hp} {vs : List V} {Q : VK}, Ok E P F H Ω → Paired (Rp E.K F) vs xs → Aft E P F Φ Q → r vs H Q
structure SnM (E : En) (r : V → List V → Hp → VK → Prop) (am : AM) : Prop where
  go : ∀ {x : SV} {xs : List SV} {Ω : Om} {Φ : PhiE}, am x xs Ω Φ → ∀ {P F H : Hp} {v : V} {vs : List V} {Q : VK}, Ok E P F H Ω → Rp E.K F v x → Paired (Rp E.K F) vs xs → Aft E P F Φ Q → r v vs H Q
abbrev enX (X : Cx) (G : Gn) : En := ⟨G, X.K⟩
def JE (X : Cx) (G : Gn) (e : Expr) (a : AE) : Prop := ∃ te, PE X e te ∧ SnE (enX X G) te a
def JT (X : Cx) (G : Gn) (e : Expr) (a : AT) : Prop := ∃ te, PT X e te ∧ SnT (enX X G) te a
def JW (X : Cx) (G : Gn) (e : Expr) (a : AT) : Prop := ∃ te, PW X e te ∧ SnT (enX X G) te a
def JA (X : Cx) (G : Gn) (es : List Expr) (a : AA) : Prop := ∃ te, PA X es te ∧ SnA (enX X G) te a
def JK (X : Cx) (G : Gn) (es : List Keyword) (a : AA) : Prop := ∃ te, PK X es te ∧ SnA (enX X G) te a
def JOp (X : Cx) (G : Gn) (f : Value → Value → Sem Value) (ar : AR) : Prop := ∃ r, OpR X f r ∧ SnR (enX X G) r ar
def JUn (X : Cx) (G : Gn) (f : Value → Sem Value) (ar : SV → Om → PhiE → Prop) : Prop := ∃ r, UnR X f r ∧ SnU (enX X G) r ar
def JIx (X : Cx) (G : Gn) (ar : AR) : Prop := ∃ r, IxR X r ∧ SnR (enX X G) r ar
def JC (X : Cx) (G : Gn) (f : Value) (ac : AC) : Prop := ∃ r, CallR X f r ∧ SnC (enX X G) r ac
def JM (X : Cx) (G : Gn) (id : String) (am : AM) : Prop := ∃ r, MtR X id r ∧ SnM (enX X G) r am
/-! ### modes of new lists: data at once, or a cell of the def's own -/
abbrev Mode := Option (Addr → Prop)
def dataOf : List SV → Option (List PyData)
  | [] => some []
  | .d x :: r => match dataOf r with | some ds => some (x :: ds) | none => none
  | _ :: _ => none
def mkL (xs : List SV) : OC := match dataOf xs with | some ds => .lst ds | none => .lx xs
def newL (m : Mode) (ds : List PyData) (Ω : Om) (Φ : PhiE) : Prop := match m with
  | none => Φ (.d (.list ds)) Ω
  | some Fr => ∀ a, Fr a → Φ (.r (.ref a)) ((a, .lst ds) :: Ω)
def newX (m : Mode) (xs : List SV) (Ω : Om) (Φ : PhiE) : Prop := match m with
  | none => match dataOf xs with | some ds => Φ (.d (.list ds)) Ω | none => False
  | some Fr => ∀ a, Fr a → Φ (.r (.ref a)) ((a, mkL xs) :: Ω)
theorem dataOf_ok {K : Frag} {F : Hp} : ∀ {xs : List SV} {ds : List PyData} {vs : List V}, dataOf xs = some ds → Paired (Rp K F) vs xs → DqAll K F vs ds
  | [], ds, vs, h, r => by
    cases h
    cases r
    exact .nil
  | .d x :: xs, ds, vs, h, r => by
    cases r with
    | cons r1 r2 =>
      unfold dataOf at h
      cases e : dataOf xs with
      | none => rw [e] at h; cases h
      | some ds' =>
        rw [e] at h
        cases h
        exact .cons r1 (dataOf_ok e r2)
  | .l x :: xs, ds, vs, h, r => by cases h
  | .r x :: xs, ds, vs, h, r => by cases h
theorem mkL_ok {K : Frag} {F : Hp} {xs : List SV} {vs : List V} (r : Paired (Rp K F) vs xs) : RpO K F (.lst vs) (mkL xs) := by
  unfold mkL
  split
  · rename_i ds e; exact dataOf_ok e r
  · exact r
/-- the mode fits the entry -/
def MOk (E : En) (m : Mode) : Prop := ∀ Fr, m = some Fr → ∀ a, E.H0 a = none → Fr a
theorem mok0 {E : En} : MOk E none := fun _ h => by cases h
theorem mok1 {E : En} : MOk E (some fun a => E.H0 a = none) := fun _ h a e => by cases h; exact e
section
variable {E : En} {P F H : Hp} {Ω : Om} {Φ : PhiE} {Q : VK} {m : Mode}
theorem newL_ok (hm : MOk E m) (o : Ok E P F H Ω) {ds : List PyData} {vs : List V} (r : DqAll E.K F vs ds) (h : newL m ds Ω Φ) (k : Aft E P F Φ Q) {p : Addr} (hp : H p = none) : Q (.ref p) (upd H p (.lst vs)) := by
  cases m with
  | none =>
    obtain ⟨o1, s1⟩ := o.newF (o := .lst vs) hp
    exact k h o1 s1 (Dq.lst upd_same (dqa_same s1 _ _ r))
  | some Fr => exact k (h p (hm _ rfl p (o.dm p hp))) (o.newO hp (c := .lst ds) r) (Same.refl F) rfl
theorem newX_ok (hm : MOk E m) (o : Ok E P F H Ω) {xs : List SV} {vs : List V} (r : Paired (Rp E.K F) vs xs) (h : newX m xs Ω Φ) (k : Aft E P F Φ Q) {p : Addr} (hp : H p = none) : Q (.ref p) (upd H p (.lst vs)) := by
  cases m with
  | none =>
    have h' : (match dataOf xs with | some ds => Φ (.d (.list ds)) Ω | none => False) := h
    split at h'
    · rename_i ds e
      obtain ⟨o1, s1⟩ := o.newF (o := .lst vs) hp
      exact k h' o1 s1 (Dq.lst upd_same (dqa_same s1 _ _ (dataOf_ok e r)))
    · exact h'.elim
  | some Fr => exact k (h p (hm _ rfl p (o.dm p hp))) (o.newO hp (mkL_ok r)) (Same.refl F) rfl
end
/-! ### what is read as a list of data -/
def rdL (x : SV) (Ω : Om) (k : List PyData → Prop) : Prop := match x with
  | .d (.list ds) => k ds
  | .r (.ref a) => ∃ ds f, At Ω a (.lst ds) f ∧ k ds
  | _ => False
def rdS (x : SV) (Ω : Om) (k : List PyData → Prop) : Prop := match x with
  | .d (.list ds) => k ds
  | .d (.tuple ds) => k ds
  | .l ds => k ds
  | .r (.ref a) => ∃ ds f, At Ω a (.lst ds) f ∧ k ds
  | _ => False
def rdD (x : SV) (Ω : Om) (k : PyData → Prop) : Prop := match x with
  | .d d => k d
  | .l ds => k (.list ds)
  | .r (.ref a) => ∃ ds f, At Ω a (.lst ds) f ∧ k (.list ds)
  | _ => False
section
variable {E : En} {P F H : Hp} {Ω : Om} {x : SV} {v : V}
theorem rdL_ok {k : List PyData → Prop} (h : rdL x Ω k) (o : Ok E P F H Ω) (r : Rp E.K F v x) : ∃ a vs ds, v = .ref a ∧ H a = some (.lst vs) ∧ DqAll E.K F vs ds ∧ k ds := by
  unfold rdL at h
  split at h
  · obtain ⟨a, xs, e, hF, ha⟩ := dql r
    exact ⟨a, xs, _, e, o.ex _ _ hF, ha, h⟩
  · obtain ⟨ds, f, t, hk⟩ := h
    obtain ⟨vs, h1, h2⟩ := o.lst t
    exact ⟨_, vs, ds, r, h1, h2, hk⟩
  · exact h.elim
theorem rdS_ok {k : List PyData → Prop} (h : rdS x Ω k) (o : Ok E P F H Ω) (r : Rp E.K F v x) : ∃ a vs ds, v = .ref a ∧ (SqL E.K H a vs ∨ SqT E.K H a vs) ∧ DqAll E.K F vs ds ∧ k ds := by
  unfold rdS at h
  split at h
  · obtain ⟨a, xs, e, hF, ha⟩ := dql r
    exact ⟨a, xs, _, e, Or.inl (SqL.of (o.ex _ _ hF)), ha, h⟩
  · obtain ⟨a, xs, e, hF, ha⟩ := dqt r
    exact ⟨a, xs, _, e, Or.inr (sqt_same o.ex hF), ha, h⟩
  · obtain ⟨a, xs, e, hF, ha⟩ := r
    exact ⟨a, xs, _, e, Or.inl (o.ex.seq hF), ha, h⟩
  · obtain ⟨ds, f, t, hk⟩ := h
    obtain ⟨vs, h1, h2⟩ := o.lst t
    exact ⟨_, vs, ds, r, Or.inl (SqL.of h1), h2, hk⟩
  · exact h.elim
theorem rdD_ok {k : PyData → Prop} (h : rdD x Ω k) (o : Ok E P F H Ω) (r : Rp E.K F v x) : ∃ d, Dp E.K H v d ∧ k d := by
  unfold rdD at h
  split at h
  · exact ⟨_, Dq.dp _ _ (dq_same o.ex _ _ r), h⟩
  · obtain ⟨a, xs, rfl, hF, ha⟩ := r
    exact ⟨_, Dp.lst (o.ex.seq hF) (DqAll.dp _ _ (dqa_same o.ex _ _ ha)), h⟩
  · obtain ⟨ds, f, t, hk⟩ := h
    obtain ⟨vs, h1, h2⟩ := o.lst t
    cases r
    exact ⟨_, Dp.lst (SqL.of h1) (DqAll.dp _ _ (dqa_same o.ex _ _ h2)), hk⟩
  · exact h.elim
end
/-! ### names, constants -/
section
variable {X : Cx} {G : Gn} {e a b : Expr} {aa ab : AE} {at_ bt : AT} {ta : AA} {pos : Pos} {m : Mode}
def aVar (i : Nat) : AE := fun ρ Ω Φ => match ρ[i]? with
  | some (some x) => Φ x Ω
  | _ => False
theorem je_var {i : Nat} (h : PE X e (tVar i)) : JE X G e (aVar i) := by
  refine ⟨_, h, ⟨fun {ρ Ω Φ} h {P F H σ Q} o r k => ?_⟩⟩
  unfold aVar at h
  split at h
  · rename_i x ex
    obtain ⟨v, h1, h2⟩ := rpe_get r ex
    exact ⟨v, h1, k h o (Same.refl F) h2⟩
  · exact h.elim
def aC (x : SV) : AE := fun _ Ω Φ => Φ x Ω
theorem je_c {v : V} {x : SV} (h : PE X e (tC v)) (hx : ∀ F, Rp X.K F v x) : JE X G e (aC x) := ⟨_, h, ⟨fun {ρ Ω Φ} h {P F H σ Q} o r k => k h o (Same.refl F) (hx F)⟩⟩
theorem je_int {i : Int} {j pos} : JE X G (.Constant (.int i) j pos) (aC (.d (.int i))) := je_c pe_int fun _ => .int i
theorem je_bl {c : Bool} {j pos} : JE X G (.Constant (.bool c) j pos) (aC (.d (.bool c))) := je_c pe_bl fun _ => .bl c
theorem je_non {j pos} : JE X G (.Constant .none j pos) (aC (.d .none)) := je_c pe_non fun _ => .non
theorem je_str {x j pos} : JE X G (.Constant (.str x) j pos) (aC (.d (.str x))) := je_c pe_str fun _ => .str x
/-- a built-in's name, a def, a class: as it is -/
theorem je_raw {v : V} (h : PE X e (tC v)) : JE X G e (aC (.r v)) := je_c h fun _ => rfl
/-! ### operators -/
def aBin (ar : AR) (a b : AE) : AE := fun ρ Ω Φ => a ρ Ω fun x Ω1 => b ρ Ω1 fun y Ω2 => ar x y Ω2 Φ
theorem bin_ok {E : En} {ta tb : TE} {r : R2} {ar : AR} (h1 : SnE E ta aa) (h2 : SnE E tb ab) (h3 : SnR E r ar) : SnE E (tOp r ta tb) (aBin ar aa ab) := ⟨fun {ρ Ω Φ} h {P F H σ Q} o rp k =>
  h1.go h o rp fun {v sv Ω1 F1 H1} q o1 s1 r1 => h2.go q o1 (rpe_same s1 rp) fun {u su Ω2 F2 H2} q2 o2 s2 r2 => h3.go q2 o2 (r1.same s2) r2 fun q3 o3 s3 r3 => k q3 o3 ((s1.trans s2).trans s3) r3⟩
theorem je_bin {op : Operator} {ar : AR} (ho : JOp X G (binaryOp op) ar) (ha : JE X G a aa) (hb : JE X G b ab) : JE X G (.BinOp a op b pos) (aBin ar aa ab) := by
  obtain ⟨r, h1, h2⟩ := ho
  obtain ⟨t, h3, h4⟩ := ha
  obtain ⟨u, h5, h6⟩ := hb
  exact ⟨_, pe_op h1 h3 h5, bin_ok h4 h6 h2⟩
theorem je_cmp {op : CmpOp} {ar : AR} (ho : JOp X G (compareOp op) ar) (ha : JE X G a aa) (hb : JE X G b ab) (hm : behindInMarks op b = false) : JE X G (.Compare a [op] [b] pos) (aBin ar aa ab) := by
  obtain ⟨r, h1, h2⟩ := ho
  obtain ⟨t, h3, h4⟩ := ha
  obtain ⟨u, h5, h6⟩ := hb
  exact ⟨_, pe_cmpR h1 h3 h5 hm, bin_ok h4 h6 h2⟩
def aUn (ar : SV → Om → PhiE → Prop) (a : AE) : AE := fun ρ Ω Φ => a ρ Ω fun x Ω1 => ar x Ω1 Φ
theorem je_un {op : UnaryOp} {ar : SV → Om → PhiE → Prop} (ho : JUn X G (unaryOp op) ar) (ha : JE X G a aa) : JE X G (.UnaryOp op a pos) (aUn ar aa) := by
  obtain ⟨r, h1, h2⟩ := ho
  obtain ⟨t, h3, h4⟩ := ha
  exact ⟨_, pe_un h1 h3, ⟨fun {ρ Ω Φ} h {P F H σ Q} o rp k => h4.go h o rp fun q o1 s1 r1 => h2.go q o1 r1 fun q3 o3 s3 r3 => k q3 o3 (s1.trans s3) r3⟩⟩
def arI (C : Int → Int → Prop) (g : Int → Int → PyData) : AR := fun x y Ω Φ => match x, y with
  | .d (.int i), .d (.int j) => C i j ∧ Φ (.d (g i j)) Ω
  | _, _ => False
def arI0 (g : Int → Int → PyData) : AR := fun x y Ω Φ => match x, y with
  | .d (.int i), .d (.int j) => Φ (.d (g i j)) Ω
  | _, _ => False
theorem arI_ok {E : En} {C : Int → Int → Prop} {g : Int → Int → PyData} {g' : Int → Int → V} (hg : ∀ i j F, Dq E.K F (g' i j) (g i j)) : SnR E (rI C g') (arI C g) := by
  refine ⟨fun {x y Ω Φ} h {P F H vx vy Q} o r1 r2 k => ?_⟩
  unfold arI at h
  split at h
  · exact ⟨_, _, dqi r1, dqi r2, h.1, k h.2 o (Same.refl F) (hg _ _ F)⟩
  · exact h.elim
theorem arI0_ok {E : En} {g : Int → Int → PyData} {g' : Int → Int → V} (hg : ∀ i j F, Dq E.K F (g' i j) (g i j)) : SnR E (rI0 g') (arI0 g) := by
  refine ⟨fun {x y Ω Φ} h {P F H vx vy Q} o r1 r2 k => ?_⟩
  unfold arI0 at h
  split at h
  · exact ⟨_, _, dqi r1, dqi r2, k h o (Same.refl F) (hg _ _ F)⟩
  · exact h.elim
abbrev arSub : AR := arI0 fun i j => .int (i - j)
abbrev arMul : AR := arI CMulX fun i j => .int (i * j)
abbrev arDiv : AR := arI CDivW fun i j => .int (i / j)
abbrev arMod : AR := arI (fun _ j => 0 < j) fun i j => .int (i % j)
abbrev arPow : AR := arI CPow fun i j => .int (i ^ j.toNat)
abbrev arLt : AR := arI0 fun i j => .bool (decide (i < j))
abbrev arLe : AR := arI0 fun i j => .bool (decide (i ≤ j))
abbrev arGt : AR := arI0 fun i j => .bool (decide (j < i))
abbrev arGe : AR := arI0 fun i j => .bool (decide (j ≤ i))
theorem jo_sub : JOp X G (binaryOp .Sub) arSub := ⟨_, op_sub, arI0_ok fun _ _ _ => .int _⟩
theorem jo_mulI : JOp X G (binaryOp .Mult) arMul := ⟨_, op_mulX, arI_ok fun _ _ _ => .int _⟩
theorem jo_div : JOp X G (binaryOp .FloorDiv) arDiv := ⟨_, op_fdivW, arI_ok fun _ _ _ => .int _⟩
theorem jo_mod : JOp X G (binaryOp .Mod) arMod := ⟨_, op_mod, arI_ok fun _ _ _ => .int _⟩
theorem jo_pow : JOp X G (binaryOp .Pow) arPow := ⟨_, op_pow, arI_ok fun _ _ _ => .int _⟩
theorem jo_lt : JOp X G (compareOp .Lt) arLt := ⟨_, op_lt, arI0_ok fun _ _ _ => .bl _⟩
theorem jo_le : JOp X G (compareOp .LtE) arLe := ⟨_, op_le, arI0_ok fun _ _ _ => .bl _⟩
theorem jo_gt : JOp X G (compareOp .Gt) arGt := ⟨_, op_gt, arI0_ok fun _ _ _ => .bl _⟩
theorem jo_ge : JOp X G (compareOp .GtE) arGe := ⟨_, op_ge, arI0_ok fun _ _ _ => .bl _⟩
def arNeg (x : SV) (Ω : Om) (Φ : PhiE) : Prop := match x with
  | .d (.int i) => Φ (.d (.int (-i))) Ω
  | _ => False
theorem ju_neg : JUn X G (unaryOp .USub) arNeg := by
  refine ⟨_, un_neg, ⟨fun {x Ω Φ} h {P F H vx Q} o r k => ?_⟩⟩
  unfold arNeg at h
  split at h
  · exact ⟨_, dqi r, k h o (Same.refl F) (.int _)⟩
  · exact h.elim
/-- a + b: ints, tuples, texts, lists -/
def arAdd (m : Mode) : AR := fun x y Ω Φ => match x, y with
  | .d (.int i), .d (.int j) => Φ (.d (.int (i + j))) Ω
  | .d (.tuple xs), .d (.tuple ys) => xs.length + ys.length ≤ sizeLine ∧ Φ (.d (.tuple (xs ++ ys))) Ω
  | .d (.str s), .d (.str t) => s.length + t.length ≤ sizeLine ∧ Φ (.d (.str (s ++ t))) Ω
  | x, y => rdL x Ω fun xs => rdL y Ω fun ys => xs.length + ys.length ≤ sizeLine ∧ newL m (xs ++ ys) Ω Φ
theorem dqa_app {K : Frag} {F : Hp} : ∀ {vs ws : List V} {ds es : List PyData}, DqAll K F vs ds → DqAll K F ws es → DqAll K F (vs ++ ws) (ds ++ es)
  | _, _, _, _, .nil, h => h
  | _, _, _, _, .cons r t, h => .cons r (dqa_app t h)
theorem dqa_nil {K : Frag} {F : Hp} {vs : List V} (h : DqAll K F vs []) : vs = [] := by cases h; rfl
theorem jo_add (hm : MOk (enX X G) m) : JOp X G (binaryOp .Add) (arAdd m) := by
  refine ⟨_, OpR.or op_add (OpR.or op_catA (OpR.or op_add_str op_cat)), ⟨fun {x y Ω Φ} h {P F H vx vy Q} o r1 r2 k => ?_⟩⟩
  unfold arAdd at h
  split at h
  · exact Or.inl ⟨_, _, dqi r1, dqi r2, k h o (Same.refl F) (.int _)⟩
  · rename_i xs ys
    obtain ⟨a, vs, rfl, ha, da⟩ := dqt r1
    obtain ⟨b, ws, rfl, hb, db⟩ := dqt r2
    have e1 := dqa_len da
    have e2 := dqa_len db
    refine Or.inr (Or.inl ⟨a, b, vs, ws, rfl, rfl, sqt_same o.ex ha, sqt_same o.ex hb, by rw [e1, e2]; exact h.1, fun z => ?_, fun z1 z2 => ?_, fun z1 z2 p hp => ?_⟩)
    · subst z
      cases da
      exact k h.2 o (Same.refl F) r2
    · subst z2
      cases db
      have h2 := h.2
      rw [List.append_nil] at h2
      exact k h2 o (Same.refl F) r1
    · obtain ⟨o1, s1⟩ := o.newF (o := .tup (vs ++ ws)) hp
      exact k h.2 o1 s1 (Dq.tup (SqT.of upd_same) (dqa_same s1 _ _ (dqa_app da db)))
  · exact Or.inr (Or.inr (Or.inl ⟨_, _, dqs r1, dqs r2, h.1, k h.2 o (Same.refl F) (.str _)⟩))
  · obtain ⟨a, vs, ds, rfl, ha, da, h⟩ := rdL_ok h o r1
    obtain ⟨b, ws, es, rfl, hb, db, h1, h2⟩ := rdL_ok h o r2
    exact Or.inr (Or.inr (Or.inr ⟨a, b, vs, ws, rfl, rfl, ha, hb, by rw [dqa_len da, dqa_len db]; exact h1, fun p hp => newL_ok hm o (dqa_app da db) h2 k hp⟩))
/-- a == b -/
def arEq : AR := fun x y Ω Φ => match x, y with
  | .d (.int i), .d (.int j) => Φ (.d (.bool (decide (i = j)))) Ω
  | .d (.bool i), .d (.bool j) => Φ (.d (.bool (decide (i = j)))) Ω
  | .d (.str i), .d (.str j) => Φ (.d (.bool (decide (i = j)))) Ω
  | x, y => rdD x Ω fun d => rdD y Ω fun e => SeqAt.shaped d = true ∧ SeqAt.shaped e = true ∧ Φ (.d (.bool (PyData.eqv d e))) Ω
def arNe : AR := fun x y Ω Φ => match x, y with
  | .d (.int i), .d (.int j) => Φ (.d (.bool (!decide (i = j)))) Ω
  | .d (.bool i), .d (.bool j) => Φ (.d (.bool (!decide (i = j)))) Ω
  | .d (.str i), .d (.str j) => Φ (.d (.bool (!decide (i = j)))) Ω
  | x, y => rdD x Ω fun d => rdD y Ω fun e => SeqAt.shaped d = true ∧ SeqAt.shaped e = true ∧ Φ (.d (.bool (!PyData.eqv d e))) Ω
theorem jo_eq (hu : X.A.units + 64 < cLine) : JOp X G (compareOp .Eq) arEq := by
  refine ⟨_, OpR.or op_eq (op_eqD hu), ⟨fun {x y Ω Φ} h {P F H vx vy Q} o r1 r2 k => ?_⟩⟩
  unfold arEq at h
  split at h
  · cases dqi r1; cases dqi r2
    refine Or.inl ⟨rfl, k h o (Same.refl F) ?_⟩
    simp only [V.int.injEq]; exact .bl _
  · cases dqb r1; cases dqb r2
    refine Or.inl ⟨rfl, k h o (Same.refl F) ?_⟩
    simp only [V.bl.injEq]; exact .bl _
  · cases dqs r1; cases dqs r2
    refine Or.inl ⟨rfl, k h o (Same.refl F) ?_⟩
    simp only [V.str.injEq]; exact .bl _
  · obtain ⟨d, hd, h⟩ := rdD_ok h o r1
    obtain ⟨e, he, h1, h2, h3⟩ := rdD_ok h o r2
    exact Or.inr ⟨d, e, hd, he, h1, h2, k h3 o (Same.refl F) (.bl _)⟩
theorem jo_ne (hu : X.A.units + 64 < cLine) : JOp X G (compareOp .NotEq) arNe := by
  refine ⟨_, OpR.or op_ne (op_neD hu), ⟨fun {x y Ω Φ} h {P F H vx vy Q} o r1 r2 k => ?_⟩⟩
  unfold arNe at h
  split at h
  · cases dqi r1; cases dqi r2
    refine Or.inl ⟨rfl, k h o (Same.refl F) ?_⟩
    simp only [V.int.injEq]; exact .bl _
  · cases dqb r1; cases dqb r2
    refine Or.inl ⟨rfl, k h o (Same.refl F) ?_⟩
    simp only [V.bl.injEq]; exact .bl _
  · cases dqs r1; cases dqs r2
    refine Or.inl ⟨rfl, k h o (Same.refl F) ?_⟩
    simp only [V.str.injEq]; exact .bl _
  · obtain ⟨d, hd, h⟩ := rdD_ok h o r1
    obtain ⟨e, he, h1, h2, h3⟩ := rdD_ok h o r2
    exact Or.inr ⟨d, e, hd, he, h1, h2, k h3 o (Same.refl F) (.bl _)⟩
/-- a is None, a is not None -/
def isNon : SV → Bool
  | .d .none => true
  | .r v => decide (v = .non)
  | _ => false
theorem isNon_ok {K : Frag} {F : Hp} {v : V} : ∀ {x : SV}, Rp K F v x → decide (v = .non) = isNon x
  | .d .none, h => by cases dqn h; rfl
  | .d (.int i), h => by cases dqi h; rfl
  | .d (.bool b), h => by cases dqb h; rfl
  | .d (.str b), h => by cases dqs h; rfl
  | .d (.list b), h => by obtain ⟨a, _, rfl, _⟩ := dql h; rfl
  | .d (.tuple b), h => by obtain ⟨a, _, rfl, _⟩ := dqt h; rfl
  | .d (.dict b), h => by cases h
  | .l ds, h => by obtain ⟨a, _, rfl, _⟩ := h; rfl
  | .r u, h => by cases (show v = u from h); rfl
def arIs : AR := fun x y Ω Φ => match y with
  | .d .none => Φ (.d (.bool (isNon x))) Ω
  | _ => False
def arIsNot : AR := fun x y Ω Φ => match y with
  | .d .none => Φ (.d (.bool (!isNon x))) Ω
  | _ => False
theorem jo_is : JOp X G (compareOp .Is) arIs := by
  refine ⟨_, op_isN, ⟨fun {x y Ω Φ} h {P F H vx vy Q} o r1 r2 k => ?_⟩⟩
  unfold arIs at h
  split at h
  · exact ⟨dqn r2, k h o (Same.refl F) (by rw [isNon_ok r1]; exact .bl _)⟩
  · exact h.elim
theorem jo_isnot : JOp X G (compareOp .IsNot) arIsNot := by
  refine ⟨_, op_notN, ⟨fun {x y Ω Φ} h {P F H vx vy Q} o r1 r2 k => ?_⟩⟩
  unfold arIsNot at h
  split at h
  · exact ⟨dqn r2, k h o (Same.refl F) (by rw [isNon_ok r1]; exact .bl _)⟩
  · exact h.elim
/-! ### truth, tests, and, or, not -/
/-- the ways of a truth value -/
structure br (b : Bool) (A B : Prop) : Prop where
  t : b = true → A
  f : b = false → B
theorem br_of {b : Bool} {A B : Prop} (h1 : b = true → A) (h2 : b = false → B) : br b A B := ⟨h1, h2⟩
theorem br_d {p : Prop} [Decidable p] {A B : Prop} (h1 : p → A) (h2 : ¬p → B) : br (decide p) A B := ⟨fun h => h1 (of_decide_eq_true h), fun h => h2 (of_decide_eq_false h)⟩
theorem br_n {b : Bool} {A B : Prop} (h : br b B A) : br (!b) A B := ⟨fun e => h.f (by cases b <;> simp_all), fun e => h.t (by cases b <;> simp_all)⟩
theorem br_T {A B : Prop} (h : A) : br true A B := ⟨fun _ => h, fun e => (by cases e)⟩
theorem br_F {A B : Prop} (h : B) : br false A B := ⟨fun e => (by cases e), fun _ => h⟩
def brX (b : Bool) (A B : Prop) : Prop := match b with
  | true => A
  | false => B
theorem br_out {b : Bool} {A B : Prop} (h : br b A B) : brX b A B := by
  cases b
  · exact h.f rfl
  · exact h.t rfl
theorem br_ite {b : Bool} {A B : Prop} (h : brX b A B) : if b = true then A else B := by
  cases b
  · rw [if_neg Bool.false_ne_true]; exact h
  · rw [if_pos rfl]; exact h
def truD (x : SV) (Ω : Om) (k : Bool → Prop) : Prop := match x with
  | .d .none => k false
  | .d (.bool b) => k b
  | .d (.int i) => k (i != 0)
  | .d (.str y) => y.length ≤ sizeLine ∧ k ((y.length : Int) != 0)
  | x => rdS x Ω fun ds => k (!ds.isEmpty)
theorem truD_ok {E : En} {P F H : Hp} {Ω : Om} {x : SV} {v : V} {k : Bool → Prop} (h : truD x Ω k) (o : Ok E P F H Ω) (r : Rp E.K F v x) : ∃ b, TruV E.K v H b ∧ k b := by
  unfold truD at h
  split at h
  · cases dqn r; exact ⟨false, rfl, h⟩
  · cases dqb r; exact ⟨_, rfl, h⟩
  · cases dqi r; exact ⟨_, rfl, h⟩
  · cases dqs r; exact ⟨_, ⟨h.1, rfl⟩, h.2⟩
  · obtain ⟨a, vs, ds, rfl, hs, da, hk⟩ := rdS_ok h o r
    have ee : (!vs.isEmpty) = !ds.isEmpty := by cases da <;> rfl
    rcases hs with hs | hs
    · exact ⟨_, Or.inl ⟨vs, hs, ee.symm⟩, hk⟩
    · exact ⟨_, Or.inr (Or.inl ⟨vs, hs, ee.symm⟩), hk⟩
def aTru (a : AE) : AT := fun ρ Ω Φ => a ρ Ω fun x Ω' => truD x Ω' fun b => Φ b Ω'
theorem jt_of (ha : JE X G a aa) (he : ∀ whole, isTrue a X.env whole = (do let v ← whole; standAt a.pos; holding [v] (truthy v)) := by intro _; rfl) : JT X G a (aTru aa) := by
  obtain ⟨t, h3, h4⟩ := ha
  refine ⟨_, pt_truth h3 he, ⟨fun {ρ Ω Φ} h {P F H σ Q} o rp k => h4.go h o rp fun {v sv Ω1 F1 H1} q o1 s1 r1 => ?_⟩⟩
  obtain ⟨b, hb, hk⟩ := truD_ok q o1 r1
  exact ⟨b, hb, k hk o1 s1⟩
/-- a comparison as a test -/
def aB (a : AE) : AT := fun ρ Ω Φ => a ρ Ω fun x Ω' => match x with | .d (.bool b) => Φ b Ω' | _ => False
theorem jt_cmp {op : CmpOp} {ar : AR} (ho : JOp X G (compareOp op) ar) (ha : JE X G a aa) (hb : JE X G b ab) (hm : behindInMarks op b = false) : JT X G (.Compare a [op] [b] pos) (aB (aBin ar aa ab)) := by
  obtain ⟨r, h1, h2⟩ := ho
  obtain ⟨t, h3, h4⟩ := ha
  obtain ⟨u, h5, h6⟩ := hb
  refine ⟨_, pt_cmpR h1 h3 h5 hm, ⟨fun {ρ Ω Φ} h {P F H σ Q} o rp k => (bin_ok h4 h6 h2).go h o rp fun {v sv Ω1 F1 H1} q o1 s1 r1 => ?_⟩⟩
  dsimp only at q
  split at q
  · exact ⟨_, dqb r1, k q o1 s1⟩
  · exact q.elim
def aAnd (t u : AT) : AT := fun ρ Ω Φ => t ρ Ω fun b Ω1 => br b (u ρ Ω1 Φ) (Φ false Ω1)
def aOr (t u : AT) : AT := fun ρ Ω Φ => t ρ Ω fun b Ω1 => br b (Φ true Ω1) (u ρ Ω1 Φ)
def aNot (t : AT) : AT := fun ρ Ω Φ => t ρ Ω fun b Ω1 => Φ (!b) Ω1
theorem jw_pt (h : JW X G a at_) : JT X G a at_ := by
  obtain ⟨t, h1, h2⟩ := h
  exact ⟨t, h1.pt, h2⟩
theorem jw_and1 (h : JT X G a at_) : JW X G (.BoolOp .And [a] pos) at_ := by
  obtain ⟨t, h1, h2⟩ := h
  exact ⟨t, pw_and1 h1, h2⟩
theorem jw_or1 (h : JT X G a at_) : JW X G (.BoolOp .Or [a] pos) at_ := by
  obtain ⟨t, h1, h2⟩ := h
  exact ⟨t, pw_or1 h1, h2⟩
theorem jw_and {rest : List Expr} (h : JT X G a at_) (h' : JW X G (.BoolOp .And (b :: rest) pos) bt) : JW X G (.BoolOp .And (a :: b :: rest) pos) (aAnd at_ bt) := by
  obtain ⟨t, h1, h2⟩ := h
  obtain ⟨u, h3, h4⟩ := h'
  refine ⟨_, pw_and h1 h3, ⟨fun {ρ Ω Φ} h {P F H σ Q} o rp k => h2.go h o rp fun {b Ω1 F1 H1} q o1 s1 => br_ite ?_⟩⟩
  replace q := br_out q
  cases b
  · exact k q o1 s1
  · exact h4.go q o1 (rpe_same s1 rp) fun q2 o2 s2 => k q2 o2 (s1.trans s2)
theorem jw_or {rest : List Expr} (h : JT X G a at_) (h' : JW X G (.BoolOp .Or (b :: rest) pos) bt) : JW X G (.BoolOp .Or (a :: b :: rest) pos) (aOr at_ bt) := by
  obtain ⟨t, h1, h2⟩ := h
  obtain ⟨u, h3, h4⟩ := h'
  refine ⟨_, pw_or h1 h3, ⟨fun {ρ Ω Φ} h {P F H σ Q} o rp k => h2.go h o rp fun {b Ω1 F1 H1} q o1 s1 => br_ite ?_⟩⟩
  replace q := br_out q
  cases b
  · exact h4.go q o1 (rpe_same s1 rp) fun q2 o2 s2 => k q2 o2 (s1.trans s2)
  · exact k q o1 s1
theorem jt_not (h : JT X G a at_) : JT X G (.UnaryOp .Not a pos) (aNot at_) := by
  obtain ⟨t, h1, h2⟩ := h
  exact ⟨_, pt_not h1, ⟨fun {ρ Ω Φ} h {P F H σ Q} o rp k => h2.go h o rp fun q o1 s1 => k q o1 s1⟩⟩
/-- and, or, not as values: all but the last True or False -/
def aAndV (a b : AE) : AE := fun ρ Ω Φ => a ρ Ω fun x Ω1 => match x with
  | .d (.bool c) => br c (b ρ Ω1 Φ) (Φ (.d (.bool false)) Ω1)
  | _ => False
def aOrV (a b : AE) : AE := fun ρ Ω Φ => a ρ Ω fun x Ω1 => match x with
  | .d (.bool c) => br c (Φ (.d (.bool true)) Ω1) (b ρ Ω1 Φ)
  | _ => False
def aNotV (a : AE) : AE := fun ρ Ω Φ => a ρ Ω fun x Ω1 => match x with
  | .d (.bool c) => Φ (.d (.bool (!c))) Ω1
  | _ => False
theorem je_one {op} (h : JE X G a aa) : JE X G (.BoolOp op [a] pos) aa := by
  obtain ⟨t, h1, h2⟩ := h
  exact ⟨t, pe_one h1, h2⟩
theorem je_and {rest : List Expr} (h : JE X G a aa) (h' : JE X G (.BoolOp .And (b :: rest) pos) ab) : JE X G (.BoolOp .And (a :: b :: rest) pos) (aAndV aa ab) := by
  obtain ⟨t, h1, h2⟩ := h
  obtain ⟨u, h3, h4⟩ := h'
  refine ⟨_, pe_and h1 h3, ⟨fun {ρ Ω Φ} h {P F H σ Q} o rp k => h2.go h o rp fun {v sv Ω1 F1 H1} q o1 s1 r1 => ?_⟩⟩
  dsimp only at q
  split at q
  · rename_i c
    refine ⟨c, dqb r1, br_ite ?_⟩
    replace q := br_out q
    cases c
    · exact k q o1 s1 (.bl _)
    · exact h4.go q o1 (rpe_same s1 rp) fun q2 o2 s2 r2 => k q2 o2 (s1.trans s2) r2
  · exact q.elim
theorem je_or {rest : List Expr} (h : JE X G a aa) (h' : JE X G (.BoolOp .Or (b :: rest) pos) ab) : JE X G (.BoolOp .Or (a :: b :: rest) pos) (aOrV aa ab) := by
  obtain ⟨t, h1, h2⟩ := h
  obtain ⟨u, h3, h4⟩ := h'
  refine ⟨_, pe_or h1 h3, ⟨fun {ρ Ω Φ} h {P F H σ Q} o rp k => h2.go h o rp fun {v sv Ω1 F1 H1} q o1 s1 r1 => ?_⟩⟩
  dsimp only at q
  split at q
  · rename_i c
    refine ⟨c, dqb r1, br_ite ?_⟩
    replace q := br_out q
    cases c
    · exact h4.go q o1 (rpe_same s1 rp) fun q2 o2 s2 r2 => k q2 o2 (s1.trans s2) r2
    · exact k q o1 s1 (.bl _)
  · exact q.elim
theorem je_not (h : JE X G a aa) : JE X G (.UnaryOp .Not a pos) (aNotV aa) := by
  obtain ⟨t, h1, h2⟩ := h
  refine ⟨_, pe_not h1, ⟨fun {ρ Ω Φ} h {P F H σ Q} o rp k => h2.go h o rp fun {v sv Ω1 F1 H1} q o1 s1 r1 => ?_⟩⟩
  dsimp only at q
  split at q
  · exact ⟨_, dqb r1, k q o1 s1 (.bl _)⟩
  · exact q.elim
def aIfE (t : AT) (a b : AE) : AE := fun ρ Ω Φ => t ρ Ω fun c Ω1 => br c (a ρ Ω1 Φ) (b ρ Ω1 Φ)
theorem je_if {c : Expr} (ht : JT X G c at_) (ha : JE X G a aa) (hb : JE X G b ab) : JE X G (.IfExp c a b pos) (aIfE at_ aa ab) := by
  obtain ⟨t, h1, h2⟩ := ht
  obtain ⟨ta, h3, h4⟩ := ha
  obtain ⟨tb, h5, h6⟩ := hb
  refine ⟨_, pe_ifExp h1 h3 h5, ⟨fun {ρ Ω Φ} h {P F H σ Q} o rp k => h2.go h o rp fun {c Ω1 F1 H1} q o1 s1 => br_ite ?_⟩⟩
  replace q := br_out q
  cases c
  · exact h6.go q o1 (rpe_same s1 rp) fun q2 o2 s2 r2 => k q2 o2 (s1.trans s2) r2
  · exact h4.go q o1 (rpe_same s1 rp) fun q2 o2 s2 r2 => k q2 o2 (s1.trans s2) r2
/-! ### argument lists, displays -/
def aNil : AA := fun _ Ω Φ => Φ [] Ω
def aCons (a : AE) (t : AA) : AA := fun ρ Ω Φ => a ρ Ω fun x Ω1 => t ρ Ω1 fun xs Ω2 => Φ (x :: xs) Ω2
theorem cons_ok {E : En} {ta : TE} {tr : TA} {ar : AA} (h1 : SnE E ta aa) (h2 : SnA E tr ar) : SnA E (tCons ta tr) (aCons aa ar) := ⟨fun {ρ Ω Φ} h {P F H σ Q} o rp k =>
  h1.go h o rp fun {v sv Ω1 F1 H1} q o1 s1 r1 => h2.go q o1 (rpe_same s1 rp) fun {vs svs Ω2 F2 H2} q2 o2 s2 r2 => k q2 o2 (s1.trans s2) (.cons (r1.same s2) r2)⟩
theorem ja_nil : JA X G [] aNil := ⟨_, pa_nil, ⟨fun {ρ Ω Φ} h {P F H σ Q} o rp k => k h o (Same.refl F) .nil⟩⟩
theorem ja_cons {es : List Expr} {ar : AA} (ha : JE X G e aa) (hr : JA X G es ar) (hs : starEach (e :: es) X.env = (false, eval e X.env) :: starEach es X.env := by rfl) : JA X G (e :: es) (aCons aa ar) := by
  obtain ⟨t, h1, h2⟩ := ha
  obtain ⟨u, h3, h4⟩ := hr
  exact ⟨_, pa_cons h1 h3 hs, cons_ok h2 h4⟩
theorem jk_nil : JK X G [] aNil := ⟨_, pk_nil, ⟨fun {ρ Ω Φ} h {P F H σ Q} o rp k => k h o (Same.refl F) .nil⟩⟩
theorem jk_cons {kws : List Keyword} {ar : AA} {nm : Option Str} {kpos : Pos} (ha : JE X G e aa) (hr : JK X G kws ar) : JK X G (⟨nm, e, kpos⟩ :: kws) (aCons aa ar) := by
  obtain ⟨t, h1, h2⟩ := ha
  obtain ⟨u, h3, h4⟩ := hr
  exact ⟨_, pk_cons h1 h3, cons_ok h2 h4⟩
def aTup (t : AA) : AE := fun ρ Ω Φ => t ρ Ω fun xs Ω' => xs.length ≤ sizeLine ∧ match dataOf xs with | some ds => Φ (.d (.tuple ds)) Ω' | none => False
theorem je_tup {es : List Expr} {ar : AA} {x1} (h : JA X G es ar) : JE X G (.Tuple es x1 pos) (aTup ar) := by
  obtain ⟨t, h1, h2⟩ := h
  refine ⟨_, pe_tup h1, ⟨fun {ρ Ω Φ} h {P F H σ Q} o rp k => h2.go h o rp fun {vs svs Ω1 F1 H1} q o1 s1 r1 => ⟨by rw [r1.length]; exact q.1, fun p hp => ?_⟩⟩⟩
  have q2 := q.2
  split at q2
  · rename_i ds e
    obtain ⟨o2, s2⟩ := o1.newF (o := .tup vs) hp
    exact k q2 o2 (s1.trans s2) (Dq.tup (SqT.of upd_same) (dqa_same s2 _ _ (dataOf_ok e r1)))
  · exact q2.elim
def aLst (m : Mode) (t : AA) : AE := fun ρ Ω Φ => t ρ Ω fun xs Ω' => xs.length ≤ sizeLine ∧ newX m xs Ω' Φ
theorem je_lst {es : List Expr} {ar : AA} (hm : MOk (enX X G) m) (h : JA X G es ar) : JE X G (.List es pos) (aLst m ar) := by
  obtain ⟨t, h1, h2⟩ := h
  exact ⟨_, pe_lst h1, ⟨fun {ρ Ω Φ} h {P F H σ Q} o rp k => h2.go h o rp fun {vs svs Ω1 F1 H1} q o1 s1 r1 => ⟨by rw [r1.length]; exact q.1, fun p hp => newX_ok hm o1 r1 q.2 (fun q2 o2 s2 r2 => k q2 o2 (s1.trans s2) r2) hp⟩⟩⟩
end
end Z
/-! Z4: subscripts, slices, built-ins, methods, calls of defs; what a for walks; statements. -/
namespace Z
open PySem PySem.Spec PyProof.Rows L2
theorem dqa_rev {K : Frag} {F : Hp} {vs : List V} {ds : List PyData} (h : DqAll K F vs ds) : DqAll K F vs.reverse ds.reverse := by
  have q := pr_rev (of_dqa h)
  rw [← List.map_reverse] at q
  exact dqa_of q
theorem dqa_take {K : Frag} {F : Hp} {vs : List V} {ds : List PyData} (n : Nat) (h : DqAll K F vs ds) : DqAll K F (vs.take n) (ds.take n) := by
  have q := pr_take n (of_dqa h)
  rw [← List.map_take] at q
  exact dqa_of q
theorem dqa_drop {K : Frag} {F : Hp} {vs : List V} {ds : List PyData} (n : Nat) (h : DqAll K F vs ds) : DqAll K F (vs.drop n) (ds.drop n) := by
  have q := pr_drop n (of_dqa h)
  rw [← List.map_drop] at q
  exact dqa_of q
theorem dqa_get {K : Frag} {F : Hp} {vs : List V} {ds : List PyData} {i : Nat} {d : PyData} (h : DqAll K F vs ds) (e : ds[i]? = some d) : ∃ v, vs[i]? = some v ∧ Dq K F v d :=
  pr_get (R := Rp K F) (of_dqa h) (i := i) (y := .d d) (by rw [List.getElem?_map, e]; rfl)
theorem dqa_getL {K : Frag} {F : Hp} {vs : List V} {ds : List PyData} {i : Nat} {v : V} (h : DqAll K F vs ds) (e : vs[i]? = some v) : ∃ d, ds[i]? = some d ∧ Dq K F v d := by
  obtain ⟨y, hy, r⟩ := pr_getL (of_dqa h) e
  rw [List.getElem?_map] at hy
  cases hd : ds[i]? with
  | none => rw [hd] at hy; cases hy
  | some d => rw [hd] at hy; cases hy; exact ⟨d, rfl, r⟩
theorem dqa_set {K : Frag} {F : Hp} {vs : List V} {ds : List PyData} {v : V} {d : PyData} (i : Nat) (h : DqAll K F vs ds) (r : Dq K F v d) : DqAll K F (vs.set i v) (ds.set i d) := by
  have q := pr_set (R := Rp K F) (x := v) (y := .d d) r i (of_dqa h)
  rw [← List.map_set] at q
  exact dqa_of q
theorem dqa_erase {K : Frag} {F : Hp} {vs : List V} {ds : List PyData} (i : Nat) (h : DqAll K F vs ds) : DqAll K F (vs.eraseIdx i) (ds.eraseIdx i) := by
  have q := pr_erase i (of_dqa h)
  have e : (ds.map SV.d).eraseIdx i = (ds.eraseIdx i).map SV.d := by
    rw [List.eraseIdx_eq_take_drop_succ, List.eraseIdx_eq_take_drop_succ, List.map_append, List.map_take, List.map_drop]
  rw [e] at q
  exact dqa_of q
theorem dqa_ints {K : Frag} {F : Hp} : ∀ {vs : List V} {ns : List Int}, DqAll K F vs (ns.map PyData.int) → vs = ns.map V.int
  | _, [], h => by cases h; rfl
  | _, n :: ns, h => by
    cases h with
    | cons r t => rw [dqi r, dqa_ints t]; rfl
theorem ints_dqa {K : Frag} {F : Hp} : ∀ (ns : List Int), DqAll K F (ns.map V.int) (ns.map PyData.int)
  | [] => .nil
  | n :: ns => .cons (.int n) (ints_dqa ns)
theorem dqa_bools {K : Frag} {F : Hp} : ∀ {vs : List V} {ns : List Bool}, DqAll K F vs (ns.map PyData.bool) → vs = ns.map V.bl
  | _, [], h => by cases h; rfl
  | _, n :: ns, h => by
    cases h with
    | cons r t => rw [dqb r, dqa_bools t]; rfl
theorem at_len {K : Frag} {F : Hp} {vs : List V} {ds : List PyData} {i : Int} {d : PyData} (h : DqAll K F vs ds) (e : atI ds i = some d) : ∃ v, atI vs i = some v ∧ Dq K F v d := by
  unfold atI at e ⊢
  rw [dqa_len h]
  cases q : ixN ds.length i with
  | none => rw [q] at e; cases e
  | some j => rw [q] at e; exact dqa_get h e
theorem at_lenX {K : Frag} {F : Hp} {vs : List V} {xs : List SV} {i : Int} {x : SV} (h : Paired (Rp K F) vs xs) (e : atI xs i = some x) : ∃ v, atI vs i = some v ∧ Rp K F v x := by
  unfold atI at e ⊢
  rw [h.length]
  cases q : ixN xs.length i with
  | none => rw [q] at e; cases e
  | some j => rw [q] at e; exact pr_get h e
/-- the items of xs[lo:hi] -/
def cutD {α : Type} (xs : List α) (lo hi : Option Int) : List α := (xs.drop (HT.sIx xs.length 0 lo)).take (HT.sIx xs.length xs.length hi - HT.sIx xs.length 0 lo)
theorem dqa_cut {K : Frag} {F : Hp} {vs : List V} {ds : List PyData} (lo hi : Option Int) (h : DqAll K F vs ds) : DqAll K F (cutV vs lo hi) (cutD ds lo hi) := by
  unfold cutV cutD
  rw [dqa_len h]
  exact dqa_take _ (dqa_drop _ h)
section
variable {X : Cx} {G : Gn} {e a b : Expr} {aa ab : AE} {at_ bt : AT} {ta : AA} {pos : Pos} {m : Mode}
/-! ### a[i] -/
def ixC (c : OC) (i : Int) (Ω : Om) (Φ : PhiE) : Prop := match c with
  | .lst ds => ∃ d, atI ds i = some d ∧ Φ (.d d) Ω
  | .lx xs => ∃ x, atI xs i = some x ∧ Φ x Ω
  | _ => False
def arIx : AR := fun x y Ω Φ => match x, y with
  | .d (.list ds), .d (.int i) => ∃ d, atI ds i = some d ∧ Φ (.d d) Ω
  | .d (.tuple ds), .d (.int i) => ∃ d, atI ds i = some d ∧ Φ (.d d) Ω
  | .d (.str z), .d (.int i) => z.length ≤ sizeLine ∧ ∃ c, atI z.cps.toList i = some c ∧ Φ (.d (.str ⟨#[c]⟩)) Ω
  | .l ds, .d (.int i) => ∃ d, atI ds i = some d ∧ Φ (.d d) Ω
  | .r (.ref p), .d (.int i) => ∃ c f, At Ω p c f ∧ ixC c i Ω Φ
  | _, _ => False
theorem jx_seq : JIx X G arIx := by
  refine ⟨_, ix_seq, ⟨fun {x y Ω Φ} h {P F H vx vy Q} o r1 r2 k => ?_⟩⟩
  unfold arIx at h
  split at h
  · obtain ⟨d, e, q⟩ := h
    obtain ⟨p, vs, rfl, hF, da⟩ := dql r1
    obtain ⟨v, e2, rv⟩ := at_len da e
    exact Or.inl ⟨p, vs, _, v, rfl, dqi r2, SqL.of (o.ex _ _ hF), e2, k q o (Same.refl F) rv⟩
  · obtain ⟨d, e, q⟩ := h
    obtain ⟨p, vs, rfl, hF, da⟩ := dqt r1
    obtain ⟨v, e2, rv⟩ := at_len da e
    exact Or.inr (Or.inl ⟨p, vs, _, v, rfl, dqi r2, sqt_same o.ex hF, e2, k q o (Same.refl F) rv⟩)
  · obtain ⟨hz, c, e, q⟩ := h
    exact Or.inr (Or.inr ⟨_, _, c, dqs r1, dqi r2, hz, e, k q o (Same.refl F) (.str _)⟩)
  · obtain ⟨d, e, q⟩ := h
    obtain ⟨p, vs, rfl, hF, da⟩ := r1
    obtain ⟨v, e2, rv⟩ := at_len da e
    exact Or.inl ⟨p, vs, _, v, rfl, dqi r2, o.ex.seq hF, e2, k q o (Same.refl F) rv⟩
  · obtain ⟨c, f, t, q⟩ := h
    cases r1
    unfold ixC at q
    split at q
    · obtain ⟨d, e, q⟩ := q
      obtain ⟨vs, h1, h2⟩ := o.lst t
      obtain ⟨v, e2, rv⟩ := at_len h2 e
      exact Or.inl ⟨_, vs, _, v, rfl, dqi r2, SqL.of h1, e2, k q o (Same.refl F) rv⟩
    · obtain ⟨d, e, q⟩ := q
      obtain ⟨vs, h1, h2⟩ := o.lx t
      obtain ⟨v, e2, rv⟩ := at_lenX h2 e
      exact Or.inl ⟨_, vs, _, v, rfl, dqi r2, SqL.of h1, e2, k q o (Same.refl F) rv⟩
    · exact q.elim
  · exact h.elim
theorem je_ix {ar : AR} (hr : JIx X G ar) (ha : JE X G a aa) (hb : JE X G b ab) (hs : PlainIx b) : JE X G (.Subscript a b pos) (aBin ar aa ab) := by
  obtain ⟨r, h1, h2⟩ := hr
  obtain ⟨t, h3, h4⟩ := ha
  obtain ⟨u, h5, h6⟩ := hb
  exact ⟨_, pe_ix h1 h3 h5 hs, bin_ok h4 h6 h2⟩
/-! ### a[lo:hi] -/
abbrev AO := Rho → Om → (Option Int → Om → Prop) → Prop
structure SnO (E : En) (te : TO) (a : AO) : Prop where
  go : ∀ {ρ : Rho} {Ω : Om} {Φ : Option Int → Om → Prop}, a ρ Ω Φ → ∀ {P F H : Hp} {σ : L2.St} {Q : Option Int → Hp → Prop}, Ok E P F H Ω → RpE E.K F σ ρ →
    (∀ {b : Option Int} {Ω' : Om} {F' H' : Hp}, Φ b Ω' → Ok E P F' H' Ω' → Same F F' → Q b H') → te σ H Q
def JO (X : Cx) (G : Gn) (e : Option Expr) (a : AO) : Prop := ∃ te, PO X e te ∧ SnO (enX X G) te a
def aNoP : AO := fun _ Ω Φ => Φ none Ω
def aPart (a : AE) : AO := fun ρ Ω Φ => a ρ Ω fun x Ω' => match x with | .d (.int i) => Φ (some i) Ω' | _ => False
theorem jp_none : JO X G none aNoP := ⟨_, po_none, ⟨fun {ρ Ω Φ} h {P F H σ Q} o rp k => k h o (Same.refl F)⟩⟩
theorem jp_some (ha : JE X G a aa) : JO X G (some a) (aPart aa) := by
  obtain ⟨t, h1, h2⟩ := ha
  refine ⟨_, po_some h1, ⟨fun {ρ Ω Φ} h {P F H σ Q} o rp k => h2.go h o rp fun {v sv Ω1 F1 H1} q o1 s1 r1 => ?_⟩⟩
  dsimp only at q
  split at q
  · exact ⟨_, dqi r1, k q o1 s1⟩
  · exact q.elim
def slR (m : Mode) (x : SV) (lo hi : Option Int) (Ω : Om) (Φ : PhiE) : Prop := match x with
  | .d (.tuple ds) => Φ (.d (.tuple (cutD ds lo hi))) Ω
  | .l ds => newL m (cutD ds lo hi) Ω Φ
  | x => rdL x Ω fun ds => newL m (cutD ds lo hi) Ω Φ
def aSl (m : Mode) (a : AE) (lo hi : AO) : AE := fun ρ Ω Φ => a ρ Ω fun x Ω1 => lo ρ Ω1 fun i Ω2 => hi ρ Ω2 fun j Ω3 => slR m x i j Ω3 Φ
theorem cut_all {α : Type} {xs : List α} {lo hi : Option Int} (h : HT.sIx xs.length 0 lo = 0 ∧ HT.sIx xs.length xs.length hi = xs.length) : cutD xs lo hi = xs := by
  unfold cutD
  rw [h.1, h.2, List.drop_zero, Nat.sub_zero, List.take_length]
theorem je_sl {lo hi : Option Expr} {al ah : AO} {p2 : Pos} (hm : MOk (enX X G) m) (ha : JE X G a aa) (hl : JO X G lo al) (hh : JO X G hi ah) : JE X G (.Subscript a (.Slice lo hi none p2) pos) (aSl m aa al ah) := by
  obtain ⟨t, h1, h2⟩ := ha
  obtain ⟨u, h3, h4⟩ := hl
  obtain ⟨w, h5, h6⟩ := hh
  refine ⟨_, pe_slice (SlR.or sl_tupA sl_list) h1 h3 h5, ⟨fun {ρ Ω Φ} h {P F H σ Q} o rp k => h2.go h o rp fun {v sv Ω1 F1 H1} q o1 s1 r1 => h4.go q o1 (rpe_same s1 rp) fun {i Ω2 F2 H2} q2 o2 s2 => h6.go q2 o2 (rpe_same (s1.trans s2) rp) fun {j Ω3 F3 H3} q3 o3 s3 => ?_⟩⟩
  have r3 := (r1.same s2).same s3
  have k3 : Aft (enX X G) P F3 Φ Q := fun p1 p2 p3 p4 => k p1 p2 (((s1.trans s2).trans s3).trans p3) p4
  unfold slR at q3
  split at q3
  · rename_i ds
    obtain ⟨p, vs, rfl, hF, da⟩ := dqt r3
    refine Or.inl ⟨p, vs, rfl, sqt_same o3.ex hF, fun z => ?_, fun z q hq => ?_⟩
    · rw [dqa_len da] at z
      rw [cut_all z] at q3
      exact k3 q3 o3 (Same.refl F3) r3
    · obtain ⟨o4, s4⟩ := o3.newF (o := .tup (cutV vs i j)) hq
      exact k3 q3 o4 s4 (Dq.tup (SqT.of upd_same) (dqa_same s4 _ _ (dqa_cut i j da)))
  · obtain ⟨p, vs, rfl, hF, da⟩ := r3
    exact Or.inr ⟨p, vs, rfl, o3.ex.seq hF, fun q hq => newL_ok hm o3 (dqa_cut i j da) q3 k3 hq⟩
  · obtain ⟨p, vs, ds, rfl, hF, da, q4⟩ := rdL_ok q3 o3 r3
    exact Or.inr ⟨p, vs, rfl, SqL.of hF, fun q hq => newL_ok hm o3 (dqa_cut i j da) q4 k3 hq⟩
/-! ### built-ins -/
def aCB (ac : AC) (t : AA) : AE := fun ρ Ω Φ => t ρ Ω fun xs Ω' => ac xs Ω' Φ
theorem cb_ok {E : En} {r : List V → Hp → VK → Prop} {ac : AC} {t : TA} (h1 : SnA E t ta) (h2 : SnC E r ac) : SnE E (tCB r t) (aCB ac ta) := ⟨fun {ρ Ω Φ} h {P F H σ Q} o rp k =>
  h1.go h o rp fun q o1 s1 r1 => h2.go q o1 r1 fun q2 o2 s2 r2 => k q2 o2 (s1.trans s2) r2⟩
theorem je_callB {id : String} {ac : AC} {x : Str} {p : Pos} {es : List Expr} (hc : JC X G (.builtin id) ac) (hg : Gl X x) (hm : X.mg x = none) (hv : bootBuiltins x = some (.builtin id)) (ha : JA X G (e :: es) ta) (hn : x ≠ "__name__" := by decide) (hdb : (x == ("__debug__" : Str)) = false := by decide)
    (he : starEach (e :: es) X.env = (false, eval e X.env) :: starEach es X.env := by rfl) (hpl : (backTo pos (starEach es X.env)).any (·.1) = false := by rfl) : JE X G (.Call (.Name x p) (e :: es) [] pos) (aCB ac ta) := by
  obtain ⟨r, h1, h2⟩ := hc
  obtain ⟨t, h3, h4⟩ := ha
  exact ⟨_, pe_callB h1 hg hm hv h3 hn hdb he hpl, cb_ok h4 h2⟩
theorem je_callTy {T : String} {ac : AC} {x : Str} {p : Pos} {es : List Expr} (hc : JC X G (.type T) ac) (hg : Gl X x) (hm : X.mg x = none) (hv : bootBuiltins x = some (.type T)) (ha : JA X G (e :: es) ta) (hn : x ≠ "__name__" := by decide) (hdb : (x == ("__debug__" : Str)) = false := by decide)
    (he : starEach (e :: es) X.env = (false, eval e X.env) :: starEach es X.env := by rfl) (hpl : (backTo pos (starEach es X.env)).any (·.1) = false := by rfl) : JE X G (.Call (.Name x p) (e :: es) [] pos) (aCB ac ta) := by
  obtain ⟨r, h1, h2⟩ := hc
  obtain ⟨t, h3, h4⟩ := ha
  exact ⟨_, pe_callTy h1 hg hm hv h3 hn hdb he hpl, cb_ok h4 h2⟩
theorem pr1 {α β : Type} {R : α → β → Prop} {vs : List α} {x : β} (h : Paired R vs [x]) : ∃ v, vs = [v] ∧ R v x := by
  cases h with
  | cons r t => cases t; exact ⟨_, rfl, r⟩
theorem pr2 {α β : Type} {R : α → β → Prop} {vs : List α} {x y : β} (h : Paired R vs [x, y]) : ∃ v u, vs = [v, u] ∧ R v x ∧ R u y := by
  cases h with
  | cons r t =>
    obtain ⟨u, rfl, r2⟩ := pr1 t
    exact ⟨_, u, rfl, r, r2⟩
/-- of one argument -/
def ac1 (f : SV → Om → PhiE → Prop) : AC := fun xs Ω Φ => match xs with
  | [x] => f x Ω Φ
  | _ => False
def ac2 (f : SV → SV → Om → PhiE → Prop) : AC := fun xs Ω Φ => match xs with
  | [x, y] => f x y Ω Φ
  | _ => False
theorem ac1_ok {E : En} {r : List V → Hp → VK → Prop} {f : SV → Om → PhiE → Prop}
    (h : ∀ {x : SV} {Ω : Om} {Φ : PhiE}, f x Ω Φ → ∀ {P F H : Hp} {v : V} {Q : VK}, Ok E P F H Ω → Rp E.K F v x → Aft E P F Φ Q → r [v] H Q) : SnC E r (ac1 f) := by
  refine ⟨fun {xs Ω Φ} q {P F H vs Q} o rp k => ?_⟩
  unfold ac1 at q
  split at q
  · obtain ⟨v, rfl, r1⟩ := pr1 rp
    exact h q o r1 k
  · exact q.elim
theorem ac2_ok {E : En} {r : List V → Hp → VK → Prop} {f : SV → SV → Om → PhiE → Prop}
    (h : ∀ {x y : SV} {Ω : Om} {Φ : PhiE}, f x y Ω Φ → ∀ {P F H : Hp} {v u : V} {Q : VK}, Ok E P F H Ω → Rp E.K F v x → Rp E.K F u y → Aft E P F Φ Q → r [v, u] H Q) : SnC E r (ac2 f) := by
  refine ⟨fun {xs Ω Φ} q {P F H vs Q} o rp k => ?_⟩
  unfold ac2 at q
  split at q
  · obtain ⟨v, u, rfl, r1, r2⟩ := pr2 rp
    exact h q o r1 r2 k
  · exact q.elim
def fLen (x : SV) (Ω : Om) (Φ : PhiE) : Prop := match x with
  | .d (.str z) => z.length ≤ sizeLine ∧ Φ (.d (.int z.length)) Ω
  | x => rdS x Ω fun ds => Φ (.d (.int ds.length)) Ω
abbrev acLen : AC := ac1 fLen
theorem jc_len : JC X G (.builtin "len") acLen := by
  refine ⟨fun xs H Q => (∃ p ys, xs = [.ref p] ∧ (SqL X.K H p ys ∨ SqT X.K H p ys) ∧ Q (.int ys.length) H) ∨ ∃ z, xs = [.str z] ∧ z.length ≤ sizeLine ∧ Q (.int z.length) H, fun pins s σ H xs us Q I r h => ?_, ac1_ok fun {x Ω Φ} h {P F H v Q} o r k => ?_⟩
  · rcases h with h | h
    · exact call_len_seq pins s σ H xs us Q I r h
    · exact call_len_str pins s σ H xs us Q I r h
  · unfold fLen at h
    split at h
    · cases dqs r; exact Or.inr ⟨_, rfl, h.1, k h.2 o (Same.refl F) (.int _)⟩
    · obtain ⟨p, vs, ds, rfl, hs, da, q⟩ := rdS_ok h o r
      refine Or.inl ⟨p, vs, rfl, hs, k q o (Same.refl F) ?_⟩
      rw [dqa_len da]
      exact .int _
def fI1 (g : Int → Int) (x : SV) (Ω : Om) (Φ : PhiE) : Prop := match x with
  | .d (.int i) => Φ (.d (.int (g i))) Ω
  | _ => False
abbrev acAbs : AC := ac1 (fI1 fun i => if i < 0 then -i else i)
theorem jc_abs : JC X G (.builtin "abs") acAbs := by
  refine ⟨_, call_abs, ac1_ok fun {x Ω Φ} h {P F H v Q} o r k => ?_⟩
  unfold fI1 at h
  split at h
  · cases dqi r; exact ⟨_, rfl, k h o (Same.refl F) (.int _)⟩
  · exact h.elim
def fInt (x : SV) (Ω : Om) (Φ : PhiE) : Prop := match x with
  | .d (.int i) => Φ (.d (.int i)) Ω
  | .d (.bool b) => Φ (.d (.int (if b then 1 else 0))) Ω
  | _ => False
abbrev acInt : AC := ac1 fInt
theorem jc_int : JC X G (.type "int") acInt := by
  refine ⟨_, call_int1, ac1_ok fun {x Ω Φ} h {P F H v Q} o r k => ?_⟩
  unfold fInt at h
  split at h
  · cases dqi r; exact Or.inl ⟨_, rfl, k h o (Same.refl F) (.int _)⟩
  · cases dqb r; exact Or.inr ⟨_, rfl, k h o (Same.refl F) (.int _)⟩
  · exact h.elim
def fI2 (g : Int → Int → Int) (x y : SV) (Ω : Om) (Φ : PhiE) : Prop := match x, y with
  | .d (.int i), .d (.int j) => Φ (.d (.int (g i j))) Ω
  | _, _ => False
abbrev acMax2 : AC := ac2 (fI2 fun i j => if j > i then j else i)
abbrev acMin2 : AC := ac2 (fI2 fun i j => if j < i then j else i)
theorem jc_max2 (hc : X.calm = true) : JC X G (.builtin "max") acMax2 := by
  refine ⟨_, call_max2 hc, ac2_ok fun {x y Ω Φ} h {P F H v u Q} o r1 r2 k => ?_⟩
  unfold fI2 at h
  split at h
  · cases dqi r1; cases dqi r2; exact ⟨_, _, rfl, k h o (Same.refl F) (.int _)⟩
  · exact h.elim
theorem jc_min2 (hc : X.calm = true) : JC X G (.builtin "min") acMin2 := by
  refine ⟨_, call_min2 hc, ac2_ok fun {x y Ω Φ} h {P F H v u Q} o r1 r2 k => ?_⟩
  unfold fI2 at h
  split at h
  · cases dqi r1; cases dqi r2; exact ⟨_, _, rfl, k h o (Same.refl F) (.int _)⟩
  · exact h.elim
/-- tuple(x), list(x) of lists and tuples -/
def fTupOf (x : SV) (Ω : Om) (Φ : PhiE) : Prop := match x with
  | .d (.tuple ds) => Φ (.d (.tuple ds)) Ω
  | .l ds => Φ (.d (.tuple ds)) Ω
  | x => rdL x Ω fun ds => Φ (.d (.tuple ds)) Ω
abbrev acTupOf : AC := ac1 fTupOf
theorem jc_tupleOf : JC X G (.type "tuple") acTupOf := by
  refine ⟨_, call_tuple_of, ac1_ok fun {x Ω Φ} h {P F H v Q} o r k => ?_⟩
  have fin : ∀ {p : Addr} {vs : List V} {ds : List PyData}, DqAll X.K F vs ds → Φ (.d (.tuple ds)) Ω → ∀ l, H l = none → Q (.ref l) (upd H l (.tup vs)) := fun {p vs ds} da q l hl => by
    obtain ⟨o1, s1⟩ := o.newF (o := .tup vs) hl
    exact k q o1 s1 (Dq.tup (SqT.of upd_same) (dqa_same s1 _ _ da))
  unfold fTupOf at h
  split at h
  · obtain ⟨p, vs, rfl, hF, da⟩ := dqt r
    exact ⟨p, vs, rfl, Or.inr ⟨sqt_same o.ex hF, k h o (Same.refl F) r⟩⟩
  · obtain ⟨p, vs, rfl, hF, da⟩ := r
    exact ⟨p, vs, rfl, Or.inl ⟨o.ex.seq hF, fin (p := p) da h⟩⟩
  · obtain ⟨p, vs, ds, rfl, hs, da, q⟩ := rdL_ok h o r
    exact ⟨p, vs, rfl, Or.inl ⟨SqL.of hs, fin (p := p) da q⟩⟩
def fLstOf (m : Mode) (x : SV) (Ω : Om) (Φ : PhiE) : Prop := rdS x Ω fun ds => newL m ds Ω Φ
abbrev acLstOf (m : Mode) : AC := ac1 (fLstOf m)
theorem jc_listOf (hm : MOk (enX X G) m) : JC X G (.type "list") (acLstOf m) := by
  refine ⟨_, call_list_of, ac1_ok fun {x Ω Φ} h {P F H v Q} o r k => ?_⟩
  obtain ⟨p, vs, ds, rfl, hs, da, q⟩ := rdS_ok h o r
  exact ⟨p, vs, rfl, hs, fun l hl => newL_ok hm o da q k hl⟩
/-- list(range(n)), list(range(a, b)) -/
def rgD (a b : Int) : List PyData := (List.range (b - a).toNat).map fun i => PyData.int (a + (i : Nat))
theorem dqa_rg {K : Frag} {F : Hp} (a b : Int) : DqAll K F (rgV a b) (rgD a b) := by
  unfold rgV rgD
  generalize List.range (b - a).toNat = l
  induction l with
  | nil => exact .nil
  | cons i l ih => exact .cons (.int _) ih
abbrev ARg := Rho → Om → (Int → Int → Om → Prop) → Prop
def aRg1 (a : AE) : ARg := fun ρ Ω Φ => a ρ Ω fun x Ω' => match x with | .d (.int n) => Φ 0 n Ω' | _ => False
def aRg2 (a b : AE) : ARg := fun ρ Ω Φ => a ρ Ω fun x Ω1 => b ρ Ω1 fun y Ω2 => match x, y with | .d (.int i), .d (.int j) => Φ i j Ω2 | _, _ => False
structure SnRg (E : En) (te : L2.St → Hp → (Int → Int → Hp → Prop) → Prop) (a : ARg) : Prop where
  go : ∀ {ρ : Rho} {Ω : Om} {Φ : Int → Int → Om → Prop}, a ρ Ω Φ → ∀ {P F H : Hp} {σ : L2.St} {Q : Int → Int → Hp → Prop}, Ok E P F H Ω → RpE E.K F σ ρ →
    (∀ {i j : Int} {Ω' : Om} {F' H' : Hp}, Φ i j Ω' → Ok E P F' H' Ω' → Same F F' → Q i j H') → te σ H Q
def JRg (X : Cx) (G : Gn) (e : Expr) (a : ARg) : Prop := ∃ te, PRg X e te ∧ SnRg (enX X G) te a
theorem jrg_1 {p : Pos} (hg : Gl X "range") (hm : X.mg "range" = none) (ha : JE X G a aa) (na : starEach [a] X.env = (false, eval a X.env) :: starEach [] X.env := by rfl) : JRg X G (.Call (.Name "range" p) [a] [] pos) (aRg1 aa) := by
  obtain ⟨t, h1, h2⟩ := ha
  refine ⟨_, prg_1 hg hm h1 na, ⟨fun {ρ Ω Φ} h {P F H σ Q} o rp k => h2.go h o rp fun {v sv Ω1 F1 H1} q o1 s1 r1 => ?_⟩⟩
  dsimp only at q
  split at q
  · exact ⟨_, dqi r1, k q o1 s1⟩
  · exact q.elim
theorem jrg_2 {p : Pos} (hg : Gl X "range") (hm : X.mg "range" = none) (ha : JE X G a aa) (hb : JE X G b ab) (na : starEach [a, b] X.env = (false, eval a X.env) :: starEach [b] X.env := by rfl) (nb : starEach [b] X.env = (false, eval b X.env) :: starEach [] X.env := by rfl) (hp : (backTo pos (starEach [b] X.env)).any (·.1) = false := by rfl) : JRg X G (.Call (.Name "range" p) [a, b] [] pos) (aRg2 aa ab) := by
  obtain ⟨t, h1, h2⟩ := ha
  obtain ⟨u, h3, h4⟩ := hb
  refine ⟨_, prg_2 hg hm h1 h3 na nb hp, ⟨fun {ρ Ω Φ} h {P F H σ Q} o rp k => h2.go h o rp fun {v sv Ω1 F1 H1} q o1 s1 r1 => h4.go q o1 (rpe_same s1 rp) fun {v2 sv2 Ω2 F2 H2} q2 o2 s2 r2 => ?_⟩⟩
  dsimp only at q2
  split at q2
  · exact ⟨_, _, dqi (r1.same s2), dqi r2, k q2 o2 (s1.trans s2)⟩
  · exact q2.elim
def aLstRg (m : Mode) (a : ARg) : AE := fun ρ Ω Φ => a ρ Ω fun i j Ω' => RgOk i j ∧ newL m (rgD i j) Ω' Φ
theorem je_listRg {ar : ARg} {p : Pos} (hm : MOk (enX X G) m) (hc : X.calm = true) (hg : Gl X "list") (hmg : X.mg "list" = none) (ha : JRg X G e ar) (na : starEach [e] X.env = (false, eval e X.env) :: starEach [] X.env := by rfl) : JE X G (.Call (.Name "list" p) [e] [] pos) (aLstRg m ar) := by
  obtain ⟨t, h1, h2⟩ := ha
  exact ⟨_, pe_listRg hc hg hmg h1 na, ⟨fun {ρ Ω Φ} h {P F H σ Q} o rp k => h2.go h o rp fun {i j Ω1 F1 H1} q o1 s1 => ⟨q.1, fun p hp => newL_ok hm o1 (dqa_rg i j) q.2 (fun q2 o2 s2 r2 => k q2 o2 (s1.trans s2) r2) hp⟩⟩⟩
/-- sum, max, min of a list of ints; all, any of bools -/
def intsOf : List PyData → Option (List Int)
  | [] => some []
  | .int i :: r => match intsOf r with | some ns => some (i :: ns) | none => none
  | _ :: _ => none
theorem intsOf_ok : ∀ {ds : List PyData} {ns : List Int}, intsOf ds = some ns → ds = ns.map PyData.int
  | [], ns, h => by cases h; rfl
  | .int i :: r, ns, h => by
    unfold intsOf at h
    cases e : intsOf r with
    | none => rw [e] at h; cases h
    | some ms => rw [e] at h; cases h; rw [intsOf_ok e]; rfl
  | .none :: r, ns, h => by cases h
  | .bool b :: r, ns, h => by cases h
  | .str b :: r, ns, h => by cases h
  | .list b :: r, ns, h => by cases h
  | .tuple b :: r, ns, h => by cases h
  | .dict b :: r, ns, h => by cases h
def fSum (x : SV) (Ω : Om) (Φ : PhiE) : Prop := ∃ ns : List Int, rdS x Ω fun ds => (match x with | .d (.tuple _) => False | _ => True) ∧ ds = ns.map PyData.int ∧ Φ (.d (.int ns.sum)) Ω
theorem rdL_of_S {x : SV} {Ω : Om} {k : List PyData → Prop} (h : rdS x Ω fun ds => (match x with | .d (.tuple _) => False | _ => True) ∧ k ds) {E : En} {P F H : Hp} {v : V} (o : Ok E P F H Ω) (r : Rp E.K F v x) :
    ∃ a vs ds, v = .ref a ∧ SqL E.K H a vs ∧ DqAll E.K F vs ds ∧ k ds := by
  obtain ⟨a, vs, ds, rfl, hs, da, h1, h2⟩ := rdS_ok h o r
  rcases hs with hs | hs
  · exact ⟨a, vs, ds, rfl, hs, da, h2⟩
  · unfold rdS at h
    split at h
    · obtain ⟨a', xs, e, hF, ha⟩ := dql r
      cases e
      exact ⟨_, xs, _, rfl, SqL.of (o.ex _ _ hF), ha, h.2⟩
    · exact h1.elim
    · obtain ⟨a', xs, e, hF, ha⟩ := r
      cases e
      exact ⟨_, xs, _, rfl, o.ex.seq hF, ha, h.2⟩
    · obtain ⟨ds', f, t, hk⟩ := h
      obtain ⟨vs', h1, h2⟩ := o.lst t
      cases r
      exact ⟨_, vs', _, rfl, SqL.of h1, h2, hk.2⟩
    · exact h.elim
theorem jc_sum (hc : X.calm = true) : JC X G (.builtin "sum") (ac1 fSum) := by
  refine ⟨_, cr_sum hc, ac1_ok fun {x Ω Φ} h {P F H v Q} o r k => ?_⟩
  obtain ⟨ns, h⟩ := h
  obtain ⟨a, vs, ds, rfl, hs, da, rfl, q⟩ := rdL_of_S h o r
  rw [dqa_ints da] at hs
  exact ⟨a, ns, rfl, hs, k q o (Same.refl F) (.int _)⟩
def fAll (x : SV) (Ω : Om) (Φ : PhiE) : Prop := ∃ bs : List Bool, rdS x Ω fun ds => (match x with | .d (.tuple _) => False | _ => True) ∧ ds = bs.map PyData.bool ∧ Φ (.d (.bool (bs.all id))) Ω
def fAny (x : SV) (Ω : Om) (Φ : PhiE) : Prop := ∃ bs : List Bool, rdS x Ω fun ds => (match x with | .d (.tuple _) => False | _ => True) ∧ ds = bs.map PyData.bool ∧ Φ (.d (.bool (bs.any id))) Ω
theorem jc_all (hc : X.calm = true) : JC X G (.builtin "all") (ac1 fAll) := by
  refine ⟨_, cr_all hc, ac1_ok fun {x Ω Φ} h {P F H v Q} o r k => ?_⟩
  obtain ⟨ns, h⟩ := h
  obtain ⟨a, vs, ds, rfl, hs, da, rfl, q⟩ := rdL_of_S h o r
  rw [dqa_bools da] at hs
  exact ⟨a, ns, rfl, hs, k q o (Same.refl F) (.bl _)⟩
theorem jc_any (hc : X.calm = true) : JC X G (.builtin "any") (ac1 fAny) := by
  refine ⟨_, cr_any hc, ac1_ok fun {x Ω Φ} h {P F H v Q} o r k => ?_⟩
  obtain ⟨ns, h⟩ := h
  obtain ⟨a, vs, ds, rfl, hs, da, rfl, q⟩ := rdL_of_S h o r
  rw [dqa_bools da] at hs
  exact ⟨a, ns, rfl, hs, k q o (Same.refl F) (.bl _)⟩
/-- sorted of ints -/
def fSorted (m : Mode) (x : SV) (Ω : Om) (Φ : PhiE) : Prop := ∃ ns : List Int, rdS x Ω fun ds => (match x with | .d (.tuple _) => False | _ => True) ∧ ds = ns.map PyData.int ∧ ∀ ms : List Int, ms.Perm ns → ms.Pairwise (· ≤ ·) → newL m (ms.map PyData.int) Ω Φ
theorem jc_sorted (hm : MOk (enX X G) m) : JC X G (.builtin "sorted") (ac1 (fSorted m)) := by
  refine ⟨_, cr_sortedI, ac1_ok fun {x Ω Φ} h {P F H v Q} o r k => ?_⟩
  obtain ⟨ns, h⟩ := h
  obtain ⟨a, vs, ds, rfl, hs, da, rfl, q⟩ := rdL_of_S h o r
  rw [dqa_ints da] at hs
  exact ⟨a, ns, rfl, hs, fun ms p h1 h2 hp => newL_ok hm o (ints_dqa ms) (q ms h1 h2) k hp⟩
/-- isinstance(x, T) for a built-in T -/
def tyD : SV → Option String
  | .d .none => some "NoneType"
  | .d (.bool _) => some "bool"
  | .d (.int _) => some "int"
  | .d (.str _) => some "str"
  | .d (.list _) => some "list"
  | .d (.tuple _) => some "tuple"
  | _ => none
theorem tyX_of {E : En} {P F H : Hp} {Ω : Om} (o : Ok E P F H Ω) : ∀ {x : SV} {v : V} {t : String}, Rp E.K F v x → tyD x = some t → TyX E.K H v (.type t)
  | .d .none, v, t, r, e => by cases dqn r; cases e; exact .base .non
  | .d (.bool b), v, t, r, e => by cases dqb r; cases e; exact .base (.bl b)
  | .d (.int b), v, t, r, e => by cases dqi r; cases e; exact .base (.int b)
  | .d (.str b), v, t, r, e => by cases dqs r; cases e; exact .base (.str b)
  | .d (.list b), v, t, r, e => by
    obtain ⟨a, xs, rfl, hF, _⟩ := dql r
    cases e
    exact .base (.lst (o.ex _ _ hF))
  | .d (.tuple b), v, t, r, e => by
    obtain ⟨a, xs, rfl, hF, _⟩ := dqt r
    cases e
    rcases sqt_same o.ex hF with (h | ⟨ob, h⟩) | ⟨ob, its, n, h, hc, _⟩
    · exact .base (.tup h)
    · exact .fTuple h
    · exact .kTuple h hc
  | .d (.dict b), v, t, r, e => by cases e
  | .l ds, v, t, r, e => by cases e
  | .r u, v, t, r, e => by cases e
def fIsi (x y : SV) (Ω : Om) (Φ : PhiE) : Prop := match y with
  | .r (.ty n) => ∃ t b, tyD x = some t ∧ L2.kitB t n = some b ∧ Φ (.d (.bool b)) Ω
  | _ => False
theorem jc_isi : JC X G (.builtin "isinstance") (ac2 fIsi) := by
  refine ⟨_, call_isi, ac2_ok fun {x y Ω Φ} h {P F H v u Q} o r1 r2 k => ?_⟩
  unfold fIsi at h
  split at h
  · obtain ⟨t, b, h1, h2, h3⟩ := h
    cases (show u = _ from r2)
    exact ⟨_, _, _, _, b, rfl, ClsV.ty _, tyX_of o r1 h1, kit_ty h2, k h3 o (Same.refl F) (.bl b)⟩
  · exact h.elim
/-- math.gcd -/
theorem jc_gcd : JC X G (.builtin "math.gcd") (ac2 (fI2 fun i j => ((Nat.gcd i.natAbs j.natAbs : Nat) : Int))) := by
  refine ⟨_, cr_gcd, ac2_ok fun {x y Ω Φ} h {P F H v u Q} o r1 r2 k => ?_⟩
  unfold fI2 at h
  split at h
  · cases dqi r1; cases dqi r2; exact ⟨_, _, rfl, k h o (Same.refl F) (.int _)⟩
  · exact h.elim
/-- repr of data -/
def fRepr (x : SV) (Ω : Om) (Φ : PhiE) : Prop := rdD x Ω fun d => d.showable = true ∧ d.hasDict = false ∧ d.depth ≤ 60 ∧ d.shown.length ≤ sizeLine ∧ Φ (.d (.str d.shown)) Ω
theorem call_reprD (hu : X.A.units + 64 < cLine) (hgd : X.A.guards = some []) : CallR X (.builtin "repr") (fun xs H Q => ∃ v d, xs = [v] ∧ Dp X.K H v d ∧ d.showable = true ∧ d.hasDict = false ∧ d.depth ≤ 60 ∧ d.shown.length ≤ sizeLine ∧ Q (.str d.shown) H) := by
  intro pins s σ H xs us Q I r h
  obtain ⟨v, d, rfl, hd, h1, h2, h3, h4, q⟩ := h
  obtain ⟨u, rfl, ru⟩ := vals1 r
  have big : ∀ {p : Addr} {as : List Addr}, Reads s.heap (.ref p) d as → u = .ref p → wpAny (model X.prog X.w) X.A (call (.builtin "repr") [u]) (EP X pins σ Q) X.xe s := fun {p as} rd e => by
    rw [e]
    exact repr_of_reads' rd h1 (PyData.noDict_hsm h2) hgd (by omega) (fun _ _ e => e) (fun h' u tk hk => ⟨.str d.shown, H, I.kept hk, ⟨_, rfl⟩, q⟩) h4
  cases d with
  | none =>
    cases hd
    cases ru
    exact PySem.P.repr_of_none ⟨.str _, H, I.tok _, ⟨_, rfl⟩, by simpa only [PyData.shown] using q⟩
  | bool b =>
    cases hd
    cases ru
    exact PySem.P.repr_of_bool ⟨.str _, H, I.tok _, ⟨_, rfl⟩, by simpa only [PyData.shown] using q⟩
  | int i =>
    cases hd
    obtain ⟨t, rfl⟩ := ru
    exact PySem.P.repr_of_int (by simpa [PyData.showable] using h1) ⟨.str _, H, I.tok _, ⟨_, rfl⟩, by simpa only [PyData.shown] using q⟩
  | str x =>
    cases hd
    obtain ⟨t, rfl⟩ := ru
    exact PySem.P.repr_of_str ⟨.str _, H, I.tok _, ⟨_, rfl⟩, by simpa only [PyData.shown] using q⟩ (by simpa only [PyData.shown] using h4)
  | list ds =>
    obtain ⟨as, rd⟩ := Dp.reads I _ v u hd ru
    cases hd with
    | lst _ _ => cases ru; exact big rd rfl
  | tuple ds =>
    obtain ⟨as, rd⟩ := Dp.reads I _ v u hd ru
    cases hd with
    | tup _ _ => cases ru; exact big rd rfl
  | dict kvs => cases hd
theorem jc_repr (hu : X.A.units + 64 < cLine) (hgd : X.A.guards = some []) : JC X G (.builtin "repr") (ac1 fRepr) := by
  refine ⟨_, call_reprD hu hgd, ac1_ok fun {x Ω Φ} h {P F H v Q} o r k => ?_⟩
  obtain ⟨d, hd, h1, h2, h3, h4, q⟩ := rdD_ok h o r
  exact ⟨v, d, rfl, hd, h1, h2, h3, h4, k q o (Same.refl F) (.str _)⟩
/-! ### methods of lists -/
def isLs (x : SV) (Ω : Om) : Prop := match x with
  | .d (.list _) => True
  | .r (.ref a) => ∃ c f, At Ω a c f ∧ (match c with | .lst _ => True | .lx _ => True | _ => False)
  | _ => False
theorem isLs_ok {E : En} {P F H : Hp} {Ω : Om} {x : SV} {v : V} (h : isLs x Ω) (o : Ok E P F H Ω) (r : Rp E.K F v x) : tyV E.K "list" v H := by
  unfold isLs at h
  split at h
  · obtain ⟨a, xs, rfl, hF, _⟩ := dql r
    exact Or.inl ⟨rfl, _, SqL.of (o.ex _ _ hF)⟩
  · obtain ⟨c, f, t, hc⟩ := h
    cases (show v = _ from r)
    split at hc
    · obtain ⟨vs, h1, _⟩ := o.lst t
      exact Or.inl ⟨rfl, _, SqL.of h1⟩
    · obtain ⟨vs, h1, _⟩ := o.lx t
      exact Or.inl ⟨rfl, _, SqL.of h1⟩
    · exact hc.elim
  · exact h.elim
def aMl (am : AM) (a : AE) (t : AA) : AE := fun ρ Ω Φ => a ρ Ω fun x Ω1 => isLs x Ω1 ∧ t ρ Ω1 fun xs Ω2 => am x xs Ω2 Φ
def aMl0 (am : AM) (a : AE) : AE := fun ρ Ω Φ => a ρ Ω fun x Ω1 => isLs x Ω1 ∧ am x [] Ω1 Φ
theorem je_ml {name : Str} {id : String} {am : AM} {es : List Expr} {apos cpos : Pos} (slot : Slot "list" name id) (hty : typeOf (.builtin id) = pure (.type "method_descriptor")) (hm : JM X G id am) (ha : JE X G a aa) (ht : JA X G (e :: es) ta)
    (hbase : attributeBase a name X.env (eval a X.env) = eval a X.env := by rfl)
    (hfew : ((backTo cpos (starEach (e :: es) X.env)).all (fun x => !x.1) && (backToKw cpos (keywordEach [] X.env)).all (fun x => x.1.isSome)
      && decide ((e :: es).length + ([] : List Keyword).length + (if ([] : List Keyword).isEmpty then 0 else 1) < 30)) = true := by rfl)
    (hline : (apos.endLine == cpos.line) = true := by rfl) (hs : starEach (e :: es) X.env = (false, eval e X.env) :: starEach es X.env := by rfl) (hplain : (backTo cpos (starEach es X.env)).any (·.1) = false := by rfl) :
    JE X G (.Call (.Attribute a name apos) (e :: es) [] cpos) (aMl am aa ta) := by
  obtain ⟨r, h1, h2⟩ := hm
  obtain ⟨t, h3, h4⟩ := ha
  obtain ⟨u, h5, h6⟩ := ht
  refine ⟨_, pe_bm PySem.F.plainAttrs_list slot hty h1 h3 h5 hbase hfew hline hs hplain, ⟨fun {ρ Ω Φ} h {P F H σ Q} o rp k => h4.go h o rp fun {v sv Ω1 F1 H1} q o1 s1 r1 => ⟨isLs_ok q.1 o1 r1, ?_⟩⟩⟩
  exact h6.go q.2 o1 (rpe_same s1 rp) fun q2 o2 s2 r2 => h2.go q2 o2 (r1.same s2) r2 fun q3 o3 s3 r3 => k q3 o3 ((s1.trans s2).trans s3) r3
theorem je_ml0 {name : Str} {id : String} {am : AM} {apos cpos : Pos} (slot : Slot "list" name id) (hty : typeOf (.builtin id) = pure (.type "method_descriptor")) (hm : JM X G id am) (ha : JE X G a aa)
    (hbase : attributeBase a name X.env (eval a X.env) = eval a X.env := by rfl) (hline : (apos.endLine == cpos.line) = true := by rfl) : JE X G (.Call (.Attribute a name apos) [] [] cpos) (aMl0 am aa) := by
  obtain ⟨r, h1, h2⟩ := hm
  obtain ⟨t, h3, h4⟩ := ha
  refine ⟨_, pe_bm0 PySem.F.plainAttrs_list slot hty h1 h3 hbase hline, ⟨fun {ρ Ω Φ} h {P F H σ Q} o rp k => h4.go h o rp fun {v sv Ω1 F1 H1} q o1 s1 r1 => ⟨isLs_ok q.1 o1 r1, ?_⟩⟩⟩
  exact h2.go q.2 o1 r1 .nil fun q3 o3 s3 r3 => k q3 o3 (s1.trans s3) r3
/-- xs.append(y) -/
def amAppend : AM := fun x xs Ω Φ => match x, xs with
  | .r (.ref p), [y] => ∃ c f, At Ω p c f ∧ (match c, y with
    | .lst ds, .d d => ds.length < sizeLine ∧ Φ (.d .none) (f (.lst (ds ++ [d])))
    | .lx ys, y => ys.length < sizeLine ∧ Φ (.d .none) (f (.lx (ys ++ [y])))
    | .lst ds, y => ds.length < sizeLine ∧ Φ (.d .none) (f (.lx (ds.map SV.d ++ [y])))
    | _, _ => False)
  | _, _ => False
theorem jm_append : JM X G "list.append" amAppend := by
  refine ⟨_, mt_append, ⟨fun {x xs Ω Φ} h {P F H v vs Q} o r rs k => ?_⟩⟩
  unfold amAppend at h
  split at h
  · rename_i p y
    obtain ⟨c, f, t, h⟩ := h
    cases (show v = _ from r)
    obtain ⟨u, rfl, ru⟩ := pr1 rs
    split at h
    · obtain ⟨ws, h1, h2⟩ := o.lst t
      exact ⟨p, ws, u, rfl, rfl, h1, by rw [dqa_len h2]; exact h.1, k h.2 (o.put t (dqa_app h2 (.cons ru .nil))) (Same.refl F) .non⟩
    · obtain ⟨ws, h1, h2⟩ := o.lx t
      exact ⟨p, ws, u, rfl, rfl, h1, by rw [h2.length]; exact h.1, k h.2 (o.put t (pr_app h2 (.cons ru .nil))) (Same.refl F) .non⟩
    · obtain ⟨ws, h1, h2⟩ := o.lst t
      exact ⟨p, ws, u, rfl, rfl, h1, by rw [dqa_len h2]; exact h.1, k h.2 (o.put t (pr_app (of_dqa h2) (.cons ru .nil))) (Same.refl F) .non⟩
    · exact h.elim
  · exact h.elim
/-- xs.pop(), xs.pop(i) -/
def amPop : AM := fun x xs Ω Φ => match x, xs with
  | .r (.ref p), [] => ∃ ds f, At Ω p (.lst ds) f ∧ ∃ d, ds[ds.length - 1]? = some d ∧ Φ (.d d) (f (.lst ds.dropLast))
  | .r (.ref p), [.d (.int i)] => ∃ ds f, At Ω p (.lst ds) f ∧ ∃ d, 0 ≤ i ∧ i < 2 ^ 63 ∧ ds[i.toNat]? = some d ∧ Φ (.d d) (f (.lst (ds.eraseIdx i.toNat)))
  | _, _ => False
theorem dqa_dropLast {K : Frag} {F : Hp} {vs : List V} {ds : List PyData} (h : DqAll K F vs ds) : DqAll K F vs.dropLast ds.dropLast := by
  rw [List.dropLast_eq_take, List.dropLast_eq_take, dqa_len h]
  exact dqa_take _ h
theorem jm_pop : JM X G "list.pop" amPop := by
  refine ⟨_, MtR.or mt_pop mt_popAt, ⟨fun {x xs Ω Φ} h {P F H v vs Q} o r rs k => ?_⟩⟩
  unfold amPop at h
  split at h
  · obtain ⟨ds, f, t, d, e, q⟩ := h
    cases (show v = _ from r)
    cases rs
    obtain ⟨ws, h1, h2⟩ := o.lst t
    obtain ⟨u, e2, ru⟩ := dqa_get h2 e
    rw [← dqa_len h2] at e2
    exact Or.inl ⟨_, ws, u, rfl, rfl, h1, e2, k q (o.put t (dqa_dropLast h2)) (Same.refl F) ru⟩
  · rename_i p i
    obtain ⟨ds, f, t, d, h0, h63, e, q⟩ := h
    cases (show v = _ from r)
    obtain ⟨u, rfl, ru⟩ := pr1 rs
    cases dqi ru
    obtain ⟨ws, h1, h2⟩ := o.lst t
    obtain ⟨u, e2, ru⟩ := dqa_get h2 e
    have hlt : i.toNat < ws.length := (List.getElem?_eq_some_iff.mp e2).1
    exact Or.inr ⟨_, ws, i, i.toNat, u, rfl, rfl, h1, by omega, h63, by first | exact seqIndex_of h0 (by omega) | (unfold seqIndex?; simp; omega), e2, k q (o.put t (dqa_erase _ h2)) (Same.refl F) ru⟩
  · exact h.elim
/-- xs.extend(ys) -/
def amExtend : AM := fun x xs Ω Φ => match x, xs with
  | .r (.ref p), [y] => ∃ ds f, At Ω p (.lst ds) f ∧ rdL y Ω fun es => ds.length + es.length ≤ sizeLine ∧ Φ (.d .none) (f (.lst (ds ++ es)))
  | _, _ => False
theorem jm_extend : JM X G "list.extend" amExtend := by
  refine ⟨_, mt_extend, ⟨fun {x xs Ω Φ} h {P F H v vs Q} o r rs k => ?_⟩⟩
  unfold amExtend at h
  split at h
  · obtain ⟨ds, f, t, h⟩ := h
    cases (show v = _ from r)
    obtain ⟨u, rfl, ru⟩ := pr1 rs
    obtain ⟨ws, h1, h2⟩ := o.lst t
    obtain ⟨b, us, es, rfl, h3, h4, h5, q⟩ := rdL_ok h o ru
    exact ⟨_, b, ws, us, rfl, rfl, h1, h3, by rw [dqa_len h2, dqa_len h4]; exact h5, k q (o.put t (dqa_app h2 h4)) (Same.refl F) .non⟩
  · exact h.elim
end
end Z
/-! Z5: calls of defs by contracts; what a for walks; targets; statements; comprehensions; a def by its body. -/
namespace Z
open PySem PySem.Spec PyProof.Rows L2
/-! ### contracts -/
abbrev XI := Value × Option (List (Str × SV))
abbrev XA := XI → Om → Prop
abbrev Con := List SV → Om → PhiE → XA → Prop
def RpX (K : Frag) (F H : Hp) (cls : Value) (d : Option Addr) (x : XI) : Prop := cls = x.1 ∧ match d, x.2 with
  | none, none => True
  | some a, some fs => ∃ gs, H a = some (.xd gs) ∧ Paired (fun p q => p.1 = q.1 ∧ Rp K F p.2 q.2) gs fs
  | _, _ => False
def spOf (K : Frag) (T : Con) : Sp := fun vs H Q Ex => ∃ (P F : Hp) (Ω : Om) (svs : List SV) (Φ : PhiE) (Ξ : XA), Ok ⟨⟨F, H, P⟩, K⟩ P F H Ω ∧ Paired (Rp K F) vs svs ∧ T svs Ω Φ Ξ ∧
  (∀ v sv Ω' P' F' H', Φ sv Ω' → Ok ⟨⟨F, H, P⟩, K⟩ P' F' H' Ω' → Rp K F' v sv → Q v H') ∧ (∀ x Ω' P' F' H' cls d, Ξ x Ω' → Ok ⟨⟨F, H, P⟩, K⟩ P' F' H' Ω' → RpX K F' H' cls d x → Ex cls d H')
abbrev Ari (T : Con) (n : Nat) : Prop := ∀ svs Ω Φ Ξ, T svs Ω Φ Ξ → svs.length = n
/-- no exception is wished for -/
abbrev xno : Rho → XA := fun _ _ _ => False
def XOk (X : Cx) (G : Gn) (E : L2.St → XK) (Ξ : Rho → XA) : Prop := ∀ {σ : L2.St} {ρ : Rho} {x : XI} {Ω : Om} {P F H : Hp} {cls : Value} {d : Option Addr}, Ξ ρ x Ω → Ok (enX X G) P F H Ω → RpE X.K F σ ρ → RpX X.K F H cls d x → E σ cls d H
theorem xok0 {X : Cx} {G : Gn} {E : L2.St → XK} : XOk X G E xno := fun h => h.elim
section
variable {X : Cx} {G : Gn} {e a b : Expr} {aa ab : AE} {at_ bt : AT} {ta tb : AA} {pos : Pos} {m : Mode}
variable {CX : CXT} {k : Nat} {f : Addr} {fd : FuncData} {ps ks : List Str} {T : Con} {E : L2.St → XK} {Ξ : Rho → XA} {x : Str} {p : Pos} {es : List Expr} {kws : List Keyword}
def aCall (T : Con) (Ξ : Rho → XA) (t : AA) : AE := fun ρ Ω Φ => t ρ Ω fun svs Ω' => T svs Ω' Φ (Ξ ρ)
theorem enter_sp {P F H : Hp} {Ω : Om} {vs : List V} {svs : List SV} {Φ : PhiE} {Q : VK} {σ : L2.St} {ρ : Rho} (o : Ok (enX X G) P F H Ω) (r : Paired (Rp X.K F) vs svs) (rp : RpE X.K F σ ρ) (hE : XOk X G E Ξ) (h : T svs Ω Φ (Ξ ρ))
    (k : Aft (enX X G) P F Φ Q) : spOf X.K T vs H Q (E σ) := by
  refine ⟨P, F, Ω, svs, Φ, Ξ ρ, o.enter, r, h, fun v sv Ω' P' F' H' q o' r' => k q (o.leave o') o'.f0 r', fun x Ω' P' F' H' cls d q o' r' => ?_⟩
  exact hE q (o.leave o') (rpe_same o'.f0 rp) r'
theorem je_call (F : FnG X.prog X.w X.K X.mg X.base CX k f fd ps (spOf X.K T)) (hr : Room k X.A) (hgd : X.A.guards = some []) (hg : Gl X x) (hm : X.mg x = some (.ref f)) (hk : PySem.W.keepIn X.K (.ref f) = true)
    (hb : Binds X.K fd ps []) (hx : ∀ σ, PassAt CX X σ (E σ)) (hE : XOk X G E Ξ) (ha : JA X G (e :: es) ta) (hdb : (x == ("__debug__" : Str)) = false := by decide)
    (he : starEach (e :: es) X.env = (false, eval e X.env) :: starEach es X.env := by rfl) (hpl : (backTo pos (starEach es X.env)).any (·.1) = false := by rfl) :
    JE X G (.Call (.Name x p) (e :: es) [] pos) (aCall T Ξ ta) := by
  obtain ⟨t, h1, h2⟩ := ha
  exact ⟨_, pg_call F hr hgd hg hm hk hb hx h1 hdb he hpl, ⟨fun {ρ Ω Φ} h {P F H σ Q} o rp k => h2.go h o rp fun q o1 s1 r1 => enter_sp o1 r1 (rpe_same s1 rp) hE q fun q2 o2 s2 r2 => k q2 o2 (s1.trans s2) r2⟩⟩
theorem je_call0 (F : FnG X.prog X.w X.K X.mg X.base CX k f fd ps (spOf X.K T)) (hr : Room k X.A) (hgd : X.A.guards = some []) (hg : Gl X x) (hm : X.mg x = some (.ref f)) (hk : PySem.W.keepIn X.K (.ref f) = true)
    (hb : Binds X.K fd ps []) (hx : ∀ σ, PassAt CX X σ (E σ)) (hE : XOk X G E Ξ) (hdb : (x == ("__debug__" : Str)) = false := by decide) : JE X G (.Call (.Name x p) [] [] pos) (aCall T Ξ aNil) :=
  ⟨_, pg_call0 F hr hgd hg hm hk hb hx hdb, ⟨fun {ρ Ω Φ} h {P F H σ Q} o rp k => enter_sp o .nil rp hE h k⟩⟩
/-! ### calls with keywords: π tells where each parameter's value stands among the positional ones and the keywords' -/
def gP {α : Type} (d : α) (n m : Nat) (π : List Nat) (us ws : List α) : List α := if us.length = n ∧ ws.length = m then π.map fun i => (us ++ ws).getD i d else []
def KArg (K : Frag) (fd : FuncData) (ps ks : List Str) (n : Nat) (π : List Nat) : Prop := ∀ (s : Shared) (us ws : List Value), K.In s.heap → us.length = n → ws.length = ks.length → BindsTo s fd ⟨us, ks.zip ws⟩ (ps.zip (π.map fun i => (us ++ ws).getD i .none))
theorem vals_gP {n m : Nat} {π : List Nat} {vs zs : List V} {us ws : List Value} (r : Vals vs us) (rz : Vals zs ws) : Vals (gP .non n m π vs zs) (gP .none n m π us ws) := by
  unfold gP
  rw [r.length, rz.length]
  split
  · have q := r.append rz
    induction π with
    | nil => exact .nil
    | cons i π ih =>
      refine .cons ?_ ih
      show RelV ((vs ++ zs).getD i .non) ((us ++ ws).getD i .none)
      cases e : (vs ++ zs)[i]? with
      | none =>
        rw [List.getD_eq_getElem?_getD, List.getD_eq_getElem?_getD, e, q.none_of e]
        rfl
      | some v =>
        obtain ⟨u, hu, ru⟩ := q.get e
        rw [List.getD_eq_getElem?_getD, List.getD_eq_getElem?_getD, e, hu]
        exact ru
  · exact .nil
theorem rp_gP {K : Frag} {F : Hp} {n m : Nat} {π : List Nat} {vs zs : List V} {us ws : List SV} (r : Paired (Rp K F) vs us) (rz : Paired (Rp K F) zs ws) : Paired (Rp K F) (gP .non n m π vs zs) (gP (.d .none) n m π us ws) := by
  unfold gP
  rw [r.length, rz.length]
  split
  · have q := pr_app r rz
    induction π with
    | nil => exact .nil
    | cons i π ih =>
      refine .cons ?_ ih
      show Rp K F ((vs ++ zs).getD i .non) ((us ++ ws).getD i (.d .none))
      cases e : (us ++ ws)[i]? with
      | none =>
        have e2 : (vs ++ zs)[i]? = none := by
          have hl := q.length
          have := List.getElem?_eq_none_iff.mp e
          exact List.getElem?_eq_none_iff.mpr (by omega)
        rw [List.getD_eq_getElem?_getD, List.getD_eq_getElem?_getD, e, e2]
        exact Dq.non
      | some v =>
        obtain ⟨u, hu, ru⟩ := pr_get q e
        rw [List.getD_eq_getElem?_getD, List.getD_eq_getElem?_getD, e, hu]
        exact ru
  · exact .nil
theorem fin_callK {sp : Sp} {n : Nat} {π : List Nat} {pins : List (Addr × Obj)} {σ : L2.St} {H : Hp} {s : Shared} {Q : VK} {us ws : List Value} {vs zs : List V} (F : FnG X.prog X.w X.K X.mg X.base CX k f fd ps sp) (hr : Room k X.A) (hgd : X.A.guards = some [])
    (hb : KArg X.K fd ps ks n π) (hπ : 0 < ps.length) (hx : PassAt CX X σ (E σ)) (I : Inv X pins σ H s) (r : Vals vs us) (rz : Vals zs ws) (h : sp (gP .non n ks.length π vs zs) H Q (E σ)) :
    wpAny (model X.prog X.w) X.A (PySem.call (.ref f) us (ks.zip ws)) (EP X pins σ Q) X.xe s := by
  refine wp_of_code (runG (us := gP .none n ks.length π us ws) F hr hgd hx I (fun hl => ?_) (vals_gP r rz) h)
  by_cases hc : us.length = n ∧ ws.length = ks.length
  · have e : gP Value.none n ks.length π us ws = π.map fun i => (us ++ ws).getD i .none := by unfold gP; rw [if_pos hc]
    rw [e]
    exact hb s us ws I.kIn hc.1 hc.2
  · have e : gP Value.none n ks.length π us ws = [] := by unfold gP; rw [if_neg hc]
    rw [e] at hl
    exact absurd hl (by simp; omega)
theorem pg_callK {sp : Sp} {t tk : TA} {n : Nat} {π : List Nat} (F : FnG X.prog X.w X.K X.mg X.base CX k f fd ps sp) (hr : Room k X.A) (hgd : X.A.guards = some []) (hg : Gl X x) (hm : X.mg x = some (.ref f)) (hk : PySem.W.keepIn X.K (.ref f) = true)
    (hb : KArg X.K fd ps ks n π) (hπ : 0 < ps.length) (hx : ∀ σ, PassAt CX X σ (E σ)) (ha : PA X (e :: es) t) (hkw : PK X kws tk)
    (hall : (backToKw pos (keywordEach kws X.env)).all (·.1.isSome) = true) (hks : (backToKw pos (keywordEach kws X.env)).filterMap (·.1) = ks) (hdb : (x == ("__debug__" : Str)) = false)
    (he : starEach (e :: es) X.env = (false, eval e X.env) :: starEach es X.env)
    (hpl : ((backTo pos (starEach (e :: es) X.env)).any (·.1) || (backToKw pos (keywordEach kws X.env)).any (·.1.isNone)) = false) : PE X (.Call (.Name x p) (e :: es) kws pos) (tCallGK sp (gP .non n ks.length π) E t tk) := by
  refine ⟨fun pins s σ H Q I h => wpAny_Call_Name_kw (ld_glob I hg hm (PySem.W.callWith_KW (h₀ := X.base) I.ok.mod.kin hk hall ?_ hpl he) hdb)⟩
  refine thn (ha.run pos pins s σ H _ I h) fun us s1 ⟨vs, H1, I1, r, q⟩ => thn (hkw.run pos pins s1 σ H1 _ I1 q) fun ws s2 ⟨zs, H2, I2, rz, q2⟩ => ⟨I2.kIn, ?_⟩
  rw [hks]
  exact fin_callK F hr hgd hb hπ (hx σ) I2 r rz q2
theorem pg_callK0 {sp : Sp} {tk : TA} {n : Nat} {π : List Nat} (F : FnG X.prog X.w X.K X.mg X.base CX k f fd ps sp) (hr : Room k X.A) (hgd : X.A.guards = some []) (hg : Gl X x) (hm : X.mg x = some (.ref f)) (hk : PySem.W.keepIn X.K (.ref f) = true)
    (hb : KArg X.K fd ps ks n π) (hπ : 0 < ps.length) (hx : ∀ σ, PassAt CX X σ (E σ)) (hkw : PK X kws tk)
    (hall : (backToKw pos (keywordEach kws X.env)).all (·.1.isSome) = true) (hks : (backToKw pos (keywordEach kws X.env)).filterMap (·.1) = ks) (hdb : (x == ("__debug__" : Str)) = false)
    (hpl : ((backTo pos (starEach [] X.env)).any (·.1) || (backToKw pos (keywordEach kws X.env)).any (·.1.isNone)) = false) : PE X (.Call (.Name x p) [] kws pos) (tCallGK sp (gP .non n ks.length π) E tNil tk) := by
  refine ⟨fun pins s σ H Q I h => wpAny_Call_Name_kw (ld_glob I hg hm (PySem.W.callWith_KW0 (h₀ := X.base) I.ok.mod.kin hk hall ?_ hpl) hdb)⟩
  refine thn (hkw.run pos pins s σ H _ I h) fun ws s2 ⟨zs, H2, I2, rz, q2⟩ => ⟨I2.kIn, ?_⟩
  rw [hks]
  exact fin_callK (us := []) F hr hgd hb hπ (hx σ) I2 .nil rz q2
def aCallK (T : Con) (Ξ : Rho → XA) (n m : Nat) (π : List Nat) (t tk : AA) : AE := fun ρ Ω Φ => t ρ Ω fun xs Ω1 => tk ρ Ω1 fun zs Ω2 => T (gP (.d .none) n m π xs zs) Ω2 Φ (Ξ ρ)
theorem je_callK0 {n : Nat} {π : List Nat} (F : FnG X.prog X.w X.K X.mg X.base CX k f fd ps (spOf X.K T)) (hr : Room k X.A) (hgd : X.A.guards = some []) (hg : Gl X x) (hm : X.mg x = some (.ref f)) (hk : PySem.W.keepIn X.K (.ref f) = true)
    (hb : KArg X.K fd ps ks n π) (hπ : 0 < ps.length) (hx : ∀ σ, PassAt CX X σ (E σ)) (hE : XOk X G E Ξ) (hkw : JK X G kws tb)
    (hall : (backToKw pos (keywordEach kws X.env)).all (·.1.isSome) = true := by rfl) (hks : (backToKw pos (keywordEach kws X.env)).filterMap (·.1) = ks := by rfl) (hdb : (x == ("__debug__" : Str)) = false := by decide)
    (hpl : ((backTo pos (starEach [] X.env)).any (·.1) || (backToKw pos (keywordEach kws X.env)).any (·.1.isNone)) = false := by rfl) :
    JE X G (.Call (.Name x p) [] kws pos) (aCallK T Ξ n ks.length π aNil tb) := by
  obtain ⟨u, h3, h4⟩ := hkw
  exact ⟨_, pg_callK0 F hr hgd hg hm hk hb hπ hx h3 hall hks hdb hpl, ⟨fun {ρ Ω Φ} h {P F H σ Q} o rp k => h4.go h o rp fun q o1 s1 r1 => enter_sp o1 (rp_gP .nil r1) (rpe_same s1 rp) hE q fun q2 o2 s2 r2 => k q2 o2 (s1.trans s2) r2⟩⟩
theorem je_callK {n : Nat} {π : List Nat} (F : FnG X.prog X.w X.K X.mg X.base CX k f fd ps (spOf X.K T)) (hr : Room k X.A) (hgd : X.A.guards = some []) (hg : Gl X x) (hm : X.mg x = some (.ref f)) (hk : PySem.W.keepIn X.K (.ref f) = true)
    (hb : KArg X.K fd ps ks n π) (hπ : 0 < ps.length) (hx : ∀ σ, PassAt CX X σ (E σ)) (hE : XOk X G E Ξ) (ha : JA X G (e :: es) ta) (hkw : JK X G kws tb)
    (hall : (backToKw pos (keywordEach kws X.env)).all (·.1.isSome) = true := by rfl) (hks : (backToKw pos (keywordEach kws X.env)).filterMap (·.1) = ks := by rfl) (hdb : (x == ("__debug__" : Str)) = false := by decide)
    (he : starEach (e :: es) X.env = (false, eval e X.env) :: starEach es X.env := by rfl)
    (hpl : ((backTo pos (starEach (e :: es) X.env)).any (·.1) || (backToKw pos (keywordEach kws X.env)).any (·.1.isNone)) = false := by rfl) :
    JE X G (.Call (.Name x p) (e :: es) kws pos) (aCallK T Ξ n ks.length π ta tb) := by
  obtain ⟨t, h1, h2⟩ := ha
  obtain ⟨u, h3, h4⟩ := hkw
  exact ⟨_, pg_callK F hr hgd hg hm hk hb hπ hx h1 h3 hall hks hdb he hpl, ⟨fun {ρ Ω Φ} h {P F H σ Q} o rp k => h2.go h o rp fun q o1 s1 r1 => h4.go q o1 (rpe_same s1 rp) fun q2 o2 s2 r2 => enter_sp o2 (rp_gP (rps_same s2 r1) r2) (rpe_same (s1.trans s2) rp) hE q2 fun q3 o3 s3 r3 => k q3 o3 ((s1.trans s2).trans s3) r3⟩⟩
end
end Z
/-! Z6: what a for walks; targets; statements; a def by its body. -/
namespace Z
open PySem PySem.Spec PyProof.Rows L2
/-! ### targets -/
abbrev AG := SV → Rho → (Rho → Prop) → Prop
abbrev AGs := List SV → Rho → (Rho → Prop) → Prop
structure SnG (E : En) (g : TG) (ag : AG) : Prop where
  go : ∀ {x : SV} {ρ : Rho} {k : Rho → Prop}, ag x ρ k → ∀ {P F H : Hp} {Ω : Om} {v : V} {σ : L2.St} {Q : L2.St → Hp → Prop}, Ok E P F H Ω → RpE E.K F σ ρ → Rp E.K F v x → (∀ {σ' ρ'}, k ρ' → RpE E.K F σ' ρ' → Q σ' H) → g v σ H Q
structure SnGs (E : En) (g : TGs) (ag : AGs) : Prop where
  go : ∀ {xs : List SV} {ρ : Rho} {k : Rho → Prop}, ag xs ρ k → ∀ {P F H : Hp} {Ω : Om} {vs : List V} {σ : L2.St} {Q : L2.St → Hp → Prop}, Ok E P F H Ω → RpE E.K F σ ρ → Paired (Rp E.K F) vs xs → (∀ {σ' ρ'}, k ρ' → RpE E.K F σ' ρ' → Q σ' H) → g vs σ H Q
def JG (X : Cx) (G : Gn) (tg : Expr) (ag : AG) : Prop := ∃ g, PG X tg g ∧ SnG (enX X G) g ag
def JGs (X : Cx) (G : Gn) (tg : List Expr) (ag : AGs) : Prop := ∃ g, PGs X tg g ∧ SnGs (enX X G) g ag
def gN (i : Nat) : AG := fun x ρ k => k (ρ.set i (some x))
def gT (n : Nat) (gs : AGs) : AG := fun x ρ k => match x with
  | .d (.tuple ds) => ds.length = n ∧ gs (ds.map SV.d) ρ k
  | _ => False
def gs0 : AGs := fun xs ρ k => match xs with
  | [] => k ρ
  | _ => False
def gs1 (g : AG) (gs : AGs) : AGs := fun xs ρ k => match xs with
  | x :: r => g x ρ fun ρ' => gs r ρ' k
  | _ => False
/-! ### statements -/
structure AEnds where
  nx : Rho → Om → Prop
  rt : PhiE
  bk : Rho → Om → Prop := fun _ _ => False
  ct : Rho → Om → Prop := fun _ _ => False
abbrev AS := AEnds → Rho → Om → Prop
structure EndsOk (E : En) (P Fl : Hp) (D : AEnds) (D' : Ends) : Prop where
  nx : ∀ {ρ : Rho} {Ω : Om} {F H : Hp} {σ : L2.St}, D.nx ρ Ω → Ok E P F H Ω → Same Fl F → RpE E.K F σ ρ → D'.nx σ H
  rt : ∀ {x : SV} {Ω : Om} {F H : Hp} {v : V}, D.rt x Ω → Ok E P F H Ω → Same Fl F → Rp E.K F v x → D'.rt v H
  bk : ∀ {ρ : Rho} {Ω : Om} {F H : Hp} {σ : L2.St}, D.bk ρ Ω → Ok E P F H Ω → Same Fl F → RpE E.K F σ ρ → D'.bk σ H
  ct : ∀ {ρ : Rho} {Ω : Om} {F H : Hp} {σ : L2.St}, D.ct ρ Ω → Ok E P F H Ω → Same Fl F → RpE E.K F σ ρ → D'.ct σ H
theorem EndsOk.up {E : En} {P Fl Fm : Hp} {D : AEnds} {D' : Ends} (k : EndsOk E P Fl D D') (s : Same Fl Fm) : EndsOk E P Fm D D' :=
  ⟨fun q o z r => k.nx q o (s.trans z) r, fun q o z r => k.rt q o (s.trans z) r, fun q o z r => k.bk q o (s.trans z) r, fun q o z r => k.ct q o (s.trans z) r⟩
structure SnS (E : En) (ts : TS) (a : AS) : Prop where
  go : ∀ {D : AEnds} {ρ : Rho} {Ω : Om}, a D ρ Ω → ∀ {P F H : Hp} {σ : L2.St} {D' : Ends}, EndsOk E P F D D' → Ok E P F H Ω → RpE E.K F σ ρ → ts D' σ H
def JS (X : Cx) (G : Gn) (st : Stmt) (a : AS) : Prop := ∃ t, PS X st t ∧ SnS (enX X G) t a
def JSs (X : Cx) (G : Gn) (st : List Stmt) (a : AS) : Prop := ∃ t, PSs X st t ∧ SnS (enX X G) t a
/-! ### what is walked: the items, and what is to stand meanwhile -/
structure ItOk (E : En) (F0 : Hp) (J : It) (xs : List SV) (Kp : Om → Prop) : Prop where
  go : ∀ {i : Nat} {P F H : Hp} {Ω : Om}, Same F0 F → Ok E P F H Ω → Kp Ω → i < xs.length → J.go i H
  yl : ∀ {i : Nat} {P F H : Hp} {Ω : Om} {x : V} {H' : Hp} {y : SV}, Same F0 F → Ok E P F H Ω → Kp Ω → J.yld i H x H' → xs[i]? = some y → ∃ F', Ok E P F' H' Ω ∧ Same F F' ∧ Rp E.K F' x y
  st : ∀ {i : Nat} {P F H : Hp} {Ω : Om}, Same F0 F → Ok E P F H Ω → Kp Ω → xs.length ≤ i → J.stop i H
abbrev PhiI := List SV → (Om → Prop) → Om → Prop
abbrev AI := Rho → Om → PhiI → Prop
structure SnI (E : En) (wi : TI) (ai : AI) : Prop where
  go : ∀ {ρ : Rho} {Ω : Om} {Φ : PhiI}, ai ρ Ω Φ → ∀ {P F H : Hp} {σ : L2.St} {R : It → Hp → Prop}, Ok E P F H Ω → RpE E.K F σ ρ →
    (∀ {J : It} {xs : List SV} {Kp : Om → Prop} {Ω' : Om} {F' H' : Hp}, Φ xs Kp Ω' → Ok E P F' H' Ω' → Same F F' → ItOk E F' J xs Kp → R J H') → wi σ H R
def JI (X : Cx) (G : Gn) (tg iter : Expr) (ai : AI) : Prop := ∃ wi, PI X tg iter wi ∧ SnI (enX X G) wi ai
section
variable {X : Cx} {G : Gn} {e a b tg : Expr} {aa ab : AE} {at_ bt : AT} {ta tb : AA} {pos : Pos} {m : Mode} {g : AG} {gs : AGs} {s t : AS} {ai : AI}
theorem jg_name {i : Nat} {x : Str} (hN : X.N.Nodup) (hi : X.N[i]? = some x) (hx : Loc X.env.scope x) (hf : X.fn x = true ∨ X.env.scope.names.lookup x = some .local := by first | exact .inl rfl | exact .inr rfl | assumption) : JG X G (.Name x pos) (gN i) :=
  ⟨_, pg_name hN hi hx hf, ⟨fun {x ρ k} h {P F H Ω v σ Q} o rp r q => q h (pr_set (R := RpS X.K F) (y := some x) ⟨_, rfl, r⟩ i rp)⟩⟩
theorem jgs0 : JGs X G [] gs0 := by
  refine ⟨_, pgs_nil, ⟨fun {xs ρ k} h {P F H Ω vs σ Q} o rp r q => ?_⟩⟩
  unfold gs0 at h
  split at h
  · cases r
    exact ⟨rfl, q h rp⟩
  · exact h.elim
theorem jgs1 {es : List Expr} (h1 : JG X G e g) (h2 : JGs X G es gs) (hs : (assignEach (e :: es) X.env).map (·.2) = assign e X.env :: (assignEach es X.env).map (·.2) := by rfl) : JGs X G (e :: es) (gs1 g gs) := by
  obtain ⟨g', p1, q1⟩ := h1
  obtain ⟨u, p2, q2⟩ := h2
  refine ⟨_, pgs_cons p1 p2 hs, ⟨fun {xs ρ k} h {P F H Ω vs σ Q} o rp r q => ?_⟩⟩
  unfold gs1 at h
  split at h
  · cases r with
    | cons r1 r2 => exact ⟨_, _, rfl, q1.go h o rp r1 fun h' rp' => q2.go h' o rp' r2 q⟩
  · exact h.elim
theorem jg_tup {es : List Expr} {n k' : Nat} (hc : X.calm = true) (h : JGs X G es gs) (hn : (assignEach es X.env).length = n := by rfl) (hst : (assignEach es X.env).findIdx? (·.1) = none := by rfl) : JG X G (.Tuple es k' pos) (gT n gs) := by
  obtain ⟨u, p, q'⟩ := h
  refine ⟨_, pg_tup hc p hn hst, ⟨fun {x ρ k} h {P F H Ω v σ Q} o rp r q => ?_⟩⟩
  unfold gT at h
  split at h
  · obtain ⟨p, vs, rfl, hF, da⟩ := dqt r
    exact ⟨p, vs, rfl, sqt_same o.ex hF, by rw [dqa_len da]; exact h.1, q'.go h.2 o rp (of_dqa da) q⟩
  · exact h.elim
/-! ### what is walked -/
abbrev kpT : Om → Prop := fun _ => True
def kpAt (p : Addr) (c : OC) : Om → Prop := fun Ω => ∃ f, At Ω p c f
theorem itl_ok {E : En} {F0 : Hp} {p : Addr} {xs : List SV} {Kp : Om → Prop}
    (h : ∀ {P F H : Hp} {Ω : Om}, Same F0 F → Ok E P F H Ω → Kp Ω → ∃ vs, SqL E.K H p vs ∧ Paired (Rp E.K F) vs xs) : ItOk E F0 (Itl E.K p) xs Kp := by
  refine ⟨fun s o k hi => ?_, fun s o k y e => ?_, fun s o k hi => ?_⟩
  · obtain ⟨vs, h1, h2⟩ := h s o k
    obtain ⟨v, hv, _⟩ := pr_get h2 (List.getElem?_eq_getElem hi)
    exact ⟨vs, v, h1, hv⟩
  · obtain ⟨vs, h1, h2⟩ := h s o k
    obtain ⟨rfl, y2⟩ := y
    obtain ⟨v, hv, r⟩ := pr_get h2 e
    rw [y2 vs h1] at hv
    cases hv
    exact ⟨_, o, Same.refl _, r⟩
  · obtain ⟨vs, h1, h2⟩ := h s o k
    exact ⟨vs, h1, by rw [h2.length]; exact hi⟩
theorem itt_ok {E : En} {F0 : Hp} {p : Addr} {xs : List SV} {Kp : Om → Prop}
    (h : ∀ {P F H : Hp} {Ω : Om}, Same F0 F → Ok E P F H Ω → Kp Ω → ∃ vs, SqT E.K H p vs ∧ Paired (Rp E.K F) vs xs) : ItOk E F0 (Itt E.K p) xs Kp := by
  refine ⟨fun s o k hi => ?_, fun s o k y e => ?_, fun s o k hi => ?_⟩
  · obtain ⟨vs, h1, h2⟩ := h s o k
    obtain ⟨v, hv, _⟩ := pr_get h2 (List.getElem?_eq_getElem hi)
    exact ⟨vs, v, h1, hv⟩
  · obtain ⟨vs, h1, h2⟩ := h s o k
    obtain ⟨rfl, y2⟩ := y
    obtain ⟨v, hv, r⟩ := pr_get h2 e
    rw [y2 vs h1] at hv
    cases hv
    exact ⟨_, o, Same.refl _, r⟩
  · obtain ⟨vs, h1, h2⟩ := h s o k
    exact ⟨vs, h1, by rw [h2.length]; exact hi⟩
def seqI (x : SV) (Ω : Om) (Φ : PhiI) : Prop := match x with
  | .d (.list ds) => Φ (ds.map SV.d) kpT Ω
  | .d (.tuple ds) => Φ (ds.map SV.d) kpT Ω
  | .d (.str z) => Φ (z.cps.toList.map fun c => SV.d (.str ⟨#[c]⟩)) kpT Ω
  | .l ds => Φ (ds.map SV.d) kpT Ω
  | .r (.ref p) => ∃ c f, At Ω p c f ∧ (match c with
    | .lst ds => Φ (ds.map SV.d) (kpAt p (.lst ds)) Ω
    | .lx xs => Φ xs (kpAt p (.lx xs)) Ω
    | _ => False)
  | _ => False
def aIt (a : AE) : AI := fun ρ Ω Φ => a ρ Ω fun x Ω' => seqI x Ω' Φ
end
section
variable {X : Cx} {G : Gn} {e a b tg : Expr} {aa ab : AE} {at_ bt : AT} {ta tb : AA} {pos : Pos} {m : Mode} {g : AG} {gs : AGs} {s t : AS} {ai : AI}
/-- for x in e: e's reading is made once for each kind of thing walked -/
def iSeq (K : Frag) (tl : TE) : TI := fun σ H R => tl σ H fun x H1 => (∃ a, x = .ref a ∧ (∃ xs, SqL K H1 a xs) ∧ R (Itl K a) H1) ∨ (∃ a, x = .ref a ∧ (∃ xs, SqT K H1 a xs) ∧ R (Itt K a) H1) ∨ ∃ z, x = .str z ∧ R (Its z) H1
theorem pi_seq {l : Expr} {tl : TE} (hl : PE X l tl) : PI X tg l (iSeq X.K tl) := by
  refine ⟨fun pins s σ H R I h => thn (hl.run pins s σ H _ I h) fun v s1 ⟨x, H1, I1, r1, q⟩ => ?_⟩
  have fp : ∀ b ∈ [s1.heap.objs.size], FpOk X pins H1 b := fun b hb => by
    rw [List.mem_singleton.mp hb]
    exact I1.fpOk (Nat.le_refl _) (I1.hok.fresh (Nat.le_refl _))
  have kp : ∀ (ob : Obj), Inv X pins σ H1 { s1 with heap := s1.heap.push ob } := fun ob => I1.kept (t' := s1.toks) fun _ _ z => Heap.get?_push_of_some _ z
  rcases q with ⟨a, rfl, ⟨xs, hx⟩, q⟩ | ⟨a, rfl, ⟨xs, hx⟩, q⟩ | ⟨z, rfl, q⟩
  · cases r1
    obtain ⟨its, rv, p, hz⟩ := I1.list hx
    exact wpAny_pyIter_list p.isList ⟨_, [_], _, _, H1, rfl, kp _, turn_list a _, ⟨_, Heap.get?_push_size _ rfl, rfl, rfl⟩, fp, q⟩
  · cases r1
    obtain ⟨its, rv, p, hz⟩ := I1.tuple hx
    exact wpAny_pyIter_tuple (items := its.toArray) p ⟨_, [_], _, _, H1, rfl, kp _, turn_tuple a _, ⟨_, Heap.get?_push_size _ rfl, rfl, rfl⟩, fp, q⟩
  · obtain ⟨t, rfl⟩ := r1
    by_cases ha : z.cps.all (· < 128) = true
    · exact wpAny_pyIter_ascii ha (pi_one (tk := s1.toks) I1 _ (turn_str _ z t "str_ascii_iterator" (.inl rfl)) ⟨_, Heap.get?_push_size _ rfl, rfl, rfl⟩ q)
    · exact wpAny_pyIter_wide (by simpa using ha) (pi_one (tk := s1.toks) I1 _ (turn_str _ z t "str_iterator" (.inr rfl)) ⟨_, Heap.get?_push_size _ rfl, rfl, rfl⟩ q)
theorem its_ok {E : En} {F0 : Hp} {z : Str} : ItOk E F0 (Its z) (z.cps.toList.map fun c => SV.d (.str ⟨#[c]⟩)) kpT := by
  have hl : (z.cps.toList.map fun c => SV.d (.str ⟨#[c]⟩)).length = z.cps.size := by simp
  refine ⟨fun s o k hi => by rw [hl] at hi; exact hi, fun {i P F H Ω x H' y} s o k yy e => ?_, fun s o k hi => by rw [hl] at hi; exact hi⟩
  obtain ⟨rfl, c, hc, rfl⟩ := yy
  rw [List.getElem?_map, Array.getElem?_toList, hc] at e
  cases e
  exact ⟨F, o, Same.refl F, .str _⟩
theorem ji_of (ha : JE X G e aa) : JI X G tg e (aIt aa) := by
  obtain ⟨t, h1, h2⟩ := ha
  refine ⟨_, pi_seq h1, ⟨fun {ρ Ω Φ} h {P F H σ R} o rp k => h2.go h o rp fun {v sv Ω1 F1 H1} q o1 s1 r1 => ?_⟩⟩
  have q : seqI sv Ω1 Φ := q
  unfold seqI at q
  split at q
  · obtain ⟨p, vs, rfl, hF, da⟩ := dql r1
    exact Or.inl ⟨p, rfl, ⟨vs, SqL.of (o1.ex _ _ hF)⟩, k q o1 s1 (itl_ok fun s o _ => ⟨vs, SqL.of (o.ex _ _ (s _ _ hF)), of_dqa (dqa_same s _ _ da)⟩)⟩
  · obtain ⟨p, vs, rfl, hF, da⟩ := dqt r1
    exact Or.inr (Or.inl ⟨p, rfl, ⟨vs, sqt_same o1.ex hF⟩, k q o1 s1 (itt_ok fun s o _ => ⟨vs, sqt_same o.ex (sqt_same s hF), of_dqa (dqa_same s _ _ da)⟩)⟩)
  · cases dqs r1
    exact Or.inr (Or.inr ⟨_, rfl, k q o1 s1 its_ok⟩)
  · obtain ⟨p, vs, rfl, hF, da⟩ := r1
    exact Or.inl ⟨p, rfl, ⟨vs, o1.ex.seq hF⟩, k q o1 s1 (itl_ok fun s o _ => ⟨vs, o.ex.seq (s.seq hF), of_dqa (dqa_same s _ _ da)⟩)⟩
  · obtain ⟨c, f, t, q⟩ := q
    cases (show v = _ from r1)
    split at q
    · obtain ⟨vs, h3, h4⟩ := o1.lst t
      refine Or.inl ⟨_, rfl, ⟨vs, SqL.of h3⟩, k q o1 s1 (itl_ok fun s o kk => ?_)⟩
      obtain ⟨f', t'⟩ := kk
      obtain ⟨ws, h5, h6⟩ := o.lst t'
      exact ⟨ws, SqL.of h5, of_dqa h6⟩
    · obtain ⟨vs, h3, h4⟩ := o1.lx t
      refine Or.inl ⟨_, rfl, ⟨vs, SqL.of h3⟩, k q o1 s1 (itl_ok fun s o kk => ?_)⟩
      obtain ⟨f', t'⟩ := kk
      obtain ⟨ws, h5, h6⟩ := o.lx t'
      exact ⟨ws, SqL.of h5, h6⟩
    · exact q.elim
  · exact q.elim
/-- range(n), range(a, b) -/
def rgS (lo : Int) (n : Nat) : List SV := (List.range n).map fun i => SV.d (.int (lo + (i : Nat)))
theorem rgS_get {lo : Int} {n i : Nat} {x : SV} (h : (rgS lo n)[i]? = some x) : x = .d (.int (lo + (i : Nat))) ∧ i < n := by
  unfold rgS at h
  rw [List.getElem?_map] at h
  cases e : (List.range n)[i]? with
  | none => rw [e] at h; cases h
  | some j =>
    rw [e] at h
    obtain ⟨h1, h2⟩ := List.getElem?_eq_some_iff.mp e
    rw [List.getElem_range] at h2
    rw [List.length_range] at h1
    subst h2
    cases h
    exact ⟨rfl, h1⟩
theorem rgS_len {lo : Int} {n : Nat} : (rgS lo n).length = n := by unfold rgS; rw [List.length_map, List.length_range]
theorem itr_ok {E : En} {F0 : Hp} {lo : Int} {n : Nat} : ItOk E F0 (Itr lo n) (rgS lo n) kpT := by
  refine ⟨fun s o k hi => by rw [rgS_len] at hi; exact hi, fun {i P F H Ω x H' y} s o k yy e => ?_, fun s o k hi => by rw [rgS_len] at hi; exact hi⟩
  obtain ⟨rfl, rfl⟩ := yy
  obtain ⟨rfl, _⟩ := rgS_get e
  exact ⟨F, o, Same.refl F, .int _⟩
def bd62 (i : Int) : Prop := -(2 ^ 62) ≤ i ∧ i < 2 ^ 62
def aRng1 (t : AA) : AI := fun ρ Ω Φ => t ρ Ω fun xs Ω' => match xs with
  | [.d (.int j)] => bd62 j ∧ Φ (rgS 0 j.toNat) kpT Ω'
  | _ => False
def aRng2 (t : AA) : AI := fun ρ Ω Φ => t ρ Ω fun xs Ω' => match xs with
  | [.d (.int i), .d (.int j)] => bd62 i ∧ bd62 j ∧ Φ (rgS i (j - i).toNat) kpT Ω'
  | _ => False
theorem ji_range1 {p : Pos} (hg : Gl X "range") (hm : X.mg "range" = none) (ha : JA X G [a] ta) (hs : starEach [a] X.env = [(false, eval a X.env)] := by rfl) : JI X G tg (.Call (.Name "range" p) [a] [] pos) (aRng1 ta) := by
  obtain ⟨t, h1, h2⟩ := ha
  refine ⟨_, pi_range1 hg hm h1 hs, ⟨fun {ρ Ω Φ} h {P F H σ R} o rp k => h2.go h o rp fun {vs svs Ω1 F1 H1} q o1 s1 r1 => ?_⟩⟩
  split at q
  · obtain ⟨v, rfl, r⟩ := pr1 r1
    cases dqi r
    exact ⟨_, rfl, q.1.1, q.1.2, k q.2 o1 s1 itr_ok⟩
  · exact q.elim
theorem ji_range2 {p : Pos} (hg : Gl X "range") (hm : X.mg "range" = none) (ha : JA X G [a, b] ta) (hs : starEach [a, b] X.env = [(false, eval a X.env), (false, eval b X.env)] := by rfl) (hs2 : starEach [b] X.env = [(false, eval b X.env)] := by rfl) :
    JI X G tg (.Call (.Name "range" p) [a, b] [] pos) (aRng2 ta) := by
  obtain ⟨t, h1, h2⟩ := ha
  refine ⟨_, pi_range2 hg hm h1 hs hs2, ⟨fun {ρ Ω Φ} h {P F H σ R} o rp k => h2.go h o rp fun {vs svs Ω1 F1 H1} q o1 s1 r1 => ?_⟩⟩
  split at q
  · obtain ⟨v, u, rfl, r, r'⟩ := pr2 r1
    cases dqi r
    cases dqi r'
    exact ⟨_, _, rfl, ⟨q.1.1, q.1.2, q.2.1.1, q.2.1.2⟩, k q.2.2 o1 s1 itr_ok⟩
  · exact q.elim
/-! ### statements -/
variable {st : Stmt} {sts rest : List Stmt}
def aNx : AS := fun D ρ Ω => D.nx ρ Ω
def aSeq (s t : AS) : AS := fun D ρ Ω => s { D with nx := t D } ρ Ω
theorem jss_nil : JSs X G [] aNx := ⟨_, pss_nil, ⟨fun {D ρ Ω} h {P F H σ D'} k o rp => k.nx h o (Same.refl F) rp⟩⟩
theorem seq_ok {E : En} {ts tu : TS} {s t : AS} (h1 : SnS E ts s) (h2 : SnS E tu t) : SnS E (tSeq ts tu) (aSeq s t) :=
  ⟨fun {D ρ Ω} h {P F H σ D'} k o rp => h1.go h (D' := { D' with nx := tu D' }) ⟨fun q o z rp => h2.go q (k.up z) o rp, k.rt, k.bk, k.ct⟩ o rp⟩
theorem jss_cons (h1 : JS X G st s) (h2 : JSs X G rest t) : JSs X G (st :: rest) (aSeq s t) := by
  obtain ⟨_, p1, q1⟩ := h1
  obtain ⟨_, p2, q2⟩ := h2
  exact ⟨_, pss_cons p1 p2, seq_ok q1 q2⟩
theorem jss_one (h1 : JS X G st s) : JSs X G [st] s := by
  obtain ⟨_, p1, q1⟩ := h1
  exact ⟨_, pss_one p1, q1⟩
theorem js_pass : JS X G (.Pass pos) aNx := ⟨_, ps_pass, ⟨fun {D ρ Ω} h {P F H σ D'} k o rp => k.nx h o (Same.refl F) rp⟩⟩
def aBrk : AS := fun D ρ Ω => D.bk ρ Ω
def aCnt : AS := fun D ρ Ω => D.ct ρ Ω
theorem js_break : JS X G (.Break pos) aBrk := ⟨_, ps_break, ⟨fun {D ρ Ω} h {P F H σ D'} k o rp => k.bk h o (Same.refl F) rp⟩⟩
theorem js_cont : JS X G (.Continue pos) aCnt := ⟨_, ps_continue, ⟨fun {D ρ Ω} h {P F H σ D'} k o rp => k.ct h o (Same.refl F) rp⟩⟩
def aAsg (a : AE) (g : AG) : AS := fun D ρ Ω => a ρ Ω fun x Ω' => g x ρ fun ρ' => D.nx ρ' Ω'
theorem asg_ok {E : En} {te : TE} {tg : TG} {a : AE} {g : AG} (h1 : SnE E te a) (h2 : SnG E tg g) : SnS E (tAsg te tg) (aAsg a g) :=
  ⟨fun {D ρ Ω} h {P F H σ D'} k o rp => h1.go h o rp fun q o1 s1 r1 => h2.go q o1 (rpe_same s1 rp) r1 fun q2 rp2 => k.nx q2 o1 s1 rp2⟩
theorem js_asg (ha : JE X G e aa) (hg : JG X G tg g) (hs : swapsWithSole [tg] e pos.line X.env = pure false := by rfl) (hw : swappedStores [tg] e X.env = pure none := by rfl) (h1 : (assignEach [tg] X.env).map (·.2) = [assign tg X.env] := by rfl) : JS X G (.Assign [tg] e pos) (aAsg aa g) := by
  obtain ⟨_, p1, q1⟩ := ha
  obtain ⟨_, p2, q2⟩ := hg
  exact ⟨_, ps_asg p1 p2 hs hw h1, asg_ok q1 q2⟩
theorem gN_ok {E : En} {i : Nat} : SnG E (gName i) (gN i) := ⟨fun {x ρ k} h {P F H Ω v σ Q} o rp r q => q h (pr_set (R := RpS E.K F) (y := some x) ⟨_, rfl, r⟩ i rp)⟩
theorem js_set {i : Nat} {x : Str} {pos' : Pos} (hN : X.N.Nodup) (hi : X.N[i]? = some x) (hx : Loc X.env.scope x) (ha : JE X G e aa) (hs : swapsWith e (some (.Name x pos')) pos.line X.env = pure false := by rfl) (hf : X.fn x = true ∨ X.env.scope.names.lookup x = some .local := by first | exact .inl rfl | exact .inr rfl | assumption) :
    JS X G (.Assign [.Name x pos'] e pos) (aAsg aa (gN i)) := by
  obtain ⟨_, p1, q1⟩ := ha
  exact ⟨_, ps_set hN hi hx p1 hs hf, asg_ok q1 gN_ok⟩
/-- a, b = e1, e2 and a, b, c = e1, e2, e3, plain names -/
def aPar2 (i j : Nat) (t : AA) : AS := fun D ρ Ω => t ρ Ω fun xs Ω' => match xs with
  | [x, y] => D.nx ((ρ.set i (some x)).set j (some y)) Ω'
  | _ => False
def aPar3 (i j l : Nat) (t : AA) : AS := fun D ρ Ω => t ρ Ω fun xs Ω' => match xs with
  | [x, y, z] => D.nx (((ρ.set i (some x)).set j (some y)).set l (some z)) Ω'
  | _ => False
theorem js_par2 {i j : Nat} {x y : Str} {px py pt : Pos} {kt k2 pt2} (hc : X.calm = true) (hN : X.N.Nodup) (hi : X.N[i]? = some x) (hj : X.N[j]? = some y) (hij : i ≠ j)
    (hx : X.env.scope.names.lookup x = some .local) (hy : X.env.scope.names.lookup y = some .local) (ha : JA X G [a, b] ta)
    (hw : swappedStores [.Tuple [.Name x px, .Name y py] kt pt] (.Tuple [a, b] k2 pt2) X.env = pure (some [x, y]))
    (hs : swapsWithSole [.Tuple [.Name x px, .Name y py] kt pt] (.Tuple [a, b] k2 pt2) pos.line X.env = pure false := by rfl) :
    JS X G (.Assign [.Tuple [.Name x px, .Name y py] kt pt] (.Tuple [a, b] k2 pt2) pos) (aPar2 i j ta) := by
  obtain ⟨_, p1, q1⟩ := ha
  refine ⟨_, ps_par hc hN hi hj hij hx hy p1 hw hs, ⟨fun {D ρ Ω} h {P F H σ D'} k o rp => q1.go h o rp fun {vs svs Ω1 F1 H1} q o1 s1 r1 => ?_⟩⟩
  split at q
  · obtain ⟨v, u, rfl, r, r'⟩ := pr2 r1
    exact ⟨v, u, rfl, k.nx q o1 s1 (pr_set (R := RpS X.K F1) (y := some _) ⟨_, rfl, r'⟩ _ (pr_set (R := RpS X.K F1) (y := some _) ⟨_, rfl, r⟩ _ (rpe_same s1 rp)))⟩
  · exact q.elim
theorem js_par3 {c : Expr} {i j l : Nat} {x y z : Str} {px py pz pt : Pos} {kt k2 pt2} (hc : X.calm = true) (hN : X.N.Nodup) (hi : X.N[i]? = some x) (hj : X.N[j]? = some y) (hl : X.N[l]? = some z) (hij : i ≠ j) (hil : i ≠ l) (hjl : j ≠ l)
    (hx : X.env.scope.names.lookup x = some .local) (hy : X.env.scope.names.lookup y = some .local) (hz : X.env.scope.names.lookup z = some .local) (ha : JA X G [a, b, c] ta)
    (hw : swappedStores [.Tuple [.Name x px, .Name y py, .Name z pz] kt pt] (.Tuple [a, b, c] k2 pt2) X.env = pure (some [x, y, z]))
    (hs : swapsWithSole [.Tuple [.Name x px, .Name y py, .Name z pz] kt pt] (.Tuple [a, b, c] k2 pt2) pos.line X.env = pure false := by rfl) :
    JS X G (.Assign [.Tuple [.Name x px, .Name y py, .Name z pz] kt pt] (.Tuple [a, b, c] k2 pt2) pos) (aPar3 i j l ta) := by
  obtain ⟨_, p1, q1⟩ := ha
  refine ⟨_, ps_par3 hc hN hi hj hl hij hil hjl hx hy hz p1 hw hs, ⟨fun {D ρ Ω} h {P F H σ D'} k o rp => q1.go h o rp fun {vs svs Ω1 F1 H1} q o1 s1 r1 => ?_⟩⟩
  split at q
  · cases r1 with
    | cons r1 r2 =>
      obtain ⟨v, u, rfl, r, r'⟩ := pr2 r2
      exact ⟨_, v, u, rfl, k.nx q o1 s1 (pr_set (R := RpS X.K F1) (y := some _) ⟨_, rfl, r'⟩ _ (pr_set (R := RpS X.K F1) (y := some _) ⟨_, rfl, r⟩ _ (pr_set (R := RpS X.K F1) (y := some _) ⟨_, rfl, r1⟩ _ (rpe_same s1 rp))))⟩
  · exact q.elim
def aExp (a : AE) : AS := fun D ρ Ω => a ρ Ω fun _ Ω' => D.nx ρ Ω'
theorem js_expr (ha : JE X G e aa) (hs : swapsWith e none pos.line X.env = pure false := by rfl) : JS X G (.Expr e pos) (aExp aa) := by
  obtain ⟨_, p1, q1⟩ := ha
  exact ⟨_, ps_expr p1 hs, ⟨fun {D ρ Ω} h {P F H σ D'} k o rp => q1.go h o rp fun q o1 s1 r1 => k.nx q o1 s1 (rpe_same s1 rp)⟩⟩
def aRet (a : AE) : AS := fun D ρ Ω => a ρ Ω D.rt
theorem js_ret (ha : JE X G e aa) : JS X G (.Return (some e) pos) (aRet aa) := by
  obtain ⟨_, p1, q1⟩ := ha
  exact ⟨_, ps_ret p1, ⟨fun {D ρ Ω} h {P F H σ D'} k o rp => q1.go h o rp fun q o1 s1 r1 => k.rt q o1 s1 r1⟩⟩
/-- cells of the def's own are let go -/
theorem Ok.sub {E : En} {P F H : Hp} {Ω Ω' : Om} (o : Ok E P F H Ω) (s : Ω'.Sublist Ω) : Ok E P F H Ω' := ⟨o.p0, o.pf, fun p h => o.pd p (s.subset h), o.pF, o.f0, o.fn, o.dm, o.ex, fun p h => o.own p (s.subset h), o.nd.sublist (s.map _)⟩
def rtD (k : PhiE) (x : SV) (Ω : Om) : Prop := ∃ Ω2 : Om, Ω2.Sublist Ω ∧ k x Ω2
def aRetD (a : AE) : AS := fun D ρ Ω => a ρ Ω (rtD D.rt)
theorem js_retD (ha : JE X G e aa) : JS X G (.Return (some e) pos) (aRetD aa) := by
  obtain ⟨_, p1, q1⟩ := ha
  refine ⟨_, ps_ret p1, ⟨fun {D ρ Ω} h {P F H σ D'} k o rp => q1.go h o rp fun q o1 s1 r1 => ?_⟩⟩
  obtain ⟨Ω2, sl, q⟩ := q
  exact k.rt q (o1.sub sl) s1 r1
def aRetN : AS := fun D _ Ω => D.rt (.d .none) Ω
theorem js_retN : JS X G (.Return none pos) aRetN := ⟨_, ps_retN, ⟨fun {D ρ Ω} h {P F H σ D'} k o rp => k.rt h o (Same.refl F) .non⟩⟩
/-- a cell is taken out -/
inductive Cut : Om → Addr → Om → Prop where
  | here {a : Addr} {c : OC} {Ω : Om} : Cut ((a, c) :: Ω) a Ω
  | there {a : Addr} {Ω Ω' : Om} {p : Addr × OC} : Cut Ω a Ω' → Cut (p :: Ω) a (p :: Ω')
theorem Cut.addr : ∀ {Ω Ω' : Om} {a : Addr}, Cut Ω a Ω' → (Ω.map (·.1)).Nodup → (∀ x ∈ Ω', x ∈ Ω ∧ x.1 ≠ a) ∧ (Ω'.map (·.1)).Nodup
  | _, _, _, .here, nd => by
    rw [List.map_cons] at nd
    obtain ⟨n1, n2⟩ := List.nodup_cons.mp nd
    exact ⟨fun x hx => ⟨List.mem_cons_of_mem _ hx, fun z => n1 (by rw [← z]; exact List.mem_map_of_mem (f := (·.1)) hx)⟩, n2⟩
  | p :: _, _, a, .there h, nd => by
    have hm : ∀ {Ω Ω' : Om} {b : Addr}, Cut Ω b Ω' → b ∈ Ω.map (·.1) := fun {Ω Ω' b} h => by
      induction h with
      | here => exact List.mem_cons_self
      | there _ ih => exact List.mem_cons_of_mem _ ih
    rw [List.map_cons] at nd
    obtain ⟨n1, n2⟩ := List.nodup_cons.mp nd
    obtain ⟨h1, h2⟩ := h.addr n2
    refine ⟨fun x hx => ?_, ?_⟩
    · rcases List.mem_cons.mp hx with q | q
      · rw [q]; exact ⟨List.mem_cons_self, fun z => n1 (by rw [z]; exact hm h)⟩
      · exact ⟨List.mem_cons_of_mem _ (h1 x q).1, (h1 x q).2⟩
    · rw [List.map_cons]
      refine List.nodup_cons.mpr ⟨fun z => ?_, h2⟩
      obtain ⟨x, hx, e⟩ := List.mem_map.mp z
      exact n1 (by rw [← e]; exact List.mem_map_of_mem (f := (·.1)) (h1 x hx).1)
/-- return of a list of the def's own: it is frozen -/
def rtF (Fr : Addr → Prop) (k : PhiE) (x : SV) (Ω : Om) : Prop := match x with
  | .r (.ref p) => ∃ ds f, At Ω p (.lst ds) f ∧ Fr p ∧ ∃ Ω2, Cut Ω p Ω2 ∧ ∃ Ω3 : Om, Ω3.Sublist Ω2 ∧ k (.d (.list ds)) Ω3
  | _ => False
def aRetF (Fr : Addr → Prop) (a : AE) : AS := fun D ρ Ω => a ρ Ω (rtF Fr D.rt)
theorem js_retF (ha : JE X G e aa) : JS X G (.Return (some e) pos) (aRetF (fun p => G.H0 p = none) aa) := by
  obtain ⟨_, p1, q1⟩ := ha
  refine ⟨_, ps_ret p1, ⟨fun {D ρ Ω} h {P F H σ D'} k o rp => q1.go h o rp fun {v sv Ω1 F1 H1} q o1 s1 r1 => ?_⟩⟩
  unfold rtF at q
  split at q
  · obtain ⟨ds, f, t, fr, Ω2, c, Ω3, sl, q⟩ := q
    cases (show v = _ from r1)
    obtain ⟨nF, _⟩ := o1.at_ t
    obtain ⟨vs, h1, h2⟩ := o1.lst t
    obtain ⟨c1, c2⟩ := c.addr o1.nd
    obtain ⟨o2, s2⟩ := o1.frz (c := .lst ds) h1 fr nF (o1.pd _ t.mem) c1 c2
    exact k.rt q (o2.sub sl) (s1.trans s2) (Dq.lst upd_same (dqa_same s2 _ _ h2))
  · exact q.elim
def aIf (t : AT) (a b : AS) : AS := fun D ρ Ω => t ρ Ω fun c Ω' => br c (a D ρ Ω') (b D ρ Ω')
theorem js_if {c : Expr} {xs ys : List Stmt} (hc : JT X G c at_) (ha : JSs X G xs s) (hb : JSs X G ys t) : JS X G (.If c xs ys pos) (aIf at_ s t) := by
  obtain ⟨_, p1, q1⟩ := hc
  obtain ⟨_, p2, q2⟩ := ha
  obtain ⟨_, p3, q3⟩ := hb
  refine ⟨_, ps_if p1 p2 p3, ⟨fun {D ρ Ω} h {P F H σ D'} k o rp => q1.go h o rp fun {b Ω1 F1 H1} q o1 s1 => br_ite ?_⟩⟩
  replace q := br_out q
  cases b
  · exact q3.go q (k.up s1) o1 (rpe_same s1 rp)
  · exact q2.go q (k.up s1) o1 (rpe_same s1 rp)
def aWhile (t : AT) (s : AS) : AS := fun D ρ Ω => ∃ W : Nat → Rho → Om → Prop, (∃ m, W m ρ Ω) ∧ ∀ m ρ Ω, W m ρ Ω →
  t ρ Ω fun b Ω1 => br b (s { D with nx := fun ρ' Ω' => ∃ m', m' < m ∧ W m' ρ' Ω', ct := fun ρ' Ω' => ∃ m', m' < m ∧ W m' ρ' Ω', bk := D.nx } ρ Ω1) (D.nx ρ Ω1)
theorem js_while {c : Expr} {body : List Stmt} (hp : PassesOwn (model X.prog X.w) X.A X.env X.xe) (hc : JT X G c at_) (hb : JSs X G body s) : JS X G (.While c body [] pos) (aWhile at_ s) := by
  obtain ⟨_, p1, q1⟩ := hc
  obtain ⟨tb, p2, q2⟩ := hb
  refine ⟨_, ps_while hp p1 p2, ⟨fun {D ρ Ω} h {P F H σ D'} k o rp => ?_⟩⟩
  obtain ⟨W, ⟨m0, w0⟩, turn⟩ := h
  refine ⟨fun m σ H => ∃ ρ Ω F', Same F F' ∧ W m ρ Ω ∧ Ok (enX X G) P F' H Ω ∧ RpE X.K F' σ ρ, ⟨m0, ρ, Ω, F, Same.refl F, w0, o, rp⟩, ?_⟩
  rintro m σ1 H1 ⟨ρ1, Ω1, F1, z1, w1, o1, rp1⟩
  refine q1.go (turn m ρ1 Ω1 w1) o1 rp1 fun {b Ω2 F2 H2} q o2 s2 => br_ite ?_
  replace q := br_out q
  have z2 := z1.trans s2
  cases b
  · exact k.nx q o2 z2 (rpe_same s2 rp1)
  · refine ⟨fun σ' H' => ∃ m', m' < m ∧ ∃ ρ Ω F', Same F F' ∧ W m' ρ Ω ∧ Ok (enX X G) P F' H' Ω ∧ RpE X.K F' σ' ρ, fun σ' H' z => z, ?_⟩
    refine q2.go q ⟨fun z o z3 rp => ?_, fun z o z3 r => k.rt z o (z2.trans z3) r, fun z o z3 rp => k.nx z o (z2.trans z3) rp, fun z o z3 rp => ?_⟩ o2 (rpe_same s2 rp1)
    · obtain ⟨m', h1, h2⟩ := z
      exact ⟨m', h1, _, _, _, z2.trans z3, h2, o, rp⟩
    · obtain ⟨m', h1, h2⟩ := z
      exact ⟨m', h1, _, _, _, z2.trans z3, h2, o, rp⟩
def aFor (ai : AI) (g : AG) (s : AS) : AS := fun D ρ Ω => ai ρ Ω fun xs Kp Ω1 => ∃ W : Nat → Rho → Om → Prop, W 0 ρ Ω1 ∧ (∀ i ρ Ω, W i ρ Ω → Kp Ω) ∧
  (∀ i x ρ Ω, xs[i]? = some x → W i ρ Ω → g x ρ fun ρ' => s { D with nx := W (i + 1), ct := W (i + 1), bk := D.nx } ρ' Ω) ∧ ∀ ρ Ω, W xs.length ρ Ω → D.nx ρ Ω
theorem js_for {iter : Expr} {body : List Stmt} (hp : PassesOwn (model X.prog X.w) X.A X.env X.xe) (hc : X.calm = true) (hi : JI X G tg iter ai) (hg : JG X G tg g) (hb : JSs X G body s) (h : ∀ {wi : TI} {g' : TG} {tb : TS}, PI X tg iter wi → PG X tg g' → PSs X body tb → PS X (.For tg iter body [] pos) (tFor wi g' tb) := by intro _ _ _ a b c; first | exact ps_for PassesOwn.never rfl a b c | exact ps_for (passes_of rfl) rfl a b c | exact ps_for (by assumption) rfl a b c) :
    JS X G (.For tg iter body [] pos) (aFor ai g s) := by
  obtain ⟨wi, p1, q1⟩ := hi
  obtain ⟨g', p2, q2⟩ := hg
  obtain ⟨tb, p3, q3⟩ := hb
  refine ⟨_, h p1 p2 p3, ⟨fun {D ρ Ω} h {P F H σ D'} k o rp => q1.go h o rp fun {J xs Kp Ω1 F1 H1} q o1 s1 it => ?_⟩⟩
  obtain ⟨W, w0, wk, turn, fin⟩ := q
  refine ⟨fun i m σ H => m = xs.length - i ∧ i ≤ xs.length ∧ ∃ ρ Ω F, Same F1 F ∧ W i ρ Ω ∧ Ok (enX X G) P F H Ω ∧ RpE X.K F σ ρ, ⟨_, rfl, Nat.zero_le _, ρ, Ω1, F1, Same.refl F1, w0, o1, rpe_same s1 rp⟩, ?_⟩
  rintro i m σ2 H2 ⟨rfl, hi, ρ2, Ω2, F2, s2, w2, o2, rp2⟩
  by_cases hlt : i < xs.length
  · refine Or.inr ⟨it.go s2 o2 (wk _ _ _ w2) hlt, fun σ' H' => ∃ ρ Ω F, Same F1 F ∧ W (i + 1) ρ Ω ∧ Ok (enX X G) P F H' Ω ∧ RpE X.K F σ' ρ, fun σ' H' z => ⟨_, by omega, rfl, hlt, z⟩, fun x H' y => ?_⟩
    have e : xs[i]? = some xs[i] := List.getElem?_eq_getElem hlt
    obtain ⟨F3, o3, s3, r3⟩ := it.yl s2 o2 (wk _ _ _ w2) y e
    refine q2.go (turn i _ ρ2 Ω2 e w2) o3 (rpe_same s3 rp2) r3 fun {σ4 ρ4} q4 rp4 => ?_
    have z3 := s2.trans s3
    exact q3.go q4 ⟨fun z o z4 rp => ⟨_, _, _, z3.trans z4, z, o, rp⟩, fun z o z4 r => k.rt z o ((s1.trans z3).trans z4) r, fun z o z4 rp => k.nx z o ((s1.trans z3).trans z4) rp, fun z o z4 rp => ⟨_, _, _, z3.trans z4, z, o, rp⟩⟩ o3 rp4
  · have e : i = xs.length := by omega
    subst e
    exact Or.inl ⟨it.st s2 o2 (wk _ _ _ w2) (Nat.le_refl _), k.nx (fin _ _ w2) o2 (s1.trans s2) rp2⟩
end
end Z
/-! Z7: xs[i] = e; comprehensions; a def by its body; the law's end. -/
namespace Z
open PySem PySem.Spec PyProof.Rows L2
section
variable {X : Cx} {G : Gn} {e a b tg : Expr} {aa ab ac : AE} {at_ bt : AT} {ta tb : AA} {pos : Pos} {m : Mode} {g : AG} {gs : AGs} {s t : AS} {ai : AI}
/-- o[i] = e on a cell's list -/
def aSetIx (a o i : AE) : AS := fun D ρ Ω => a ρ Ω fun x Ω1 => o ρ Ω1 fun l Ω2 => i ρ Ω2 fun j Ω3 => match l, j with
  | .r (.ref p), .d (.int n) => ∃ c f, At Ω3 p c f ∧ (match c, x with
    | .lst ds, .d d => ∃ q, ixN ds.length n = some q ∧ D.nx ρ (f (.lst (ds.set q d)))
    | .lx ys, x => ∃ q, ixN ys.length n = some q ∧ D.nx ρ (f (.lx (ys.set q x)))
    | _, _ => False)
  | _, _ => False
theorem js_setIx (he : JE X G e aa) (ha : JE X G a ab) (hb : JE X G b ac) {spos : Pos}
    (h : ∀ {te ta tb : TE}, PE X e te → PE X a ta → PE X b tb → PS X (.Assign [.Subscript a b pos] e spos) (tAsg te (gSub ta tb rSetL)) := by intro _ _ _ p q r; exact ps_asg p (pg_sub q r set_list)) :
    JS X G (.Assign [.Subscript a b pos] e spos) (aSetIx aa ab ac) := by
  obtain ⟨te, p1, q1⟩ := he
  obtain ⟨ta, p2, q2⟩ := ha
  obtain ⟨tb, p3, q3⟩ := hb
  refine ⟨_, h p1 p2 p3, ⟨fun {D ρ Ω} h {P F H σ D'} k o rp => q1.go h o rp fun {v sv Ω1 F1 H1} z1 o1 s1 r1 => q2.go z1 o1 (rpe_same s1 rp) fun {v2 sv2 Ω2 F2 H2} z2 o2 s2 r2 => q3.go z2 o2 (rpe_same (s1.trans s2) rp) fun {v3 sv3 Ω3 F3 H3} z3 o3 s3 r3 => ?_⟩⟩
  have k3 := (s1.trans s2).trans s3
  have r1' := (r1.same s2).same s3
  dsimp only at z3
  split at z3
  · obtain ⟨c, f, t, z3⟩ := z3
    cases (show v2 = _ from r2)
    cases dqi r3
    split at z3
    · obtain ⟨q, e1, z⟩ := z3
      obtain ⟨vs, h1, h2⟩ := o3.lst t
      exact ⟨_, vs, _, q, rfl, rfl, h1, by rw [dqa_len h2]; exact e1, k.nx z (o3.put t (dqa_set q h2 r1')) k3 (rpe_same k3 rp)⟩
    · obtain ⟨q, e1, z⟩ := z3
      obtain ⟨vs, h1, h2⟩ := o3.lx t
      exact ⟨_, vs, _, q, rfl, rfl, h1, by rw [h2.length]; exact e1, k.nx z (o3.put t (pr_set r1' q h2)) k3 (rpe_same k3 rp)⟩
    · exact z3.elim
  · exact z3.elim
/-! ### comprehensions -/
def wipR (ρ : Rho) : List Nat → Rho
  | [] => ρ
  | v :: vs => (wipR ρ vs).set v none
theorem wip_ok {K : Frag} {F : Hp} {σ : L2.St} {ρ : Rho} (h : RpE K F σ ρ) : ∀ vs : List Nat, RpE K F (wipe σ vs) (wipR ρ vs)
  | [] => h
  | v :: vs => pr_set (R := RpS K F) (x := none) (y := none) trivial v (wip_ok h vs)
/-- only the block's own slots are stored -/
def GOnly (g : TG) (vs : List Nat) : Prop := ∀ {v : V} {σ : L2.St} {H : Hp} {Q Q' : L2.St → Hp → Prop}, g v σ H Q → (∀ σ2 H2, wipe σ2 vs = wipe σ vs → Q σ2 H2 → Q' σ2 H2) → g v σ H Q'
theorem wipe_set {σ : L2.St} {x : Option V} {i : Nat} : ∀ {vs : List Nat}, i ∈ vs → wipe (σ.set i x) vs = wipe σ vs
  | [], h => by cases h
  | v :: vs, h => by
    show (wipe (σ.set i x) vs).set v none = (wipe σ vs).set v none
    have comm : ∀ ws : List Nat, i ∉ ws → wipe (σ.set i x) ws = (wipe σ ws).set i x := fun ws => by
      induction ws with
      | nil => exact fun _ => rfl
      | cons w ws ih =>
        intro hn
        show (wipe (σ.set i x) ws).set w none = ((wipe σ ws).set w none).set i x
        rw [ih fun z => hn (List.mem_cons_of_mem _ z)]
        exact (List.set_comm _ _ (fun z => hn (by rw [z]; exact List.mem_cons_self)))
    by_cases hm : i ∈ vs
    · rw [wipe_set hm]
    · rcases List.mem_cons.mp h with e | e
      · rw [comm vs hm, e, List.set_set]
      · exact absurd e hm
theorem wipe_wipe {σ : L2.St} : ∀ {vs ws : List Nat}, (∀ v ∈ vs, v ∈ ws) → wipe (wipe σ vs) ws = wipe σ ws
  | [], ws, _ => rfl
  | v :: vs, ws, h => by
    show wipe ((wipe σ vs).set v none) ws = wipe σ ws
    rw [wipe_set (h v List.mem_cons_self), wipe_wipe fun w hw => h w (List.mem_cons_of_mem _ hw)]
def JGo (X : Cx) (G : Gn) (tg : Expr) (ag : AG) (vs : List Nat) : Prop := ∃ g, PG X tg g ∧ SnG (enX X G) g ag ∧ GOnly g vs
def JGso (X : Cx) (G : Gn) (tg : List Expr) (ag : AGs) (vs : List Nat) : Prop := ∃ g, PGs X tg g ∧ SnGs (enX X G) g ag ∧ ∀ {xs : List V} {σ : L2.St} {H : Hp} {Q Q' : L2.St → Hp → Prop}, g xs σ H Q → (∀ σ2 H2, wipe σ2 vs = wipe σ vs → Q σ2 H2 → Q' σ2 H2) → g xs σ H Q'
theorem jgo_name {i : Nat} {x : Str} {vs : List Nat} (hi' : i ∈ vs) (hN : X.N.Nodup) (hi : X.N[i]? = some x) (hx : Loc X.env.scope x) (hf : X.fn x = true ∨ X.env.scope.names.lookup x = some .local := by first | exact .inl rfl | exact .inr rfl | assumption) : JGo X G (.Name x pos) (gN i) vs :=
  ⟨_, pg_name hN hi hx hf, gN_ok, fun h k => k _ _ (wipe_set hi') h⟩
theorem jgso0 {vs : List Nat} : JGso X G [] gs0 vs := by
  refine ⟨_, pgs_nil, ⟨fun {xs ρ k} h {P F H Ω vs σ Q} o rp r q => ?_⟩, fun h k => ⟨h.1, k _ _ rfl h.2⟩⟩
  unfold gs0 at h
  split at h
  · cases r
    exact ⟨rfl, q h rp⟩
  · exact h.elim
theorem jgso1 {es : List Expr} {vs : List Nat} (h1 : JGo X G e g vs) (h2 : JGso X G es gs vs) (hs : (assignEach (e :: es) X.env).map (·.2) = assign e X.env :: (assignEach es X.env).map (·.2) := by rfl) : JGso X G (e :: es) (gs1 g gs) vs := by
  obtain ⟨g', p1, q1, z1⟩ := h1
  obtain ⟨u, p2, q2, z2⟩ := h2
  refine ⟨_, pgs_cons p1 p2 hs, ⟨fun {xs ρ k} h {P F H Ω vs σ Q} o rp r q => ?_⟩, fun {xs σ H Q Q'} h k => ?_⟩
  · unfold gs1 at h
    split at h
    · cases r with
      | cons r1 r2 => exact ⟨_, _, rfl, q1.go h o rp r1 fun h' rp' => q2.go h' o rp' r2 q⟩
    · exact h.elim
  · obtain ⟨v, r, e, h⟩ := h
    exact ⟨v, r, e, z1 h fun σ2 H2 e2 h2 => z2 h2 fun σ3 H3 e3 h3 => k σ3 H3 (e3.trans e2) h3⟩
theorem jgo_tup {es : List Expr} {n k' : Nat} {vs : List Nat} (hc : X.calm = true) (h : JGso X G es gs vs) (hn : (assignEach es X.env).length = n := by rfl) (hst : (assignEach es X.env).findIdx? (·.1) = none := by rfl) : JGo X G (.Tuple es k' pos) (gT n gs) vs := by
  obtain ⟨u, p, q', z⟩ := h
  refine ⟨_, pg_tup hc p hn hst, ⟨fun {x ρ k} h {P F H Ω v σ Q} o rp r q => ?_⟩, fun {v σ H Q Q'} h k => ?_⟩
  · unfold gT at h
    split at h
    · obtain ⟨p, vs, rfl, hF, da⟩ := dqt r
      exact ⟨p, vs, rfl, sqt_same o.ex hF, by rw [dqa_len da]; exact h.1, q'.go h.2 o rp (of_dqa da) q⟩
    · exact h.elim
  · obtain ⟨a, xs, e, h1, h2, h3⟩ := h
    exact ⟨a, xs, e, h1, h2, z h3 k⟩
def JTs (X : Cx) (G : Gn) (e : List Expr) (a : AT) : Prop := ∃ te, PTs X e te ∧ SnT (enX X G) te a
def aYes : AT := fun _ Ω Φ => Φ true Ω
theorem jts_nil : JTs X G [] aYes := ⟨_, pts_nil, ⟨fun {ρ Ω Φ} h {P F H σ Q} o rp k => k h o (Same.refl F)⟩⟩
theorem jts_one {c : Expr} (h : JT X G c at_) : JTs X G [c] at_ := by
  obtain ⟨_, p, q⟩ := h
  exact ⟨_, pts_one p, q⟩
def aLc (m : Mode) (ai : AI) (g : AG) (tt : AT) (te : AE) (vs : List Nat) : AE := fun ρ Ω Φ => ai ρ Ω fun xs Kp Ω1 => xs.length ≤ 1000000 ∧ ∃ W : Nat → List SV → Om → Prop, W 0 [] Ω1 ∧ (∀ i acc Ω, W i acc Ω → Kp Ω ∧ acc.length ≤ i) ∧
  (∀ i x acc Ω, xs[i]? = some x → W i acc Ω → g x (wipR ρ vs) fun ρ' => tt ρ' Ω fun b Ω2 => br b (te ρ' Ω2 fun y Ω3 => W (i + 1) (acc ++ [y]) Ω3) (W (i + 1) acc Ω2)) ∧
  ∀ acc Ω, W xs.length acc Ω → newX m acc Ω Φ
theorem lc_ok {E : En} {wi : TI} {g' : TG} {tt' : TT} {te' : TE} {ai : AI} {g : AG} {tt : AT} {te : AE} {vs : List Nat} (hm : MOk E m) (h1 : SnI E wi ai) (h2 : SnG E g' g) (h2' : GOnly g' vs) (h3 : SnT E tt' tt) (h4 : SnE E te' te) : SnE E (tLc wi g' tt' te' vs) (aLc m ai g tt te vs) := by
  refine ⟨fun {ρ Ω Φ} h {P F H σ Q} o rp k => h1.go h o rp fun {J xs Kp Ω1 F1 H1} q o1 s1 it => fun Dl hD => ?_⟩
  obtain ⟨hz, W, w0, wk, turn, fin⟩ := q
  have nP : P Dl = none := o1.pf.free hD
  have s0 : Same E.P0 P := o1.p0
  have n00 : E.P0 Dl = none := s0.free nP
  have nF : ∀ {Q' F' H' : Hp} {Ω' : Om} {u : HO}, Ok E (upd Q' Dl u) F' H' Ω' → F' Dl = none := fun ok => ok.pF Dl (by rw [upd_same]; exact fun z => nomatch z)
  refine ⟨fun i m H => m = xs.length - i ∧ i ≤ xs.length ∧ ∃ acc ws F' Ω', Same F1 F' ∧ W i acc Ω' ∧ Ok E (upd P Dl (.lst ws)) F' H Ω' ∧ Paired (Rp E.K F') ws acc, ⟨_, rfl, Nat.zero_le _, [], [], F1, Ω1, Same.refl F1, w0, o1.guard hD, .nil⟩, ?_⟩
  rintro i mm H2 ⟨rfl, hi, acc, ws, F2, Ω2, s2, w2, o2, r2⟩
  obtain ⟨kp, hl⟩ := wk _ _ _ w2
  by_cases hlt : i < xs.length
  · refine Or.inr ⟨it.go s2 o2 kp hlt, fun H => ∃ acc ws F' Ω', Same F1 F' ∧ W (i + 1) acc Ω' ∧ Ok E (upd P Dl (.lst ws)) F' H Ω' ∧ Paired (Rp E.K F') ws acc, fun H' z => ⟨_, by omega, rfl, hlt, z⟩, fun x H' y => ?_⟩
    have e : xs[i]? = some xs[i] := List.getElem?_eq_getElem hlt
    obtain ⟨F3, o3, s3, r3⟩ := it.yl s2 o2 kp y e
    have z3 := s2.trans s3
    refine h2' (h2.go (turn i _ acc Ω2 e w2) o3 (wip_ok (rpe_same (s1.trans z3) rp) vs) r3 (Q := fun σ2 H4 => H4 = H' ∧ ∃ ρ', (tt ρ' Ω2 fun b Ω2 => br b (te ρ' Ω2 fun y Ω3 => W (i + 1) (acc ++ [y]) Ω3) (W (i + 1) acc Ω2)) ∧ RpE E.K F3 σ2 ρ') fun {σ' ρ'} h5 rp5 => ⟨rfl, ρ', h5, rp5⟩) ?_
    rintro σ2 H4 ew ⟨rfl, ρ', h5, rp5⟩
    refine ⟨by rw [ew, wipe_wipe fun v hv => hv], h3.go h5 o3 rp5 fun {b Ω5 F5 H5} q5 o5 s5 => br_ite ?_⟩
    replace q5 := br_out q5
    cases b
    · exact ⟨acc, ws, F5, Ω5, z3.trans s5, q5, o5, rps_same (s3.trans s5) r2⟩
    · refine h4.go q5 o5 (rpe_same s5 rp5) fun {v sv Ω6 F6 H6} q6 o6 s6 r6 => ⟨ws, o6.pf Dl _ upd_same, ?_, acc ++ [sv], ws ++ [v], F6, Ω6, (z3.trans s5).trans s6, q6, o6.poke n00 (nF o6) nP, pr_app (rps_same ((s3.trans s5).trans s6) r2) (.cons r6 .nil)⟩
      have := r2.length
      have l1 : (1000000 : Nat) < sizeLine := by decide
      omega
  · have e : i = xs.length := by omega
    subst e
    refine Or.inl ⟨it.st s2 o2 kp (Nat.le_refl _), ?_⟩
    have q := fin _ _ w2
    have n0 : E.H0 Dl = none := o1.dm _ hD
    cases m with
    | none =>
      have q' : (match dataOf acc with | some ds => Φ (.d (.list ds)) Ω2 | none => False) := q
      split at q'
      · rename_i ds e
        obtain ⟨o7, s7⟩ := o2.adoptF s0 nP n0
        exact k q' o7 ((s1.trans s2).trans s7) (Dq.lst upd_same (dqa_same s7 _ _ (dataOf_ok e r2)))
      · exact q'.elim
    | some Fr => exact k (q Dl (hm _ rfl Dl n0)) (o2.adopt s0 nP (mkL_ok r2)) (s1.trans s2) rfl
/-- one reading for all contexts of a block -/
theorem all_pe {ι : Type} {Xs : ι → Cx} {E : En} (h : ∀ i, ∃ te, PE (Xs i) e te ∧ SnE E te aa) : ∃ te, (∀ i, PE (Xs i) e te) ∧ SnE E te aa := by
  refine ⟨fun σ H Q => ∀ i, (h i).choose σ H Q, fun i => ⟨fun pins s σ H Q I q => (h i).choose_spec.1.run pins s σ H Q I (q i)⟩, ⟨fun {ρ Ω Φ} q {P F H σ Q} o rp k i => (h i).choose_spec.2.go q o rp k⟩⟩
theorem all_pts {ι : Type} {Xs : ι → Cx} {E : En} {es : List Expr} (h : ∀ i, ∃ te, PTs (Xs i) es te ∧ SnT E te at_) : ∃ te, (∀ i, PTs (Xs i) es te) ∧ SnT E te at_ := by
  refine ⟨fun σ H Q => ∀ i, (h i).choose σ H Q, fun i => ⟨fun pins s σ H Q I q => (h i).choose_spec.1.run pins s σ H Q I (q i)⟩, ⟨fun {ρ Ω Φ} q {P F H σ Q} o rp k i => (h i).choose_spec.2.go q o rp k⟩⟩
theorem all_pg {ι : Type} {Xs : ι → Cx} {E : En} {vs : List Nat} (h : ∀ i, ∃ g', PG (Xs i) e g' ∧ SnG E g' g ∧ GOnly g' vs) : ∃ g', (∀ i, PG (Xs i) e g') ∧ SnG E g' g ∧ GOnly g' vs := by
  refine ⟨fun v σ H Q => ∀ i, (h i).choose v σ H Q, fun i => ⟨fun pins s σ H v u Q I r q => (h i).choose_spec.1.run pins s σ H v u Q I r (q i)⟩, ⟨fun {x ρ k} q {P F H Ω v σ Q} o rp r k i => (h i).choose_spec.2.1.go q o rp r k⟩, fun {v σ H Q Q'} q k i => (h i).choose_spec.2.2 (q i) k⟩
section
variable {elt iter : Expr} {ifs : List Expr} {scope : Scope} {own : List (Str × Nat)} {tt : AT} {te : AE}
abbrev BI := Shared × Hp × Addr × List (Str × Addr) × List Addr
abbrev blkX (X : Cx) (scope : Scope) (i : BI) : Cx := X.blk i.1 i.2.1 scope (compEnvC scope i.2.2.2.1 i.2.2.1 X.env) i.2.2.2.2
theorem je_lc (hm : MOk (enX X G) m) (hc : X.calm = true) (hN : X.N.Nodup) (hi : JI X G tg iter ai) (ok : BlkOk X.N X.env.scope scope own)
    (hg : ∀ i, JGo (blkX X scope i) G tg g (own.map (·.2))) (ht : ∀ i, JTs (blkX X scope i) G ifs tt) (he : ∀ i, JE (blkX X scope i) G elt te) (hs : ∀ x, foldedSetIterable iter X.env x = pure x := by intro _; rfl) :
    JE X G (.ListComp elt [⟨tg, iter, ifs, 0⟩] scope pos) (aLc m ai g tt te (own.map (·.2))) := by
  obtain ⟨wi, p1, q1⟩ := hi
  obtain ⟨g', p2, q2, z2⟩ := all_pg (E := enX X G) hg
  obtain ⟨t', p3, q3⟩ := all_pts (E := enX X G) ht
  obtain ⟨e', p4, q4⟩ := all_pe (E := enX X G) he
  exact ⟨_, pe_lc hc hN p1 ok (fun s H C cl fp => p2 (s, H, C, cl, fp)) (fun s H C cl fp => p3 (s, H, C, cl, fp)) (fun s H C cl fp => p4 (s, H, C, cl, fp)) hs, lc_ok hm q1 q2 z2 q3 q4⟩
/-- y = [..] -/
theorem js_setLc {i : Nat} {y : Str} {py spos : Pos} (hm : MOk (enX X G) m) (hc : X.calm = true) (hN : X.N.Nodup) (hy : X.N[i]? = some y) (hyl : X.env.scope.names.lookup y = some .local)
    (hsw : swapsWith (.ListComp elt [⟨tg, iter, ifs, 0⟩] scope pos) (some (.Name y py)) spos.line X.env = pure true) (hi : JI X G tg iter ai) (ok : BlkOk X.N X.env.scope scope own)
    (hg : ∀ i, JGo (blkX X scope i) G tg g (own.map (·.2))) (ht : ∀ i, JTs (blkX X scope i) G ifs tt) (he : ∀ i, JE (blkX X scope i) G elt te) (hs : ∀ x, foldedSetIterable iter X.env x = pure x := by intro _; rfl) :
    JS X G (.Assign [.Name y py] (.ListComp elt [⟨tg, iter, ifs, 0⟩] scope pos) spos) (aAsg (aLc m ai g tt te (own.map (·.2))) (gN i)) := by
  obtain ⟨wi, p1, q1⟩ := hi
  obtain ⟨g', p2, q2, z2⟩ := all_pg (E := enX X G) hg
  obtain ⟨t', p3, q3⟩ := all_pts (E := enX X G) ht
  obtain ⟨e', p4, q4⟩ := all_pe (E := enX X G) he
  exact ⟨_, ps_setLc hc hN hy hyl hsw p1 ok (fun s H C cl fp => p2 (s, H, C, cl, fp)) (fun s H C cl fp => p3 (s, H, C, cl, fp)) (fun s H C cl fp => p4 (s, H, C, cl, fp)) hs, asg_ok (lc_ok hm q1 q2 z2 q3 q4) gN_ok⟩
end
end
/-! ### a def by its body -/
def startR (N : List Str) (svs : List SV) : Rho := svs.map some ++ List.replicate (N.length - svs.length) none
theorem pr_map {α β γ δ : Type} {R : α → β → Prop} {S : γ → δ → Prop} {f : α → γ} {g : β → δ} (h : ∀ a b, R a b → S (f a) (g b)) : ∀ {l : List α} {m : List β}, Paired R l m → Paired S (l.map f) (m.map g)
  | _, _, .nil => .nil
  | _, _, .cons r t => .cons (h _ _ r) (pr_map h t)
theorem pr_rep {α β : Type} {R : α → β → Prop} {a : α} {b : β} (h : R a b) : ∀ n, Paired R (List.replicate n a) (List.replicate n b)
  | 0 => .nil
  | n + 1 => .cons h (pr_rep h n)
theorem start_ok {K : Frag} {F : Hp} {N : List Str} {vs : List V} {svs : List SV} (r : Paired (Rp K F) vs svs) : RpE K F (L2.start N vs) (startR N svs) := by
  unfold L2.start startR
  rw [r.length]
  exact pr_app (pr_map (fun a b q => ⟨a, rfl, q⟩) r) (pr_rep trivial _)
section
variable {P : Program} {w : World} {K : Frag} {mg : Str → Option Value} {base : Heap} {CX : CXT} {k : Nat} {f : Addr} {fd : FuncData} {ps N : List Str} {T : Con} {x qual : Str} {st : Stmt} {as : (Addr → Prop) → XA → AS}
/-- THE RULE for a def: its body's reading as (for the addresses that are new, and what is wished of an exception), and that it keeps the contract T -/
theorem fn_ok (Fu : Fun K x qual st f fd) (S : FnScope N ps (defScope st)) (hT : Ari T ps.length)
    (hb : ∀ (cdv : Value) (A : Around) (outer : List Env) (s : Shared) (H : Hp) (E : XK) (G : Gn) (Ξ : XA), A.guards = some [] → Room k (A.deeper (envOfC qual (defScope st) s.heap.objs.size f cdv)) →
      (∀ {x : XI} {Ω : Om} {P' F H : Hp} {cls : Value} {d : Option Addr}, Ξ x Ω → Ok ⟨G, K⟩ P' F H Ω → RpX K F H cls d x → E cls d H) →
      JSs (cxOf CX P w K mg base N qual (defScope st) f cdv A outer s H E) G (defBody st) (as (fun p => G.H0 p = none) Ξ))
    (hr : ∀ Fr svs Ω Φ Ξ, T svs Ω Φ Ξ → as Fr Ξ { nx := fun _ Ω => Φ (.d .none) Ω, rt := Φ } (startR N svs) Ω) : FnG P w K mg base CX (k + 1) f fd ps (spOf K T) := by
  obtain ⟨oc, od, kV, doc, pm, an, cdv, ct, osl, rfl, lk, hcd⟩ := Fu.ex
  refine fnG_of lk hcd S (fun vs H Q E h => ?_) fun A outer s H vs Q E hgd hrm hsp => ?_
  · obtain ⟨P0, F, Ω, svs, Φ, Ξ, o, r, h, _⟩ := h
    rw [r.length]
    exact hT _ _ _ _ h
  · obtain ⟨P0, F, Ω, svs, Φ, Ξ, o, r, h, k1, k2⟩ := hsp
    obtain ⟨t, p, q⟩ := hb cdv A outer s H E ⟨F, H, P0⟩ Ξ hgd hrm fun z1 z2 z3 => k2 _ _ _ _ _ _ _ z1 z2 z3
    exact ⟨t, p, q.go (hr _ svs Ω Φ Ξ h) ⟨fun z o' _ _ => k1 _ _ _ _ _ _ z o' Dq.non, fun z o' _ r' => k1 _ _ _ _ _ _ z o' r', fun z _ _ _ => z.elim, fun z _ _ _ => z.elim⟩ o (start_ok r)⟩
/-- .. for a def that lets nothing out -/
theorem fn_ok0 {as : (Addr → Prop) → AS} (Fu : Fun K x qual st f fd) (S : FnScope N ps (defScope st)) (hT : Ari T ps.length)
    (hb : ∀ (cdv : Value) (A : Around) (outer : List Env) (s : Shared) (H : Hp) (E : XK) (G : Gn), A.guards = some [] → Room k (A.deeper (envOfC qual (defScope st) s.heap.objs.size f cdv)) →
      JSs (cxOf CX0 P w K mg base N qual (defScope st) f cdv A outer s H E).nox G (defBody st) (as (fun p => G.H0 p = none)))
    (hr : ∀ Fr svs Ω Φ Ξ, T svs Ω Φ Ξ → as Fr { nx := fun _ Ω => Φ (.d .none) Ω, rt := Φ } (startR N svs) Ω) : FnG P w K mg base CX0 (k + 1) f fd ps (spOf K T) :=
  fn_ok (as := fun Fr _ => as Fr) Fu S hT (fun cdv A outer s H E G Ξ h1 h2 h3 => by
    obtain ⟨t, p, q⟩ := hb cdv A outer s H E G h1 h2
    exact ⟨t, p.nox, ⟨fun {D ρ Ω} z {P F H σ D'} k o r => q.go z k o r⟩⟩) hr
theorem kargs (Fu : Fun K x qual st f fd) {ks : List Str} {n : Nat} {π : List Nat}
    (h : ∀ (kV doc pm : Value) (an : Option Addr) (cdv ct : Value) (us ws : List Value), us.length = n → ws.length = ks.length → bindArgs (PySem.W.fnOf x qual (defArgs st) (defBody st) (defScope st) .none kV doc pm an cdv ct) ⟨us, ks.zip ws⟩ = pure (ps.zip (π.map fun i => (us ++ ws).getD i .none))) : KArg K fd ps ks n π := by
  obtain ⟨oc, od, kV, doc, pm, an, cdv, ct, osl, rfl, lk, hcd⟩ := Fu.ex
  exact fun s us ws _ h1 h2 => .of_eq (h kV doc pm an cdv ct us ws h1 h2)
end
end Z
/-! Zr: list(reversed(xs)); xs[::-1]. -/
namespace Z
open PySem PySem.Spec PyProof.Rows L2
section
variable {prog : Program} {w : World} {A : Around} {E : Value → Shared → Prop} {s : Shared}
theorem rev_fill {R : Result → Shared → Prop} {it l S : Addr} {items : Array Value} {res : Value} {c₀ : Nat} (hh : A.handled = none) (hit : s.heap.IsRevIter it l ((items.size : Int) - 1)) (hl : s.heap.IsList l items) (hne : l ≠ it) (hn : items.size ≤ sizeLine)
    (hSi : S ≠ it) (hSl : S ≠ l) (hS : s.heap.get? S = some { cls := .type "list", data := .seq #[] c₀ })
    (hR : ∀ h' tk acc c', (∀ b o, b ≠ S → b ≠ it → s.heap.get? b = some o → h'.get? b = some o) → h'.get? S = some { cls := .type "list", dict := none, data := .seq acc c', slots := #[] } →
      ItemsOf (fun i v => items[items.size - 1 - i]? = some v) acc items.size → R (.ok (.ret res)) { s with heap := h', toks := tk }) :
    wpAny (model prog w) A.in1 (Builtin.List.listExtendWith (.ref S) (.ref it) res)
      (fun fin s' => match fin with | .done f => R (.ok f) s' | .again c' => c'.quiet = true ∧ codeAny (model prog w) A c' R s') (fun e s' => R (.error e) s') s := by
  have W := (Walks.listRev (prog := prog) (w := w) (A := A.in1) hh it l hne items).toS
  have hSf : S ∉ [it, l] := by
    intro z
    rcases List.mem_cons.mp z with q | q
    · exact hSi q
    · exact hSl (List.mem_singleton.mp q)
  have hT : s.TypeIs (.ref it) "list_reverseiterator" := hit.typeIs
  unfold Builtin.List.listExtendWith
  refine wpAny_bind (wpAny_typeOf hT ?_)
  have e1 : Builtin.List.listSameRef (.ref S) (.ref it) = false := by simp [Builtin.List.listSameRef, hSi]
  rw [if_neg (by rw [e1]; decide)]
  refine wpAny_bind (wpAny_pyIter_revIter hit (wpAny_bind (wpAny_holding ?_)))
  unfold Builtin.List.listLengthHint
  refine wpAny_bind (wpAny_specialOf hT RT.nolen_lri ?_)
  show wpAny _ _ (specialOf (Value.ref it) (Str.ofString "__length_hint__") >>= _) _ _ _
  refine wpAny_bind (wpAny_specialOf hT RT.hint_lri ?_)
  generalize hid : ("list_reverseiterator.__length_hint__" : String) = id0
  wp_delta
  rw [show splitId id0 = some ("list_reverseiterator", "__length_hint__") from by subst hid; decide +kernel]
  subst hid
  refine wpAny_bind (wpAny_isInstance (b := true) hT (by rw [isSubtype_type]; kernel_rfl) (wpAny_pure ?_))
  rw [if_neg (by decide)]
  have e0 : ((items.size : Nat) : Int) - 1 - ((0 : Nat) : Int) = (items.size : Int) - 1 := by omega
  refine wpAny_pure ⟨plainId_quiet F.plain_extend_loop _, codeAny_extend_loopS W hn S hSf res items.size 0 _ #[] c₀ rfl (Nat.zero_le _) ⟨Nat.zero_le _, by rw [e0]; exact hit, hl⟩ hS (ItemsOf.nil _) fun s' acc c' hm hS' hacc => ?_⟩
  rw [Moved.eq_with hm]
  refine hR s'.heap s'.toks acc c' (fun b o h1 h2 e => hm.heap b o (fun hmem => ?_) e) hS' hacc
  rcases List.mem_cons.mp hmem with q | q
  · exact h1 q
  · exact h2 (List.mem_singleton.mp q)
theorem call_list_revI {it l : Addr} {items : Array Value} {Q : Value → Shared → Prop} (hh : A.handled = none) (hit : s.heap.IsRevIter it l ((items.size : Int) - 1)) (hl : s.heap.IsList l items) (hne : l ≠ it) (hn : items.size ≤ sizeLine)
    (hQ : ∀ h' tk acc c', (∀ b o, b ≠ it → s.heap.get? b = some o → h'.get? b = some o) → h'.get? s.heap.objs.size = some { cls := .type "list", dict := none, data := .seq acc c', slots := #[] } →
      ItemsOf (fun i v => items[items.size - 1 - i]? = some v) acc items.size → Q (.ref s.heap.objs.size) { s with heap := h', toks := tk }) :
    wpAny (model prog w) A (PySem.call (.type "list") [.ref it]) Q E s := by
  refine callType_codes (Q₁ := fun obj s₁ => obj = .ref s.heap.objs.size ∧ s₁ = { s with heap := s.heap.push { cls := .type "list", data := .seq #[] } }) PySem.F.called_list (PySem.F.typeCall_list_1 _) PySem.F.entry_list_init
    (code_list_new _ ⟨rfl, rfl⟩) fun obj s₁ h₁ => ?_
  obtain ⟨rfl, rfl⟩ := h₁
  generalize hSz : s.heap.objs.size = S
  have hS : (s.heap.push { cls := .type "list", data := .seq #[] }).get? S = some { cls := .type "list", data := .seq #[] } := by rw [← hSz]; exact Heap.get?_push_size _ rfl
  obtain ⟨oi, hoi, _⟩ := id hit
  obtain ⟨ol, hol, _⟩ := id hl
  have hSi : S ≠ it := by rw [← hSz]; exact Nat.ne_of_gt (Heap.lt_size hoi)
  have hSl : S ≠ l := by rw [← hSz]; exact Nat.ne_of_gt (Heap.lt_size hol)
  refine ⟨⟨_, hS, rfl⟩, PySem.F.args_list_init_2 _ _, ?_⟩
  show wpAny _ _ (do let old ← Builtin.List.listItems (.ref S); Builtin.List.listUpdate (.ref S) (fun _ => #[]); letGo old.toList.reverse; Builtin.List.listExtendWith (.ref S) (.ref it) .none) _ _ _
  refine wpAny_bind ?_
  unfold Builtin.List.listItems
  refine wpAny_bind (wpAny_seqItems hS rfl (wpAny_pure ?_))
  refine wpAny_bind (m := Builtin.List.listUpdate (.ref S) (fun _ => #[])) ?_
  unfold Builtin.List.listUpdate
  refine wpAny_updateSeq hS rfl ?_
  have hS2 := Heap.get?_update_self (Obj.mapSeq (fun _ => (#[] : Array Value))) hS rfl
  have oth : ∀ b o, b ≠ S → s.heap.get? b = some o → ((s.heap.push { cls := .type "list", data := .seq #[] }).update S (Obj.mapSeq (fun _ => (#[] : Array Value)))).get? b = some o :=
    fun b o hb e => (Heap.get?_update_other _ _ (Ne.symm hb)).trans (Heap.get?_push_of_some _ e)
  refine wpAny_bind (wpAny_letGo ?_)
  refine rev_fill (A := A.in1) (c₀ := _) (items := items) (l := l) hh (hit.at fun o e => oth it o (Ne.symm hSi) e) ?_ hne hn hSi hSl hS2 (fun h' tk acc c' hk hS' hacc => ?_)
  · obtain ⟨ol, hol, hr⟩ := id hl
    exact ⟨ol, oth l ol (Ne.symm hSl) hol, hr⟩
  · rw [← hSz] at hS'
    refine ⟨rfl, ?_⟩
    have q := hQ h' tk acc c' (fun b o hb e => ?_) hS' hacc
    · rw [hSz] at q
      exact q
    · have hb2 : b ≠ S := by rw [← hSz]; exact Nat.ne_of_lt (Heap.lt_size e)
      exact hk b o hb2 hb (oth b o hb2 e)
end
section
variable {X : Cx} {G : Gn} {e : Expr} {aa : AE} {m : Mode}
/-- list(reversed(x)), x a list: a new list -/
def tLstRev (K : Frag) (te : TE) : TE := fun σ H Q => te σ H fun v H1 => ∃ (a : Addr) (xs : List V), v = .ref a ∧ SqL K H1 a xs ∧ ∀ q, H1 q = none → Q (.ref q) (upd H1 q (.lst xs.reverse))
theorem pe_lstRev {te : TE} {p p2 pos pos2 : Pos} (hc : X.calm = true) (hg : Gl X "list") (hm : X.mg "list" = none) (hg2 : Gl X "reversed") (hm2 : X.mg "reversed" = none) (he : PE X e te)
    (hs : starEach [e] X.env = (false, eval e X.env) :: starEach [] X.env)
    (hs2 : starEach [.Call (.Name "reversed" p2) [e] [] pos2] X.env = (false, eval (.Call (.Name "reversed" p2) [e] [] pos2) X.env) :: starEach [] X.env) :
    PE X (.Call (.Name "list" p) [.Call (.Name "reversed" p2) [e] [] pos2] [] pos) (tLstRev X.K te) := by
  refine ⟨fun pins s σ H Q I h => Call_ (ld_blt I hg hm boot_list (PyProof.Rows.callWith_type1 (args_cons (Call_ (ld_blt I hg2 hm2 PyProof.Rows.boot_reversed (PyProof.Rows.callWith_type1 (args_cons (thn (he.run pins s σ H _ I h) fun u s1 ⟨v, H1, I1, r1, q1⟩ => args_nil ?_) hs) hs rfl))) hs2) hs2 rfl))⟩
  obtain ⟨a, xs, rfl, hq, q⟩ := q1
  obtain rfl : u = Value.ref a := r1
  obtain ⟨its, rv, p', hz⟩ := I1.list hq
  refine call_reversed_list p'.isList (args_nil ?_)
  generalize hro : revObj a ((its.toArray.size : Int) - 1) = ro
  have k0 : ∀ b o, s1.heap.get? b = some o → (s1.heap.push ro).get? b = some o := fun b o z => Heap.get?_push_of_some _ z
  have I2 : Inv X pins σ H1 { s1 with heap := s1.heap.push ro } := I1.kept (t' := s1.toks) k0
  obtain ⟨f0, f1, f2, f3, f4, f5⟩ := I1.fpOk (H' := H1) (b := s1.heap.objs.size) (Nat.le_refl _) (I1.hok.fresh (Nat.le_refl _))
  have hl := p'.isList
  obtain ⟨ol, hol, _⟩ := id hl
  have hne : a ≠ s1.heap.objs.size := Nat.ne_of_lt (Heap.lt_size hol)
  have hn : its.toArray.size ≤ sizeLine := by rw [List.size_toArray, ← rv.length]; exact hz
  have hri : ({ s1 with heap := s1.heap.push ro } : Shared).heap.IsRevIter s1.heap.objs.size a ((its.toArray.size : Int) - 1) := by
    rw [← hro]
    exact ⟨_, Heap.get?_push_size _ rfl, rfl, rfl⟩
  have hDn : H1 (s1.heap.push ro).objs.size = none := I1.hok.fresh (by rw [Heap.size_push]; exact Nat.le_succ _)
  have hne2 : (s1.heap.push ro).objs.size ≠ s1.heap.objs.size := by rw [Heap.size_push]; exact Nat.succ_ne_self _
  refine call_list_revI (s := { s1 with heap := s1.heap.push ro }) (I1.ok.hd hc) hri (hl.push _) hne hn fun h' tk acc c' hk hS hi => ?_
  have hlen : xs.reverse.length ≤ sizeLine := by rw [List.length_reverse]; exact hz
  have hv : Vals xs.reverse acc.toList := RT.vals_rev rv hi
  have I3 := I2.laid (a := (s1.heap.push ro).objs.size) (o := .lst xs.reverse) (t' := tk) (h' := (s1.heap.push ro).push { cls := .type "list", data := .seq acc c' }) (fun b o z => Heap.get?_push_of_some _ z) (Nat.le_refl _)
    (show ObjOk X.prog X.w _ _ _ (.lst xs.reverse) from ⟨hlen, acc.toList, c', hv, by rw [Array.toArray_toList]; exact Heap.get?_push_size _ rfl⟩)
  have I4 := I3.turned (t' := tk) (h' := h') (it := s1.heap.objs.size) (fun b o hb z => ?_) (by rw [upd_ne (Ne.symm hne2)]; exact f0) f1 f3 f4 f5
  · exact ⟨.ref (s1.heap.push ro).objs.size, _, I4, rfl, q _ hDn⟩
  · by_cases hbS : b = (s1.heap.push ro).objs.size
    · rcases Heap.get?_push_cases z with ⟨_, e⟩ | z2
      · rw [hbS, e]
        exact hS
      · exact hk b o hb z2
    · rcases Heap.get?_push_cases z with ⟨e, _⟩ | z2
      · exact absurd e hbS
      · exact hk b o hb z2
def aLstRev (m : Mode) (a : AE) : AE := fun ρ Ω Φ => a ρ Ω fun x Ω' => rdS x Ω' fun ds => (match x with | .d (.tuple _) => False | _ => True) ∧ newL m ds.reverse Ω' Φ
theorem je_listRev {p p2 pos pos2 : Pos} (hm : MOk (enX X G) m) (hc : X.calm = true) (hg : Gl X "list") (hml : X.mg "list" = none) (hg2 : Gl X "reversed") (hm2 : X.mg "reversed" = none) (ha : JE X G e aa)
    (hs : starEach [e] X.env = (false, eval e X.env) :: starEach [] X.env := by rfl)
    (hs2 : starEach [.Call (.Name "reversed" p2) [e] [] pos2] X.env = (false, eval (.Call (.Name "reversed" p2) [e] [] pos2) X.env) :: starEach [] X.env := by rfl) :
    JE X G (.Call (.Name "list" p) [.Call (.Name "reversed" p2) [e] [] pos2] [] pos) (aLstRev m aa) := by
  obtain ⟨t, h1, h2⟩ := ha
  refine ⟨_, pe_lstRev hc hg hml hg2 hm2 h1 hs hs2, ⟨fun {ρ Ω Φ} h {P F H σ Q} o rp k => h2.go h o rp fun {v sv Ω1 F1 H1} q o1 s1 r1 => ?_⟩⟩
  obtain ⟨a, vs, ds, rfl, hs, da, q⟩ := rdL_of_S q o1 r1
  exact ⟨a, vs, rfl, hs, fun p hp => newL_ok hm o1 (dqa_rev da) q (fun q2 o2 s2 r2 => k q2 o2 (s1.trans s2) r2) hp⟩
end
end Z
/-! Zw: the law's end, for a def that is only called where no repr is under way. -/
namespace Z
open PySem PySem.Spec PyProof.Rows L2
section
variable {P : Program} {w : World} {K : Frag} {mg mb : Str → Option Value} {k : Nat} {fa a : Addr} {fd : FuncData} {x : Str} {sp : Sp} {s : Shared} {vs : List Value} {ns : List Int}
/-- what the law's call must come to -/
abbrev WellDone (s0 : Shared) : Except Value Flow → Shared → Prop := fun r s' => r = .ok (.ret (.bool true)) ∧ OldK s0.heap s'.heap ∧ s'.os = s0.os ∧ AllBare s'.gens
/-- .. from a heap of tracked objects in which at most the script lies -/
theorem lawG_in {H : Hp} (kin : K.In s.heap) (gns : s.heap.Ns mainGlobals mg) (bns : s.heap.Ns builtinsNs mb) (bok : ∀ y : Str, y ≠ "__name__" → mb y = bootBuiltins y) (nol : s.heap.NoLimit) (ng : s.gens = #[])
    (obj : s.heap.get? a = some { cls := .type "list", data := .seq vs.toArray }) (rm : Room k callerA)
    (F : ∀ b : Heap, K.In b → b.Ns mainGlobals mg → FnG P w K mg b CX0 k fa fd [x] sp) (bd : ∀ (z : Shared) (u : Value), BindsTo z fd ⟨[u], []⟩ [(x, u)])
    (only : Only H) (hs : sp [.ref a] H (fun v _ => v = .bl true) fun _ _ _ => False) (hok : HOk P w H s.heap) (just : ∀ b, H b ≠ none → b = a) (out : H a ≠ none → K.lookup a = none) :
    codeAny (model P w) callerA (.call (.ref fa) ⟨[.ref a], []⟩) (WellDone s) s := by
  have isA : ∀ {b : Addr} {u : HO}, H b = some u → b = a := fun {b u} e => just b fun z => by rw [e] at z; cases z
  have free : ∀ {b : Addr} {o : Obj} {es : Array DictEntry} {ep : Nat}, s.heap.get? b = some o → o.data = .dict es ep → H b = none := by
    intro b o es ep e d
    rcases hb : H b with _ | u
    · rfl
    · cases isA hb
      cases obj.symm.trans e
      exact absurd (show Data.seq vs.toArray _ = Data.dict es ep from d) (fun z => by cases z)
  have ns' : ∀ {b : Addr} {m : Str → Option Value}, s.heap.Ns b m → (hidT s.heap H).Ns b m := by
    rintro b m ⟨o, es, ep, e, d, r⟩
    exact ⟨o, es, ep, hidT_get e (free e d), d, r⟩
  have kin' : K.In (hidT s.heap H) := by
    intro b o e
    refine hidT_get (kin b o e) ?_
    rcases hb : H b with _ | u
    · rfl
    · cases isA hb
      have z := out (by rw [hb]; exact fun q => by cases q)
      cases z.symm.trans e
  obtain ⟨mc, c1, c2⟩ := nol
  have env : Env0 P w K mg (hidT s.heap H) callerA [] s H :=
    ⟨rfl, ⟨kin', ns' gns, ⟨mb, ns' bns, bok⟩, ⟨mc, ns' c1, c2⟩⟩, fun _ _ e => of_hidT e, Nat.le_of_eq (hidT_size _ _), trivial, fun _ z => absurd (show _ ∈ ([] : List Addr) from z) (by simp), hok, .of_eq ng⟩
  refine codeAny_mono ((F _ kin' (ns' gns)).go callerA [] s H ⟨[.ref a], []⟩ [.ref a] [.ref a] _ _ rm rfl env (bd s (.ref a)) (.cons rfl .nil) hs) fun r s' got => ?_
  match r, got with
  | .error _, got => exact got.elim
  | .ok .next, got => exact got.elim
  | .ok .brk, got => exact got.elim
  | .ok .cont, got => exact got.elim
  | .ok (.ret u), got =>
    obtain ⟨v, H', os, bare, un, hok', ru, rfl⟩ := got
    cases (show u = Value.bool true from ru)
    refine ⟨rfl, OldK.of_keep fun b o e => ?_, os, bare⟩
    rcases hb : H b with _ | u
    · exact un.keep b o e hb (fun z => absurd (show b ∈ ([] : List Addr) from z) (by simp)) (by simp)
    · rcases only b with z | ⟨ob, xs, z⟩
      · cases z.symm.trans hb
      · have g1 := (hok b _ z).1
        cases g1.symm.trans e
        exact (hok' b _ (un.frzs b _ _ z)).1
theorem lawG (kin : K.In s.heap) (gns : s.heap.Ns mainGlobals mg) (bns : s.heap.Ns builtinsNs mb) (bok : ∀ y : Str, y ≠ "__name__" → mb y = bootBuiltins y) (nol : s.heap.NoLimit) (ng : s.gens = #[])
    (obj : s.heap.get? a = some { cls := .type "list", data := .seq vs.toArray }) (hi : IntsAre vs ns) (hl : ns.length ≤ sizeLine) (rm : Room k callerA)
    (F : ∀ b : Heap, K.In b → b.Ns mainGlobals mg → FnG P w K mg b CX0 k fa fd [x] sp) (bd : ∀ (z : Shared) (u : Value), BindsTo z fd ⟨[u], []⟩ [(x, u)])
    (hsp : ∀ H : Hp, Only H → SqL K H a (ns.map V.int) → sp [.ref a] H (fun v _ => v = .bl true) fun _ _ _ => False) :
    codeAny (model P w) callerA (.call (.ref fa) ⟨[.ref a], []⟩) (WellDone s) s := by
  have ru := vals_ints hi
  rcases hk : K.lookup a with _ | o
  · -- the script stands outside the written part
    let o : Obj := { cls := .type "list", data := .seq vs.toArray }
    let H : Hp := fun b => if b = a then some (.frz o (.lst (ns.map V.int))) else none
    have at_ : H a = some (.frz o (.lst (ns.map V.int))) := if_pos rfl
    have off : ∀ {b}, b ≠ a → H b = none := fun h => if_neg h
    have only : Only H := fun b => by
      by_cases e : b = a
      · subst e; exact .inr ⟨_, _, at_⟩
      · exact .inl (off e)
    refine lawG_in (H := H) kin gns bns bok nol ng obj rm F bd only (hsp H only (.inl (.inr ⟨o, at_⟩))) (fun b u z => ?_) (fun b z => Classical.byContradiction fun e => z (off e)) fun _ => hk
    by_cases e : b = a
    · subst e
      cases at_.symm.trans z
      exact ⟨obj, by rw [List.length_map]; exact hl, vs, _, ru, obj⟩
    · cases (off e).symm.trans z
  · have e := kin a o hk
    cases obj.symm.trans e
    have only : Only fun _ => none := fun _ => .inl rfl
    refine lawG_in (H := fun _ => none) kin gns bns bok nol ng obj rm F bd only (hsp _ only (.inr ⟨_, vs.toArray, _, hk, rfl, rfl, rfl, by rw [List.size_toArray, hi.length]; exact hl, by simpa using ru⟩)) (fun b u z => ?_) (fun b z => absurd rfl z) fun z => absurd rfl z
    cases (show (none : Option HO) = some u from z)
end
/-- the script: a list of ints, of at most n, each of at most 2^20 bits -/
def ScrOk (n : Nat) (ns : List Int) : Prop := ns.length ≤ n ∧ ∀ z ∈ ns, Builtin.Int.intBits z ≤ 1048576
theorem dqa_ofInts {K : Frag} {F : Hp} : ∀ ns : List Int, DqAll K F (ns.map V.int) (ns.map PyData.int)
  | [] => .nil
  | n :: r => .cons (.int n) (dqa_ofInts r)
theorem ok_start {K : Frag} {H : Hp} : Ok ⟨⟨H, H, fun _ => none⟩, K⟩ (fun _ => none) H H [] :=
  ⟨Same.refl _, fun _ _ z => (by cases z), fun _ z => absurd z (by simp), fun _ z => absurd rfl z, Same.refl H, fun _ h1 h2 => absurd h2 h1, fun _ e => e, Same.refl H, fun _ z => absurd z (by simp), .nil⟩
/-- what the law promises: at a script of at most n ints, True -/
inductive LawC (n : Nat) : Con where
  | mk {ns : List Int} {Φ : PhiE} {Ξ : XA} : ScrOk n ns → (∀ Ω, Φ (.d (.bool true)) Ω) → LawC n [.l (ns.map PyData.int)] [] Φ Ξ
theorem LawC.ari {n : Nat} : Ari (LawC n) 1 := by rintro _ _ _ _ ⟨_, _⟩; rfl
/-- THE END -/
theorem walk {l : PySem.W.OpenLaw} {n k : Nat} {q : Program} {loose : List Str} {XP : (Str → Option Value) → Heap → Prop} {YP : World → Heap → Prop} {d : DefRec} {K : Params → Frag} {x : Str}
    (hn : l.most = some n) (hdf : d.params.defaults = []) (in_ : ∀ (w : World) (h : Heap), YP w h → (K w.params).In h) (hr : Room k callerA) (hz : n ≤ sizeLine)
    (F : ∀ (w : World) (mg : Str → Option Value) (fa : Addr) (h : Heap), (K w.params).In h → h.Ns mainGlobals mg → mg d.name = some (.ref fa) →
      ∃ fd : FuncData, (∀ (s : Shared) (v : Value), BindsTo s fd ⟨[v], []⟩ [(x, v)]) ∧ ∀ b : Heap, (K w.params).In b → b.Ns mainGlobals mg → FnG l.prog w (K w.params) mg b CX0 k fa fd [x] (spOf (K w.params) (LawC n))) :
    PySem.W.WalkO q loose XP YP l.row.toRowW d [] fun f vs => PySem.call f vs := by
  refine Att.attach_callB hn hdf fun w _ s mg mb fa _ _ _ _ a vs ns G Y _ _ _ nm obj iv len bits ng => ?_
  have kin := in_ w _ Y
  obtain ⟨fd, bd, f⟩ := F w mg fa _ kin G.T.g nm
  exact lawG kin G.T.g G.T.b G.T.builtins G.T.nolimit ng obj iv (Nat.le_trans len hz) hr f bd fun H _ hs =>
    ⟨_, H, [], [.l (ns.map PyData.int)], fun x _ => x = .d (.bool true), fun _ _ => False, ok_start, .cons ⟨a, _, rfl, hs, dqa_ofInts ns⟩ .nil, .mk ⟨len, bits⟩ fun _ => rfl,
      fun v sv Ω' P' F' H' e o' r => (by subst e; exact dqb r), fun _ _ _ _ _ _ _ z => z.elim⟩
end Z
/-! Z8: raise, try .. except .. as, what is asked of an exception in hand. -/
namespace Z
open PySem PySem.Spec PyProof.Rows L2
/-! ### C() -/
section
variable {X : Cx} {C : Addr} {bmB : List Value} {B newId initId : String} {x : Str} {p pos : Pos}
theorem mk_own0 (F : ExcBaseFacts B newId initId bmB) (q : PySem.W.excIn X.K C bmB newId = true) (gC : X.mg x = some (.ref C)) (kC : PySem.W.keepIn X.K (.ref C) = true) (r : Raises X (.ref C)) (hg : Gl X x) (db : (x == ("__debug__" : Str)) = false := by decide) :
    L2N.PMk X (.Call (.Name x p) [] [] pos) fun _ H Q => Q (.ref C) none H := by
  intro pins s σ H Q I h
  refine wpAny_Call_Name_kw (ld_glob I hg gC (PySem.W.callWith_K0 I.kIn kC ?_) db)
  obtain ⟨_, _, _, _, _, _, _, _, _, _, _, _, _, _, _, _, _, hC, hN, hni, T⟩ := exc_obj I.kIn q
  exact wpAny_call_exc_subT F T hC hN hni (fun h' e hm => L2N.mk_of I hm r h (I.hok.gone hm.new)) (Nat.zero_le _)
end
/-! ### raise -/
section
variable {X : Cx} {G : Gn} {e : Expr} {pos : Pos} {C : Addr} {W : WX} {Ξ : Rho → XA}
theorem noTakes {X : Cx} : L2N.Takes X (fun _ _ _ _ => False) := by
  rintro u s' ⟨_, _, _, _, _, _, _, _, _, _, _, _, _, _, _, _, w⟩
  exact w.elim
def aRaise (Ξ : Rho → XA) (c : Value) : AS := fun _ ρ Ω => Ξ ρ (c, none) Ω
theorem js_raise (hc : X.calm = true) (tk : L2N.Takes X W) (hW : XOk X G (WE W) Ξ) (mk : L2N.PMk X e fun _ H Q => Q (.ref C) none H) : JS X G (.Raise (some e) none pos) (aRaise Ξ (.ref C)) :=
  ⟨_, L2N.ps_raise hc tk mk, ⟨fun {D ρ Ω} h {P F H σ D'} _ o rp => hW h o rp ⟨rfl, trivial⟩⟩⟩
end
/-! ### try .. except C as n -/
def aTry (i : Nat) (c : Value) (ab : (Rho → XA) → AS) (su : Addr → AS) : AS := fun D ρ Ω =>
  ab (fun ρ' x Ω' => x = (c, none) ∧ ∀ a, su a { D with nx := fun ρ2 Ω2 => D.nx (ρ2.set i none) Ω2, bk := fun ρ2 Ω2 => D.bk (ρ2.set i none) Ω2, ct := fun ρ2 Ω2 => D.ct (ρ2.set i none) Ω2 } (ρ'.set i (some (.r (.ref a)))) Ω') D ρ Ω
section
variable {X : Cx} {G : Gn} {x n : Str} {cls c : Value} {i : Nat} {body suite : List Stmt} {b₀ : Stmt} {np pos pos' : Pos} {ab : (Rho → XA) → AS} {su : Addr → AS}
theorem js_tryAs (hs : X.stack = X.env :: X.outer) (hf : X.env.frame = some X.env.locals) (hN : X.N.Nodup) (hi : X.N[i]? = some n) (hln : X.env.kindOf n = some .local) (hc : Names X x c) (hx : PySem.W.exmOne X.K cls c = some true)
    (hb : ∀ (G' : Gn) (Ξ : Rho → XA) (W : WX) (pn : List (Addr × Obj)) (xe : Value → Shared → Prop), (∀ a, G'.H0 a = none → G.H0 a = none) → XOk X G' (WE W) Ξ → L2N.Takes (X.tr pn xe) W → PassesOwn (model X.prog X.w) X.A X.env xe → JSs (X.tr pn xe) G' body (ab Ξ))
    (hsu : ∀ (a : Addr) (oe : Obj) (pn : List (Addr × Obj)), L2N.Zn cls none oe → (∃ vs, oe.data = .fields vs) → JSs (X.suite a ((a, oe) :: pn)) G (b₀ :: suite) (su a)) :
    JS X G (.Try body [.ExceptHandler (some (.Name x np)) (some n) (b₀ :: suite) pos'] [] [] pos) (aTry i cls ab su) := by
  refine ⟨_, L2N.ps_try_as (i := i) (Wout := fun _ _ _ _ => False)
    (tb := fun W D σ H => ∃ (G' : Gn) (Ξ : Rho → XA) (hg : ∀ a, G'.H0 a = none → G.H0 a = none) (hx : XOk X G' (WE W) Ξ), ∀ pn xe (tk : L2N.Takes (X.tr pn xe) W) (po : PassesOwn (model X.prog X.w) X.A X.env xe), Classical.choose (hb G' Ξ W pn xe hg hx tk po) D σ H)
    (ts := fun a cl d D σ H => cl = cls ∧ d = none ∧ ∀ oe pn (hz : L2N.Zn cls none oe) (hf : ∃ vs, oe.data = .fields vs), Classical.choose (hsu a oe pn hz hf) D σ H)
    hs hf hN hi hln hc noTakes (fun W pn xe tk po => ⟨fun pins s σ H D I h => ?_⟩) (fun a oe cl d pn hz hf => ⟨fun pins s σ H D I h => ?_⟩), ⟨fun {D ρ Ω} h {P F H σ D'} k o rp => ?_⟩⟩
  · obtain ⟨G', Ξ, hg, hx, h⟩ := h
    exact (Classical.choose_spec (hb G' Ξ W pn xe hg hx tk po)).1.run pins s σ H D I (h pn xe tk po)
  · obtain ⟨rfl, rfl, h⟩ := h
    exact (Classical.choose_spec (hsu a oe pn hz hf)).1.run pins s σ H D I (h oe pn hz hf)
  · have hg : ∀ a, H a = none → G.H0 a = none := fun a e => o.dm a e
    have hX : XOk X ⟨F, H, P⟩ (WE (wAs X.K c i (fun a cl d D σ H => cl = cls ∧ d = none ∧ ∀ oe pn (hz : L2N.Zn cls none oe) (hf : ∃ vs, oe.data = .fields vs), Classical.choose (hsu a oe pn hz hf) D σ H) (fun _ _ _ _ => False) D'))
        (fun ρ' x Ω' => x = (cls, none) ∧ ∀ a, su a { D with nx := fun ρ2 Ω2 => D.nx (ρ2.set i none) Ω2, bk := fun ρ2 Ω2 => D.bk (ρ2.set i none) Ω2, ct := fun ρ2 Ω2 => D.ct (ρ2.set i none) Ω2 } (ρ'.set i (some (.r (.ref a)))) Ω') := by
      intro σ1 ρ1 y Ω1 P1 F1 H1 cl d hy o1 rp1 rx
      obtain ⟨rfl, hy⟩ := hy
      have s1 : Same F F1 := o1.f0
      have o2 := o.leave o1
      have dn : d = none := by
        cases d with
        | none => rfl
        | some _ => exact rx.2.elim
      refine ⟨true, by rw [rx.1]; exact hx, fun _ a _ => ⟨rx.1, dn, fun oe pn hz hf => ?_⟩, fun z => by cases z⟩
      exact (Classical.choose_spec (hsu a oe pn hz hf)).2.go (hy a)
        ⟨fun q o' s' r => k.nx q o' (s1.trans s') (pr_set (R := RpS X.K _) (x := none) (y := none) trivial i r), fun q o' s' r => k.rt q o' (s1.trans s') r, fun q o' s' r => k.bk q o' (s1.trans s') (pr_set (R := RpS X.K _) (x := none) (y := none) trivial i r), fun q o' s' r => k.ct q o' (s1.trans s') (pr_set (R := RpS X.K _) (x := none) (y := none) trivial i r)⟩ o2
        (pr_set (R := RpS X.K _) (y := some (SV.r (.ref a))) ⟨V.ref a, rfl, rfl⟩ i rp1)
    exact ⟨⟨F, H, P⟩, _, hg, hX, fun pn xe tk po => (Classical.choose_spec (hb ⟨F, H, P⟩ _ _ pn xe hg hX tk po)).2.go h
      ⟨fun q o' s' r => k.nx q (o.leave o') s' r, fun q o' s' r => k.rt q (o.leave o') s' r, fun q o' s' r => k.bk q (o.leave o') s' r, fun q o' s' r => k.ct q (o.leave o') s' r⟩ o.enter rp⟩
end
/-! ### isinstance(e, C), e the exception in hand -/
def acIsE (a : Addr) (cv : V) (b : Bool) : AC := fun xs Ω Φ => match xs with
  | [.r (.ref a'), .r c] => a' = a ∧ c = cv ∧ Φ (.d (.bool b)) Ω
  | _ => False
section
variable {X : Cx} {G : Gn} {D a : Addr} {oe : Obj} {cv : V} {b : Bool} {cw : Value}
theorem jc_isE (hp : (a, oe) ∈ X.pn) (C : ExcC X.K D) (hz : L2N.Zn (.ref D) none oe) (hf : ∃ vs, oe.data = .fields vs) (hv : ∀ u, RelV cv u → u = cw) (hk : PySem.W.kitOne X.K (.ref D) cw = some b) : JC X G (.builtin "isinstance") (acIsE a cv b) := by
  refine ⟨fun xs H Q => xs = [.ref a, cv] ∧ Q (.bl b) H, fun pins s σ H xs us Q I r h => ?_, ⟨fun {svs Ω Φ} h {P F H vs Q} o r k => ?_⟩⟩
  · obtain ⟨rfl, q⟩ := h
    obtain ⟨u, w, rfl, ru, rw_⟩ : ∃ u w, us = [u, w] ∧ RelV (.ref a) u ∧ RelV cv w := by
      cases r with
      | cons h1 r =>
        cases r with
        | cons h2 r => cases r; exact ⟨_, _, rfl, h1, h2⟩
    obtain rfl : u = Value.ref a := ru
    obtain rfl := hv _ rw_
    have there := (I.pin (a, oe) (List.mem_append_left _ hp)).1
    obtain ⟨vs, hd⟩ := hf
    have J : PySem.W.InstAt s.heap a oe D none := by
      obtain ⟨c0, d0, t0, l0⟩ := oe
      obtain ⟨z1, z2, -⟩ := hz
      cases (show c0 = _ from z1)
      cases (show d0 = _ from z2)
      cases (show t0 = _ from hd)
      exact ⟨there, rfl, rfl, trivial⟩
    exact PySem.W.kia_one (PySem.W.handS_kitx_exc C.hg C.hk C.hs C.hd C.ha C.hn C.ht C.hm) I.kIn J hk (fun z => by cases z) fun tk => ⟨.bl b, H, I.kept (t' := tk) fun _ _ z => z, rfl, q⟩
  · unfold acIsE at h
    split at h
    · obtain ⟨rfl, rfl, h⟩ := h
      obtain ⟨v, w, rfl, r1, r2⟩ := pr2 r
      cases (show v = _ from r1)
      cases (show w = _ from r2)
      exact ⟨rfl, k h o (Same.refl F) (.bl _)⟩
    · exact h.elim
end
/-! ### a def that is called with the exception in hand -/
inductive IsC (a : Addr) (c : Bool) : Con where
  | mk {Ω : Om} {Φ : PhiE} {Ξ : XA} : Φ (.d (.bool c)) Ω → IsC a c [.r (.ref a)] Ω Φ Ξ
structure FnE (P : Program) (w : World) (K : Frag) (mg : Str → Option Value) (base : Heap) (D : Addr) (k : Nat) (f : Addr) (fd : FuncData) (ps : List Str) (c : Bool) : Prop where
  one : ps.length = 1
  go : ∀ (A : Around) (outer : List Env) (s : Shared) (H : Hp) (args : Args) (Q : VK) (E : XK) (p : Addr × Obj), L2H.RoomH k A → A.guards = some [] → L2H.Hot1 A p → L2H.PinOk outer H s p → L2N.Zn (.ref D) none p.2 → Env0 P w K mg base A outer s H → BindsTo s fd args (ps.zip [.ref p.1]) →
    spOf K (IsC p.1 c) [.ref p.1] H Q E → codeAny (model P w) A (.call (.ref f) args) (CR CX0 outer P w H s Q E) s
section
variable {P : Program} {w : World} {K : Frag} {mg : Str → Option Value} {base : Heap} {D : Addr} {k : Nat} {f : Addr} {fd : FuncData} {ps N : List Str} {c : Bool} {x qual : Str} {st : Stmt} {as : Addr → AS}
theorem fnE_of (Fu : Fun K x qual st f fd) (S : FnScope N ps (defScope st)) (h1 : ps.length = 1)
    (hb : ∀ (cdv : Value) (A : Around) (outer : List Env) (s : Shared) (H : Hp) (E : XK) (G : Gn) (p : Addr × Obj), A.guards = some [] → L2H.Hot1 A p → L2N.Zn (.ref D) none p.2 → L2H.RoomH k (A.deeper (envOfC qual (defScope st) s.heap.objs.size f cdv)) →
      JSs (L2H.cxH CX0 P w K mg base N qual (defScope st) f cdv A outer s H E p) G (defBody st) (as p.1))
    (hw : ∀ (a : Addr) (Ω : Om) (Φ : PhiE), Φ (.d (.bool c)) Ω → as a { nx := fun _ Ω => Φ (.d .none) Ω, rt := Φ } (startR N [.r (.ref a)]) Ω) : FnE P w K mg base D (k + 1) f fd ps c := by
  obtain ⟨oc, od, kV, doc, pm, an, cdv, ct, osl, rfl, lk, hcd⟩ := Fu.ex
  refine ⟨h1, fun A outer s H args Q E p hr hgd hot hpin hz e0 hbd hsp => ?_⟩
  have old := fun b o e => (e0.bs b o e).1
  have kin : K.In s.heap := e0.mod.kin.keeps old
  have nol : s.heap.NoLimit := e0.mod.nolimit.keeps old
  have kinds : ∀ y ∈ ps.zip [Value.ref p.1], (defScope st).names.lookup y.1 = some .local ∨ ((defScope st).names.lookup y.1 = some .cell ∧ ((cellsFrom (s.heap.objs.size + 1) (defScope st).names []).lookup y.1).isSome = true) := by
    rintro ⟨n, v⟩ hy
    exact (S.par n (List.of_mem_zip hy).1).elim .inl fun q => .inr ⟨q, PySem.W.cellsFrom_some _ _ _ (.inl q)⟩
  refine codeAny_call_function hr.depth (kin _ _ lk) rfl S.co S.gen rfl (PySem.W.codeRec_of kin hcd) (hbd _ _ _ _ (wpAny_newFunctionEnv_cells S.kind kinds fun env he s1 x => ?_))
  cases he
  refine ⟨nol.keeps x.toInCall.keep, codeAny_func ?_⟩
  obtain ⟨P0, F, Ω, svs, Φ, Ξ, o, r, h, k1, k2⟩ := hsp
  obtain ⟨hΦ⟩ := h
  obtain ⟨t, pt, sn⟩ := hb cdv A outer s H E ⟨F, H, P0⟩ p hgd hot hz (hr.deeper _)
  have rv : Vals [V.ref p.1] [Value.ref p.1] := .cons rfl .nil
  have I0 := L2H.inv_startH (CX := CX0) (P := P) (w := w) (mg := mg) (N := N) (E := E) (vs := [V.ref p.1]) S hpin e0 (by rw [h1]; rfl) rv x
  have q0 := sn.go (hw p.1 Ω Φ hΦ) (D' := { nx := fun _ H' => Q .non H', rt := Q }) ⟨fun z o' _ _ => k1 _ _ _ _ _ _ z o' Dq.non, fun z o' _ r' => k1 _ _ _ _ _ _ z o' r', fun z _ _ _ => z.elim, fun z _ _ _ => z.elim⟩ o (start_ok r)
  refine wpAny_mono (pt.run [] s1 _ H _ I0 q0) (fun fl s' hs => ?_) fun _ _ z => z
  cases fl with
  | ret u => obtain ⟨v, σ', H', J, rv, q⟩ := hs; exact ⟨v, H', J.os, J.bare, J.base, J.hok, rv, q⟩
  | next => obtain ⟨σ', H', J, q⟩ := hs; exact ⟨.non, H', J.os, J.bare, J.base, J.hok, rfl, q⟩
  | brk => obtain ⟨_, _, _, q⟩ := hs; exact q.elim
  | cont => obtain ⟨_, _, _, q⟩ := hs; exact q.elim
end
section
variable {X : Cx} {G : Gn} {D a : Addr} {oe : Obj} {k : Nat} {f : Addr} {fd : FuncData} {ps : List Str} {c : Bool} {x : Str} {e : Expr} {aa : AE} {p pos : Pos}
/-- f(e), e the exception that the suite holds -/
def aCallE (a : Addr) (c : Bool) (aa : AE) : AE := fun ρ Ω Φ => aa ρ Ω fun x Ω' => x = .r (.ref a) ∧ Φ (.d (.bool c)) Ω'
theorem je_callE (F : FnE X.prog X.w X.K X.mg X.base D k f fd ps c) (hr : L2H.RoomH k X.A) (hgd : X.A.guards = some []) (hot : L2H.Hot1 X.A (a, oe)) (hp : (a, oe) ∈ X.pn) (hz : L2N.Zn (.ref D) none oe) (hg : Gl X x) (hm : X.mg x = some (.ref f)) (hk : PySem.W.keepIn X.K (.ref f) = true)
    (hb : Binds X.K fd ps []) (ha : JE X G e aa) (hdb : (x == ("__debug__" : Str)) = false := by decide)
    (he : starEach [e] X.env = (false, eval e X.env) :: starEach [] X.env := by rfl) (hpl : (backTo pos (starEach [] X.env)).any (·.1) = false := by rfl) :
    JE X G (.Call (.Name x p) [e] [] pos) (aCallE a c aa) := by
  obtain ⟨t, h1, h2⟩ := ha
  refine ⟨fun σ H Q => t σ H fun v H1 => v = .ref a ∧ spOf X.K (IsC a c) [.ref a] H1 Q fun _ _ _ => False, ⟨fun pins s σ H Q I h => ?_⟩, ⟨fun {ρ Ω Φ} h {P F H σ Q} o rp k => ?_⟩⟩
  · refine wpAny_Call_Name_kw (ld_glob I hg hm (PySem.W.callWith_K (h₀ := X.base) I.ok.mod.kin hk ?_ he hpl) hdb)
    rw [he]
    refine Calls.spliced_cons (thn (h1.run pins s σ H _ I h) fun u s1 ⟨v, H1, I1, r, ev, q⟩ => ?_)
    refine Calls.spliced_nil ⟨I1.kIn, ?_⟩
    subst ev
    obtain rfl : u = Value.ref a := r
    have there := I1.pin (a, oe) (List.mem_append_left _ hp)
    have pin : L2H.PinOk X.stack H1 s1 (a, oe) := ⟨there.1, there.2.1, fun z => (List.mem_cons.mp (I1.stkSub a z)).elim there.2.2.1 there.2.2.2.1, there.2.2.2.2⟩
    refine wp_of_code (codeAny_mono (F.go X.A X.stack s1 H1 ⟨[.ref a], []⟩ Q _ (a, oe) hr hgd hot pin hz I1.env0 ?_ q) fun r s' hq => ?_)
    · have b := hb s1 [.ref a] I1.kIn (by rw [List.append_nil]; exact F.one.symm)
      rw [List.append_nil] at b
      exact b
    · match r, hq with
      | .error e, hq => exact hq.elim
      | .ok (.ret u), hq => exact I1.after hq
      | .ok .next, hq => exact hq
      | .ok .brk, hq => exact hq
      | .ok .cont, hq => exact hq
  · refine h2.go h o rp fun {v sv Ω1 F1 H1} q o1 s1 r1 => ?_
    obtain ⟨rfl, q⟩ := q
    cases (show v = _ from r1)
    exact ⟨rfl, _, F1, Ω1, _, Φ, fun _ _ => False, o1.enter, .cons (show Rp X.K F1 (V.ref a) (.r (.ref a)) from rfl) .nil, .mk q, fun v sv Ω' P' F' H' z o' r' => k z (o1.leave o') (s1.trans o'.f0) r', fun _ _ _ _ _ _ _ z => z.elim⟩
theorem hot_of {A : Around} {a : Addr} {oe : Obj} {cls : Value} {d : Option Addr} (hz : L2N.Zn cls d oe) (hf : ∃ vs, oe.data = .fields vs) (h : A.handled = some (.ref a)) : L2H.Hot1 A (a, oe) := by
  obtain ⟨vs, e⟩ := hf
  exact ⟨h, vs, e, hz.2.2 vs e⟩
end
/-! ### any(bs) with an exception in hand -/
section
variable {prog : Program} {w : World} {A : Around} {E : Value → Shared → Prop} {s : Shared}
theorem list_end_hot {it l x1 : Addr} {i : Nat} {items : Array Value} {Q : Option Value → Shared → Prop} (hot : HotX.HotAt A x1 s.heap) (ne : x1 ≠ it) (hit : s.heap.IsListIter it l i) (hl : s.heap.IsList l items) (hx : items[i]? = none)
    (k : ∀ h', (∀ b o, b ≠ it → s.heap.get? b = some o → h'.get? b = some o) → Q none { s with heap := h' }) : wpAny (model prog w) A (pyNext (.ref it)) Q E s := by
  obtain ⟨o, ho, _, hd⟩ := id hit
  obtain ⟨ol, hol, _, _, hdl⟩ := hl
  obtain ⟨hh, o1, vs1, g1, d1, c1⟩ := hot
  unfold pyNext
  refine wpAny_bind (wpAny_attempt (wpAny_callSpecial?_slot (name := Str.ofString "__next__") hit.typeIs slot_listiter_next (wpAny_call_entry slot_listiter_next hit.typeIs entry_listiter_next ?_ (args_listiter_next _))))
  show wpAny _ _ (field (.ref it) 0 >>= _) _ _ _
  refine wpAny_bind (wpAny_field ho hd (x := Value.ref l) rfl ?_)
  show wpAny _ _ (if (Value.ref l == Value.none) = true then _ else _) _ _ _
  rw [if_neg (by exact Bool.false_ne_true : ¬ ((Value.ref l == Value.none) = true))]
  show wpAny _ _ (field (.ref it) 1 >>= _) _ _ _
  refine wpAny_bind (wpAny_field ho hd (x := Value.int i 0) rfl ?_)
  show wpAny _ _ (seqItems? (.ref l) >>= _) _ _ _
  refine wpAny_bind (wpAny_seqItems hol hdl ?_)
  simp only [hx, Int.toNat_natCast]
  refine wpAny_bind (wpAny_rule (wpAny_bind (wpAny_setField ho hd (by simp) ?_)))
  show wpAny _ _ (newExc (.type "StopIteration") [] >>= _) _ _ (_ : Shared)
  refine wpAny_bind ?_
  simp only [newTuple, newExc]
  refine wpAny_bind (wpAny_newObj_type ?_ (by size_fits))
  refine wpAny_bind (m := firstArgMember _ _) (wpAny_of_eq (a := Value.none) (by first | rfl | (simp only [firstArgMember]; rfl)) (wpAny_newObj_type ?_ (by size_fits)))
  have g2 : (s.heap.update it (Obj.mapFields (·.setIfInBounds 0 Value.none))).get? x1 = some o1 := (Heap.get?_update_other _ _ (Ne.symm ne)).trans g1
  refine HotX.raiseNew_hot ⟨hh, o1, vs1, Heap.get?_push_of_some _ (Heap.get?_push_of_some _ g2), d1, c1⟩ (Nat.ne_of_lt (Heap.lt_size (Heap.get?_push_of_some _ g2))) (Heap.get?_push_size _ rfl) rfl (by first | (simp; done) | (simp; omega) | (simp only [Array.size_append]; simp; omega)) ?_
  refine wpAny_bind (wpAny_isInstance (T := "StopIteration") (b := true) ⟨_, Heap.get?_update_self _ (Heap.get?_push_size _ rfl) rfl, rfl⟩ isSubtype_stop (wpAny_pure (k _ fun b o hb e => ?_)))
  have g3 : (s.heap.update it (Obj.mapFields (·.setIfInBounds 0 Value.none))).get? b = some o := (Heap.get?_update_other _ _ (Ne.symm hb)).trans e
  rw [Heap.get?_update_other _ _ (Nat.ne_of_gt (Heap.lt_size (Heap.get?_push_of_some _ g3)))]
  exact Heap.get?_push_of_some _ (Heap.get?_push_of_some _ g3)
theorem walks_hot (I ax x1 : Addr) (h1 : ax ≠ I) (h2 : x1 ≠ I) (items : Array Value) : Walks prog w A I [I, ax, x1] [I] items.size (fun i v => items[i]? = some v) (fun i h => h.IsListIter I ax i ∧ h.IsList ax items ∧ HotX.HotAt A x1 h) where
  sub := fun b hb => by simp at hb; simp [hb]
  frame := fun i h h' st hk => ⟨st.1.at fun o e => hk I (by simp) o e, st.2.1.at fun o e => hk ax (by simp) o e, by
    obtain ⟨_, _, hh, o, vs, e, d, c⟩ := st
    exact ⟨hh, o, vs, hk x1 (by simp) o e, d, c⟩⟩
  item := fun i s Q E hi st hQ => by
    refine wpAny_pyNext_list_item st.1 st.2.1 (x := items[i]) (by simp [hi]) fun h' hit' hs' => ?_
    obtain ⟨_, _, hh, o, vs, e, d, c⟩ := st
    exact hQ _ h' s.toks (by simp [hi]) ⟨hit', (‹s.heap.IsList ax items›).extBut hs'.extBut h1, hh, o, vs, hs'.extBut x1 o h2 e, d, c⟩ fun b o hb e => hs'.extBut b o (fun z => hb (by simp [z])) e
  done := fun s Q E st hQ => list_end_hot st.2.2 h2 st.1 st.2.1 (by simp) fun h' he' => hQ h' s.toks fun b o hb e => he' b o (fun z => hb (by simp [z])) e
  self := fun _ _ _ _ st hQ => wpAny_pyIter_listiter st.1 hQ
end
section
variable {X : Cx} {G : Gn} {a : Addr} {oe : Obj}
theorem cr_anyH (hot : L2H.Hot1 X.A (a, oe)) (hp : (a, oe) ∈ X.pn) : CallR X (.builtin "any") (rAny X.K) := by
  intro pins s σ H vs us Q I r h
  obtain ⟨l, bs, rfl, hs, q⟩ := h
  obtain ⟨its, rv, hl, _⟩ := I.list hs
  rw [Vals.ref1 r]
  have hb := rv.bls
  have there := (I.pin (a, oe) (List.mem_append_left _ hp)).1
  obtain ⟨hh, fv, d, c⟩ := hot
  refine call_any_walk (iter_any hl.isList fun s₂ e2 st hne => ?_)
  subst e2
  have lt : a ≠ s.heap.objs.size := Nat.ne_of_lt (Heap.lt_size there)
  refine ⟨_, _, _, _, _, _, _, rfl, walks_hot (A := X.A.in1) _ l a hne lt its.toArray, ⟨st.1, st.2, hh, oe, fv, Heap.get?_push_of_some _ there, d, c⟩, truth_bools hb, fun h' tk hk => ⟨.bl _, H, I.kept fun b o eo => hk b o (fun z => ?_) (Heap.get?_push_of_some _ eo), ?_, q⟩⟩
  · cases List.mem_singleton.mp z
    exact absurd (Heap.lt_size eo) (Nat.lt_irrefl _)
  · show Value.bool _ = Value.bool _
    rw [← L2.any_range, hb, List.size_toArray, List.length_map]
theorem jc_anyH (hot : L2H.Hot1 X.A (a, oe)) (hp : (a, oe) ∈ X.pn) : JC X G (.builtin "any") (ac1 fAny) := by
  refine ⟨_, cr_anyH hot hp, ac1_ok fun {x Ω Φ} h {P F H v Q} o r k => ?_⟩
  obtain ⟨ns, h⟩ := h
  obtain ⟨l, vs, ds, rfl, hs, da, rfl, q⟩ := rdL_of_S h o r
  rw [dqa_bools da] at hs
  exact ⟨l, ns, rfl, hs, k q o (Same.refl F) (.bl _)⟩
end
end Z
namespace Z
open PySem PySem.Spec PyProof.Rows L2
theorem mok2 {G G' : Gn} {K : Frag} (hg : ∀ a, G'.H0 a = none → G.H0 a = none) : MOk ⟨G', K⟩ (some fun a => G.H0 a = none) := fun _ h a e => by cases h; exact hg a e
theorem xok_of {X : Cx} {G : Gn} {E : XK} {Ξ : XA} (hX : ∀ {x : XI} {Ω : Om} {P' F H : Hp} {cls : Value} {d : Option Addr}, Ξ x Ω → Ok ⟨G, X.K⟩ P' F H Ω → RpX X.K F H cls d x → E cls d H) : XOk X G (WE fun cls d _ H => E cls d H) (fun _ => Ξ) := fun h o _ r => hX h o r
theorem xokF {X : Cx} {G : Gn} : XOk X G (WE fun _ _ _ _ => False) xno := fun h => h.elim
theorem is_ref {a : Addr} : ∀ u, RelV (.ref a) u → u = Value.ref a := fun _ h => h
theorem is_ty {t : String} : ∀ u, RelV (.ty t) u → u = Value.type t := fun _ h => h
end Z
namespace Z
open PySem PySem.Spec PyProof.Rows L2
/-! ### a list of the def's own, read as data: from here on it never changes -/
def fzF (Fr : Addr → Prop) (k : PhiE) (x : SV) (Ω : Om) : Prop := match x with
  | .r (.ref p) => ∃ ds f, At Ω p (.lst ds) f ∧ Fr p ∧ ∃ Ω2, Cut Ω p Ω2 ∧ k (.d (.list ds)) Ω2
  | _ => False
def aFrz (Fr : Addr → Prop) (a : AE) : AE := fun ρ Ω Φ => a ρ Ω (fzF Fr Φ)
theorem je_frz {X : Cx} {G : Gn} {e : Expr} {aa : AE} (ha : JE X G e aa) : JE X G e (aFrz (fun p => G.H0 p = none) aa) := by
  obtain ⟨t, p1, q1⟩ := ha
  refine ⟨t, p1, ⟨fun {ρ Ω Φ} h {P F H σ Q} o rp k => q1.go h o rp fun {v sv Ω1 F1 H1} q o1 s1 r1 => ?_⟩⟩
  unfold fzF at q
  split at q
  · obtain ⟨ds, f, t, fr, Ω2, c, q⟩ := q
    cases (show v = _ from r1)
    obtain ⟨nF, _⟩ := o1.at_ t
    obtain ⟨vs, h1, h2⟩ := o1.lst t
    obtain ⟨c1, c2⟩ := c.addr o1.nd
    obtain ⟨o2, s2⟩ := o1.frz (c := .lst ds) h1 fr nF (o1.pd _ t.mem) c1 c2
    exact k q o2 (s1.trans s2) (Dq.lst upd_same (dqa_same s2 _ _ h2))
  · exact q.elim
end Z
/-! Z9: a < b < c, xs * n, xs[::-1], in; range(a, b, c), reversed, enumerate, zip as what is walked. -/
namespace Z
open PySem PySem.Spec PyProof.Rows L2
section
variable {X : Cx} {G : Gn} {e a b c : Expr} {aa ab ac : AE} {pos : Pos} {m : Mode} {op op' : CmpOp} {ar ar' : AR}
/-! ### chains -/
def aChain (ar ar' : AR) (a b c : AE) : AE := fun ρ Ω Φ => a ρ Ω fun x Ω1 => b ρ Ω1 fun y Ω2 => ar x y Ω2 fun z Ω3 => match z with
  | .d (.bool t) => br t (c ρ Ω3 fun w Ω4 => ar' y w Ω4 Φ) (Φ (.d (.bool false)) Ω3)
  | _ => False
theorem chain_ok {E : En} {ta tb tc : TE} {r r' : R2} (h1 : SnE E ta aa) (h2 : SnE E tb ab) (h3 : SnE E tc ac) (h4 : SnR E r ar) (h5 : SnR E r' ar') : SnE E (tChain r r' ta tb tc) (aChain ar ar' aa ab ac) := by
  refine ⟨fun {ρ Ω Φ} h {P F H σ Q} o rp k => h1.go h o rp fun {v1 x Ω1 F1 H1} q1 o1 s1 r1 => h2.go q1 o1 (rpe_same s1 rp) fun {v2 y Ω2 F2 H2} q2 o2 s2 r2 => h4.go q2 o2 (r1.same s2) r2 fun {v3 z Ω3 F3 H3} q3 o3 s3 r3 => ?_⟩
  have z3 := (s1.trans s2).trans s3
  dsimp only at q3
  split at q3
  · rename_i t
    replace q3 := br_out q3
    refine ⟨t, dqb r3, br_ite ?_⟩
    cases t
    · exact k q3 o3 z3 (.bl _)
    · exact h3.go q3 o3 (rpe_same z3 rp) fun q4 o4 s4 r4 => h5.go q4 o4 (r2.same (s3.trans s4)) r4 fun q5 o5 s5 r5 => k q5 o5 ((z3.trans s4).trans s5) r5
  · exact q3.elim
theorem je_chain (ho : JOp X G (compareOp op) ar) (ho' : JOp X G (compareOp op') ar') (ha : JE X G a aa) (hb : JE X G b ab) (hc : JE X G c ac) (hm : lastMarks [op, op'] [b, c] = false := by with_unfolding_all rfl) :
    JE X G (.Compare a [op, op'] [b, c] pos) (aChain ar ar' aa ab ac) := by
  obtain ⟨r, p1, q1⟩ := ho
  obtain ⟨r', p2, q2⟩ := ho'
  obtain ⟨_, p3, q3⟩ := ha
  obtain ⟨_, p4, q4⟩ := hb
  obtain ⟨_, p5, q5⟩ := hc
  exact ⟨_, pe_chain p1 p2 p3 p4 p5 hm, chain_ok q3 q4 q5 q1 q2⟩
theorem jt_chain (ho : JOp X G (compareOp op) ar) (ho' : JOp X G (compareOp op') ar') (ha : JE X G a aa) (hb : JE X G b ab) (hc : JE X G c ac) (hm : lastMarks [op, op'] [b, c] = false := by with_unfolding_all rfl) :
    JT X G (.Compare a [op, op'] [b, c] pos) (aB (aChain ar ar' aa ab ac)) := by
  obtain ⟨r, p1, q1⟩ := ho
  obtain ⟨r', p2, q2⟩ := ho'
  obtain ⟨_, p3, q3⟩ := ha
  obtain ⟨_, p4, q4⟩ := hb
  obtain ⟨_, p5, q5⟩ := hc
  refine ⟨_, pt_chain p1 p2 p3 p4 p5 hm, ⟨fun {ρ Ω Φ} h {P F H σ Q} o rp k => (chain_ok q3 q4 q5 q1 q2).go h o rp fun {v z Ω1 F1 H1} q o1 s1 r1 => ?_⟩⟩
  dsimp only at q
  split at q
  · exact ⟨_, dqb r1, k q o1 s1⟩
  · exact q.elim
/-! ### xs * n -/
def repD {α : Type} (xs : List α) (k : Int) : List α := (List.replicate k.toNat xs).flatten
theorem dqa_rep {K : Frag} {F : Hp} {vs : List V} {ds : List PyData} (h : DqAll K F vs ds) : ∀ n : Nat, DqAll K F (List.replicate n vs).flatten (List.replicate n ds).flatten
  | 0 => .nil
  | n + 1 => by
    rw [List.replicate_succ, List.replicate_succ, List.flatten_cons, List.flatten_cons]
    exact dqa_app h (dqa_rep h n)
def arMulA (m : Mode) : AR := fun x y Ω Φ => match x, y with
  | .d (.tuple ds), .d (.int k) => ds ≠ [] ∧ 2 ≤ k ∧ k ≤ 1000 ∧ ds.length ≤ 1000 ∧ Φ (.d (.tuple (repD ds k))) Ω
  | x, .d (.int k) => rdL x Ω fun ds => -(2 ^ 63) ≤ k ∧ k < 2 ^ 63 ∧ ds.length * k.toNat ≤ sizeLine ∧ newL m (repD ds k) Ω Φ
  | _, _ => False
theorem jo_mul (hm : MOk (enX X G) m) : JOp X G (binaryOp .Mult) (arMulA m) := by
  refine ⟨_, OpR.or op_repT op_rep, ⟨fun {x y Ω Φ} h {P F H vx vy Q} o r1 r2 k => ?_⟩⟩
  unfold arMulA at h
  split at h
  · obtain ⟨p, vs, rfl, hF, da⟩ := dqt r1
    cases dqi r2
    obtain ⟨h1, h2, h3, h4, h5⟩ := h
    refine Or.inl ⟨p, _, vs, rfl, rfl, sqt_same o.ex hF, fun z => h1 (by subst z; cases da; rfl), h2, h3, by rw [dqa_len da]; exact h4, fun q hq => ?_⟩
    obtain ⟨o1, s1⟩ := o.newF (o := .tup (List.replicate _ vs).flatten) hq
    exact k h5 o1 s1 (Dq.tup (Or.inl (Or.inl upd_same)) (dqa_same s1 _ _ (dqa_rep da _)))
  · rename_i k' _
    obtain ⟨p, vs, ds, rfl, hs, da, h1, h2, h3, h4⟩ := rdL_ok h o r1
    cases dqi r2
    refine Or.inr ⟨p, _, vs, rfl, rfl, hs, h1, h2, by rw [dqa_len da]; exact h3, fun q hq => newL_ok hm o (dqa_rep da _) h4 k hq⟩
  · exact h.elim
/-! ### xs[::-1] of a list -/
def aRevL (m : Mode) (a : AE) : AE := fun ρ Ω Φ => a ρ Ω fun x Ω' => rdS x Ω' fun ds => (match x with | .d (.tuple _) => False | _ => True) ∧ newL m ds.reverse Ω' Φ
theorem je_revL {k : Nat} {p1 p2 p3 : Pos} (hm : MOk (enX X G) m) (ha : JE X G e aa) : JE X G (.Subscript e (.Slice none none (some (.UnaryOp .USub (.Constant (.int 1) k p1) p2)) p3) pos) (aRevL m aa) := by
  obtain ⟨t, h1, h2⟩ := ha
  refine ⟨_, pe_revL h1, ⟨fun {ρ Ω Φ} h {P F H σ Q} o rp k => h2.go h o rp fun {v sv Ω1 F1 H1} q o1 s1 r1 => ?_⟩⟩
  obtain ⟨p, vs, ds, rfl, hs, da, q⟩ := rdL_of_S q o1 r1
  exact ⟨p, vs, rfl, hs, fun z hz => newL_ok hm o1 (dqa_rev da) q (fun q2 o2 s2 r2 => k q2 o2 (s1.trans s2) r2) hz⟩
end
/-! ### in -/
def flD : PyData → Bool
  | .none | .bool _ | .int _ | .str _ => true
  | _ => false
def eqD : PyData → PyData → Bool
  | .none, .none => true
  | .bool a, .bool b => a == b
  | .bool a, .int b => (if a then 1 else 0) == b
  | .int a, .bool b => a == (if b then 1 else 0)
  | .int a, .int b => a == b
  | .str a, .str b => a == b
  | _, _ => false
theorem fl_ok {K : Frag} {F : Hp} {v : V} {d : PyData} (h : Dq K F v d) (f : flD d = true) : flatV v = true := by
  cases h <;> first | rfl | cases f
theorem eq_ok {K : Frag} {F : Hp} {v w : V} {d e : PyData} (h : Dq K F v d) (h' : Dq K F w e) (f : flD d = true) (f' : flD e = true) : eqV v w = eqD d e := by
  cases h <;> cases h' <;> first | rfl | cases f | cases f'
theorem fls_ok {K : Frag} {F : Hp} : ∀ {vs : List V} {ds : List PyData}, DqAll K F vs ds → ds.all flD = true → vs.all flatV = true
  | _, _, .nil, _ => rfl
  | _, _, .cons r t, h => by
    rw [List.all_cons, Bool.and_eq_true] at h ⊢
    exact ⟨fl_ok r h.1, fls_ok t h.2⟩
theorem in_ok {K : Frag} {F : Hp} {v : V} {d : PyData} (r : Dq K F v d) (f : flD d = true) : ∀ {vs : List V} {ds : List PyData}, DqAll K F vs ds → ds.all flD = true → inV v vs = ds.any fun e => eqD e d
  | _, _, .nil, _ => rfl
  | _, _, .cons q t, h => by
    rw [List.all_cons, Bool.and_eq_true] at h
    show (eqV _ v || inV v _) = (eqD _ d || _)
    rw [eq_ok q r h.1 f, in_ok r f t h.2]
section
variable {X : Cx} {G : Gn}
def arInF (neg : Bool) : AR := fun x y Ω Φ => match x with
  | .d d => rdS y Ω fun ds => flD d = true ∧ ds.all flD = true ∧ Φ (.d (.bool (if neg then !(ds.any fun e => eqD e d) else ds.any fun e => eqD e d))) Ω
  | _ => False
abbrev arIn : AR := arInF false
abbrev arNotIn : AR := arInF true
theorem in_sn {K : Frag} {neg : Bool} {E : En} (hK : E.K = K) : SnR E (rIn K neg) (arInF neg) := by
  subst hK
  refine ⟨fun {x y Ω Φ} h {P F H vx vy Q} o r1 r2 k => ?_⟩
  unfold arInF at h
  split at h
  · obtain ⟨p, vs, ds, rfl, hs, da, f1, f2, h⟩ := rdS_ok h o r2
    refine ⟨p, vs, rfl, hs, fl_ok r1 f1, fls_ok da f2, ?_⟩
    rw [in_ok r1 f1 da f2]
    exact k h o (Same.refl F) (.bl _)
  · exact h.elim
theorem jo_in : JOp X G (compareOp .In) arIn := ⟨_, op_in_seq, in_sn rfl⟩
theorem jo_notin : JOp X G (compareOp .NotIn) arNotIn := ⟨_, op_notIn_seq, in_sn rfl⟩
end
/-! ### what is walked -/
section
variable {X : Cx} {G : Gn} {e e2 a b c tg : Expr} {aa ab : AE} {ta : AA} {pos : Pos}
/-- range(i, j, -1) -/
def rgB (lo : Int) (n : Nat) : List SV := (List.range n).map fun i => SV.d (.int (lo + (i : Nat) * -1))
theorem rgB_len {lo : Int} {n : Nat} : (rgB lo n).length = n := by unfold rgB; rw [List.length_map, List.length_range]
theorem rgB_get {lo : Int} {n i : Nat} {x : SV} (h : (rgB lo n)[i]? = some x) : x = .d (.int (lo + (i : Nat) * -1)) ∧ i < n := by
  have lt := (List.getElem?_eq_some_iff.mp h).1
  rw [rgB_len] at lt
  unfold rgB at h
  rw [List.getElem?_map, List.getElem?_range lt] at h
  cases h
  exact ⟨rfl, lt⟩
def aRng3 (t : AA) : AI := fun ρ Ω Φ => t ρ Ω fun xs Ω' => match xs with
  | [.d (.int i), .d (.int j), .d (.int c)] => c = -1 ∧ bd62 i ∧ bd62 j ∧ Φ (rgB i (i - j).toNat) kpT Ω'
  | _ => False
theorem itc_ok {E : En} {F0 : Hp} {lo : Int} {n : Nat} : ItOk E F0 (Itc lo (-1) n) (rgB lo n) kpT := by
  refine ⟨fun s o k hi => by rw [rgB_len] at hi; exact hi, fun {i P F H Ω x H' y} s o k yy e => ?_, fun s o k hi => by rw [rgB_len] at hi; exact hi⟩
  obtain ⟨rfl, rfl⟩ := yy
  obtain ⟨rfl, _⟩ := rgB_get e
  exact ⟨F, o, Same.refl F, .int _⟩
theorem ji_range3 {p : Pos} (hg : Gl X "range") (hm : X.mg "range" = none) (ha : JA X G [a, b, c] ta) (hs : starEach [a, b, c] X.env = (false, eval a X.env) :: starEach [b, c] X.env := by rfl) (hpl : (backTo pos (starEach [b, c] X.env)).any (·.1) = false := by rfl) :
    JI X G tg (.Call (.Name "range" p) [a, b, c] [] pos) (aRng3 ta) := by
  obtain ⟨t, h1, h2⟩ := ha
  refine ⟨_, pi_range3 hg hm h1 hs hpl, ⟨fun {ρ Ω Φ} h {P F H σ R} o rp k => h2.go h o rp fun {vs svs Ω1 F1 H1} q o1 s1 r1 => ?_⟩⟩
  split at q
  · obtain ⟨rfl, ⟨b1, b2⟩, ⟨b3, b4⟩, q⟩ := q
    cases r1 with
    | cons r r1 =>
      cases r1 with
      | cons r' r1 =>
        cases r1 with
        | cons r'' r1 =>
          cases r1
          cases dqi r
          cases dqi r'
          cases dqi r''
          exact ⟨_, _, _, _, rfl, RgC.neg b1 b2 b3 b4, k q o1 s1 itc_ok⟩
  · exact q.elim
/-- reversed(xs) of data -/
def aRevI (a : AE) : AI := fun ρ Ω Φ => a ρ Ω fun x Ω' => match x with
  | .d (.list ds) => Φ (ds.reverse.map SV.d) kpT Ω'
  | .d (.tuple ds) => Φ (ds.reverse.map SV.d) kpT Ω'
  | _ => False
theorem rev_at {α : Type} {xs : List α} {i : Nat} {y : α} (h : xs.reverse[i]? = some y) : xs[xs.length - 1 - i]? = some y ∧ i < xs.length := by
  have lt := (List.getElem?_eq_some_iff.mp h).1
  rw [List.length_reverse] at lt
  rw [List.getElem?_reverse lt] at h
  exact ⟨h, lt⟩
theorem ji_reversed {p : Pos} (hg : Gl X "reversed") (hm : X.mg "reversed" = none) (ha : JE X G e aa) (hs : starEach [e] X.env = (false, eval e X.env) :: starEach [] X.env := by rfl) : JI X G tg (.Call (.Name "reversed" p) [e] [] pos) (aRevI aa) := by
  obtain ⟨t, h1, h2⟩ := ha
  refine ⟨_, RT.pi_revA hg hm h1 hs, ⟨fun {ρ Ω Φ} h {P F H σ R} o rp k => h2.go h o rp fun {v sv Ω1 F1 H1} q o1 s1 r1 => ?_⟩⟩
  have fin : ∀ {vs : List V} {ds : List PyData}, DqAll X.K F1 vs ds → ∀ {i : Nat} {y : SV} {F' : Hp}, Same F1 F' → (ds.reverse.map SV.d)[i]? = some y → ∃ v, vs[vs.length - 1 - i]? = some v ∧ Rp X.K F' v y := by
    intro vs ds da i y F' s e
    rw [List.getElem?_map] at e
    cases ed : ds.reverse[i]? with
    | none => rw [ed] at e; cases e
    | some d =>
      rw [ed] at e
      cases e
      obtain ⟨g, _⟩ := rev_at ed
      obtain ⟨u, g1, g2⟩ := dqa_get (dqa_same s _ _ da) g
      rw [← dqa_len da] at g1
      exact ⟨u, g1, g2⟩
  dsimp only at q
  split at q
  · obtain ⟨p, vs, rfl, hF, da⟩ := dql r1
    refine ⟨p, vs, rfl, Or.inl ⟨SqL.of (o1.ex _ _ hF), k q o1 s1 ⟨fun {i P F H Ω} s o _ hi => ?_, fun {i P F H Ω x H' y} s o _ yy e => ?_, fun s o _ hi => ?_⟩⟩⟩
    · rw [List.length_map, List.length_reverse, ← dqa_len da] at hi
      exact ⟨hi, vs, _, SqL.of (o.ex _ _ (s _ _ hF)), List.getElem?_eq_getElem (by omega)⟩
    · obtain ⟨rfl, yy⟩ := yy
      obtain ⟨u, g1, g2⟩ := fin da s e
      have g3 := yy vs (SqL.of (o.ex _ _ (s _ _ hF)))
      rw [g1] at g3
      cases g3
      exact ⟨_, o, Same.refl _, g2⟩
    · rw [List.length_map, List.length_reverse, ← dqa_len da] at hi
      exact hi
  · obtain ⟨p, vs, rfl, hF, da⟩ := dqt r1
    refine ⟨p, vs, rfl, Or.inr ⟨sqt_same o1.ex hF, k q o1 s1 ⟨fun {i P F H Ω} s o _ hi => ?_, fun {i P F H Ω x H' y} s o _ yy e => ?_, fun s o _ hi => ?_⟩⟩⟩
    · rw [List.length_map, List.length_reverse, ← dqa_len da] at hi
      exact ⟨hi, vs, _, sqt_same o.ex (sqt_same s hF), List.getElem?_eq_getElem (by omega)⟩
    · obtain ⟨rfl, yy⟩ := yy
      obtain ⟨u, g1, g2⟩ := fin da s e
      have g3 := yy vs (sqt_same o.ex (sqt_same s hF))
      rw [g1] at g3
      cases g3
      exact ⟨_, o, Same.refl _, g2⟩
    · rw [List.length_map, List.length_reverse, ← dqa_len da] at hi
      exact hi
  · exact q.elim
/-- enumerate(xs) -/
def enD (ds : List PyData) : List SV := (List.range ds.length).map fun i => SV.d (.tuple [.int (i : Nat), ds.getD i .none])
theorem enD_len {ds : List PyData} : (enD ds).length = ds.length := by unfold enD; rw [List.length_map, List.length_range]
theorem enD_get {ds : List PyData} {i : Nat} {x : SV} (h : (enD ds)[i]? = some x) : ∃ d, ds[i]? = some d ∧ x = .d (.tuple [.int (i : Nat), d]) := by
  have lt := (List.getElem?_eq_some_iff.mp h).1
  rw [enD_len] at lt
  unfold enD at h
  rw [List.getElem?_map, List.getElem?_range lt] at h
  cases h
  exact ⟨ds[i], List.getElem?_eq_getElem lt, by show SV.d (.tuple [.int (i : Nat), ds.getD i .none]) = _; rw [List.getD_eq_getElem?_getD, List.getElem?_eq_getElem lt]; rfl⟩
theorem new_tup {E : En} {P F H : Hp} {Ω : Om} {T : Addr} {vs : List V} {ds : List PyData} (o : Ok E P F H Ω) (n : H T = none) (da : DqAll E.K F vs ds) : ∃ F', Ok E P F' (upd H T (.tup vs)) Ω ∧ Same F F' ∧ Rp E.K F' (.ref T) (.d (.tuple ds)) := by
  obtain ⟨o1, s1⟩ := o.newF (o := .tup vs) n
  exact ⟨_, o1, s1, Dq.tup (Or.inl (Or.inl upd_same)) (dqa_same s1 _ _ da)⟩
theorem ite_ok {E : En} {F0 : Hp} {p : Addr} {ds : List PyData} {Kp : Om → Prop}
    (h : ∀ {P F H : Hp} {Ω : Om}, Same F0 F → Ok E P F H Ω → Kp Ω → ∃ vs, SqL E.K H p vs ∧ DqAll E.K F vs ds) : ItOk E F0 (Ite E.K p) (enD ds) Kp := by
  refine ⟨fun s o k hi => ?_, fun s o k yy e => ?_, fun s o k hi => ?_⟩
  · obtain ⟨vs, h1, h2⟩ := h s o k
    rw [enD_len, ← dqa_len h2] at hi
    exact ⟨vs, _, h1, List.getElem?_eq_getElem hi⟩
  · obtain ⟨vs, h1, h2⟩ := h s o k
    obtain ⟨T, x, rfl, n, rfl, y2⟩ := yy
    obtain ⟨d, hd, rfl⟩ := enD_get e
    obtain ⟨u, g1, g2⟩ := dqa_get h2 hd
    have g3 := y2 vs h1
    rw [g1] at g3
    cases g3
    exact new_tup o n (.cons (.int _) (.cons g2 .nil))
  · obtain ⟨vs, h1, h2⟩ := h s o k
    rw [enD_len, ← dqa_len h2] at hi
    exact ⟨vs, h1, hi⟩
def aEnumerate (t : AA) : AI := fun ρ Ω Φ => t ρ Ω fun xs Ω' => match xs with
  | [.d (.list ds)] => Φ (enD ds) kpT Ω'
  | [.r (.ref p)] => ∃ ds f, At Ω' p (.lst ds) f ∧ Φ (enD ds) (kpAt p (.lst ds)) Ω'
  | _ => False
theorem ji_enumerate {p tpos : Pos} {elts : List Expr} {kk : Nat} (hg : Gl X "enumerate") (hm : X.mg "enumerate" = none) (ha : JA X G [e] ta) (hs : starEach [e] X.env = [(false, eval e X.env)] := by rfl) :
    JI X G (.Tuple elts kk tpos) (.Call (.Name "enumerate" p) [e] [] pos) (aEnumerate ta) := by
  obtain ⟨t, h1, h2⟩ := ha
  refine ⟨_, pi_enum hg hm h1 hs, ⟨fun {ρ Ω Φ} h {P F H σ R} o rp k => h2.go h o rp fun {vs svs Ω1 F1 H1} q o1 s1 r1 => ?_⟩⟩
  split at q
  · obtain ⟨v, rfl, r⟩ := pr1 r1
    obtain ⟨p, vs, rfl, hF, da⟩ := dql r
    exact ⟨p, vs, rfl, SqL.of (o1.ex _ _ hF), k q o1 s1 (ite_ok fun s o _ => ⟨vs, SqL.of (o.ex _ _ (s _ _ hF)), dqa_same s _ _ da⟩)⟩
  · obtain ⟨v, rfl, r⟩ := pr1 r1
    obtain ⟨ds, f, t, q⟩ := q
    cases (show v = _ from r)
    obtain ⟨vs, h3, h4⟩ := o1.lst t
    refine ⟨_, vs, rfl, SqL.of h3, k q o1 s1 (ite_ok fun s o kk => ?_)⟩
    obtain ⟨f', t'⟩ := kk
    obtain ⟨ws, h5, h6⟩ := o.lst t'
    exact ⟨ws, SqL.of h5, h6⟩
  · exact q.elim
/-- zip(xs, ys), both lists or both tuples -/
def zpD (ds es : List PyData) : List SV := (ds.zip es).map fun p => SV.d (.tuple [p.1, p.2])
theorem zpD_get {ds es : List PyData} {i : Nat} {x : SV} (h : (zpD ds es)[i]? = some x) : ∃ d e, ds[i]? = some d ∧ es[i]? = some e ∧ x = .d (.tuple [d, e]) := by
  unfold zpD at h
  rw [List.getElem?_map] at h
  cases z : (ds.zip es)[i]? with
  | none => rw [z] at h; cases h
  | some p =>
    rw [z] at h
    cases h
    have := List.getElem?_zip_eq_some.mp z
    exact ⟨p.1, p.2, this.1, this.2, rfl⟩
theorem zpD_len {ds es : List PyData} : (zpD ds es).length = min ds.length es.length := by unfold zpD; rw [List.length_map, List.length_zip]
def aZip (t : AA) : AI := fun ρ Ω Φ => t ρ Ω fun xs Ω' => match xs with
  | [.d (.list ds), .d (.list es)] => Φ (zpD ds es) kpT Ω'
  | [.d (.tuple ds), .d (.tuple es)] => Φ (zpD ds es) kpT Ω'
  | _ => False
theorem ji_zip {p tpos : Pos} {elts : List Expr} {kk : Nat} (hg : Gl X "zip") (hm : X.mg "zip" = none) (ha : JA X G [e, e2] ta) (hs : starEach [e, e2] X.env = (false, eval e X.env) :: starEach [e2] X.env := by rfl) (hpl : (backTo pos (starEach [e2] X.env)).any (·.1) = false := by rfl) :
    JI X G (.Tuple elts kk tpos) (.Call (.Name "zip" p) [e, e2] [] pos) (aZip ta) := by
  obtain ⟨t, h1, h2⟩ := ha
  refine ⟨_, RZ.pi_zipA hg hm h1 hs hpl, ⟨fun {ρ Ω Φ} h {P F H σ R} o rp k => h2.go h o rp fun {vs svs Ω1 F1 H1} q o1 s1 r1 => ?_⟩⟩
  split at q
  · obtain ⟨v, u, rfl, r, r'⟩ := pr2 r1
    obtain ⟨p, vs, rfl, hF, da⟩ := dql r
    obtain ⟨p', ws, rfl, hF', da'⟩ := dql r'
    refine ⟨p, p', vs, ws, rfl, Or.inl ⟨SqL.of (o1.ex _ _ hF), SqL.of (o1.ex _ _ hF'), k q o1 s1 ⟨fun {i P F H Ω} s o _ hi => ?_, fun {i P F H Ω x H' y} s o _ yy e => ?_, fun {i P F H Ω} s o _ hi => ?_⟩⟩⟩
    · rw [zpD_len, ← dqa_len da, ← dqa_len da'] at hi
      exact ⟨vs, ws, _, _, SqL.of (o.ex _ _ (s _ _ hF)), SqL.of (o.ex _ _ (s _ _ hF')), List.getElem?_eq_getElem (by omega), List.getElem?_eq_getElem (by omega)⟩
    · obtain ⟨T, x, y, rfl, n, rfl, y1, y2⟩ := yy
      obtain ⟨d, d', hd, hd', rfl⟩ := zpD_get e
      obtain ⟨u, g1, g2⟩ := dqa_get (dqa_same s _ _ da) hd
      obtain ⟨u', g1', g2'⟩ := dqa_get (dqa_same s _ _ da') hd'
      have g3 := y1 vs (SqL.of (o.ex _ _ (s _ _ hF)))
      have g3' := y2 ws (SqL.of (o.ex _ _ (s _ _ hF')))
      rw [g1] at g3
      rw [g1'] at g3'
      cases g3
      cases g3'
      exact new_tup o n (.cons g2 (.cons g2' .nil))
    · rw [zpD_len, ← dqa_len da, ← dqa_len da'] at hi
      exact ⟨vs, ws, SqL.of (o.ex _ _ (s _ _ hF)), SqL.of (o.ex _ _ (s _ _ hF')), by omega⟩
  · obtain ⟨v, u, rfl, r, r'⟩ := pr2 r1
    obtain ⟨p, vs, rfl, hF, da⟩ := dqt r
    obtain ⟨p', ws, rfl, hF', da'⟩ := dqt r'
    refine ⟨p, p', vs, ws, rfl, Or.inr ⟨sqt_same o1.ex hF, sqt_same o1.ex hF', k q o1 s1 ⟨fun {i P F H Ω} s o _ hi => ?_, fun {i P F H Ω x H' y} s o _ yy e => ?_, fun {i P F H Ω} s o _ hi => ?_⟩⟩⟩
    · rw [zpD_len, ← dqa_len da, ← dqa_len da'] at hi
      exact ⟨vs, ws, _, _, sqt_same o.ex (sqt_same s hF), sqt_same o.ex (sqt_same s hF'), List.getElem?_eq_getElem (by omega), List.getElem?_eq_getElem (by omega)⟩
    · obtain ⟨T, x, y, rfl, n, rfl, y1, y2⟩ := yy
      obtain ⟨d, d', hd, hd', rfl⟩ := zpD_get e
      obtain ⟨u, g1, g2⟩ := dqa_get (dqa_same s _ _ da) hd
      obtain ⟨u', g1', g2'⟩ := dqa_get (dqa_same s _ _ da') hd'
      have g3 := y1 vs (sqt_same o.ex (sqt_same s hF))
      have g3' := y2 ws (sqt_same o.ex (sqt_same s hF'))
      rw [g1] at g3
      rw [g1'] at g3'
      cases g3
      cases g3'
      exact new_tup o n (.cons g2 (.cons g2' .nil))
    · rw [zpD_len, ← dqa_len da, ← dqa_len da'] at hi
      exact ⟨vs, ws, sqt_same o.ex (sqt_same s hF), sqt_same o.ex (sqt_same s hF'), by omega⟩
  · exact q.elim
end
end Z
namespace Z
open PySem PySem.Spec PyProof.Rows L2
/-- f(e, ..), f a built-in that the module imported -/
theorem je_callGB {X : Cx} {G : Gn} {id : String} {ac : AC} {x : Str} {p pos : Pos} {e : Expr} {es : List Expr} {ta : AA} (hc : JC X G (.builtin id) ac) (hg : Gl X x) (hm : X.mg x = some (.builtin id)) (ha : JA X G (e :: es) ta) (hdb : (x == ("__debug__" : Str)) = false := by decide)
    (he : starEach (e :: es) X.env = (false, eval e X.env) :: starEach es X.env := by rfl) (hpl : (backTo pos (starEach es X.env)).any (·.1) = false := by rfl) : JE X G (.Call (.Name x p) (e :: es) [] pos) (aCB ac ta) := by
  obtain ⟨r, h1, h2⟩ := hc
  obtain ⟨t, h3, h4⟩ := ha
  refine ⟨tCB r t, ⟨fun pins s σ H Q I h => wpAny_Call_Name_kw (ld_glob I hg hm (PyProof.Rows.callWith_builtin1 (thn (h3.run pos pins s σ H _ I h) fun us s1 ⟨vs, H1, I1, r1, q1⟩ => h1 pins s1 σ H1 vs us Q I1 r1 q1) he hpl) hdb)⟩,
    ⟨fun {ρ Ω Φ} h {P F H σ Q} o rp k => h4.go h o rp fun q o1 s1 r1 => h2.go q o1 r1 fun q2 o2 s2 r2 => k q2 o2 (s1.trans s2) r2⟩⟩
end Z
namespace Z
open PySem PySem.Spec PyProof.Rows L2
/-- what a def that calls itself may lean on at depth n -/
def recC (c : Nat → Con) : Nat → Con
  | 0 => fun _ _ _ _ => False
  | n + 1 => c n
theorem fnG_no {P : Program} {w : World} {K : Frag} {mg : Str → Option Value} {base : Heap} {CX : CXT} {k : Nat} {f : Addr} {fd : FuncData} {ps : List Str} {c : Nat → Con} : FnG P w K mg base CX k f fd ps (spOf K (recC c 0)) :=
  ⟨fun _ _ _ _ ⟨_, _, _, _, _, _, _, _, h, _⟩ => h.elim, fun _ _ _ _ _ _ _ _ _ _ _ _ _ _ ⟨_, _, _, _, _, _, _, _, h, _⟩ => h.elim⟩
end Z
namespace Z
open PySem PySem.Spec PyProof.Rows L2
theorem js_setAt {X : Cx} {G : Gn} {e a b : Expr} {aa ab ac : AE} {pos spos : Pos} (h : ∀ {te ta tb : TE}, PE X e te → PE X a ta → PE X b tb → PS X (.Assign [.Subscript a b pos] e spos) (tAsg te (gSub ta tb rSetL))) (he : JE X G e aa) (ha : JE X G a ab) (hb : JE X G b ac) :
    JS X G (.Assign [.Subscript a b pos] e spos) (aSetIx aa ab ac) := js_setIx he ha hb (h := h)
end Z
/-! Zb: the bag of a law, as a pair of cells. -/
namespace Z
open PySem PySem.Spec PyProof.Rows L2
theorem At.app {Ω : Om} {a : Addr} {c : OC} {f : OC → Om} (t : At Ω a c f) : ∀ L : Om, At (L ++ Ω) a c (fun z => L ++ f z)
  | [] => t
  | p :: L => .there (At.app t L)
abbrev I (i : Int) : SV := .d (.int i)
abbrev T (ds : List PyData) : SV := .d (.tuple ds)
abbrev isD (is : List Int) : List PyData := is.map PyData.int
structure BagOk (n m : Int) (is : List Int) : Prop where
  n0 : 0 ≤ n
  m0 : 0 ≤ m
  m1 : m < 2147483647
  i0 : ∀ i ∈ is, 0 ≤ i
/-- the bag x: [cells, n, m] and its cells, behind L and before R -/
inductive Bag (x : SV) (L R : Om) : Om → Prop where
  | mk {b c : Addr} {n m : Int} {is : List Int} : x = .r (.ref b) → BagOk n m is → Bag x L R (L ++ (b, .lx [.r (.ref c), I n, I m]) :: (c, .lst (isD is)) :: R)
theorem Bag.push {x : SV} {L R Ω : Om} (h : Bag x L R Ω) (p : Addr × OC) : Bag x (p :: L) R (p :: Ω) := by
  obtain ⟨h1, h2⟩ := h
  exact .mk (L := p :: L) h1 h2
theorem Bag.pop {x : SV} {p : Addr × OC} {L R Ω : Om} (h : Bag x (p :: L) R Ω) : ∃ Ω2, Ω = p :: Ω2 ∧ Bag x L R Ω2 := by
  obtain ⟨h1, h2⟩ := h
  exact ⟨_, rfl, .mk h1 h2⟩
/-- _law_draw: anything below -/
inductive DrawC : Con where
  | mk {x : SV} {below : Int} {L R Ω : Om} {Φ : PhiE} {Ξ : XA} : Bag x L R Ω → 0 < below → below.natAbs.log2 < 9000 → (∀ r Ω', 0 ≤ r → r < below → Bag x L R Ω' → Φ (I r) Ω') → DrawC [x, I below] Ω Φ Ξ
theorem DrawC.ari : Ari DrawC 2 := by rintro _ _ _ _ ⟨_, _, _, _⟩; rfl
/-- _law_pick: any item of a list of data -/
inductive PickC : Con where
  | mk {x : SV} {ds : List PyData} {L R Ω : Om} {Φ : PhiE} {Ξ : XA} : Bag x L R Ω → ds ≠ [] → ds.length < 2 ^ 60 → (∀ d ∈ ds, ∀ Ω', Bag x L R Ω' → Φ (.d d) Ω') → PickC [x, .d (.list ds)] Ω Φ Ξ
theorem PickC.ari : Ari PickC 2 := by rintro _ _ _ _ ⟨_, _, _, _⟩; rfl
/-- _law_own_bag -/
inductive OwnC (k : Nat) : Con where
  | mk {ns : List Int} {Φ : PhiE} {Ξ : XA} : ScrOk k ns → (∀ x Ω, Bag x [] [] Ω → Φ x Ω) → OwnC k [.l (isD ns)] [] Φ Ξ
theorem OwnC.ari {k : Nat} : Ari (OwnC k) 1 := by rintro _ _ _ _ ⟨_, _⟩; rfl
/-- _law_great: anything below -/
inductive GreatC : Con where
  | mk {x : SV} {below : Int} {L R Ω : Om} {Φ : PhiE} {Ξ : XA} : Bag x L R Ω → 0 < below → below ≤ 10 ^ 60 → (∀ r Ω', 0 ≤ r → r < below → Bag x L R Ω' → Φ (I r) Ω') → GreatC [x, I below] Ω Φ Ξ
theorem GreatC.ari : Ari GreatC 2 := by rintro _ _ _ _ ⟨_, _, _, _⟩; rfl
end Z
/-! Zd: facts on data of ints: what can be told as text and compared. -/
namespace Z
open PySem PySem.Spec PyProof.Rows L2
theorem depthAll_isD : ∀ is : List Int, PyData.depthAll (isD is) ≤ 1
  | [] => by simp [isD, PyData.depthAll]
  | i :: r => by
    have h := depthAll_isD r
    simp only [isD, List.map_cons, PyData.depthAll, PyData.depth] at h ⊢
    omega
theorem depth_isD (is : List Int) : PyData.depth (.tuple (isD is)) ≤ 2 ∧ PyData.depth (.list (isD is)) ≤ 2 := by
  have h := depthAll_isD is
  simp only [PyData.depth]
  omega
theorem shaped_isD (is : List Int) : SeqAt.shaped (.tuple (isD is)) = true ∧ SeqAt.shaped (.list (isD is)) = true := by
  have h := depth_isD is
  have c := canLayAll_ints is
  unfold SeqAt.shaped
  simp only [PyData.canLay0, Bool.and_eq_true, decide_eq_true_eq]
  exact ⟨⟨c, by omega⟩, ⟨c, by omega⟩⟩
theorem showAll_isD : ∀ {is : List Int}, (∀ i ∈ is, i.natAbs.log2 < 1920) → PyData.showableAll (isD is) = true
  | [], _ => rfl
  | i :: r, h => by
    simp only [isD, List.map_cons, PyData.showableAll, PyData.showable, Bool.and_eq_true, decide_eq_true_eq]
    exact ⟨h i List.mem_cons_self, showAll_isD fun j hj => h j (List.mem_cons_of_mem _ hj)⟩
theorem noDict_isD : ∀ is : List Int, PyData.hasDictAll (isD is) = false
  | [] => rfl
  | i :: r => by
    simp only [isD, List.map_cons, PyData.hasDictAll, PyData.hasDict, Bool.false_or]
    exact noDict_isD r
theorem join_le {B : Nat} : ∀ {ts : List Str}, (∀ t ∈ ts, t.length ≤ B) → (Str.join ", " ts).length ≤ ts.length * (B + 2)
  | [], _ => Nat.zero_le _
  | [x], h => by
    have h1 := h x List.mem_cons_self
    show x.length ≤ 1 * (B + 2)
    omega
  | x :: y :: r, h => by
    have h1 := h x List.mem_cons_self
    have h2 := join_le (ts := y :: r) fun t ht => h t (List.mem_cons_of_mem _ ht)
    show (x ++ ", " ++ Str.join ", " (y :: r)).length ≤ _
    rw [strLen_append, strLen_append]
    have e : (Str.ofString ", ").length = 2 := by decide +kernel
    rw [e]
    simp only [List.length_cons] at h2 ⊢
    have e3 : (r.length + 1 + 1) * (B + 2) = (r.length + 1) * (B + 2) + (B + 2) := Nat.succ_mul _ _
    omega
theorem shown_isD : ∀ {is : List Int}, (∀ i ∈ is, i.natAbs.log2 < 1920) → (PyData.shownAll (isD is)).length = is.length ∧ ∀ t ∈ PyData.shownAll (isD is), t.length ≤ 1921
  | [], _ => ⟨rfl, fun _ h => by cases h⟩
  | i :: r, h => by
    obtain ⟨h1, h2⟩ := shown_isD (is := r) fun j hj => h j (List.mem_cons_of_mem _ hj)
    refine ⟨by simp only [isD, List.map_cons, PyData.shownAll, List.length_cons]; exact congrArg (· + 1) h1, fun t ht => ?_⟩
    simp only [isD, List.map_cons, PyData.shownAll, List.mem_cons] at ht
    rcases ht with rfl | ht
    · simp only [PyData.shown]; exact int_text_len_1921 (h i List.mem_cons_self)
    · exact h2 t ht
/-- what a law holds beside what is due -/
structure SameOk (d : PyData) : Prop where
  kind : (∃ i, d = .int i) ∨ (∃ ds, d = .tuple ds)
  sh : d.showable = true
  nd : d.hasDict = false
  dp : d.depth ≤ 60
  ln : d.shown.length ≤ sizeLine
  fm : SeqAt.shaped d = true
theorem SameOk.eq {d : PyData} (h : SameOk d) : PyData.eqv d d = true := SeqAt.eqv_refl d (SeqAt.canLay_of_shaped h.fm)
theorem log2_lt {n k : Nat} (h : n < 2 ^ k) (hk : 0 < k) : n.log2 < k := by
  rcases Nat.eq_zero_or_pos n with rfl | hn
  · simpa using hk
  · exact (Nat.log2_lt (by omega)).mpr h
theorem sameInt {i : Int} (h : i.natAbs < 2 ^ 1900) : SameOk (.int i) := by
  have h2 : i.natAbs.log2 < 1900 := log2_lt h (by decide)
  exact ⟨.inl ⟨_, rfl⟩, by simp only [PyData.showable, decide_eq_true_eq]; omega, rfl, by simp [PyData.depth], by
    have := int_text_len_1921 (i := i) (by omega)
    simp only [PyData.shown]
    have e : sizeLine = 16777216 := by decide
    omega, by unfold SeqAt.shaped; simp [PyData.canLay0, PyData.depth]⟩
theorem sameTup {is : List Int} (h : ∀ i ∈ is, i.natAbs < 2 ^ 1900) (hl : is.length ≤ 8000) : SameOk (.tuple (isD is)) := by
  have h2 : ∀ i ∈ is, i.natAbs.log2 < 1920 := fun i hi => by
    have := log2_lt (h i hi) (by decide)
    omega
  obtain ⟨a, b⟩ := shown_isD h2
  exact ⟨.inr ⟨_, rfl⟩, by simp only [PyData.showable]; exact showAll_isD h2, by simp only [PyData.hasDict]; exact noDict_isD is, by have := (depth_isD is).1; omega, by
    have e : sizeLine = 16777216 := by decide
    have j := join_le b
    simp only [PyData.shown, tupleText]
    rw [strLen_append, strLen_append]
    have e1 : (Str.ofString "(").length = 1 := by decide +kernel
    have e2 : (Str.ofString (if (PyData.shownAll (isD is)).length == 1 then ",)" else ")" : String)).length ≤ 2 := by split <;> decide +kernel
    rw [e1]
    rw [a] at j
    have : is.length * (1921 + 2) ≤ 8000 * (1921 + 2) := Nat.mul_le_mul_right _ hl
    omega, (shaped_isD is).1⟩
theorem eqvAll_isD : ∀ is js : List Int, PyData.eqvAll (isD is) (isD js) = decide (is = js)
  | [], [] => by simp [isD, PyData.eqvAll]
  | [], _ :: _ => by simp [isD, PyData.eqvAll]
  | _ :: _, [] => by simp [isD, PyData.eqvAll]
  | i :: r, j :: t => by
    have h := eqvAll_isD r t
    simp only [isD] at h
    simp only [isD, List.map_cons, PyData.eqvAll, PyData.eqv, h]
    by_cases e : i = j <;> by_cases e2 : r = t <;> simp [e, e2]
theorem eqv_nil (is : List Int) : PyData.eqv (.list (isD is)) (.list []) = decide (is = []) := by
  rw [PyData.eqv]
  exact eqvAll_isD is []
theorem shaped_nil : SeqAt.shaped (.list []) = true := (shaped_isD []).2
/-- _law_same: what is held beside itself -/
inductive SameC : Con where
  | mk {d : PyData} {Ω : Om} {Φ : PhiE} {Ξ : XA} : SameOk d → Φ (.d (.bool true)) Ω → SameC [.d d, .d d] Ω Φ Ξ
theorem SameC.ari : Ari SameC 2 := by rintro _ _ _ _ ⟨_, _⟩; rfl
/-! ### items -/
theorem erase_isD : ∀ (is : List Int) (k : Nat), (isD is).eraseIdx k = isD (is.eraseIdx k)
  | [], _ => rfl
  | _ :: _, 0 => rfl
  | i :: r, k + 1 => congrArg (PyData.int i :: ·) (erase_isD r k)
theorem app_isD (is js : List Int) : isD is ++ isD js = isD (is ++ js) := (List.map_append).symm
theorem dataOf_map : ∀ ds : List PyData, dataOf (ds.map SV.d) = some ds
  | [] => rfl
  | d :: r => by
    show (match dataOf (r.map SV.d) with | some ds => some (d :: ds) | none => none) = _
    rw [dataOf_map r]
theorem newX_d {m : Mode} {ds : List PyData} {Ω : Om} {Φ : PhiE} (h : newL m ds Ω Φ) : newX m (ds.map SV.d) Ω Φ := by
  cases m with
  | none =>
    show (match dataOf (ds.map SV.d) with | some ds => Φ (.d (.list ds)) Ω | none => False)
    rw [dataOf_map]
    exact h
  | some Fr =>
    intro a fa
    have e : mkL (ds.map SV.d) = .lst ds := by unfold mkL; rw [dataOf_map]
    rw [e]
    exact h a fa
theorem cutD_isD (is : List Int) (lo hi : Option Int) : cutD (isD is) lo hi = isD (cutD is lo hi) := by
  unfold cutD
  rw [isD, List.length_map, isD, List.map_take, List.map_drop]
theorem cutD_len {α : Type} (xs : List α) (lo hi : Option Int) : (cutD xs lo hi).length ≤ xs.length := by
  unfold cutD
  rw [List.length_take, List.length_drop]
  omega
theorem get_mapD {ds : List PyData} {i : Nat} {x : SV} (h : (ds.map SV.d)[i]? = some x) : ∃ d, ds[i]? = some d ∧ x = .d d := by
  rw [List.getElem?_map] at h
  cases e : ds[i]? with
  | none => rw [e] at h; cases h
  | some d => rw [e] at h; cases h; exact ⟨d, rfl, rfl⟩
theorem get_isD {is : List Int} {i : Nat} {x : SV} (h : ((isD is).map SV.d)[i]? = some x) : ∃ z, is[i]? = some z ∧ x = I z := by
  obtain ⟨d, h1, rfl⟩ := get_mapD h
  rw [isD, List.getElem?_map] at h1
  cases e : is[i]? with
  | none => rw [e] at h1; cases h1
  | some z => rw [e] at h1; cases h1; exact ⟨z, rfl, rfl⟩
theorem nat_bd {i : Int} {k : Nat} (h1 : -(2 ^ k) < i) (h2 : i < 2 ^ k) : i.natAbs < 2 ^ k := by
  have e : ((2 ^ k : Nat) : Int) = 2 ^ k := by simp
  omega
theorem cmul {i j : Int} (h1 : -(2 ^ 240) < i) (h2 : i < 2 ^ 240) (h3 : -(2 ^ 240) < j) (h4 : j < 2 ^ 240) : CMulX i j := mulx_ok (nat_bd h1 h2) (nat_bd h3 h4) (by decide)
theorem cdiv {i j : Int} (h1 : 0 < j) (h2 : j < 2 ^ 240) : CDivW i j := ⟨h1, by
  have := log2_lt (nat_bd (k := 240) (by omega) h2) (by decide)
  omega⟩
theorem bel {b : Int} (h0 : 0 < b) (h1 : b < 2 ^ 240) : b.natAbs.log2 < 9000 := (cdiv (i := 0) h0 h1).2
theorem atI_i {α : Type} {xs : List α} {i : Int} {a : α} (h0 : 0 ≤ i) (h : xs[i.toNat]? = some a) : atI xs i = some a := by
  have := atI_nat h
  rwa [Int.toNat_of_nonneg h0] at this
theorem atI_end {α : Type} {xs : List α} {a : α} (h : xs.getLast? = some a) : atI xs (-1) = some a := by
  obtain ⟨ys, rfl⟩ := List.getLast?_eq_some_iff.mp h
  exact atI_last ys a
end Z
/-! Zx: joins (a wish of one's own between two parts), tests that are settled, cuts of lists. -/
namespace Z
open PySem PySem.Spec PyProof.Rows L2
theorem br_d1 {p : Prop} [Decidable p] {A B : Prop} (h : p) (a : A) : br (decide p) A B := ⟨fun _ => a, fun e => absurd h (of_decide_eq_false e)⟩
theorem br_d0 {p : Prop} [Decidable p] {A B : Prop} (h : ¬p) (b : B) : br (decide p) A B := ⟨fun e => absurd (of_decide_eq_true e) h, fun _ => b⟩
theorem cut_to {α : Type} {xs : List α} {a : Int} (h0 : 0 ≤ a) : Z.cutD xs none (some a) = xs.take a.toNat := by
  unfold Z.cutD
  rw [HT.sIx_none, show (some a : Option Int) = some ((a.toNat : Nat) : Int) by rw [Int.toNat_of_nonneg h0], HT.sIx_nat, Nat.sub_zero, List.drop_zero]
  rcases Nat.le_total a.toNat xs.length with z | z
  · rw [Nat.min_eq_left z]
  · rw [Nat.min_eq_right z, List.take_of_length_le (Nat.le_refl _), List.take_of_length_le z]
theorem cut_from {α : Type} {xs : List α} {a : Int} (h0 : 0 ≤ a) : Z.cutD xs (some a) none = xs.drop a.toNat := by
  unfold Z.cutD
  rw [HT.sIx_none, show (some a : Option Int) = some ((a.toNat : Nat) : Int) by rw [Int.toNat_of_nonneg h0], HT.sIx_nat]
  rcases Nat.le_total a.toNat xs.length with z | z
  · rw [Nat.min_eq_left z, List.take_of_length_le (by rw [List.length_drop]; omega)]
  · rw [Nat.min_eq_right z, Nat.sub_self, List.take_zero, List.drop_of_length_le z]
theorem cut_to_isD {is : List Int} {a : Int} (h0 : 0 ≤ a) : Z.cutD (isD is) none (some a) = isD (is.take a.toNat) := by rw [cutD_isD, cut_to h0]
theorem cut_from_isD {is : List Int} {a : Int} (h0 : 0 ≤ a) : Z.cutD (isD is) (some a) none = isD (is.drop a.toNat) := by rw [cutD_isD, cut_from h0]
theorem len_isD (is : List Int) : (isD is).length = is.length := List.length_map ..
theorem get_isD' {is : List Int} {i : Nat} {x : PyData} (h : (isD is)[i]? = some x) : ∃ z, is[i]? = some z ∧ x = .int z := by
  rw [isD, List.getElem?_map] at h
  cases e : is[i]? with
  | none => rw [e] at h; cases h
  | some z => rw [e] at h; cases h; exact ⟨z, rfl, rfl⟩
theorem at_isD {is : List Int} {i : Int} {z : Int} (h0 : 0 ≤ i) (h : is[i.toNat]? = some z) : atI (isD is) i = some (.int z) := atI_i h0 (by rw [isD, List.getElem?_map, h]; rfl)
theorem last_isD {is : List Int} {z : Int} (h : is.getLast? = some z) : atI (isD is) (-1) = some (.int z) := atI_end (by rw [isD, List.getLast?_map, h]; rfl)
/-! ### joins -/
def aSeqE (s t : AS) : AS := fun D ρ Ω => ∃ M : Rho → Om → Prop, s { D with nx := M } ρ Ω ∧ ∀ ρ' Ω', M ρ' Ω' → t D ρ' Ω'
def aJoin (a : AE) : AE := fun ρ Ω Φ => ∃ M : PhiE, a ρ Ω M ∧ ∀ y Ω', M y Ω' → Φ y Ω'
def aJoinT (a : AT) : AT := fun ρ Ω Φ => ∃ M : Bool → Om → Prop, a ρ Ω M ∧ ∀ y Ω', M y Ω' → Φ y Ω'
section
variable {X : Cx} {G : Gn} {e : Expr} {aa : AE} {at_ : AT} {st : Stmt} {rest : List Stmt} {s t : AS}
theorem jss_cut (h1 : JS X G st s) (h2 : JSs X G rest t) : JSs X G (st :: rest) (aSeqE s t) := by
  obtain ⟨ts, p1, q1⟩ := h1
  obtain ⟨tu, p2, q2⟩ := h2
  exact ⟨_, pss_cons p1 p2, ⟨fun {D ρ Ω} ⟨M, h, h'⟩ {P F H σ D'} k o rp => q1.go h (D' := { D' with nx := tu D' }) ⟨fun q o z rp => q2.go (h' _ _ q) (k.up z) o rp, k.rt, k.bk, k.ct⟩ o rp⟩⟩
theorem je_join (h : JE X G e aa) : JE X G e (aJoin aa) := by
  obtain ⟨te, p, q⟩ := h
  exact ⟨te, p, ⟨fun {ρ Ω Φ} ⟨M, h, h'⟩ {P F H σ Q} o rp k => q.go h o rp fun {v sv Ω' F' H'} z o z2 r => k (h' _ _ z) o z2 r⟩⟩
theorem jt_join (h : JT X G e at_) : JT X G e (aJoinT at_) := by
  obtain ⟨te, p, q⟩ := h
  exact ⟨te, p, ⟨fun {ρ Ω Φ} ⟨M, h, h'⟩ {P F H σ Q} o rp k => q.go h o rp fun {b Ω' F' H'} z o z2 => k (h' _ _ z) o z2⟩⟩
end
end Z
namespace KK
open PySem PySem.Spec PyProof.Rows L2 Z
structure Cls where
  BaseError : Addr
  Unfit : Addr
  TooMany : Addr
  BadText : Addr
  BadWord : Addr
  BadLog : Addr
  Refused : Addr
  NothingToUndo : Addr
  NothingToRedo : Addr
  NoName : Addr
  NoVersion : Addr
end KK
/-! M81: the plain law of blocks. -/
namespace KK
open PySem PySem.Spec PyProof.Rows L2 Z
/-- the rule of b and m: the first k at which a power of b leaves 1 or m - 1 over m; from the power pw at k on -/
def ruleFrom (b m : Nat) : Nat → Nat → Nat → Option (Nat × Int)
  | 0, _, _ => none
  | f + 1, pw, k => if pw = 1 % m then some (k, 1) else if pw = m - 1 then some (k, -1) else ruleFrom b m f (pw * b % m) (k + 1)
def ruleOf (b m : Nat) : Option (Nat × Int) := ruleFrom b m 64 (b % m) 1
def Bm (b m : Nat) : Prop := 2 ≤ b ∧ b ≤ 16 ∧ 1 ≤ m ∧ m ≤ 60
theorem rule_all : ∀ b : Nat, b < 17 → ∀ m : Nat, m < 61 → 2 ≤ b → 1 ≤ m → Nat.gcd b m = 1 → (ruleOf b m).isSome = true := by decide +kernel
theorem ruleFrom_ok {b m : Nat} (hm : 1 ≤ m) : ∀ (f pw k K : Nat) (s : Int), ruleFrom b m f pw k = some (K, s) → pw = b ^ k % m → k ≤ K ∧ K < k + f ∧ (s = 1 ∨ s = -1) ∧ ((b : Int) ^ K - s) % m = 0
  | 0, _, _, _, _, h, _ => by cases h
  | f + 1, pw, k, K, s, h, hp => by
    unfold ruleFrom at h
    have cast : ((b ^ k % m : Nat) : Int) = (b : Int) ^ k % m := by simp
    split at h
    · rename_i e
      cases h
      refine ⟨Nat.le_refl _, by omega, Or.inl rfl, ?_⟩
      rw [hp] at e
      have e2 : (b : Int) ^ k % m = 1 % m := by rw [← cast, e]; simp
      exact Int.emod_eq_emod_iff_emod_sub_eq_zero.mp e2
    · split at h
      · rename_i e
        cases h
        refine ⟨Nat.le_refl _, by omega, Or.inr rfl, ?_⟩
        rw [hp] at e
        have e2 : (b : Int) ^ k % m = ((m - 1 : Nat) : Int) := by rw [← cast, e]
        have e3 := Int.mul_ediv_add_emod ((b : Int) ^ k) m
        rw [e2] at e3
        have e4 : (b : Int) ^ k - -1 = m * ((b : Int) ^ k / m + 1) := by rw [Int.mul_add]; omega
        rw [e4]
        exact Int.mul_emod_right _ _
      · have := ruleFrom_ok hm f (pw * b % m) (k + 1) K s h (by rw [hp, Nat.pow_succ, Nat.mod_mul_mod])
        omega
/-- the sum of the pieces, with the sign s to a piece -/
def bsF (W s : Int) : Nat → Int → Int
  | 0, _ => 0
  | f + 1, x => if x ≤ 0 then 0 else x % W + s * bsF W s f (x / W)
def bs (W s x : Int) : Int := bsF W s 120 x
theorem bsF_more {W s : Int} (hW : 2 ≤ W) : ∀ (f : Nat) (x : Int), x < 2 ^ f → bsF W s (f + 1) x = bsF W s f x
  | 0, x, h => by
    have : x ≤ 0 := by have e : (2 : Int) ^ 0 = 1 := rfl; omega
    show (if x ≤ 0 then 0 else _) = 0
    rw [if_pos this]
  | f + 1, x, h => by
    show (if x ≤ 0 then 0 else x % W + s * bsF W s (f + 1) (x / W)) = if x ≤ 0 then 0 else x % W + s * bsF W s f (x / W)
    by_cases z : x ≤ 0
    · rw [if_pos z, if_pos z]
    · rw [if_neg z, if_neg z, bsF_more hW f (x / W)]
      refine Int.ediv_lt_of_lt_mul (by omega) ?_
      rw [Int.pow_succ] at h
      have p : (0 : Int) < 2 ^ f := Int.pow_pos (by decide)
      have := Int.mul_le_mul_of_nonneg_left hW (Int.le_of_lt p)
      omega
theorem bs_nil {W s x : Int} (h : x ≤ 0) : bs W s x = 0 := if_pos h
theorem bs_go {W s x : Int} (hW : 2 ≤ W) (h0 : 0 < x) (h1 : x < 2 ^ 119) : bs W s x = x % W + s * bs W s (x / W) := by
  show (if x ≤ 0 then 0 else x % W + s * bsF W s 119 (x / W)) = _
  rw [if_neg (by omega)]
  have lt : x / W < 2 ^ 119 := Int.lt_of_le_of_lt (Int.ediv_le_self W (by omega)) h1
  rw [← bsF_more hW 119 (x / W) lt]
  rfl
/-- what is left is alike over m -/
theorem bs_mod {W s m : Int} (hW : 2 ≤ W) (hm : (W - s) % m = 0) : ∀ (f : Nat) (x : Int), 0 ≤ x → x < 2 ^ f → f ≤ 119 → (x - bs W s x) % m = 0
  | 0, x, h0, h1, _ => by
    have e : (2 : Int) ^ 0 = 1 := rfl
    obtain rfl : x = 0 := by omega
    rw [bs_nil (Int.le_refl 0)]
    rfl
  | f + 1, x, h0, h1, hf => by
    by_cases z : x = 0
    · subst z
      rw [bs_nil (Int.le_refl 0)]
      rfl
    · have big : x < 2 ^ 119 := Int.lt_of_lt_of_le h1 (by
        have : ∀ k : Nat, k ≤ 119 → (2 : Int) ^ k ≤ 2 ^ 119 := by decide
        exact this _ hf)
      rw [bs_go hW (by omega) big]
      have lt : x / W < 2 ^ f := by
        refine Int.ediv_lt_of_lt_mul (by omega) ?_
        rw [Int.pow_succ] at h1
        have p : (0 : Int) < 2 ^ f := Int.pow_pos (by decide)
        have := Int.mul_le_mul_of_nonneg_left hW (Int.le_of_lt p)
        omega
      have ih := bs_mod hW hm f (x / W) (Int.ediv_nonneg h0 (by omega)) lt (by omega)
      have e := Int.mul_ediv_add_emod x W
      obtain ⟨u, hu⟩ := Int.dvd_of_emod_eq_zero hm
      obtain ⟨v, hv⟩ := Int.dvd_of_emod_eq_zero ih
      refine Int.emod_eq_zero_of_dvd ⟨u * (x / W) + s * v, ?_⟩
      rw [Int.mul_add, ← Int.mul_assoc, ← hu, Int.mul_left_comm m s v, ← hv, Int.sub_mul, Int.mul_sub]
      omega
/-- what is left is less -/
theorem bs_le {W s : Int} (hW : 2 ≤ W) (hs : s = 1 ∨ s = -1) : ∀ (f : Nat) (x : Int), 0 ≤ x → x < 2 ^ f → f ≤ 119 → -x ≤ bs W s x ∧ bs W s x ≤ x
  | 0, x, h0, h1, _ => by
    have e : (2 : Int) ^ 0 = 1 := rfl
    obtain rfl : x = 0 := by omega
    rw [bs_nil (Int.le_refl 0)]
    omega
  | f + 1, x, h0, h1, hf => by
    by_cases z : x = 0
    · subst z
      rw [bs_nil (Int.le_refl 0)]
      omega
    · have big : x < 2 ^ 119 := Int.lt_of_lt_of_le h1 (by
        have : ∀ k : Nat, k ≤ 119 → (2 : Int) ^ k ≤ 2 ^ 119 := by decide
        exact this _ hf)
      rw [bs_go hW (by omega) big]
      have q0 := Int.ediv_nonneg h0 (show 0 ≤ W by omega)
      have lt : x / W < 2 ^ f := by
        refine Int.ediv_lt_of_lt_mul (by omega) ?_
        rw [Int.pow_succ] at h1
        have p : (0 : Int) < 2 ^ f := Int.pow_pos (by decide)
        have := Int.mul_le_mul_of_nonneg_left hW (Int.le_of_lt p)
        omega
      have ih := bs_le hW hs f (x / W) q0 lt (by omega)
      have e := Int.mul_ediv_add_emod x W
      have r0 := Int.emod_nonneg x (show W ≠ 0 by omega)
      have m2 := Int.mul_le_mul_of_nonneg_right hW q0
      rcases hs with rfl | rfl <;> omega
theorem bs_lt {W s x : Int} (hW : 2 ≤ W) (hs : s = 1 ∨ s = -1) (hx : W ≤ x) (h1 : x < 2 ^ 118) : -x < bs W s x ∧ bs W s x < x := by
  have big : x < 2 ^ 119 := Int.lt_trans h1 (by decide)
  rw [bs_go hW (by omega) big]
  have q0 : 1 ≤ x / W := by
    refine (Int.le_ediv_iff_mul_le (by omega)).mpr ?_
    omega
  have lt : x / W < 2 ^ 118 := Int.lt_of_le_of_lt (Int.ediv_le_self W (by omega)) h1
  have ih := bs_le hW hs 118 (x / W) (by omega) lt (by decide)
  have e := Int.mul_ediv_add_emod x W
  have r0 := Int.emod_nonneg x (show W ≠ 0 by omega)
  have m2 := Int.mul_le_mul_of_nonneg_right hW (show 0 ≤ x / W by omega)
  rcases hs with rfl | rfl <;> omega
/-! ### the way down -/
def nxt (W s x : Int) : Int := if 0 ≤ x then bs W s x else -bs W s (-x)
theorem nxt_lt {W s x : Int} (hW : 2 ≤ W) (hs : s = 1 ∨ s = -1) (hx : W ≤ x.natAbs) (h1 : x.natAbs < 2 ^ 118) : (nxt W s x).natAbs < x.natAbs := by
  have e : ((2 ^ 118 : Nat) : Int) = 2 ^ 118 := by decide
  unfold nxt
  split
  · have := bs_lt hW hs (x := x) (by omega) (by omega)
    omega
  · have := bs_lt hW hs (x := -x) (by omega) (by omega)
    omega
theorem bs_half {W s x : Int} (hW : 2 ≤ W) (hs : s = 1 ∨ s = -1) (hx : W ≤ x) (h1 : x < 2 ^ 118) : 2 * (bs W s x - W) ≤ x - W ∧ 2 * (-bs W s x - W) ≤ x - W := by
  have big : x < 2 ^ 119 := Int.lt_trans h1 (by decide)
  rw [bs_go hW (by omega) big]
  have q0 : 0 ≤ x / W := Int.ediv_nonneg (by omega) (by omega)
  have lt : x / W < 2 ^ 118 := Int.lt_of_le_of_lt (Int.ediv_le_self W (by omega)) h1
  have ih := bs_le hW hs 118 (x / W) q0 lt (by decide)
  have e := Int.mul_ediv_add_emod x W
  have r0 := Int.emod_nonneg x (show W ≠ 0 by omega)
  have r1 := Int.emod_lt_of_pos x (show 0 < W by omega)
  have m2 := Int.mul_le_mul_of_nonneg_right hW (show 0 ≤ x / W - 1 + 1 by omega)
  have q1 : 1 ≤ x / W := (Int.le_ediv_iff_mul_le (by omega)).mpr (by omega)
  have m3 := Int.mul_le_mul_of_nonneg_right hW (show 0 ≤ x / W - 1 by omega)
  have e3 : W * (x / W - 1) = W * (x / W) - W := by rw [Int.mul_sub, Int.mul_one]
  rcases hs with rfl | rfl <;> omega
theorem nxt_half {W s x : Int} (hW : 2 ≤ W) (hs : s = 1 ∨ s = -1) (hx : W ≤ x.natAbs) (h1 : x.natAbs < 2 ^ 118) : 2 * (((nxt W s x).natAbs : Int) - W) ≤ (x.natAbs : Int) - W := by
  have e : ((2 ^ 118 : Nat) : Int) = 2 ^ 118 := by decide
  unfold nxt
  split
  · have := bs_half hW hs (x := x) (by omega) (by omega)
    omega
  · have := bs_half hW hs (x := -x) (by omega) (by omega)
    omega
/-- the way from x on: the end alone is less than W -/
inductive Way (W s : Int) : Int → List Int → Prop where
  | stop {x : Int} : (x.natAbs : Int) < W → Way W s x [x]
  | step {x : Int} {l : List Int} : W ≤ x.natAbs → Way W s (nxt W s x) l → Way W s x (x :: l)
theorem Way.uniq {W s x : Int} {l l' : List Int} (h : Way W s x l) : Way W s x l' → l = l' := by
  induction h generalizing l' with
  | stop h =>
    intro q
    cases q with
    | stop _ => rfl
    | step h2 _ => omega
  | step h _ ih =>
    intro q
    cases q with
    | stop h2 => omega
    | step _ q => rw [ih q]
theorem way_len {W s : Int} (hW : 2 ≤ W) (hs : s = 1 ∨ s = -1) : ∀ (f : Nat) (x : Int), (x.natAbs : Int) - W < 2 ^ f → x.natAbs < 2 ^ 118 → ∃ l, Way W s x l ∧ l.length ≤ f + 2
  | 0, x, h, h1 => by
    have e : (2 : Int) ^ 0 = 1 := rfl
    by_cases z : (x.natAbs : Int) < W
    · exact ⟨_, .stop z, by simp⟩
    · have := nxt_lt hW hs (x := x) (by omega) h1
      exact ⟨_, .step (by omega) (.stop (by omega)), by simp⟩
  | f + 1, x, h, h1 => by
    by_cases z : (x.natAbs : Int) < W
    · exact ⟨_, .stop z, by simp⟩
    · have a := nxt_lt hW hs (x := x) (by omega) h1
      have b := nxt_half hW hs (x := x) (by omega) h1
      rw [Int.pow_succ] at h
      obtain ⟨l, w, ln⟩ := way_len hW hs f (nxt W s x) (by omega) (by omega)
      exact ⟨_, .step (by omega) w, by rw [List.length_cons]; omega⟩
/-- from one to the next the numbers are alike over m, and fall -/
theorem nxt_mod {W s m x : Int} (hW : 2 ≤ W) (hm : (W - s) % m = 0) (h1 : x.natAbs < 2 ^ 118) : (x - nxt W s x) % m = 0 := by
  have e : ((2 ^ 118 : Nat) : Int) = 2 ^ 118 := by decide
  unfold nxt
  split
  · exact bs_mod hW hm 118 x (by omega) (by omega) (by decide)
  · have := bs_mod hW hm 118 (-x) (by omega) (by omega) (by decide)
    obtain ⟨v, hv⟩ := Int.dvd_of_emod_eq_zero this
    refine Int.emod_eq_zero_of_dvd ⟨-v, ?_⟩
    rw [Int.mul_neg, ← hv]
    omega
end KK
/-! C81: what the defs of k81 keep. -/
namespace KK
open PySem PySem.Spec PyProof.Rows L2 Z
structure Bmi (b m : Int) : Prop where
  b0 : 2 ≤ b
  b1 : b ≤ 16
  m0 : 1 ≤ m
  m1 : m ≤ 60
abbrev gcdI (b m : Int) : Nat := Nat.gcd b.natAbs m.natAbs
abbrev ruleI (b m : Int) : Option (Nat × Int) := ruleOf b.toNat m.toNat
theorem rule_ex {b m : Int} (h : Bmi b m) (g : gcdI b m = 1) : ∃ K s, ruleI b m = some (K, s) := by
  obtain ⟨b0, b1, m0, m1⟩ := h
  have e1 : b.natAbs = b.toNat := by omega
  have e2 : m.natAbs = m.toNat := by omega
  unfold gcdI at g
  rw [e1, e2] at g
  have := rule_all b.toNat (by omega) m.toNat (by omega) (by omega) (by omega) g
  cases e : ruleI b m with
  | none =>
    have e' : ruleOf b.toNat m.toNat = none := e
    rw [e'] at this
    cases this
  | some r => exact ⟨r.1, r.2, rfl⟩
theorem rule_ok {b m : Int} {K : Nat} {s : Int} (h : Bmi b m) (e : ruleI b m = some (K, s)) : 1 ≤ K ∧ K ≤ 64 ∧ (s = 1 ∨ s = -1) ∧ (b ^ K - s) % m = 0 := by
  obtain ⟨b0, b1, m0, m1⟩ := h
  have := ruleFrom_ok (by omega) 64 _ 1 K s e (by rw [Nat.pow_one])
  rw [show ((b.toNat : Nat) : Int) = b by omega, show ((m.toNat : Nat) : Int) = m by omega] at this
  exact ⟨this.1, by omega, this.2.2.1, this.2.2.2⟩
inductive c_block_rule (Cl : Cls) : Con where
  | mk {b m : Int} {Ω : Om} {Φ : PhiE} {Ξ : XA} : Bmi b m → (gcdI b m = 1 → ∀ K s, ruleI b m = some (K, s) → Φ (T [.int K, .int s]) Ω) → (gcdI b m ≠ 1 → Ξ (.ref Cl.Unfit, none) Ω) → c_block_rule Cl [I b, I m] Ω Φ Ξ
inductive c_block_sum : Con where
  | mk {b n k s : Int} {Ω : Om} {Φ : PhiE} {Ξ : XA} : 2 ≤ b → b ≤ 16 → 0 ≤ n → n ≤ 10 ^ 30 → 1 ≤ k → k ≤ 64 → (s = 1 ∨ s = -1) → Φ (I (bs (b ^ k.toNat) s n)) Ω → c_block_sum [I b, I n, I k, I s] Ω Φ Ξ
abbrev c_l_own_sum : Con := c_block_sum
inductive c_block_way (Cl : Cls) : Con where
  | mk {b m n : Int} {Ω : Om} {Φ : PhiE} {Ξ : XA} : Bmi b m → 0 ≤ n → n ≤ 10 ^ 30 → (gcdI b m = 1 → ∀ K s l, ruleI b m = some (K, s) → Way (b ^ K) s n l → Φ (T (isD l)) Ω) → (gcdI b m ≠ 1 → Ξ (.ref Cl.Unfit, none) Ω) → c_block_way Cl [I b, I m, I n] Ω Φ Ξ
inductive c_l_own_rule : Con where
  | mk {b m : Int} {Ω : Om} {Φ : PhiE} {Ξ : XA} : Bmi b m → gcdI b m = 1 → (∀ K s, ruleI b m = some (K, s) → Φ (T [.int K, .int s]) Ω) → c_l_own_rule [I b, I m] Ω Φ Ξ
inductive c_l_own_way : Con where
  | mk {b m n : Int} {Ω : Om} {Φ : PhiE} {Ξ : XA} : Bmi b m → gcdI b m = 1 → 0 ≤ n → n ≤ 10 ^ 30 → (∀ K s l, ruleI b m = some (K, s) → Way (b ^ K) s n l → Φ (T (isD l)) Ω) → c_l_own_way [I b, I m, I n] Ω Φ Ξ
abbrev c_l_own_bag : Con := OwnC 63
abbrev c_l_draw : Con := DrawC
abbrev c_l_pick : Con := PickC
inductive c_l_big : Con where
  | mk {x : SV} {below : Int} {L R Ω : Om} {Φ : PhiE} {Ξ : XA} : Bag x L R Ω → 0 < below → below ≤ 10 ^ 60 → (∀ r Ω', 0 ≤ r → r < below → Bag x L R Ω' → Φ (I r) Ω') → c_l_big [x, I below] Ω Φ Ξ
inductive c_l_is_row : Con where
  | mk {is : List Int} {Ω : Om} {Φ : PhiE} {Ξ : XA} : is.length ≤ 1000 → Φ (.d (.bool true)) Ω → c_l_is_row [T (isD is)] Ω Φ Ξ
inductive c_l_same (n : Nat) : Con where
  | row {is : List Int} {Ω : Om} {Φ : PhiE} {Ξ : XA} : is.length ≤ 1000 → Φ (.d (.bool true)) Ω → c_l_same n [T (isD is), T (isD is)] Ω Φ Ξ
  | int {i : Int} {Ω : Om} {Φ : PhiE} {Ξ : XA} : Φ (.d (.bool true)) Ω → c_l_same n [I i, I i] Ω Φ Ξ
inductive c_l_common : Con where
  | mk {a b : Int} {Ω : Om} {Φ : PhiE} {Ξ : XA} : 0 ≤ a → a ≤ 16 → 0 ≤ b → b ≤ 60 → Φ (I (gcdI a b)) Ω → c_l_common [I a, I b] Ω Φ Ξ
inductive c_l_power : Con where
  | mk {b k : Int} {Ω : Om} {Φ : PhiE} {Ξ : XA} : 2 ≤ b → b ≤ 16 → 0 ≤ k → k ≤ 112 → Φ (I (b ^ k.toNat)) Ω → c_l_power [I b, I k] Ω Φ Ξ
inductive c_l_own_pair : Con where
  | mk {x : SV} {L R Ω : Om} {Φ : PhiE} {Ξ : XA} : Bag x L R Ω → (∀ b m Ω', Bmi b m → gcdI b m = 1 → Bag x L R Ω' → Φ (T [.int b, .int m]) Ω') → c_l_own_pair [x] Ω Φ Ξ
inductive c_l_alike_pair : Con where
  | mk {x : SV} {L R Ω : Om} {Φ : PhiE} {Ξ : XA} : Bag x L R Ω → (∀ b m Ω', Bmi b m → gcdI b m ≠ 1 → Bag x L R Ω' → Φ (T [.int b, .int m]) Ω') → c_l_alike_pair [x] Ω Φ Ξ
inductive c_l_uneven : Con where
  | mk {x : SV} {b k : Int} {L R Ω : Om} {Φ : PhiE} {Ξ : XA} : Bag x L R Ω → 2 ≤ b → b ≤ 16 → 1 ≤ k → k ≤ 64 → (∀ n Ω', 0 ≤ n → n ≤ 10 ^ 30 → Bag x L R Ω' → Φ (I n) Ω') → c_l_uneven [x, I b, I k] Ω Φ Ξ
inductive c_l_number : Con where
  | mk {x : SV} {b m k : Int} {L R Ω : Om} {Φ : PhiE} {Ξ : XA} : Bag x L R Ω → Bmi b m → 1 ≤ k → k ≤ 64 → (∀ n Ω', 0 ≤ n → n ≤ 10 ^ 30 → Bag x L R Ω' → Φ (I n) Ω') → c_l_number [x, I b, I m, I k] Ω Φ Ξ
inductive c_l_edges : Con where
  | mk {b k : Int} {Ω : Om} {Φ : PhiE} {Ξ : XA} : 2 ≤ b → b ≤ 16 → 1 ≤ k → k ≤ 64 → (∀ l : List Int, l.length ≤ 6 → (∀ n ∈ l, 0 ≤ n ∧ n ≤ 10 ^ 30) → Φ (.d (.list (isD l))) Ω) → c_l_edges [I b, I k] Ω Φ Ξ
inductive c_l_is_refused : Con where
  | mk {b m n w : Int} {Ω : Om} {Φ : PhiE} {Ξ : XA} : Bmi b m → gcdI b m ≠ 1 → 0 ≤ n → n ≤ 10 ^ 30 → Φ (.d (.bool true)) Ω → c_l_is_refused [I b, I m, I n, I w] Ω Φ Ξ
inductive c_l_is_way_right : Con where
  | mk {b m n : Int} {K : Nat} {s : Int} {Ω : Om} {Φ : PhiE} {Ξ : XA} : Bmi b m → gcdI b m = 1 → ruleI b m = some (K, s) → 0 ≤ n → n ≤ 10 ^ 30 → Φ (.d (.bool true)) Ω → c_l_is_way_right [I b, I m, I n, I K] Ω Φ Ξ
inductive c_l_are_sums_right : Con where
  | mk {x : SV} {b m n : Int} {L R Ω : Om} {Φ : PhiE} {Ξ : XA} : Bag x L R Ω → Bmi b m → gcdI b m = 1 → 0 ≤ n → n ≤ 10 ^ 30 → (∀ Ω', Bag x L R Ω' → Φ (.d (.bool true)) Ω') → c_l_are_sums_right [x, I b, I m, I n] Ω Φ Ξ
abbrev c_law : Con := LawC 63
theorem ari_block_rule (Cl : Cls) : Ari (c_block_rule Cl) 2 := by rintro _ _ _ _ ⟨_, _⟩; rfl
theorem ari_block_sum : Ari c_block_sum 4 := by rintro _ _ _ _ ⟨_, _⟩; rfl
theorem ari_l_own_sum : Ari c_l_own_sum 4 := ari_block_sum
theorem ari_block_way (Cl : Cls) : Ari (c_block_way Cl) 3 := by rintro _ _ _ _ ⟨_, _⟩; rfl
theorem ari_l_own_rule : Ari c_l_own_rule 2 := by rintro _ _ _ _ ⟨_, _⟩; rfl
theorem ari_l_own_way : Ari c_l_own_way 3 := by rintro _ _ _ _ ⟨_, _⟩; rfl
theorem ari_l_own_bag : Ari c_l_own_bag 1 := OwnC.ari
theorem ari_l_draw : Ari c_l_draw 2 := DrawC.ari
theorem ari_l_pick : Ari c_l_pick 2 := PickC.ari
theorem ari_l_big : Ari c_l_big 2 := by rintro _ _ _ _ ⟨_, _⟩; rfl
theorem ari_l_is_row : Ari c_l_is_row 1 := by rintro _ _ _ _ ⟨_, _⟩; rfl
theorem ari_l_same (n : Nat) : Ari (c_l_same n) 2 := by rintro _ _ _ _ (⟨_, _⟩ | ⟨_⟩) <;> rfl
theorem ari_l_common : Ari c_l_common 2 := by rintro _ _ _ _ ⟨_, _⟩; rfl
theorem ari_l_power : Ari c_l_power 2 := by rintro _ _ _ _ ⟨_, _⟩; rfl
theorem ari_l_own_pair : Ari c_l_own_pair 1 := by rintro _ _ _ _ ⟨_, _⟩; rfl
theorem ari_l_alike_pair : Ari c_l_alike_pair 1 := by rintro _ _ _ _ ⟨_, _⟩; rfl
theorem ari_l_uneven : Ari c_l_uneven 3 := by rintro _ _ _ _ ⟨_, _⟩; rfl
theorem ari_l_number : Ari c_l_number 4 := by rintro _ _ _ _ ⟨_, _⟩; rfl
theorem ari_l_edges : Ari c_l_edges 2 := by rintro _ _ _ _ ⟨_, _⟩; rfl
theorem ari_l_is_refused : Ari c_l_is_refused 4 := by rintro _ _ _ _ ⟨_, _⟩; rfl
theorem ari_l_is_way_right : Ari c_l_is_way_right 4 := by rintro _ _ _ _ ⟨_, _⟩; rfl
theorem ari_l_are_sums_right : Ari c_l_are_sums_right 4 := by rintro _ _ _ _ ⟨_, _⟩; rfl
theorem ari_law : Ari c_law 1 := LawC.ari
end KK
namespace KK
open PySem PySem.Spec PyProof.Rows L2 Z
def topS (i : Nat) : Stmt := PySem.Challenge.pw_manybases_k81_whole_main_pieces.main.body.getD i (.Pass ⟨0, 0, 0, 0⟩)
abbrev s_block_rule : Stmt := topS 14
abbrev N_block_rule : List Str := ["b", "m", "power", "k"]
theorem sc_block_rule : FnScope N_block_rule ["b", "m"] (defScope s_block_rule) := ⟨rfl, rfl, rfl, by decide +kernel, rfl, by decide +kernel, by decide +kernel⟩
abbrev s_block_sum : Stmt := topS 15
abbrev N_block_sum : List Str := ["b", "number", "k", "sign", "whole", "turn", "found", "left", "own"]
theorem sc_block_sum : FnScope N_block_sum ["b", "number", "k", "sign"] (defScope s_block_sum) := ⟨rfl, rfl, rfl, by decide +kernel, rfl, by decide +kernel, by decide +kernel⟩
abbrev s_block_way : Stmt := topS 16
abbrev N_block_way : List Str := ["b", "m", "number", "k", "sign", "whole", "turn", "found", "here"]
theorem sc_block_way : FnScope N_block_way ["b", "m", "number"] (defScope s_block_way) := ⟨rfl, rfl, rfl, by decide +kernel, rfl, by decide +kernel, by decide +kernel⟩
abbrev s_l_own_bag : Stmt := topS 18
abbrev N_l_own_bag : List Str := ["script", "cells", "mixed", "cell"]
theorem sc_l_own_bag : FnScope N_l_own_bag ["script"] (defScope s_l_own_bag) := ⟨rfl, rfl, rfl, by decide +kernel, rfl, by decide +kernel, by decide +kernel⟩
abbrev s_l_draw : Stmt := topS 19
abbrev N_l_draw : List Str := ["bag", "below", "cell", "found"]
theorem sc_l_draw : FnScope N_l_draw ["bag", "below"] (defScope s_l_draw) := ⟨rfl, rfl, rfl, by decide +kernel, rfl, by decide +kernel, by decide +kernel⟩
abbrev s_l_pick : Stmt := topS 20
abbrev N_l_pick : List Str := ["bag", "some"]
theorem sc_l_pick : FnScope N_l_pick ["bag", "some"] (defScope s_l_pick) := ⟨rfl, rfl, rfl, by decide +kernel, rfl, by decide +kernel, by decide +kernel⟩
abbrev s_l_big : Stmt := topS 21
abbrev N_l_big : List Str := ["bag", "below", "found", "turn"]
theorem sc_l_big : FnScope N_l_big ["bag", "below"] (defScope s_l_big) := ⟨rfl, rfl, rfl, by decide +kernel, rfl, by decide +kernel, by decide +kernel⟩
abbrev s_l_is_row : Stmt := topS 22
abbrev N_l_is_row : List Str := ["told", "item"]
theorem sc_l_is_row : FnScope N_l_is_row ["told"] (defScope s_l_is_row) := ⟨rfl, rfl, rfl, by decide +kernel, rfl, by decide +kernel, by decide +kernel⟩
abbrev s_l_same : Stmt := topS 23
abbrev N_l_same : List Str := ["told", "due", "one", "other"]
theorem sc_l_same : FnScope N_l_same ["told", "due"] (defScope s_l_same) := ⟨rfl, rfl, rfl, by decide +kernel, rfl, by decide +kernel, by decide +kernel⟩
abbrev s_l_common : Stmt := topS 24
abbrev N_l_common : List Str := ["one", "other", "turn"]
theorem sc_l_common : FnScope N_l_common ["one", "other"] (defScope s_l_common) := ⟨rfl, rfl, rfl, by decide +kernel, rfl, by decide +kernel, by decide +kernel⟩
abbrev s_l_power : Stmt := topS 25
abbrev N_l_power : List Str := ["b", "k", "found", "turn"]
theorem sc_l_power : FnScope N_l_power ["b", "k"] (defScope s_l_power) := ⟨rfl, rfl, rfl, by decide +kernel, rfl, by decide +kernel, by decide +kernel⟩
abbrev s_l_own_pair : Stmt := topS 26
abbrev N_l_own_pair : List Str := ["bag", "pairs", "turn", "b", "m"]
theorem sc_l_own_pair : FnScope N_l_own_pair ["bag"] (defScope s_l_own_pair) := ⟨rfl, rfl, rfl, by decide +kernel, rfl, by decide +kernel, by decide +kernel⟩
abbrev s_l_alike_pair : Stmt := topS 27
abbrev N_l_alike_pair : List Str := ["bag", "b", "f"]
theorem sc_l_alike_pair : FnScope N_l_alike_pair ["bag"] (defScope s_l_alike_pair) := ⟨rfl, rfl, rfl, by decide +kernel, rfl, by decide +kernel, by decide +kernel⟩
abbrev s_l_own_rule : Stmt := topS 28
abbrev N_l_own_rule : List Str := ["b", "m", "power", "k"]
theorem sc_l_own_rule : FnScope N_l_own_rule ["b", "m"] (defScope s_l_own_rule) := ⟨rfl, rfl, rfl, by decide +kernel, rfl, by decide +kernel, by decide +kernel⟩
abbrev s_l_own_sum : Stmt := topS 29
abbrev N_l_own_sum : List Str := ["b", "number", "k", "sign", "piece", "found", "by", "left", "turn"]
theorem sc_l_own_sum : FnScope N_l_own_sum ["b", "number", "k", "sign"] (defScope s_l_own_sum) := ⟨rfl, rfl, rfl, by decide +kernel, rfl, by decide +kernel, by decide +kernel⟩
abbrev s_l_own_way : Stmt := topS 30
abbrev N_l_own_way : List Str := ["b", "m", "number", "k", "sign", "piece", "row", "turn", "last", "found"]
theorem sc_l_own_way : FnScope N_l_own_way ["b", "m", "number"] (defScope s_l_own_way) := ⟨rfl, rfl, rfl, by decide +kernel, rfl, by decide +kernel, by decide +kernel⟩
abbrev s_l_uneven : Stmt := topS 31
abbrev N_l_uneven : List Str := ["bag", "b", "k", "piece", "power", "found", "j", "great", "own"]
theorem sc_l_uneven : FnScope N_l_uneven ["bag", "b", "k"] (defScope s_l_uneven) := ⟨rfl, rfl, rfl, by decide +kernel, rfl, by decide +kernel, by decide +kernel⟩
abbrev s_l_number : Stmt := topS 32
abbrev N_l_number : List Str := ["bag", "b", "m", "k", "most", "way"]
theorem sc_l_number : FnScope N_l_number ["bag", "b", "m", "k"] (defScope s_l_number) := ⟨rfl, rfl, rfl, by decide +kernel, rfl, by decide +kernel, by decide +kernel⟩
abbrev s_l_edges : Stmt := topS 33
abbrev N_l_edges : List Str := ["b", "k", "piece", "found", "number"]
theorem sc_l_edges : FnScope N_l_edges ["b", "k"] (defScope s_l_edges) := ⟨rfl, rfl, rfl, by decide +kernel, rfl, by decide +kernel, by decide +kernel⟩
abbrev s_l_is_refused : Stmt := topS 34
abbrev N_l_is_refused : List Str := ["b", "m", "number", "way", "error", "is_it"]
theorem sc_l_is_refused : FnScope N_l_is_refused ["b", "m", "number", "way"] (defScope s_l_is_refused) := ⟨rfl, rfl, rfl, by decide +kernel, rfl, by decide +kernel, by decide +kernel⟩
abbrev s_l_is_way_right : Stmt := topS 35
abbrev N_l_is_way_right : List Str := ["b", "m", "number", "k", "due", "piece", "told", "one", "other"]
theorem sc_l_is_way_right : FnScope N_l_is_way_right ["b", "m", "number", "k"] (defScope s_l_is_way_right) := ⟨rfl, rfl, rfl, by decide +kernel, rfl, by decide +kernel, by decide +kernel⟩
abbrev s_l_are_sums_right : Stmt := topS 36
abbrev N_l_are_sums_right : List Str := ["bag", "b", "m", "number", "k", "sign", "due", "told", "times", "by", "way", "some"]
theorem sc_l_are_sums_right : FnScope N_l_are_sums_right ["bag", "b", "m", "number"] (defScope s_l_are_sums_right) := ⟨rfl, rfl, rfl, by decide +kernel, rfl, by decide +kernel, by decide +kernel⟩
abbrev s_law : Stmt := topS 37
abbrev N_law : List Str := ["script", "bag", "b", "m", "way", "turn", "k", "sign", "again", "number"]
theorem sc_law : FnScope N_law ["script"] (defScope s_law) := ⟨rfl, rfl, rfl, by decide +kernel, rfl, by decide +kernel, by decide +kernel⟩
structure Top (K : PySem.W.Frag) (mg : Str → Option Value) where
  cl : Cls
  g_BaseError : mg "BaseError" = some (.ref cl.BaseError)
  g_Unfit : mg "Unfit" = some (.ref cl.Unfit)
  g_TooMany : mg "TooMany" = some (.ref cl.TooMany)
  g_BadText : mg "BadText" = some (.ref cl.BadText)
  g_BadWord : mg "BadWord" = some (.ref cl.BadWord)
  g_BadLog : mg "BadLog" = some (.ref cl.BadLog)
  g_Refused : mg "Refused" = some (.ref cl.Refused)
  g_NothingToUndo : mg "NothingToUndo" = some (.ref cl.NothingToUndo)
  g_NothingToRedo : mg "NothingToRedo" = some (.ref cl.NothingToRedo)
  g_NoName : mg "NoName" = some (.ref cl.NoName)
  g_NoVersion : mg "NoVersion" = some (.ref cl.NoVersion)
  xi_Unfit : PySem.W.excIn K cl.Unfit [.type "ValueError", .type "Exception", .type "BaseException", .type "object"] "ValueError.__new__" = true
  kp_Unfit : PySem.W.keepIn K (.ref cl.Unfit) = true
  be_Unfit : PySem.W.subIn K (.ref cl.Unfit) (.type "BaseException") = some true
  ty_Unfit : PySem.W.typeIn K (.ref cl.Unfit) = some (.type "type")
  ec_Unfit : ExcC K cl.Unfit
  ex_Unfit_BaseError : PySem.W.exmOne K (.ref cl.Unfit) (.ref cl.BaseError) = some true
  is_Unfit_BadLog : PySem.W.kitOne K (.ref cl.Unfit) (.ref cl.BadLog) = some false
  is_Unfit_BadText : PySem.W.kitOne K (.ref cl.Unfit) (.ref cl.BadText) = some false
  is_Unfit_BadWord : PySem.W.kitOne K (.ref cl.Unfit) (.ref cl.BadWord) = some false
  is_Unfit_NoName : PySem.W.kitOne K (.ref cl.Unfit) (.ref cl.NoName) = some false
  is_Unfit_NoVersion : PySem.W.kitOne K (.ref cl.Unfit) (.ref cl.NoVersion) = some false
  is_Unfit_NothingToRedo : PySem.W.kitOne K (.ref cl.Unfit) (.ref cl.NothingToRedo) = some false
  is_Unfit_NothingToUndo : PySem.W.kitOne K (.ref cl.Unfit) (.ref cl.NothingToUndo) = some false
  is_Unfit_Refused : PySem.W.kitOne K (.ref cl.Unfit) (.ref cl.Refused) = some false
  is_Unfit_TooMany : PySem.W.kitOne K (.ref cl.Unfit) (.ref cl.TooMany) = some false
  is_Unfit_Unfit : PySem.W.kitOne K (.ref cl.Unfit) (.ref cl.Unfit) = some true
  is_Unfit_ValueError : PySem.W.kitOne K (.ref cl.Unfit) (.type "ValueError") = some true
  f_block_rule : Addr
  fd_block_rule : FuncData
  F_block_rule : Fun K "block_rule" "block_rule" s_block_rule f_block_rule fd_block_rule
  m_block_rule : mg "block_rule" = some (.ref f_block_rule)
  f_block_sum : Addr
  fd_block_sum : FuncData
  F_block_sum : Fun K "block_sum" "block_sum" s_block_sum f_block_sum fd_block_sum
  m_block_sum : mg "block_sum" = some (.ref f_block_sum)
  f_block_way : Addr
  fd_block_way : FuncData
  F_block_way : Fun K "block_way" "block_way" s_block_way f_block_way fd_block_way
  m_block_way : mg "block_way" = some (.ref f_block_way)
  f_l_own_bag : Addr
  fd_l_own_bag : FuncData
  F_l_own_bag : Fun K "_law_own_bag" "_law_own_bag" s_l_own_bag f_l_own_bag fd_l_own_bag
  m_l_own_bag : mg "_law_own_bag" = some (.ref f_l_own_bag)
  f_l_draw : Addr
  fd_l_draw : FuncData
  F_l_draw : Fun K "_law_draw" "_law_draw" s_l_draw f_l_draw fd_l_draw
  m_l_draw : mg "_law_draw" = some (.ref f_l_draw)
  f_l_pick : Addr
  fd_l_pick : FuncData
  F_l_pick : Fun K "_law_pick" "_law_pick" s_l_pick f_l_pick fd_l_pick
  m_l_pick : mg "_law_pick" = some (.ref f_l_pick)
  f_l_big : Addr
  fd_l_big : FuncData
  F_l_big : Fun K "_law_big" "_law_big" s_l_big f_l_big fd_l_big
  m_l_big : mg "_law_big" = some (.ref f_l_big)
  f_l_is_row : Addr
  fd_l_is_row : FuncData
  F_l_is_row : Fun K "_law_is_row" "_law_is_row" s_l_is_row f_l_is_row fd_l_is_row
  m_l_is_row : mg "_law_is_row" = some (.ref f_l_is_row)
  f_l_same : Addr
  fd_l_same : FuncData
  F_l_same : Fun K "_law_same" "_law_same" s_l_same f_l_same fd_l_same
  m_l_same : mg "_law_same" = some (.ref f_l_same)
  f_l_common : Addr
  fd_l_common : FuncData
  F_l_common : Fun K "_law_common" "_law_common" s_l_common f_l_common fd_l_common
  m_l_common : mg "_law_common" = some (.ref f_l_common)
  f_l_power : Addr
  fd_l_power : FuncData
  F_l_power : Fun K "_law_power" "_law_power" s_l_power f_l_power fd_l_power
  m_l_power : mg "_law_power" = some (.ref f_l_power)
  f_l_own_pair : Addr
  fd_l_own_pair : FuncData
  F_l_own_pair : Fun K "_law_own_pair" "_law_own_pair" s_l_own_pair f_l_own_pair fd_l_own_pair
  m_l_own_pair : mg "_law_own_pair" = some (.ref f_l_own_pair)
  f_l_alike_pair : Addr
  fd_l_alike_pair : FuncData
  F_l_alike_pair : Fun K "_law_alike_pair" "_law_alike_pair" s_l_alike_pair f_l_alike_pair fd_l_alike_pair
  m_l_alike_pair : mg "_law_alike_pair" = some (.ref f_l_alike_pair)
  f_l_own_rule : Addr
  fd_l_own_rule : FuncData
  F_l_own_rule : Fun K "_law_own_rule" "_law_own_rule" s_l_own_rule f_l_own_rule fd_l_own_rule
  m_l_own_rule : mg "_law_own_rule" = some (.ref f_l_own_rule)
  f_l_own_sum : Addr
  fd_l_own_sum : FuncData
  F_l_own_sum : Fun K "_law_own_sum" "_law_own_sum" s_l_own_sum f_l_own_sum fd_l_own_sum
  m_l_own_sum : mg "_law_own_sum" = some (.ref f_l_own_sum)
  f_l_own_way : Addr
  fd_l_own_way : FuncData
  F_l_own_way : Fun K "_law_own_way" "_law_own_way" s_l_own_way f_l_own_way fd_l_own_way
  m_l_own_way : mg "_law_own_way" = some (.ref f_l_own_way)
  f_l_uneven : Addr
  fd_l_uneven : FuncData
  F_l_uneven : Fun K "_law_uneven" "_law_uneven" s_l_uneven f_l_uneven fd_l_uneven
  m_l_uneven : mg "_law_uneven" = some (.ref f_l_uneven)
  f_l_number : Addr
  fd_l_number : FuncData
  F_l_number : Fun K "_law_number" "_law_number" s_l_number f_l_number fd_l_number
  m_l_number : mg "_law_number" = some (.ref f_l_number)
  f_l_edges : Addr
  fd_l_edges : FuncData
  F_l_edges : Fun K "_law_edges" "_law_edges" s_l_edges f_l_edges fd_l_edges
  m_l_edges : mg "_law_edges" = some (.ref f_l_edges)
  f_l_is_refused : Addr
  fd_l_is_refused : FuncData
  F_l_is_refused : Fun K "_law_is_refused" "_law_is_refused" s_l_is_refused f_l_is_refused fd_l_is_refused
  m_l_is_refused : mg "_law_is_refused" = some (.ref f_l_is_refused)
  f_l_is_way_right : Addr
  fd_l_is_way_right : FuncData
  F_l_is_way_right : Fun K "_law_is_way_right" "_law_is_way_right" s_l_is_way_right f_l_is_way_right fd_l_is_way_right
  m_l_is_way_right : mg "_law_is_way_right" = some (.ref f_l_is_way_right)
  f_l_are_sums_right : Addr
  fd_l_are_sums_right : FuncData
  F_l_are_sums_right : Fun K "_law_are_sums_right" "_law_are_sums_right" s_l_are_sums_right f_l_are_sums_right fd_l_are_sums_right
  m_l_are_sums_right : mg "_law_are_sums_right" = some (.ref f_l_are_sums_right)
  f_law : Addr
  fd_law : FuncData
  F_law : Fun K "law" "law" s_law f_law fd_law
  m_law : mg "law" = some (.ref f_law)
  i_gcd : mg "gcd" = some (.builtin "math.gcd")
  n_ValueError : mg "ValueError" = none
  n_abs : mg "abs" = none
  n_all : mg "all" = none
  n_bool : mg "bool" = none
  n_int : mg "int" = none
  n_isinstance : mg "isinstance" = none
  n_len : mg "len" = none
  n_list : mg "list" = none
  n_min : mg "min" = none
  n_range : mg "range" = none
  n_reversed : mg "reversed" = none
  n_str : mg "str" = none
  n_tuple : mg "tuple" = none
  n_zip : mg "zip" = none
section
variable {K : PySem.W.Frag} {mg : Str → Option Value}
theorem b_block_rule (T : Top K mg) : Binds K T.fd_block_rule ["b", "m"] [] := T.F_block_rule.binds (ps := ["b", "m"]) fun _ _ _ _ _ _ us hl => match us, hl with | [_, _], _ => rfl
theorem b_block_sum (T : Top K mg) : Binds K T.fd_block_sum ["b", "number", "k", "sign"] [] := T.F_block_sum.binds (ps := ["b", "number", "k", "sign"]) fun _ _ _ _ _ _ us hl => match us, hl with | [_, _, _, _], _ => rfl
theorem b_block_way (T : Top K mg) : Binds K T.fd_block_way ["b", "m", "number"] [] := T.F_block_way.binds (ps := ["b", "m", "number"]) fun _ _ _ _ _ _ us hl => match us, hl with | [_, _, _], _ => rfl
theorem b_l_own_bag (T : Top K mg) : Binds K T.fd_l_own_bag ["script"] [] := T.F_l_own_bag.binds (ps := ["script"]) fun _ _ _ _ _ _ us hl => match us, hl with | [_], _ => rfl
theorem b_l_draw (T : Top K mg) : Binds K T.fd_l_draw ["bag", "below"] [] := T.F_l_draw.binds (ps := ["bag", "below"]) fun _ _ _ _ _ _ us hl => match us, hl with | [_, _], _ => rfl
theorem b_l_pick (T : Top K mg) : Binds K T.fd_l_pick ["bag", "some"] [] := T.F_l_pick.binds (ps := ["bag", "some"]) fun _ _ _ _ _ _ us hl => match us, hl with | [_, _], _ => rfl
theorem b_l_big (T : Top K mg) : Binds K T.fd_l_big ["bag", "below"] [] := T.F_l_big.binds (ps := ["bag", "below"]) fun _ _ _ _ _ _ us hl => match us, hl with | [_, _], _ => rfl
theorem b_l_is_row (T : Top K mg) : Binds K T.fd_l_is_row ["told"] [] := T.F_l_is_row.binds (ps := ["told"]) fun _ _ _ _ _ _ us hl => match us, hl with | [_], _ => rfl
theorem b_l_same (T : Top K mg) : Binds K T.fd_l_same ["told", "due"] [] := T.F_l_same.binds (ps := ["told", "due"]) fun _ _ _ _ _ _ us hl => match us, hl with | [_, _], _ => rfl
theorem b_l_common (T : Top K mg) : Binds K T.fd_l_common ["one", "other"] [] := T.F_l_common.binds (ps := ["one", "other"]) fun _ _ _ _ _ _ us hl => match us, hl with | [_, _], _ => rfl
theorem b_l_power (T : Top K mg) : Binds K T.fd_l_power ["b", "k"] [] := T.F_l_power.binds (ps := ["b", "k"]) fun _ _ _ _ _ _ us hl => match us, hl with | [_, _], _ => rfl
theorem b_l_own_pair (T : Top K mg) : Binds K T.fd_l_own_pair ["bag"] [] := T.F_l_own_pair.binds (ps := ["bag"]) fun _ _ _ _ _ _ us hl => match us, hl with | [_], _ => rfl
theorem b_l_alike_pair (T : Top K mg) : Binds K T.fd_l_alike_pair ["bag"] [] := T.F_l_alike_pair.binds (ps := ["bag"]) fun _ _ _ _ _ _ us hl => match us, hl with | [_], _ => rfl
theorem b_l_own_rule (T : Top K mg) : Binds K T.fd_l_own_rule ["b", "m"] [] := T.F_l_own_rule.binds (ps := ["b", "m"]) fun _ _ _ _ _ _ us hl => match us, hl with | [_, _], _ => rfl
theorem b_l_own_sum (T : Top K mg) : Binds K T.fd_l_own_sum ["b", "number", "k", "sign"] [] := T.F_l_own_sum.binds (ps := ["b", "number", "k", "sign"]) fun _ _ _ _ _ _ us hl => match us, hl with | [_, _, _, _], _ => rfl
theorem b_l_own_way (T : Top K mg) : Binds K T.fd_l_own_way ["b", "m", "number"] [] := T.F_l_own_way.binds (ps := ["b", "m", "number"]) fun _ _ _ _ _ _ us hl => match us, hl with | [_, _, _], _ => rfl
theorem b_l_uneven (T : Top K mg) : Binds K T.fd_l_uneven ["bag", "b", "k"] [] := T.F_l_uneven.binds (ps := ["bag", "b", "k"]) fun _ _ _ _ _ _ us hl => match us, hl with | [_, _, _], _ => rfl
theorem b_l_number (T : Top K mg) : Binds K T.fd_l_number ["bag", "b", "m", "k"] [] := T.F_l_number.binds (ps := ["bag", "b", "m", "k"]) fun _ _ _ _ _ _ us hl => match us, hl with | [_, _, _, _], _ => rfl
theorem b_l_edges (T : Top K mg) : Binds K T.fd_l_edges ["b", "k"] [] := T.F_l_edges.binds (ps := ["b", "k"]) fun _ _ _ _ _ _ us hl => match us, hl with | [_, _], _ => rfl
theorem b_l_is_refused (T : Top K mg) : Binds K T.fd_l_is_refused ["b", "m", "number", "way"] [] := T.F_l_is_refused.binds (ps := ["b", "m", "number", "way"]) fun _ _ _ _ _ _ us hl => match us, hl with | [_, _, _, _], _ => rfl
theorem b_l_is_way_right (T : Top K mg) : Binds K T.fd_l_is_way_right ["b", "m", "number", "k"] [] := T.F_l_is_way_right.binds (ps := ["b", "m", "number", "k"]) fun _ _ _ _ _ _ us hl => match us, hl with | [_, _, _, _], _ => rfl
theorem b_l_are_sums_right (T : Top K mg) : Binds K T.fd_l_are_sums_right ["bag", "b", "m", "number"] [] := T.F_l_are_sums_right.binds (ps := ["bag", "b", "m", "number"]) fun _ _ _ _ _ _ us hl => match us, hl with | [_, _, _, _], _ => rfl
theorem b_law (T : Top K mg) : Binds K T.fd_law ["script"] [] := T.F_law.binds (ps := ["script"]) fun _ _ _ _ _ _ us hl => match us, hl with | [_], _ => rfl
end
def a_block_rule (Cl : Cls) (Fr : Addr → Prop) (Ξ : XA) : AS :=
    (aSeq (aIf (aB (aBin arGt (aCB (ac2 (fI2 fun i j => ((Nat.gcd i.natAbs j.natAbs : Nat) : Int))) (aCons (aVar 0) (aCons (aVar 1) aNil))) (aC (.d (.int 1))))) (aRaise (fun _ => Ξ) (.ref Cl.Unfit)) aNx)
    (aSeq (aPar2 2 3 (aCons (aBin arMod (aVar 0) (aVar 1)) (aCons (aC (.d (.int 1))) aNil)))
    (aSeq (aWhile (aAnd (aB (aBin arNe (aVar 2) (aBin arMod (aC (.d (.int 1))) (aVar 1)))) (aB (aBin arNe (aVar 2) (aBin arSub (aVar 1) (aC (.d (.int 1))))))) (aPar2 2 3 (aCons (aBin arMod (aBin arMul (aVar 2) (aVar 0)) (aVar 1)) (aCons (aBin (arAdd none) (aVar 3) (aC (.d (.int 1)))) aNil))))
    (aRet (aTup (aCons (aVar 3) (aCons (aIfE (aB (aBin arEq (aVar 2) (aBin arMod (aC (.d (.int 1))) (aVar 1)))) (aC (.d (.int 1))) (aUn arNeg (aC (.d (.int 1))))) aNil)))))))
def a_block_sum (Cl : Cls) (Fr : Addr → Prop) : AS :=
    (aSeq (aAsg (aC (.d (.int 1))) (gN 4))
    (aSeq (aFor (aRng1 (aCons (aVar 2) aNil)) (gN 5) (aAsg (aBin arMul (aVar 4) (aVar 0)) (gN 4)))
    (aSeq (aPar3 6 7 8 (aCons (aC (.d (.int 0))) (aCons (aVar 1) (aCons (aC (.d (.int 1))) aNil))))
    (aSeq (aWhile (aB (aBin arGt (aVar 7) (aC (.d (.int 0))))) (aSeq (aAsg (aBin (arAdd none) (aVar 6) (aBin arMul (aVar 8) (aBin arMod (aVar 7) (aVar 4)))) (gN 6))
    (aPar2 7 8 (aCons (aBin arDiv (aVar 7) (aVar 4)) (aCons (aBin arMul (aVar 8) (aVar 3)) aNil)))))
    (aRet (aVar 6))))))
def a_block_way (Cl : Cls) (Fr : Addr → Prop) (Ξ : XA) : AS :=
    (aSeq (aAsg (aCall (c_block_rule Cl) (fun _ => Ξ) (aCons (aVar 0) (aCons (aVar 1) aNil))) (gT 2 (gs1 (gN 3) (gs1 (gN 4) gs0))))
    (aSeq (aAsg (aC (.d (.int 1))) (gN 5))
    (aSeq (aFor (aRng1 (aCons (aVar 3) aNil)) (gN 6) (aAsg (aBin arMul (aVar 5) (aVar 0)) (gN 5)))
    (aSeq (aAsg (aLst (some Fr) (aCons (aVar 2) aNil)) (gN 7))
    (aSeq (aWhile (aB (aBin arGe (aCB acAbs (aCons (aBin arIx (aVar 7) (aUn arNeg (aC (.d (.int 1))))) aNil)) (aVar 5))) (aSeq (aAsg (aBin arIx (aVar 7) (aUn arNeg (aC (.d (.int 1))))) (gN 8))
    (aExp (aMl amAppend (aVar 7) (aCons (aIfE (aB (aBin arGe (aVar 8) (aC (.d (.int 0))))) (aCall c_block_sum xno (aCons (aVar 0) (aCons (aVar 8) (aCons (aVar 3) (aCons (aVar 4) aNil))))) (aUn arNeg (aCall c_block_sum xno (aCons (aVar 0) (aCons (aUn arNeg (aVar 8)) (aCons (aVar 3) (aCons (aVar 4) aNil))))))) aNil)))))
    (aRetD (aCB acTupOf (aCons (aVar 7) aNil))))))))
def a_l_own_bag (Cl : Cls) (Fr : Addr → Prop) : AS :=
    (aSeq (aAsg (aLc none (aIt (aSl none (aVar 0) aNoP (aPart (aC (.d (.int 63)))))) (gN 3) aYes (aCB acAbs (aCons (aVar 3) aNil)) [3]) (gN 1))
    (aSeq (aAsg (aBin (arAdd none) (aC (.d (.int 1357))) (aCB acLen (aCons (aVar 1) aNil))) (gN 2))
    (aSeq (aFor (aIt (aVar 1)) (gN 3) (aAsg (aBin arMod (aCB acInt (aCons (aBin (arAdd none) (aBin (arAdd none) (aBin arMul (aVar 2) (aC (.d (.int 48271)))) (aBin arMod (aCB acInt (aCons (aVar 3) aNil)) (aC (.d (.int 2147483629))))) (aC (.d (.int 7)))) aNil)) (aC (.d (.int 2147483647)))) (gN 2)))
    (aRet (aLst (some Fr) (aCons (aLstRev (some Fr) (aCB (acLstOf none) (aCons (aVar 1) aNil))) (aCons (aC (.d (.int 0))) (aCons (aVar 2) aNil))))))))
def a_l_draw (Cl : Cls) (Fr : Addr → Prop) : AS :=
    (aSeq (aWhile (aAnd (aB (aBin arEq (aBin arIx (aVar 0) (aC (.d (.int 1)))) (aC (.d (.int 0))))) (aB (aBin arNe (aBin arIx (aVar 0) (aC (.d (.int 0)))) (aLst none aNil)))) (aSeq (aAsg (aMl0 amPop (aBin arIx (aVar 0) (aC (.d (.int 0))))) (gN 2))
    (aSetIx (aIfE (aB (aBin arGt (aVar 2) (aBin arPow (aC (.d (.int 10))) (aC (.d (.int 9)))))) (aVar 2) (aC (.d (.int 0)))) (aVar 0) (aC (.d (.int 1))))))
    (aSeq (aIf (aB (aBin arGt (aBin arIx (aVar 0) (aC (.d (.int 1)))) (aC (.d (.int 0))))) (aSeq (aAsg (aBin arMod (aCB acInt (aCons (aBin arIx (aVar 0) (aC (.d (.int 1)))) aNil)) (aVar 1)) (gN 3))
    (aSeq (aSetIx (aBin arDiv (aCB acInt (aCons (aBin arIx (aVar 0) (aC (.d (.int 1)))) aNil)) (aVar 1)) (aVar 0) (aC (.d (.int 1))))
    (aRet (aVar 3)))) aNx)
    (aSeq (aSetIx (aBin arMod (aCB acInt (aCons (aBin (arAdd none) (aBin arMul (aBin arIx (aVar 0) (aC (.d (.int 2)))) (aC (.d (.int 48271)))) (aC (.d (.int 11)))) aNil)) (aC (.d (.int 2147483647)))) (aVar 0) (aC (.d (.int 2))))
    (aRet (aBin arMod (aCB acInt (aCons (aBin arDiv (aBin arMod (aCB acInt (aCons (aBin arMul (aBin arIx (aVar 0) (aC (.d (.int 2)))) (aBin arIx (aVar 0) (aC (.d (.int 2))))) aNil)) (aC (.d (.int 2147483629)))) (aC (.d (.int 7)))) aNil)) (aVar 1))))))
def a_l_pick (Cl : Cls) (Fr : Addr → Prop) : AS :=
    (aRet (aBin arIx (aVar 1) (aCall c_l_draw xno (aCons (aVar 0) (aCons (aCB acLen (aCons (aVar 1) aNil)) aNil)))))
def a_l_big (Cl : Cls) (Fr : Addr → Prop) : AS :=
    (aSeq (aAsg (aC (.d (.int 0))) (gN 2))
    (aSeq (aFor (aRng1 (aCons (aC (.d (.int 6))) aNil)) (gN 3) (aAsg (aBin (arAdd none) (aBin arMul (aVar 2) (aC (.d (.int 1000003)))) (aCall c_l_draw xno (aCons (aVar 0) (aCons (aC (.d (.int 1000003))) aNil)))) (gN 2)))
    (aRet (aBin arMod (aCB acInt (aCons (aVar 2) aNil)) (aVar 1)))))
def a_l_is_row (Cl : Cls) (Fr : Addr → Prop) : AS :=
    (aRet (aAndV (aCB (ac2 fIsi) (aCons (aVar 0) (aCons (aC (.r (.ty "tuple"))) aNil))) (aCB (ac1 fAll) (aCons (aLc none (aIt (aVar 0)) (gN 1) aYes (aAndV (aCB (ac2 fIsi) (aCons (aVar 1) (aCons (aC (.r (.ty "int"))) aNil))) (aNotV (aCB (ac2 fIsi) (aCons (aVar 1) (aCons (aC (.r (.ty "bool"))) aNil))))) [1]) aNil))))
def a_l_same (Cr : Con) (Cl : Cls) (Fr : Addr → Prop) : AS :=
    (aSeq (aIf (aTru (aCB (ac2 fIsi) (aCons (aVar 1) (aCons (aC (.r (.ty "tuple"))) aNil)))) (aSeq (aIf (aTru (aCall c_l_is_row xno (aCons (aVar 1) aNil))) (aRet (aAndV (aCall c_l_is_row xno (aCons (aVar 0) aNil)) (aBin arEq (aVar 0) (aVar 1)))) aNx)
    (aSeq (aIf (aOr (aNot (aTru (aCB (ac2 fIsi) (aCons (aVar 0) (aCons (aC (.r (.ty "tuple"))) aNil))))) (aB (aBin arNe (aCB acLen (aCons (aVar 0) aNil)) (aCB acLen (aCons (aVar 1) aNil))))) (aRet (aC (.d (.bool false)))) aNx)
    (aRet (aCB (ac1 fAll) (aCons (aLc none (aZip (aCons (aVar 0) (aCons (aVar 1) aNil))) (gT 2 (gs1 (gN 2) (gs1 (gN 3) gs0))) aYes (aCall Cr xno (aCons (aVar 2) (aCons (aVar 3) aNil))) [2, 3]) aNil))))) aNx)
    (aSeq (aIf (aB (aBin arIs (aVar 1) (aC (.d .none)))) (aRet (aBin arIs (aVar 0) (aC (.d .none)))) aNx)
    (aSeq (aIf (aTru (aCB (ac2 fIsi) (aCons (aVar 1) (aCons (aC (.r (.ty "bool"))) aNil)))) (aRet (aAndV (aCB (ac2 fIsi) (aCons (aVar 0) (aCons (aC (.r (.ty "bool"))) aNil))) (aBin arEq (aVar 0) (aVar 1)))) aNx)
    (aSeq (aIf (aTru (aCB (ac2 fIsi) (aCons (aVar 1) (aCons (aC (.r (.ty "str"))) aNil)))) (aRet (aAndV (aCB (ac2 fIsi) (aCons (aVar 0) (aCons (aC (.r (.ty "str"))) aNil))) (aBin arEq (aVar 0) (aVar 1)))) aNx)
    (aRet (aAndV (aCB (ac2 fIsi) (aCons (aVar 0) (aCons (aC (.r (.ty "int"))) aNil))) (aAndV (aNotV (aCB (ac2 fIsi) (aCons (aVar 0) (aCons (aC (.r (.ty "bool"))) aNil)))) (aBin arEq (aVar 0) (aVar 1)))))))))
def a_l_common (Cl : Cls) (Fr : Addr → Prop) : AS :=
    (aSeq (aFor (aRng1 (aCons (aC (.d (.int 20))) aNil)) (gN 2) (aSeq (aIf (aB (aBin arEq (aVar 1) (aC (.d (.int 0))))) aBrk aNx)
    (aPar2 0 1 (aCons (aVar 1) (aCons (aBin arMod (aCB acInt (aCons (aVar 0) aNil)) (aVar 1)) aNil)))))
    (aRet (aVar 0)))
def a_l_power (Cl : Cls) (Fr : Addr → Prop) : AS :=
    (aSeq (aAsg (aC (.d (.int 1))) (gN 2))
    (aSeq (aFor (aRng1 (aCons (aVar 1) aNil)) (gN 3) (aAsg (aBin arMul (aVar 2) (aVar 0)) (gN 2)))
    (aRet (aVar 2))))
def a_l_own_pair (Cl : Cls) (Fr : Addr → Prop) : AS :=
    (aSeq (aAsg (aLst none (aCons (aTup (aCons (aC (.d (.int 10))) (aCons (aC (.d (.int 7))) aNil))) (aCons (aTup (aCons (aC (.d (.int 10))) (aCons (aC (.d (.int 11))) aNil))) (aCons (aTup (aCons (aC (.d (.int 10))) (aCons (aC (.d (.int 13))) aNil))) (aCons (aTup (aCons (aC (.d (.int 10))) (aCons (aC (.d (.int 37))) aNil))) (aCons (aTup (aCons (aC (.d (.int 2))) (aCons (aC (.d (.int 3))) aNil))) (aCons (aTup (aCons (aC (.d (.int 2))) (aCons (aC (.d (.int 5))) aNil))) (aCons (aTup (aCons (aC (.d (.int 2))) (aCons (aC (.d (.int 11))) aNil))) (aCons (aTup (aCons (aC (.d (.int 2))) (aCons (aC (.d (.int 13))) aNil))) (aCons (aTup (aCons (aC (.d (.int 2))) (aCons (aC (.d (.int 59))) aNil))) (aCons (aTup (aCons (aC (.d (.int 3))) (aCons (aC (.d (.int 4))) aNil))) (aCons (aTup (aCons (aC (.d (.int 3))) (aCons (aC (.d (.int 7))) aNil))) (aCons (aTup (aCons (aC (.d (.int 3))) (aCons (aC (.d (.int 10))) aNil))) (aCons (aTup (aCons (aC (.d (.int 4))) (aCons (aC (.d (.int 5))) aNil))) (aCons (aTup (aCons (aC (.d (.int 4))) (aCons (aC (.d (.int 17))) aNil))) (aCons (aTup (aCons (aC (.d (.int 5))) (aCons (aC (.d (.int 6))) aNil))) (aCons (aTup (aCons (aC (.d (.int 5))) (aCons (aC (.d (.int 13))) aNil))) (aCons (aTup (aCons (aC (.d (.int 6))) (aCons (aC (.d (.int 7))) aNil))) (aCons (aTup (aCons (aC (.d (.int 6))) (aCons (aC (.d (.int 37))) aNil))) (aCons (aTup (aCons (aC (.d (.int 7))) (aCons (aC (.d (.int 4))) aNil))) (aCons (aTup (aCons (aC (.d (.int 7))) (aCons (aC (.d (.int 25))) aNil))) (aCons (aTup (aCons (aC (.d (.int 7))) (aCons (aC (.d (.int 50))) aNil))) (aCons (aTup (aCons (aC (.d (.int 11))) (aCons (aC (.d (.int 12))) aNil))) (aCons (aTup (aCons (aC (.d (.int 13))) (aCons (aC (.d (.int 14))) aNil))) (aCons (aTup (aCons (aC (.d (.int 16))) (aCons (aC (.d (.int 17))) aNil))) (aCons (aTup (aCons (aC (.d (.int 15))) (aCons (aC (.d (.int 16))) aNil))) (aCons (aTup (aCons (aC (.d (.int 12))) (aCons (aC (.d (.int 13))) aNil))) (aCons (aTup (aCons (aC (.d (.int 14))) (aCons (aC (.d (.int 5))) aNil))) aNil)))))))))))))))))))))))))))) (gN 1))
    (aSeq (aIf (aB (aBin arEq (aCall c_l_draw xno (aCons (aVar 0) (aCons (aC (.d (.int 3))) aNil))) (aC (.d (.int 0))))) (aRet (aCall c_l_pick xno (aCons (aVar 0) (aCons (aVar 1) aNil)))) aNx)
    (aSeq (aFor (aRng1 (aCons (aC (.d (.int 12))) aNil)) (gN 2) (aSeq (aAsg (aCall c_l_pick xno (aCons (aVar 0) (aCons (aLst none (aCons (aC (.d (.int 2))) (aCons (aC (.d (.int 10))) (aCons (aC (.d (.int 16))) (aCons (aBin (arAdd none) (aC (.d (.int 2))) (aCall c_l_draw xno (aCons (aVar 0) (aCons (aC (.d (.int 15))) aNil)))) (aCons (aBin (arAdd none) (aC (.d (.int 2))) (aCall c_l_draw xno (aCons (aVar 0) (aCons (aC (.d (.int 15))) aNil)))) (aCons (aBin (arAdd none) (aC (.d (.int 2))) (aCall c_l_draw xno (aCons (aVar 0) (aCons (aC (.d (.int 15))) aNil)))) aNil))))))) aNil))) (gN 3))
    (aSeq (aAsg (aCall c_l_pick xno (aCons (aVar 0) (aCons (aBin (arAdd none) (aLst none (aCons (aC (.d (.int 1))) (aCons (aC (.d (.int 2))) (aCons (aBin arSub (aVar 3) (aC (.d (.int 1)))) (aCons (aBin (arAdd none) (aVar 3) (aC (.d (.int 1)))) (aCons (aC (.d (.int 59))) (aCons (aC (.d (.int 60))) aNil))))))) (aBin (arMulA none) (aLst none (aCons (aBin (arAdd none) (aC (.d (.int 1))) (aCall c_l_draw xno (aCons (aVar 0) (aCons (aC (.d (.int 60))) aNil)))) aNil)) (aC (.d (.int 6))))) aNil))) (gN 4))
    (aIf (aB (aBin arEq (aCall c_l_common xno (aCons (aVar 3) (aCons (aVar 4) aNil))) (aC (.d (.int 1))))) (aRet (aTup (aCons (aVar 3) (aCons (aVar 4) aNil)))) aNx))))
    (aRet (aTup (aCons (aC (.d (.int 10))) (aCons (aC (.d (.int 7))) aNil)))))))
def a_l_alike_pair (Cl : Cls) (Fr : Addr → Prop) : AS :=
    (aSeq (aAsg (aBin (arAdd none) (aC (.d (.int 2))) (aCall c_l_draw xno (aCons (aVar 0) (aCons (aC (.d (.int 15))) aNil)))) (gN 1))
    (aSeq (aAsg (aCall c_l_pick xno (aCons (aVar 0) (aCons (aLc none (aRng2 (aCons (aC (.d (.int 2))) (aCons (aBin (arAdd none) (aVar 1) (aC (.d (.int 1)))) aNil))) (gN 2) (aB (aBin arEq (aBin arMod (aCB acInt (aCons (aVar 1) aNil)) (aVar 2)) (aC (.d (.int 0))))) (aVar 2) [2]) aNil))) (gN 2))
    (aRet (aTup (aCons (aVar 1) (aCons (aBin arMul (aVar 2) (aBin (arAdd none) (aC (.d (.int 1))) (aCall c_l_draw xno (aCons (aVar 0) (aCons (aBin arDiv (aC (.d (.int 60))) (aVar 2)) aNil))))) aNil))))))
def a_l_own_rule (Cl : Cls) (Fr : Addr → Prop) : AS :=
    (aSeq (aAsg (aC (.d (.int 1))) (gN 2))
    (aSeq (aFor (aRng2 (aCons (aC (.d (.int 1))) (aCons (aC (.d (.int 65))) aNil))) (gN 3) (aSeq (aAsg (aBin arMod (aCB acInt (aCons (aBin arMul (aVar 2) (aVar 0)) aNil)) (aVar 1)) (gN 2))
    (aSeq (aIf (aB (aBin arEq (aVar 2) (aBin arMod (aCB acInt (aCons (aC (.d (.int 1))) aNil)) (aVar 1)))) (aRet (aTup (aCons (aVar 3) (aCons (aC (.d (.int 1))) aNil)))) aNx)
    (aIf (aB (aBin arEq (aVar 2) (aBin arMod (aCB acInt (aCons (aUn arNeg (aC (.d (.int 1)))) aNil)) (aVar 1)))) (aRet (aTup (aCons (aVar 3) (aCons (aUn arNeg (aC (.d (.int 1)))) aNil)))) aNx))))
    (aRet (aTup (aCons (aC (.d (.int 64))) (aCons (aC (.d (.int 1))) aNil))))))
def a_l_own_sum (Cl : Cls) (Fr : Addr → Prop) : AS :=
    (aSeq (aAsg (aTup (aCons (aCall c_l_power xno (aCons (aVar 0) (aCons (aVar 2) aNil))) (aCons (aC (.d (.int 0))) (aCons (aC (.d (.int 1))) (aCons (aVar 1) aNil))))) (gT 4 (gs1 (gN 4) (gs1 (gN 5) (gs1 (gN 6) (gs1 (gN 7) gs0))))))
    (aSeq (aFor (aRng1 (aCons (aC (.d (.int 120))) aNil)) (gN 8) (aSeq (aIf (aB (aBin arEq (aVar 7) (aC (.d (.int 0))))) aBrk aNx)
    (aPar3 5 6 7 (aCons (aBin (arAdd none) (aVar 5) (aBin arMul (aVar 6) (aBin arMod (aCB acInt (aCons (aVar 7) aNil)) (aVar 4)))) (aCons (aBin arMul (aVar 6) (aVar 3)) (aCons (aBin arDiv (aCB acInt (aCons (aVar 7) aNil)) (aVar 4)) aNil))))))
    (aRet (aVar 5))))
def a_l_own_way (Cl : Cls) (Fr : Addr → Prop) : AS :=
    (aSeq (aAsg (aCall c_l_own_rule xno (aCons (aVar 0) (aCons (aVar 1) aNil))) (gT 2 (gs1 (gN 3) (gs1 (gN 4) gs0))))
    (aSeq (aPar2 5 6 (aCons (aCall c_l_power xno (aCons (aVar 0) (aCons (aVar 3) aNil))) (aCons (aLst (some Fr) (aCons (aVar 2) aNil)) aNil)))
    (aSeq (aFor (aRng1 (aCons (aC (.d (.int 120))) aNil)) (gN 7) (aSeq (aAsg (aBin arIx (aVar 6) (aUn arNeg (aC (.d (.int 1))))) (gN 8))
    (aSeq (aIf (aB (aBin arLt (aCB acAbs (aCons (aVar 8) aNil)) (aVar 5))) aBrk aNx)
    (aSeq (aAsg (aCall c_l_own_sum xno (aCons (aVar 0) (aCons (aCB acAbs (aCons (aVar 8) aNil)) (aCons (aVar 3) (aCons (aVar 4) aNil))))) (gN 9))
    (aExp (aMl amAppend (aVar 6) (aCons (aIfE (aB (aBin arGe (aVar 8) (aC (.d (.int 0))))) (aVar 9) (aUn arNeg (aVar 9))) aNil)))))))
    (aRetD (aCB acTupOf (aCons (aVar 6) aNil))))))
def a_l_uneven (Cl : Cls) (Fr : Addr → Prop) : AS :=
    (aSeq (aPar3 3 4 5 (aCons (aCall c_l_power xno (aCons (aVar 1) (aCons (aVar 2) aNil))) (aCons (aC (.d (.int 1))) (aCons (aC (.d (.int 0))) aNil))))
    (aSeq (aFor (aRng1 (aCons (aC (.d (.int 100))) aNil)) (gN 6) (aSeq (aAsg (aBin arSub (aBin arSub (aVar 3) (aC (.d (.int 1)))) (aBin arMul (aCall c_l_draw xno (aCons (aVar 0) (aCons (aC (.d (.int 2))) aNil))) (aCall c_l_draw xno (aCons (aVar 0) (aCons (aCB acMin2 (aCons (aVar 3) (aCons (aC (.d (.int 1000))) aNil))) aNil))))) (gN 7))
    (aSeq (aAsg (aIfE (aB (aBin arEq (aBin arMod (aCB acInt (aCons (aVar 6) aNil)) (aC (.d (.int 2)))) (aC (.d (.int 1))))) (aVar 7) (aBin arMul (aCall c_l_draw xno (aCons (aVar 0) (aCons (aC (.d (.int 2))) aNil))) (aCall c_l_draw xno (aCons (aVar 0) (aCons (aCB acMin2 (aCons (aVar 3) (aCons (aC (.d (.int 4))) aNil))) aNil))))) (gN 8))
    (aSeq (aIf (aB (aBin arGt (aBin (arAdd none) (aVar 5) (aBin arMul (aVar 8) (aVar 4))) (aBin arPow (aC (.d (.int 10))) (aC (.d (.int 30)))))) aBrk aNx)
    (aPar2 5 4 (aCons (aBin (arAdd none) (aVar 5) (aBin arMul (aVar 8) (aVar 4))) (aCons (aBin arMul (aVar 4) (aVar 3)) aNil)))))))
    (aRet (aVar 5))))
def a_l_number (Cl : Cls) (Fr : Addr → Prop) : AS :=
    (aSeq (aPar2 4 5 (aCons (aBin arPow (aC (.d (.int 10))) (aC (.d (.int 30)))) (aCons (aCall c_l_draw xno (aCons (aVar 0) (aCons (aC (.d (.int 8))) aNil))) aNil)))
    (aSeq (aIf (aB (aBin arEq (aVar 5) (aC (.d (.int 0))))) (aRet (aCall c_l_pick xno (aCons (aVar 0) (aCons (aLst none (aCons (aC (.d (.int 0))) (aCons (aC (.d (.int 1))) (aCons (aVar 4) (aCons (aVar 4) (aCons (aBin arSub (aVar 4) (aC (.d (.int 1)))) aNil)))))) aNil)))) aNx)
    (aSeq (aIf (aB (aBin arEq (aVar 5) (aC (.d (.int 1))))) (aRet (aCall c_l_draw xno (aCons (aVar 0) (aCons (aBin arMul (aBin arMul (aC (.d (.int 4))) (aVar 2)) (aVar 1)) aNil)))) aNx)
    (aSeq (aIf (aB (aBin arEq (aVar 5) (aC (.d (.int 2))))) (aRet (aCB acMin2 (aCons (aVar 4) (aCons (aBin arSub (aBin (arAdd none) (aCall c_l_power xno (aCons (aVar 1) (aCons (aCall c_l_draw xno (aCons (aVar 0) (aCons (aC (.d (.int 112))) aNil))) aNil))) (aCall c_l_draw xno (aCons (aVar 0) (aCons (aC (.d (.int 3))) aNil)))) (aC (.d (.int 1)))) aNil)))) aNx)
    (aSeq (aIf (aB (aBin arEq (aVar 5) (aC (.d (.int 3))))) (aRet (aBin arMul (aVar 2) (aCall c_l_big xno (aCons (aVar 0) (aCons (aBin (arAdd none) (aBin arDiv (aVar 4) (aVar 2)) (aC (.d (.int 1)))) aNil))))) aNx)
    (aSeq (aIf (aB (aBin arLt (aVar 5) (aC (.d (.int 6))))) (aRet (aCall c_l_uneven xno (aCons (aVar 0) (aCons (aVar 1) (aCons (aVar 3) aNil))))) aNx)
    (aRet (aCall c_l_big xno (aCons (aVar 0) (aCons (aBin (arAdd none) (aVar 4) (aC (.d (.int 1)))) aNil))))))))))
def a_l_edges (Cl : Cls) (Fr : Addr → Prop) : AS :=
    (aSeq (aAsg (aCall c_l_power xno (aCons (aVar 0) (aCons (aVar 1) aNil))) (gN 2))
    (aSeq (aAsg (aLst none (aCons (aC (.d (.int 0))) (aCons (aBin arSub (aVar 2) (aC (.d (.int 1)))) (aCons (aVar 2) (aCons (aBin (arAdd none) (aVar 2) (aC (.d (.int 1)))) (aCons (aBin arMul (aVar 2) (aBin arSub (aVar 2) (aC (.d (.int 1))))) (aCons (aBin (arAdd none) (aBin arMul (aVar 2) (aBin arSub (aVar 2) (aC (.d (.int 1))))) (aBin arMul (aBin arMul (aVar 2) (aVar 2)) (aVar 2))) aNil))))))) (gN 3))
    (aRet (aLc none (aIt (aVar 3)) (gN 4) (aB (aBin arLe (aVar 4) (aBin arPow (aC (.d (.int 10))) (aC (.d (.int 30)))))) (aVar 4) [4]))))
def a_l_is_refused (Cl : Cls) (Fr : Addr → Prop) : AS :=
    (aTry 4 (.ref Cl.Unfit) (fun Ξ1 => (aSeq (aIf (aB (aBin arEq (aVar 3) (aC (.d (.int 0))))) (aExp (aCall (c_block_rule Cl) Ξ1 (aCons (aVar 0) (aCons (aVar 1) aNil)))) (aIf (aB (aBin arEq (aVar 3) (aC (.d (.int 1))))) (aExp (aCall (c_block_way Cl) Ξ1 (aCons (aVar 0) (aCons (aVar 1) (aCons (aVar 2) aNil))))) (aIf (aB (aBin arEq (aVar 3) (aC (.d (.int 2))))) (aExp (aCallK (c_block_rule Cl) Ξ1 0 2 [0, 1] aNil (aCons (aVar 0) (aCons (aVar 1) aNil)))) (aExp (aCallK (c_block_way Cl) Ξ1 0 3 [0, 1, 2] aNil (aCons (aVar 0) (aCons (aVar 1) (aCons (aVar 2) aNil))))))))
    (aRet (aC (.d (.bool false)))))) (fun e1 => (aSeq (aAsg (aAndV (aCB (acIsE e1 (.ref Cl.Unfit) true) (aCons (aVar 4) (aCons (aC (.r (.ref Cl.Unfit))) aNil))) (aAndV (aCB (acIsE e1 (.ty "ValueError") true) (aCons (aVar 4) (aCons (aC (.r (.ty "ValueError"))) aNil))) (aNotV (aCB (acIsE e1 (.ref Cl.TooMany) false) (aCons (aVar 4) (aCons (aC (.r (.ref Cl.TooMany))) aNil)))))) (gN 5))
    (aSeq (aIf (aOr (aTru (aCB (acIsE e1 (.ref Cl.BadText) false) (aCons (aVar 4) (aCons (aC (.r (.ref Cl.BadText))) aNil)))) (aOr (aTru (aCB (acIsE e1 (.ref Cl.BadWord) false) (aCons (aVar 4) (aCons (aC (.r (.ref Cl.BadWord))) aNil)))) (aTru (aCB (acIsE e1 (.ref Cl.BadLog) false) (aCons (aVar 4) (aCons (aC (.r (.ref Cl.BadLog))) aNil)))))) (aAsg (aC (.d (.bool false))) (gN 5)) aNx)
    (aSeq (aIf (aOr (aTru (aCB (acIsE e1 (.ref Cl.Refused) false) (aCons (aVar 4) (aCons (aC (.r (.ref Cl.Refused))) aNil)))) (aOr (aTru (aCB (acIsE e1 (.ref Cl.NothingToUndo) false) (aCons (aVar 4) (aCons (aC (.r (.ref Cl.NothingToUndo))) aNil)))) (aTru (aCB (acIsE e1 (.ref Cl.NothingToRedo) false) (aCons (aVar 4) (aCons (aC (.r (.ref Cl.NothingToRedo))) aNil)))))) (aAsg (aC (.d (.bool false))) (gN 5)) aNx)
    (aRet (aAndV (aVar 5) (aAndV (aNotV (aCB (acIsE e1 (.ref Cl.NoName) false) (aCons (aVar 4) (aCons (aC (.r (.ref Cl.NoName))) aNil)))) (aNotV (aCB (acIsE e1 (.ref Cl.NoVersion) false) (aCons (aVar 4) (aCons (aC (.r (.ref Cl.NoVersion))) aNil))))))))))))
def a_l_is_way_right (Cl : Cls) (Fr : Addr → Prop) : AS :=
    (aSeq (aPar2 4 5 (aCons (aCall c_l_own_way xno (aCons (aVar 0) (aCons (aVar 1) (aCons (aVar 2) aNil)))) (aCons (aCall c_l_power xno (aCons (aVar 0) (aCons (aVar 3) aNil))) aNil)))
    (aSeq (aAsg (aCall (c_block_way Cl) xno (aCons (aVar 0) (aCons (aVar 1) (aCons (aVar 2) aNil)))) (gN 6))
    (aSeq (aIf (aOr (aNot (aTru (aCall (c_l_same 0) xno (aCons (aVar 6) (aCons (aVar 4) aNil))))) (aB (aBin arGe (aCB acAbs (aCons (aBin arIx (aVar 6) (aUn arNeg (aC (.d (.int 1))))) aNil)) (aVar 5)))) (aRet (aC (.d (.bool false)))) aNx)
    (aSeq (aFor (aZip (aCons (aVar 6) (aCons (aSl none (aVar 6) (aPart (aC (.d (.int 1)))) aNoP) aNil))) (gT 2 (gs1 (gN 7) (gs1 (gN 8) gs0))) (aIf (aOr (aB (aBin arLt (aCB acAbs (aCons (aVar 7) aNil)) (aVar 5))) (aOr (aB (aBin arGe (aCB acAbs (aCons (aVar 8) aNil)) (aCB acAbs (aCons (aVar 7) aNil)))) (aB (aBin arGt (aBin arMod (aCB acInt (aCons (aBin arSub (aVar 7) (aVar 8)) aNil)) (aVar 1)) (aC (.d (.int 0))))))) (aRet (aC (.d (.bool false)))) aNx))
    (aRet (aCall (c_l_same 0) xno (aCons (aCallK (c_block_way Cl) xno 0 3 [0, 1, 2] aNil (aCons (aVar 0) (aCons (aVar 1) (aCons (aVar 2) aNil)))) (aCons (aVar 4) aNil))))))))
def a_l_are_sums_right (Cl : Cls) (Fr : Addr → Prop) : AS :=
    (aSeq (aAsg (aCall c_l_own_rule xno (aCons (aVar 1) (aCons (aVar 2) aNil))) (gT 2 (gs1 (gN 4) (gs1 (gN 5) gs0))))
    (aSeq (aAsg (aCall c_l_own_sum xno (aCons (aVar 1) (aCons (aVar 3) (aCons (aVar 4) (aCons (aVar 5) aNil))))) (gN 6))
    (aSeq (aAsg (aCall c_block_sum xno (aCons (aVar 1) (aCons (aVar 3) (aCons (aVar 4) (aCons (aVar 5) aNil))))) (gN 7))
    (aSeq (aIf (aOr (aNot (aTru (aCall (c_l_same 0) xno (aCons (aVar 7) (aCons (aVar 6) aNil))))) (aB (aBin arGt (aBin arMod (aCB acInt (aCons (aBin arSub (aVar 3) (aVar 7)) aNil)) (aVar 2)) (aC (.d (.int 0)))))) (aRet (aC (.d (.bool false)))) aNx)
    (aSeq (aAsg (aBin (arAdd none) (aC (.d (.int 1))) (aCall c_l_draw xno (aCons (aVar 0) (aCons (aBin arDiv (aC (.d (.int 64))) (aVar 4)) aNil)))) (gN 8))
    (aSeq (aAsg (aIfE (aB (aBin arEq (aBin arMod (aCB acInt (aCons (aVar 8) aNil)) (aC (.d (.int 2)))) (aC (.d (.int 1))))) (aVar 5) (aC (.d (.int 1)))) (gN 9))
    (aSeq (aAsg (aCallK c_block_sum xno 0 4 [0, 1, 2, 3] aNil (aCons (aVar 1) (aCons (aVar 3) (aCons (aBin arMul (aVar 4) (aVar 8)) (aCons (aVar 9) aNil))))) (gN 7))
    (aSeq (aIf (aOr (aNot (aTru (aCall (c_l_same 0) xno (aCons (aVar 7) (aCons (aCall c_l_own_sum xno (aCons (aVar 1) (aCons (aVar 3) (aCons (aBin arMul (aVar 4) (aVar 8)) (aCons (aVar 9) aNil))))) aNil))))) (aB (aBin arGt (aBin arMod (aCB acInt (aCons (aBin arSub (aVar 3) (aVar 7)) aNil)) (aVar 2)) (aC (.d (.int 0)))))) (aRet (aC (.d (.bool false)))) aNx)
    (aSeq (aFor (aIt (aLst none (aCons (aUn arNeg (aC (.d (.int 1)))) (aCons (aC (.d (.int 1))) aNil)))) (gN 10) (aSeq (aAsg (aCall c_l_pick xno (aCons (aVar 0) (aCons (aLst none (aCons (aC (.d (.int 1))) (aCons (aC (.d (.int 2))) (aCons (aC (.d (.int 3))) (aCons (aBin (arAdd none) (aC (.d (.int 1))) (aCall c_l_draw xno (aCons (aVar 0) (aCons (aC (.d (.int 12))) aNil)))) (aCons (aBin (arAdd none) (aC (.d (.int 1))) (aCall c_l_draw xno (aCons (aVar 0) (aCons (aC (.d (.int 64))) aNil)))) (aCons (aC (.d (.int 64))) aNil))))))) aNil))) (gN 11))
    (aIf (aNot (aTru (aCall (c_l_same 0) xno (aCons (aCall c_block_sum xno (aCons (aVar 1) (aCons (aVar 3) (aCons (aVar 11) (aCons (aVar 10) aNil))))) (aCons (aCall c_l_own_sum xno (aCons (aVar 1) (aCons (aVar 3) (aCons (aVar 11) (aCons (aVar 10) aNil))))) aNil))))) (aRet (aC (.d (.bool false)))) aNx)))
    (aRet (aCall (c_l_same 0) xno (aCons (aCallK c_block_sum xno 0 4 [0, 1, 2, 3] aNil (aCons (aVar 1) (aCons (aVar 3) (aCons (aVar 4) (aCons (aVar 5) aNil))))) (aCons (aVar 6) aNil)))))))))))))
def a_law (Cl : Cls) (Fr : Addr → Prop) : AS :=
    (aSeq (aAsg (aCall c_l_own_bag xno (aCons (aVar 0) aNil)) (gN 1))
    (aSeq (aAsg (aCall c_l_alike_pair xno (aCons (aVar 1) aNil)) (gT 2 (gs1 (gN 2) (gs1 (gN 3) gs0))))
    (aSeq (aFor (aRng1 (aCons (aC (.d (.int 4))) aNil)) (gN 4) (aIf (aNot (aTru (aCall c_l_is_refused xno (aCons (aVar 2) (aCons (aVar 3) (aCons (aCall c_l_pick xno (aCons (aVar 1) (aCons (aLst none (aCons (aC (.d (.int 0))) (aCons (aVar 3) (aCons (aCall c_l_number xno (aCons (aVar 1) (aCons (aVar 2) (aCons (aVar 3) (aCons (aC (.d (.int 1))) aNil))))) aNil)))) aNil))) (aCons (aVar 4) aNil))))))) (aRet (aC (.d (.bool false)))) aNx))
    (aSeq (aFor (aRng1 (aCons (aC (.d (.int 3))) aNil)) (gN 5) (aSeq (aAsg (aCall c_l_own_pair xno (aCons (aVar 1) aNil)) (gT 2 (gs1 (gN 2) (gs1 (gN 3) gs0))))
    (aSeq (aAsg (aCall c_l_own_rule xno (aCons (aVar 2) (aCons (aVar 3) aNil))) (gT 2 (gs1 (gN 6) (gs1 (gN 7) gs0))))
    (aSeq (aIf (aNot (aTru (aCall (c_l_same 0) xno (aCons (aCall (c_block_rule Cl) xno (aCons (aVar 2) (aCons (aVar 3) aNil))) (aCons (aTup (aCons (aVar 6) (aCons (aVar 7) aNil))) aNil))))) (aRet (aC (.d (.bool false)))) aNx)
    (aSeq (aFor (aRng1 (aCons (aC (.d (.int 3))) aNil)) (gN 8) (aSeq (aAsg (aIfE (aB (aBin arGt (aVar 8) (aC (.d (.int 0))))) (aCall c_l_number xno (aCons (aVar 1) (aCons (aVar 2) (aCons (aVar 3) (aCons (aVar 6) aNil))))) (aCall c_l_uneven xno (aCons (aVar 1) (aCons (aVar 2) (aCons (aVar 6) aNil))))) (gN 9))
    (aIf (aOr (aNot (aTru (aCall c_l_are_sums_right xno (aCons (aVar 1) (aCons (aVar 2) (aCons (aVar 3) (aCons (aVar 9) aNil))))))) (aNot (aTru (aCall c_l_is_way_right xno (aCons (aVar 2) (aCons (aVar 3) (aCons (aVar 9) (aCons (aVar 6) aNil)))))))) (aRet (aC (.d (.bool false)))) aNx)))
    (aSeq (aFor (aIt (aCall c_l_edges xno (aCons (aVar 2) (aCons (aVar 6) aNil)))) (gN 9) (aSeq (aIf (aNot (aTru (aCall (c_l_same 0) xno (aCons (aCall c_block_sum xno (aCons (aVar 2) (aCons (aVar 9) (aCons (aVar 6) (aCons (aVar 7) aNil))))) (aCons (aCall c_l_own_sum xno (aCons (aVar 2) (aCons (aVar 9) (aCons (aVar 6) (aCons (aVar 7) aNil))))) aNil))))) (aRet (aC (.d (.bool false)))) aNx)
    (aIf (aNot (aTru (aCall c_l_is_way_right xno (aCons (aVar 2) (aCons (aVar 3) (aCons (aVar 9) (aCons (aVar 6) aNil))))))) (aRet (aC (.d (.bool false)))) aNx)))
    (aIf (aNot (aTru (aCall (c_l_same 0) xno (aCons (aCallK (c_block_rule Cl) xno 0 2 [0, 1] aNil (aCons (aVar 2) (aCons (aVar 3) aNil))) (aCons (aTup (aCons (aVar 6) (aCons (aVar 7) aNil))) aNil))))) (aRet (aC (.d (.bool false)))) aNx)))))))
    (aRet (aC (.d (.bool true))))))))
theorem pow_bd {b : Int} (h0 : 2 ≤ b) (h1 : b ≤ 16) : ∀ j : Nat, 1 ≤ b ^ j ∧ b ^ j < 2 ^ (4 * j + 1)
  | 0 => by
    rw [Int.pow_zero]
    decide
  | j + 1 => by
    obtain ⟨a, c⟩ := pow_bd h0 h1 j
    rw [Int.pow_succ, show 4 * (j + 1) + 1 = 4 * j + 1 + 4 by omega, Int.pow_add]
    generalize b ^ j = x at *
    generalize (2 : Int) ^ (4 * j + 1) = y at *
    rw [show (2 : Int) ^ 4 = 16 from rfl]
    have e1 := Int.mul_le_mul_of_nonneg_left h1 (show 0 ≤ x by omega)
    have e2 := Int.mul_le_mul_of_nonneg_left h0 (show 0 ≤ x by omega)
    omega
theorem cpow {b : Int} (h0 : 2 ≤ b) (h1 : b ≤ 16) {j : Nat} (hj : j ≤ 300) : CMulX (b ^ j) b := by
  obtain ⟨a, c⟩ := pow_bd h0 h1 j
  have p : (0 : Int) < 2 ^ (4 * j + 1) := Int.pow_pos (by decide)
  exact mulx_ok (a := 4 * j + 1) (b := 10) (nat_bd (by omega) c) (nat_bd (by omega) (by omega)) (by omega)
theorem w_l_power (Cl : Cls) (Fr : Addr → Prop) (svs : List SV) (Ω : Om) (Φ : PhiE) (Ξ : XA) (h : c_l_power svs Ω Φ Ξ) :
    a_l_power Cl Fr { nx := fun _ Ω => Φ (.d .none) Ω, rt := Φ } (startR N_l_power svs) Ω := by
  obtain ⟨b0, b1, k0, k1, k⟩ := h
  rename_i b K
  conv => whnf
  refine ⟨⟨by omega, by omega⟩, ?_⟩
  conv => whnf
  refine ⟨fun j ρ Ω' => ∃ ρ3, ρ = [some (I b), some (I K), some (I (b ^ j)), ρ3] ∧ Ω' = Ω, ⟨none, by rw [Int.pow_zero]; rfl, rfl⟩, fun _ _ _ _ => trivial, ?_, ?_⟩
  · rintro j x ρ _ e ⟨ρ3, rfl, rfl⟩
    obtain ⟨rfl, lt⟩ := rgS_get e
    conv => whnf
    refine ⟨cpow b0 b1 (by omega), ?_⟩
    conv => whnf
    exact ⟨some (I ((0 : Int) + (j : Nat))), by rw [Int.pow_succ]; rfl, rfl⟩
  · rintro ρ _ ⟨ρ3, rfl, rfl⟩
    conv => whnf
    rw [rgS_len]
    exact k
theorem w_l_big (Cl : Cls) (Fr : Addr → Prop) (svs : List SV) (Ω : Om) (Φ : PhiE) (Ξ : XA) (h : c_l_big svs Ω Φ Ξ) :
    a_l_big Cl Fr { nx := fun _ Ω => Φ (.d .none) Ω, rt := Φ } (startR N_l_big svs) Ω := by
  obtain ⟨hB, b0, b1, k⟩ := h
  rename_i x below L R
  conv => whnf
  refine ⟨⟨by decide, by decide⟩, ?_⟩
  conv => whnf
  refine ⟨fun j ρ Ω' => ∃ (f : Int) (ρ3 : Option SV), ρ = [some x, some (I below), some (I f), ρ3] ∧ Bag x L R Ω' ∧ 0 ≤ f ∧ f < 1000003 ^ j, ⟨0, none, rfl, hB, by decide, by decide⟩, fun _ _ _ _ => trivial, ?_, ?_⟩
  · rintro j y ρ Ω1 e ⟨f, ρ3, rfl, hB, f0, f1⟩
    obtain ⟨rfl, lt⟩ := rgS_get e
    have b6 : ∀ j : Nat, j < 6 → (1000003 : Int) ^ j ≤ 1000003 ^ 6 := by decide
    have := b6 j (by omega)
    conv => whnf
    refine ⟨cmul (by omega) (by omega) (by omega) (by omega), ?_⟩
    conv => whnf
    refine .mk hB (by decide) (by decide) fun z Ω2 z0 z1 hB => ?_
    conv => whnf
    refine ⟨_, _, rfl, hB, by omega, ?_⟩
    rw [Int.pow_succ]
    omega
  · rintro ρ Ω1 ⟨f, ρ3, rfl, hB, f0, f1⟩
    conv => whnf
    refine ⟨b0, ?_⟩
    conv => whnf
    exact k _ _ (Int.emod_nonneg _ (by omega)) (Int.emod_lt_of_pos _ b0) hB
theorem w_l_is_row (Cl : Cls) (Fr : Addr → Prop) (svs : List SV) (Ω : Om) (Φ : PhiE) (Ξ : XA) (h : c_l_is_row svs Ω Φ Ξ) :
    a_l_is_row Cl Fr { nx := fun _ Ω => Φ (.d .none) Ω, rt := Φ } (startR N_l_is_row svs) Ω := by
  obtain ⟨ln, k⟩ := h
  rename_i is
  conv => whnf
  refine ⟨_, _, rfl, rfl, ?_⟩
  conv => whnf
  refine br_T ?_
  conv => whnf
  refine ⟨by rw [List.length_map, isD, List.length_map]; omega, ?_⟩
  refine ⟨fun i acc Ω' => acc = (List.replicate i (SV.d (.bool true))) ∧ Ω' = Ω, ⟨rfl, rfl⟩, fun i acc Ω' ⟨h1, h2⟩ => ⟨trivial, by rw [h1, List.length_replicate]; exact Nat.le_refl _⟩, ?_, ?_⟩
  · rintro i y acc _ e ⟨rfl, rfl⟩
    obtain ⟨z, -, rfl⟩ := get_isD e
    conv => whnf
    refine br_T ?_
    conv => whnf
    refine ⟨_, _, rfl, rfl, ?_⟩
    conv => whnf
    refine br_T ?_
    conv => whnf
    refine ⟨_, _, rfl, rfl, ?_⟩
    conv => whnf
    refine ⟨?_, rfl⟩
    rw [List.replicate_succ']
    rfl
  · rintro acc _ ⟨rfl, rfl⟩
    have e : ∀ n : Nat, List.replicate n (SV.d (.bool true)) = ((List.replicate n true).map PyData.bool).map SV.d := by intro n; simp
    rw [e]
    refine newX_d ?_
    conv => whnf
    refine ⟨List.replicate _ true, trivial, rfl, ?_⟩
    have e2 : ∀ n : Nat, (List.replicate n true).all id = true := by intro n; simp
    rw [e2]
    exact k
theorem w_l_same (Cl : Cls) (n : Nat) (Fr : Addr → Prop) (svs : List SV) (Ω : Om) (Φ : PhiE) (Ξ : XA) (h : c_l_same n svs Ω Φ Ξ) :
    a_l_same (recC c_l_same n) Cl Fr { nx := fun _ Ω => Φ (.d .none) Ω, rt := Φ } (startR N_l_same svs) Ω := by
  rcases h with ⟨ln, k⟩ | ⟨k⟩
  · rename_i is
    conv => whnf
    refine ⟨_, _, rfl, rfl, ?_⟩
    conv => whnf
    refine br_T ?_
    conv => whnf
    refine .mk ln ?_
    conv => whnf
    refine br_T ?_
    conv => whnf
    refine .mk ln ?_
    conv => whnf
    refine br_T ?_
    conv => whnf
    refine ⟨(shaped_isD is).1, (shaped_isD is).1, ?_⟩
    conv => whnf
    rw [show PyData.eqv (.tuple (isD is)) (.tuple (isD is)) = true by rw [PyData.eqv]; rw [eqvAll_isD]; simp]
    exact k
  · conv => whnf
    refine ⟨_, _, rfl, rfl, ?_⟩
    conv => whnf
    refine br_F ?_
    conv => whnf
    refine br_F ?_
    conv => whnf
    refine ⟨_, _, rfl, rfl, ?_⟩
    conv => whnf
    refine br_F ?_
    conv => whnf
    refine ⟨_, _, rfl, rfl, ?_⟩
    conv => whnf
    refine br_F ?_
    conv => whnf
    refine ⟨_, _, rfl, rfl, ?_⟩
    conv => whnf
    refine br_T ?_
    conv => whnf
    refine ⟨_, _, rfl, rfl, ?_⟩
    conv => whnf
    refine br_T ?_
    conv => whnf
    rw [decide_eq_true rfl]
    exact k
theorem w_l_pick (Cl : Cls) (Fr : Addr → Prop) (svs : List SV) (Ω : Om) (Φ : PhiE) (Ξ : XA) (h : c_l_pick svs Ω Φ Ξ) :
    a_l_pick Cl Fr { nx := fun _ Ω => Φ (.d .none) Ω, rt := Φ } (startR N_l_pick svs) Ω := by
  obtain ⟨hB, ne, ln, k⟩ := h
  rename_i x ds L R
  conv => whnf
  refine .mk hB ?_ ?_ fun r Ω' r0 r1 hB' => ?_
  · have := List.length_pos_iff.mpr ne
    omega
  · have := log2_lt (n := ((ds.length : Nat) : Int).natAbs) (k := 60) (by simpa using ln) (by decide)
    omega
  · have lt : r.toNat < ds.length := by omega
    conv => whnf
    exact ⟨_, atI_i r0 (List.getElem?_eq_getElem lt), k _ (List.getElem_mem lt) _ hB'⟩
theorem w_l_draw (Cl : Cls) (Fr : Addr → Prop) (svs : List SV) (Ω : Om) (Φ : PhiE) (Ξ : XA) (h : c_l_draw svs Ω Φ Ξ) :
    a_l_draw Cl Fr { nx := fun _ Ω => Φ (.d .none) Ω, rt := Φ } (startR N_l_draw svs) Ω := by
  obtain ⟨hB, b0, b1, k⟩ := h
  obtain ⟨hx, ok⟩ := hB
  rename_i x below L R b c n m is
  subst hx
  conv => whnf
  refine ⟨fun d ρ Ω' => ∃ (n : Int) (is : List Int) (ρ2 : Option SV), ρ = [some (.r (.ref b)), some (I below), ρ2, none] ∧ Ω' = L ++ (b, .lx [.r (.ref c), I n, I m]) :: (c, .lst (isD is)) :: R ∧ d = is.length ∧ BagOk n m is, ⟨_, _, _, _, rfl, rfl, rfl, ok⟩, ?_⟩
  clear ok n is
  rintro d ρ _ ⟨n, is, ρ2, rfl, rfl, rfl, ok⟩
  have A1 := At.app (At.here (a := b) (c := .lx [.r (.ref c), I n, I m]) (Ω := (c, .lst (isD is)) :: R)) L
  have A2 := At.app (At.there (p := (b, .lx [.r (.ref c), I n, I m])) (At.here (a := c) (c := .lst (isD is)) (Ω := R))) L
  have fin : ∀ ρ2, (aSeq (aIf (aB (aBin arGt (aBin arIx (aVar 0) (aC (.d (.int 1)))) (aC (.d (.int 0))))) (aSeq (aAsg (aBin arMod (aCB acInt (aCons (aBin arIx (aVar 0) (aC (.d (.int 1)))) aNil)) (aVar 1)) (gN 3)) (aSeq (aSetIx (aBin arDiv (aCB acInt (aCons (aBin arIx (aVar 0) (aC (.d (.int 1)))) aNil)) (aVar 1)) (aVar 0) (aC (.d (.int 1)))) (aRet (aVar 3)))) aNx) (aSeq (aSetIx (aBin arMod (aCB acInt (aCons (aBin (arAdd none) (aBin arMul (aBin arIx (aVar 0) (aC (.d (.int 2)))) (aC (.d (.int 48271)))) (aC (.d (.int 11)))) aNil)) (aC (.d (.int 2147483647)))) (aVar 0) (aC (.d (.int 2)))) (aRet (aBin arMod (aCB acInt (aCons (aBin arDiv (aBin arMod (aCB acInt (aCons (aBin arMul (aBin arIx (aVar 0) (aC (.d (.int 2)))) (aBin arIx (aVar 0) (aC (.d (.int 2))))) aNil)) (aC (.d (.int 2147483629)))) (aC (.d (.int 7)))) aNil)) (aVar 1))))) { nx := fun _ Ω => Φ (.d .none) Ω, rt := Φ } [some (.r (.ref b)), some (I below), ρ2, none] (L ++ (b, .lx [.r (.ref c), I n, I m]) :: (c, .lst (isD is)) :: R) := by
    intro ρ2
    conv => whnf
    refine ⟨_, _, A1, ?_⟩
    conv => whnf
    refine ⟨_, rfl, ?_⟩
    conv => whnf
    refine br_d (fun gt => ?_) fun le => ?_
    · conv => whnf
      refine ⟨_, _, A1, ?_⟩
      conv => whnf
      refine ⟨_, rfl, ?_⟩
      conv => whnf
      refine ⟨b0, ?_⟩
      conv => whnf
      refine ⟨_, _, A1, ?_⟩
      conv => whnf
      refine ⟨_, rfl, ?_⟩
      conv => whnf
      refine ⟨⟨b0, b1⟩, ?_⟩
      conv => whnf
      refine ⟨_, _, A1, ?_⟩
      conv => whnf
      refine ⟨1, rfl, ?_⟩
      conv => whnf
      exact k _ _ (Int.emod_nonneg _ (by omega)) (Int.emod_lt_of_pos _ b0) (.mk rfl ⟨Int.ediv_nonneg ok.n0 (by omega), ok.m0, ok.m1, ok.i0⟩)
    · have m0 := ok.m0
      have m1 := ok.m1
      conv => whnf
      refine ⟨_, _, A1, ?_⟩
      conv => whnf
      refine ⟨_, rfl, ?_⟩
      conv => whnf
      refine ⟨cmul (by omega) (by omega) (by omega) (by omega), ?_⟩
      conv => whnf
      refine ⟨(by decide : (0 : Int) < 2147483647), ?_⟩
      conv => whnf
      refine ⟨_, _, A1, ?_⟩
      conv => whnf
      refine ⟨2, rfl, ?_⟩
      have z0 : 0 ≤ (m * 48271 + 11) % 2147483647 := by omega
      have z1 : (m * 48271 + 11) % 2147483647 < 2147483647 := by omega
      have A3 := At.app (At.here (a := b) (c := .lx [.r (.ref c), I n, I ((m * 48271 + 11) % 2147483647)]) (Ω := (c, .lst (isD is)) :: R)) L
      conv => whnf
      refine ⟨_, _, A3, ?_⟩
      conv => whnf
      refine ⟨_, rfl, ?_⟩
      conv => whnf
      refine ⟨_, _, A3, ?_⟩
      conv => whnf
      refine ⟨_, rfl, ?_⟩
      conv => whnf
      refine ⟨cmul (by omega) (by omega) (by omega) (by omega), ?_⟩
      conv => whnf
      refine ⟨(by decide : (0 : Int) < 2147483629), ?_⟩
      conv => whnf
      refine ⟨cdiv (by decide) (by decide), ?_⟩
      conv => whnf
      refine ⟨b0, ?_⟩
      conv => whnf
      exact k _ _ (Int.emod_nonneg _ (by omega)) (Int.emod_lt_of_pos _ b0) (.mk rfl ⟨ok.n0, z0, z1, ok.i0⟩)
  conv => whnf
  refine ⟨_, _, A1, ?_⟩
  conv => whnf
  refine ⟨_, rfl, ?_⟩
  conv => whnf
  refine br_d (fun e0 => ?_) fun ne => ?_
  · conv => whnf
    refine ⟨_, _, A1, ?_⟩
    conv => whnf
    refine ⟨_, rfl, ?_⟩
    conv => whnf
    refine ⟨by decide, ?_⟩
    conv => whnf
    refine ⟨_, _, A2, ?_⟩
    conv => whnf
    refine ⟨(shaped_isD is).2, shaped_nil, ?_⟩
    conv => whnf
    rw [eqv_nil]
    refine br_n (br_d (fun e => ?_) fun ne => ?_)
    · exact fin ρ2
    · conv => whnf
      refine ⟨_, _, A1, ?_⟩
      conv => whnf
      refine ⟨_, rfl, ?_⟩
      conv => whnf
      refine ⟨⟨_, _, A2, trivial⟩, ?_⟩
      obtain ⟨js, i, rfl⟩ : ∃ js i, is = js ++ [i] := ⟨is.dropLast, is.getLast ne, (List.dropLast_concat_getLast ne).symm⟩
      conv => whnf
      refine ⟨_, _, A2, .int i, by simp [isD], ?_⟩
      have e9 : (isD (js ++ [i])).dropLast = isD js := by simp [isD]
      have i0 := ok.i0 i (by simp)
      conv => whnf
      rw [e9]
      refine ⟨⟨by decide, by decide, by decide⟩, ?_⟩
      conv => whnf
      have A4 := At.app (At.here (a := b) (c := .lx [.r (.ref c), I n, I m]) (Ω := (c, .lst (isD js)) :: R)) L
      refine br_d (fun gt => ?_) fun le => ?_
      · conv => whnf
        refine ⟨_, _, A4, ?_⟩
        conv => whnf
        refine ⟨1, rfl, ?_⟩
        conv => whnf
        exact ⟨_, by simp, _, _, _, rfl, rfl, rfl, i0, ok.m0, ok.m1, fun j hj => ok.i0 j (by simp [hj])⟩
      · conv => whnf
        refine ⟨_, _, A4, ?_⟩
        conv => whnf
        refine ⟨1, rfl, ?_⟩
        conv => whnf
        exact ⟨_, by simp, _, _, _, rfl, rfl, rfl, Int.le_refl 0, ok.m0, ok.m1, fun j hj => ok.i0 j (by simp [hj])⟩
  · conv => whnf
    refine br_F ?_
    exact fin ρ2
theorem w_l_own_bag (Cl : Cls) (Fr : Addr → Prop) (svs : List SV) (Ω : Om) (Φ : PhiE) (Ξ : XA) (h : c_l_own_bag svs Ω Φ Ξ) :
    a_l_own_bag Cl Fr { nx := fun _ Ω => Φ (.d .none) Ω, rt := Φ } (startR N_l_own_bag svs) Ω := by
  obtain ⟨ok, k⟩ := h
  rename_i ns
  have cl := Nat.le_trans (cutD_len ns none (some 63)) ok.1
  conv => whnf
  refine ⟨?_, ?_⟩
  · rw [List.length_map, cutD_isD, isD, List.length_map]
    omega
  refine ⟨fun i acc Ω' => ∃ is : List Int, acc = (isD is).map SV.d ∧ Ω' = [] ∧ is.length = i ∧ ∀ z ∈ is, 0 ≤ z, ⟨[], rfl, rfl, rfl, by simp⟩, fun i acc Ω' ⟨is, h1, h2, h3, h4⟩ => ⟨trivial, by rw [h1, List.length_map, isD, List.length_map]; omega⟩, ?_, ?_⟩
  · rintro i x acc _ e ⟨is, rfl, rfl, rfl, nn⟩
    rw [cutD_isD] at e
    obtain ⟨z, -, rfl⟩ := get_isD e
    conv => whnf
    refine br_T ?_
    conv => whnf
    refine ⟨is ++ [if z < 0 then -z else z], ?_, rfl, by simp, ?_⟩
    · rw [← app_isD, List.map_append]
      rfl
    · intro y hy
      rcases List.mem_append.mp hy with hy | hy
      · exact nn y hy
      · obtain rfl := List.mem_singleton.mp hy
        split <;> omega
  rintro acc _ ⟨is, rfl, rfl, ln, nn⟩
  rw [List.length_map, cutD_isD, isD, List.length_map] at ln
  refine newX_d ?_
  conv => whnf
  refine ⟨fun j ρ Ω' => ∃ (mx : Int) (ρ3 : Option SV), ρ = [some (.l (isD ns)), some (.d (.list (isD is))), some (I mx), ρ3] ∧ Ω' = [] ∧ 0 ≤ mx ∧ mx < 2147483647, ⟨_, _, rfl, rfl, ?_, ?_⟩, fun _ _ _ _ => trivial, ?_, ?_⟩
  · omega
  · rw [isD, List.length_map]; omega
  · rintro j x ρ _ e ⟨mx, ρ3, rfl, rfl, m0, m1⟩
    obtain ⟨z, -, rfl⟩ := get_isD e
    conv => whnf
    refine ⟨cmul (by omega) (by omega) (by omega) (by omega), ?_⟩
    conv => whnf
    refine ⟨(by decide : (0 : Int) < 2147483629), ?_⟩
    conv => whnf
    refine ⟨(by decide : (0 : Int) < 2147483647), ?_⟩
    conv => whnf
    exact ⟨_, _, rfl, rfl, Int.emod_nonneg _ (by omega), Int.emod_lt_of_pos _ (by omega)⟩
  · rintro ρ _ ⟨mx, ρ3, rfl, rfl, m0, m1⟩
    conv => whnf
    refine ⟨trivial, ?_⟩
    intro c fc
    conv => whnf
    refine ⟨(by decide : 3 ≤ sizeLine), ?_⟩
    intro b fb
    conv => whnf
    have e : (isD is).reverse = isD is.reverse := by rw [isD, isD, List.map_reverse]
    refine k _ _ ?_
    show Bag (.r (.ref b)) [] [] ([(b, .lx [.r (.ref c), I 0, I mx]), (c, .lst (isD is).reverse)])
    rw [e]
    exact .mk (L := []) rfl ⟨Int.le_refl 0, m0, m1, fun i hi => nn i (List.mem_reverse.mp hi)⟩
theorem w_block_rule (Cl : Cls) (Fr : Addr → Prop) (svs : List SV) (Ω : Om) (Φ : PhiE) (Ξ : XA) (h : c_block_rule Cl svs Ω Φ Ξ) :
    a_block_rule Cl Fr Ξ { nx := fun _ Ω => Φ (.d .none) Ω, rt := Φ } (startR N_block_rule svs) Ω := by
  obtain ⟨bm, k1, k2⟩ := h
  rename_i b m
  obtain ⟨b0, b1, m0, m1⟩ := id bm
  obtain ⟨B, rfl⟩ := Int.eq_ofNat_of_zero_le (show 0 ≤ b by omega)
  obtain ⟨M, rfl⟩ := Int.eq_ofNat_of_zero_le (show 0 ≤ m by omega)
  conv => whnf
  refine br_d (fun gt => ?_) fun le => ?_
  · conv => whnf
    have gt' : ((Nat.gcd (B : Int).natAbs (M : Int).natAbs : Nat) : Int) > 1 := gt
    exact k2 (by show Nat.gcd _ _ ≠ 1; omega)
  · have g1 : gcdI (B : Int) (M : Int) = 1 := by
      have : 0 < Nat.gcd (B : Int).natAbs (M : Int).natAbs := Nat.gcd_pos_of_pos_left _ (by omega)
      have le' : ¬ ((Nat.gcd (B : Int).natAbs (M : Int).natAbs : Nat) : Int) > 1 := le
      show Nat.gcd _ _ = 1
      omega
    obtain ⟨K, s, hr⟩ := rule_ex bm g1
    conv => whnf
    refine ⟨show (0 : Int) < M by omega, ?_⟩
    conv => whnf
    refine ⟨fun d ρ Ω' => ∃ (pw kk : Nat), ρ = [some (I B), some (I M), some (I pw), some (I kk)] ∧ Ω' = Ω ∧ pw < M ∧ ruleFrom B M d pw kk = some (K, s), ⟨64, B % M, 1, ?_, rfl, Nat.mod_lt _ (by omega), hr⟩, ?_⟩
    · show [some (I B), some (I M), some (I ((B : Int) % M)), some (I 1)] = _
      rw [show ((B : Int) % M) = ((B % M : Nat) : Int) by simp]
      rfl
    rintro d ρ _ ⟨pw, kk, rfl, rfl, lt, rf⟩
    cases d with
    | zero => cases rf
    | succ d =>
      unfold ruleFrom at rf
      have e1 : ((1 : Int) % M) = ((1 % M : Nat) : Int) := by simp
      conv => whnf
      refine ⟨show (0 : Int) < M by omega, ?_⟩
      conv => whnf
      refine br_n (br_d (fun e => ?_) fun ne => ?_)
      · refine br_F ?_
        have e2 : pw = 1 % M := by
          have e' : (pw : Int) = 1 % M := e
          rw [e1] at e'
          omega
        rw [if_pos e2] at rf
        cases rf
        conv => whnf
        refine ⟨show (0 : Int) < M by omega, ?_⟩
        conv => whnf
        refine br_d (fun _ => ?_) fun ne => absurd e ne
        conv => whnf
        refine ⟨(by decide : 2 ≤ sizeLine), ?_⟩
        exact k1 g1 _ _ hr
      · have n2 : pw ≠ 1 % M := fun z => ne (by show (pw : Int) = 1 % M; rw [e1, z])
        rw [if_neg n2] at rf
        conv => whnf
        refine br_n (br_d (fun e => ?_) fun ne2 => ?_)
        · have e3 : pw = M - 1 := by
            have e' : (pw : Int) = M - 1 := e
            omega
          rw [if_pos e3] at rf
          cases rf
          conv => whnf
          refine ⟨show (0 : Int) < M by omega, ?_⟩
          conv => whnf
          refine br_d (fun z => absurd z ne) fun _ => ?_
          conv => whnf
          refine ⟨(by decide : 2 ≤ sizeLine), ?_⟩
          exact k1 g1 _ _ hr
        · have n3 : pw ≠ M - 1 := fun z => ne2 (by show (pw : Int) = M - 1; omega)
          rw [if_neg n3] at rf
          conv => whnf
          refine ⟨cmul (by omega) (by omega) (by omega) (by omega), ?_⟩
          conv => whnf
          refine ⟨show (0 : Int) < M by omega, ?_⟩
          conv => whnf
          refine ⟨d, Nat.lt_succ_self d, pw * B % M, kk + 1, ?_, rfl, Nat.mod_lt _ (by omega), rf⟩
          show [some (I B), some (I M), some (I ((pw : Int) * B % M)), some (I ((kk : Int) + 1))] = _
          rw [show ((pw : Int) * B % M) = ((pw * B % M : Nat) : Int) by simp]
          rfl
theorem w_block_sum (Cl : Cls) (Fr : Addr → Prop) (svs : List SV) (Ω : Om) (Φ : PhiE) (Ξ : XA) (h : c_block_sum svs Ω Φ Ξ) :
    a_block_sum Cl Fr { nx := fun _ Ω => Φ (.d .none) Ω, rt := Φ } (startR N_block_sum svs) Ω := by
  obtain ⟨b0, b1, n0, n1, k0, k1, hs, k⟩ := h
  rename_i b n K s
  conv => whnf
  refine ⟨⟨by omega, by omega⟩, ?_⟩
  conv => whnf
  refine ⟨fun j ρ Ω' => ∃ ρ5, ρ = [some (I b), some (I n), some (I K), some (I s), some (I (b ^ j)), ρ5, none, none, none] ∧ Ω' = Ω, ⟨none, by rw [Int.pow_zero]; rfl, rfl⟩, fun _ _ _ _ => trivial, ?_, ?_⟩
  · rintro j x ρ _ e ⟨ρ5, rfl, rfl⟩
    obtain ⟨rfl, lt⟩ := rgS_get e
    conv => whnf
    refine ⟨cpow b0 b1 (by omega), ?_⟩
    conv => whnf
    exact ⟨some (I ((0 : Int) + (j : Nat))), by rw [Int.pow_succ]; rfl, rfl⟩
  · rintro ρ Ω ⟨ρ5, rfl, rfl⟩
    rw [rgS_len]
    have W2 : 2 ≤ b ^ K.toNat := by
      obtain ⟨t, ht⟩ : ∃ t, K.toNat = t + 1 := ⟨K.toNat - 1, by omega⟩
      rw [ht, Int.pow_succ]
      have := (pow_bd b0 b1 t).1
      have := Int.mul_le_mul_of_nonneg_left b0 (show 0 ≤ b ^ t by omega)
      omega
    have Wl := (pow_bd b0 b1 K.toNat).2
    have Wlg : (b ^ K.toNat).natAbs.log2 < 9000 := by
      have p : (0 : Int) < 2 ^ (4 * K.toNat + 1) := Int.pow_pos (by decide)
      have := log2_lt (nat_bd (by omega) Wl) (by omega)
      omega
    generalize b ^ K.toNat = W at *
    conv => whnf
    refine ⟨fun d ρ Ω' => ∃ f left own : Int, ρ = [some (I b), some (I n), some (I K), some (I s), some (I W), ρ5, some (I f), some (I left), some (I own)] ∧ Ω' = Ω ∧ d = left.toNat ∧ 0 ≤ left ∧ left ≤ n ∧ (own = 1 ∨ own = -1) ∧ f + own * bs W s left = bs W s n, ⟨_, 0, n, 1, rfl, rfl, rfl, n0, Int.le_refl n, Or.inl rfl, by omega⟩, ?_⟩
    rintro d ρ _ ⟨f, left, own, rfl, rfl, rfl, l0, l1, ho, eq⟩
    conv => whnf
    refine br_d (fun gt => ?_) fun le => ?_
    · have gt' : 0 < left := gt
      have big : left < 2 ^ 119 := by omega
      have r0 := Int.emod_nonneg left (show W ≠ 0 by omega)
      have r1 := Int.emod_lt_of_pos left (show 0 < W by omega)
      have q0 := Int.ediv_nonneg l0 (show 0 ≤ W by omega)
      have em := Int.mul_ediv_add_emod left W
      have m2 := Int.mul_le_mul_of_nonneg_right W2 q0
      conv => whnf
      refine ⟨show 0 < W by omega, ?_⟩
      conv => whnf
      refine ⟨cmul (by omega) (by omega) (by omega) (by omega), ?_⟩
      conv => whnf
      refine ⟨⟨by omega, Wlg⟩, ?_⟩
      conv => whnf
      refine ⟨cmul (by omega) (by omega) (by omega) (by omega), ?_⟩
      conv => whnf
      refine ⟨_, ?_, _, _, _, rfl, rfl, rfl, q0, by omega, ?_, ?_⟩
      · omega
      · rcases ho with rfl | rfl <;> rcases hs with rfl | rfl <;> simp
      · rw [bs_go W2 gt' big] at eq
        rw [← eq]
        show f + own * (left % W) + own * s * bs W s (left / W) = _
        rw [Int.mul_add, Int.mul_assoc own s]
        omega
    · conv => whnf
      have e0 : left = 0 := by
        have le' : ¬ 0 < left := le
        omega
      subst e0
      rw [bs_nil (Int.le_refl 0), Int.mul_zero, Int.add_zero] at eq
      rw [eq]
      exact k
theorem w_l_own_sum (Cl : Cls) (Fr : Addr → Prop) (svs : List SV) (Ω : Om) (Φ : PhiE) (Ξ : XA) (h : c_l_own_sum svs Ω Φ Ξ) :
    a_l_own_sum Cl Fr { nx := fun _ Ω => Φ (.d .none) Ω, rt := Φ } (startR N_l_own_sum svs) Ω := by
  obtain ⟨b0, b1, n0, n1, k0, k1, hs, k⟩ := h
  rename_i b n K s
  conv => whnf
  refine .mk b0 b1 (by omega) (by omega) ?_
  have W2 : 2 ≤ b ^ K.toNat := by
    obtain ⟨t, ht⟩ : ∃ t, K.toNat = t + 1 := ⟨K.toNat - 1, by omega⟩
    rw [ht, Int.pow_succ]
    have := (pow_bd b0 b1 t).1
    have := Int.mul_le_mul_of_nonneg_left b0 (show 0 ≤ b ^ t by omega)
    omega
  have Wl := (pow_bd b0 b1 K.toNat).2
  have Wlg : (b ^ K.toNat).natAbs.log2 < 9000 := by
    have p : (0 : Int) < 2 ^ (4 * K.toNat + 1) := Int.pow_pos (by decide)
    have := log2_lt (nat_bd (by omega) Wl) (by omega)
    omega
  generalize b ^ K.toNat = W at *
  conv => whnf
  refine ⟨(by decide : 4 ≤ sizeLine), ?_⟩
  conv => whnf
  refine ⟨rfl, ?_⟩
  conv => whnf
  refine ⟨⟨by decide, by decide⟩, ?_⟩
  conv => whnf
  refine ⟨fun j ρ Ω' => ∃ (f own left : Int) (ρ8 : Option SV), ρ = [some (I b), some (I n), some (I K), some (I s), some (I W), some (I f), some (I own), some (I left), ρ8] ∧ Ω' = Ω ∧ 0 ≤ left ∧ left * 2 ^ j ≤ n ∧ (own = 1 ∨ own = -1) ∧ f + own * bs W s left = bs W s n, ⟨0, 1, n, none, rfl, rfl, n0, by simp, Or.inl rfl, by omega⟩, fun _ _ _ _ => trivial, ?_, ?_⟩
  · rintro j x ρ Ω e ⟨f, own, left, ρ8, rfl, rfl, l0, l1, ho, eq⟩
    have tp : (1 : Int) ≤ 2 ^ j := by
      have : (0 : Int) < 2 ^ j := Int.pow_pos (by decide)
      omega
    have ln : left ≤ n := by
      have := Int.mul_le_mul_of_nonneg_left tp l0
      omega
    conv => whnf
    refine br_d (fun e0 => ?_) fun ne => ?_
    · have e0' : left = 0 := e0
      subst e0'
      rw [bs_nil (Int.le_refl 0), Int.mul_zero, Int.add_zero] at eq
      conv => whnf
      rw [eq]
      exact k
    · have gt : 0 < left := by
        have ne' : ¬ left = 0 := ne
        omega
      have big : left < 2 ^ 119 := by omega
      have r0 := Int.emod_nonneg left (show W ≠ 0 by omega)
      have r1 := Int.emod_lt_of_pos left (show 0 < W by omega)
      have q0 := Int.ediv_nonneg l0 (show 0 ≤ W by omega)
      have em := Int.mul_ediv_add_emod left W
      have m2 := Int.mul_le_mul_of_nonneg_right W2 q0
      conv => whnf
      refine ⟨show 0 < W by omega, ?_⟩
      conv => whnf
      refine ⟨cmul (by omega) (by omega) (by omega) (by omega), ?_⟩
      conv => whnf
      refine ⟨cmul (by omega) (by omega) (by omega) (by omega), ?_⟩
      conv => whnf
      refine ⟨⟨by omega, Wlg⟩, ?_⟩
      conv => whnf
      refine ⟨_, _, _, some x, rfl, rfl, q0, ?_, ?_, ?_⟩
      · rw [Int.pow_succ, Int.mul_comm ((2 : Int) ^ j) 2, ← Int.mul_assoc]
        have m3 := Int.mul_le_mul_of_nonneg_right (show left / W * 2 ≤ left by omega) (show (0 : Int) ≤ 2 ^ j by omega)
        exact Int.le_trans m3 l1
      · rcases ho with rfl | rfl <;> rcases hs with rfl | rfl <;> simp
      · rw [bs_go W2 gt big] at eq
        rw [← eq]
        show f + own * (left % W) + own * s * bs W s (left / W) = _
        rw [Int.mul_add, Int.mul_assoc own s]
        omega
  · rintro ρ Ω ⟨f, own, left, ρ8, rfl, rfl, l0, l1, ho, eq⟩
    rw [rgS_len] at l1
    have e0 : left = 0 := by
      have h2 : left * 2 ^ 120 ≤ n := l1
      omega
    subst e0
    rw [bs_nil (Int.le_refl 0), Int.mul_zero, Int.add_zero] at eq
    conv => whnf
    rw [eq]
    exact k
theorem w_block_way (Cl : Cls) (Fr : Addr → Prop) (svs : List SV) (Ω : Om) (Φ : PhiE) (Ξ : XA) (h : c_block_way Cl svs Ω Φ Ξ) :
    a_block_way Cl Fr Ξ { nx := fun _ Ω => Φ (.d .none) Ω, rt := Φ } (startR N_block_way svs) Ω := by
  obtain ⟨bm, n0, n1, k1, k2⟩ := h
  rename_i b m n
  obtain ⟨b0, b1, m0, m1⟩ := id bm
  conv => whnf
  refine .mk bm (fun g K s hr => ?_) fun g => k2 g
  obtain ⟨K0, K1, hs, hm⟩ := rule_ok bm hr
  conv => whnf
  refine ⟨rfl, ?_⟩
  conv => whnf
  refine ⟨⟨by omega, by omega⟩, ?_⟩
  conv => whnf
  refine ⟨fun j ρ Ω' => ∃ ρ6, ρ = [some (I b), some (I m), some (I n), some (I K), some (I s), some (I (b ^ j)), ρ6, none, none] ∧ Ω' = Ω, ⟨none, by rw [Int.pow_zero]; rfl, rfl⟩, fun _ _ _ _ => trivial, ?_, ?_⟩
  · rintro j x ρ _ e ⟨ρ6, rfl, rfl⟩
    obtain ⟨rfl, lt⟩ := rgS_get e
    conv => whnf
    refine ⟨cpow b0 b1 (by omega), ?_⟩
    conv => whnf
    exact ⟨some (I ((0 : Int) + (j : Nat))), by rw [Int.pow_succ]; rfl, rfl⟩
  · rintro ρ Ω ⟨ρ6, rfl, rfl⟩
    rw [rgS_len]
    rw [show ((K : Int)).toNat = K by omega]
    have W2 : 2 ≤ b ^ K := by
      obtain ⟨t, ht⟩ : ∃ t, K = t + 1 := ⟨K - 1, by omega⟩
      rw [ht, Int.pow_succ]
      have := (pow_bd b0 b1 t).1
      have := Int.mul_le_mul_of_nonneg_left b0 (show 0 ≤ b ^ t by omega)
      omega
    obtain ⟨L0, hw, hl⟩ := way_len W2 hs 100 n (by omega) (by omega)
    have fin := k1 g K s L0 hr hw
    generalize eW : b ^ K = W at *
    conv => whnf
    refine ⟨(by decide : 1 ≤ sizeLine), ?_⟩
    intro c fc
    conv => whnf
    refine ⟨fun d ρ Ω' => ∃ (x : Int) (pre l : List Int) (ρ8 : Option SV), ρ = [some (I b), some (I m), some (I n), some (I K), some (I s), some (I W), ρ6, some (.r (.ref c)), ρ8] ∧ Ω' = (c, .lst (isD (pre ++ [x]))) :: Ω ∧ d = x.natAbs ∧ (x.natAbs : Int) ≤ 10 ^ 30 ∧ Way W s x l ∧ L0 = pre ++ l, ⟨_, n, [], L0, none, rfl, rfl, rfl, by omega, hw, rfl⟩, ?_⟩
    rintro d ρ _ ⟨x, pre, l, ρ8, rfl, rfl, rfl, xb, wx, el⟩
    have a1 : atI (isD (pre ++ [x])) (-1) = some (.int x) := atI_end (by rw [isD, List.getLast?_map, List.getLast?_append]; rfl)
    have pl : pre.length ≤ 102 := by
      have := congrArg List.length el
      rw [List.length_append] at this
      omega
    conv => whnf
    refine ⟨_, _, .here, ?_⟩
    conv => whnf
    refine ⟨_, a1, ?_⟩
    conv => whnf
    refine br_d (fun ge => ?_) fun lt => ?_
    · have ge' : W ≤ x.natAbs := by
        have h2 : W ≤ if x < 0 then -x else x := ge
        split at h2 <;> omega
      cases wx with
      | stop z => omega
      | @step _ l' _ w2 =>
        have dec := nxt_lt W2 hs ge' (by omega)
        have app : isD (pre ++ [x]) ++ [PyData.int (nxt W s x)] = isD (pre ++ [x] ++ [nxt W s x]) := app_isD _ [nxt W s x]
        have zs : sizeLine = 16777216 := by decide
        have sz : (isD (pre ++ [x])).length < sizeLine := by rw [isD, List.length_map, List.length_append]; show pre.length + 1 < _; omega
        have eK : ((K : Int)).toNat = K := by omega
        conv => whnf
        refine ⟨_, _, .here, ?_⟩
        conv => whnf
        refine ⟨_, a1, ?_⟩
        conv => whnf
        refine ⟨⟨_, _, .here, trivial⟩, ?_⟩
        conv => whnf
        refine br_d (fun p0 => ?_) fun p0 => ?_
        · have p0' : 0 ≤ x := p0
          have en : nxt W s x = bs W s x := if_pos p0'
          conv => whnf
          refine .mk b0 b1 p0' (by omega) (by omega) (by omega) hs ?_
          rw [eK, eW]
          conv => whnf
          refine ⟨_, _, .here, ?_⟩
          refine ⟨sz, ?_⟩
          rw [← en, app]
          exact ⟨_, dec, nxt W s x, pre ++ [x], l', _, rfl, rfl, rfl, by omega, w2, by rw [el]; simp⟩
        · have p0' : ¬ 0 ≤ x := p0
          have en : nxt W s x = -bs W s (-x) := if_neg p0'
          conv => whnf
          refine .mk b0 b1 (by omega) (by omega) (by omega) (by omega) hs ?_
          rw [eK, eW]
          conv => whnf
          refine ⟨_, _, .here, ?_⟩
          refine ⟨sz, ?_⟩
          rw [← en, app]
          exact ⟨_, dec, nxt W s x, pre ++ [x], l', _, rfl, rfl, rfl, by omega, w2, by rw [el]; simp⟩
    · have lt' : (x.natAbs : Int) < W := by
        have h2 : ¬ W ≤ if x < 0 then -x else x := lt
        split at h2 <;> omega
      cases wx with
      | step z _ => omega
      | stop _ =>
        conv => whnf
        refine ⟨_, _, .here, ?_⟩
        conv => whnf
        refine ⟨_, .cons _ (.refl _), ?_⟩
        rw [← el]
        exact fin
theorem ruleFrom_go {b m : Nat} {K : Nat} {s : Int} : ∀ {f pw k : Nat}, ruleFrom b m f pw k = some (K, s) → 0 < f → (pw = 1 % m ∧ K = k ∧ s = 1) ∨ (pw ≠ 1 % m ∧ pw = m - 1 ∧ K = k ∧ s = -1) ∨ (pw ≠ 1 % m ∧ pw ≠ m - 1 ∧ ruleFrom b m (f - 1) (pw * b % m) (k + 1) = some (K, s))
  | 0, _, _, _, z => absurd z (by decide)
  | f + 1, pw, k, h, _ => by
    unfold ruleFrom at h
    split at h
    · rename_i e
      cases h
      exact Or.inl ⟨e, rfl, rfl⟩
    · rename_i ne
      split at h
      · rename_i e
        cases h
        exact Or.inr (Or.inl ⟨ne, e, rfl, rfl⟩)
      · rename_i ne2
        exact Or.inr (Or.inr ⟨ne, ne2, h⟩)
theorem w_l_own_rule (Cl : Cls) (Fr : Addr → Prop) (svs : List SV) (Ω : Om) (Φ : PhiE) (Ξ : XA) (h : c_l_own_rule svs Ω Φ Ξ) :
    a_l_own_rule Cl Fr { nx := fun _ Ω => Φ (.d .none) Ω, rt := Φ } (startR N_l_own_rule svs) Ω := by
  obtain ⟨bm, g1, k⟩ := h
  rename_i b m
  obtain ⟨b0, b1, m0, m1⟩ := id bm
  obtain ⟨B, rfl⟩ := Int.eq_ofNat_of_zero_le (show 0 ≤ b by omega)
  obtain ⟨M, rfl⟩ := Int.eq_ofNat_of_zero_le (show 0 ≤ m by omega)
  obtain ⟨K, s, hr⟩ := rule_ex bm g1
  conv => whnf
  refine ⟨⟨by decide, by decide⟩, ⟨by decide, by decide⟩, ?_⟩
  conv => whnf
  refine ⟨fun j ρ Ω' => ∃ (pw : Nat) (ρ3 : Option SV), ρ = [some (I B), some (I M), some (I pw), ρ3] ∧ Ω' = Ω ∧ pw < 61 ∧ (j < 64 → ruleFrom B M (64 - j) (pw * B % M) (j + 1) = some (K, s)) ∧ (j = 64 → False), ⟨1, none, rfl, rfl, by decide, fun _ => by rw [Nat.one_mul]; exact hr, fun z => by cases z⟩, fun _ _ _ _ => trivial, ?_, ?_⟩
  · rintro j x ρ Ω e ⟨pw, ρ3, rfl, rfl, p1, rf, _⟩
    obtain ⟨rfl, lt⟩ := rgS_get e
    have j64 : j < 64 := by
      have : (65 - 1 : Int).toNat = 64 := rfl
      omega
    have lp := Nat.mod_lt (pw * B) (show 0 < M by omega)
    have ec : ((pw : Int) * B % M) = ((pw * B % M : Nat) : Int) := by simp
    have e1 : ((1 : Int) % M) = ((1 % M : Nat) : Int) := by simp
    have em : ((-1 : Int) % M) = ((M - 1 : Nat) : Int) := by
      have h1 := Int.emod_nonneg (-1) (show (M : Int) ≠ 0 by omega)
      have h2 := Int.emod_lt_of_pos (-1) (show (0 : Int) < M by omega)
      have h3 : (-1 : Int) % M = (M - 1) % M := by rw [show (M : Int) - 1 = -1 + M by omega, Int.add_emod_right]
      rw [h3, Int.emod_eq_of_lt (by omega) (by omega)]
      omega
    have cases_ := ruleFrom_go (rf j64) (by omega)
    conv => whnf
    refine ⟨cmul (by omega) (by omega) (by omega) (by omega), ?_⟩
    conv => whnf
    refine ⟨show (0 : Int) < M by omega, ?_⟩
    conv => whnf
    refine ⟨show (0 : Int) < M by omega, ?_⟩
    conv => whnf
    have ek : (1 : Int) + (j : Nat) = ((j + 1 : Nat) : Int) := by omega
    refine br_d (fun h1 => ?_) fun n1 => ?_
    · have h1' : pw * B % M = 1 % M := by
        have z : (pw : Int) * B % M = 1 % M := h1
        rw [ec, e1] at z
        omega
      rcases cases_ with ⟨_, rfl, rfl⟩ | ⟨z, _⟩ | ⟨z, _⟩
      · conv => whnf
        refine ⟨(by decide : 2 ≤ sizeLine), ?_⟩
        conv => whnf
        rw [ek]
        exact k _ _ hr
      · exact absurd h1' z
      · exact absurd h1' z
    · have n1' : pw * B % M ≠ 1 % M := fun z => n1 (by show (pw : Int) * B % M = 1 % M; rw [ec, e1, z])
      conv => whnf
      refine ⟨show (0 : Int) < M by omega, ?_⟩
      conv => whnf
      refine br_d (fun h2 => ?_) fun n2 => ?_
      · have h2' : pw * B % M = M - 1 := by
          have z : (pw : Int) * B % M = -1 % M := h2
          rw [ec, em] at z
          omega
        rcases cases_ with ⟨z, _⟩ | ⟨_, _, rfl, rfl⟩ | ⟨_, z, _⟩
        · exact absurd z n1'
        · conv => whnf
          refine ⟨(by decide : 2 ≤ sizeLine), ?_⟩
          conv => whnf
          rw [ek]
          exact k _ _ hr
        · exact absurd h2' z
      · have n2' : pw * B % M ≠ M - 1 := fun z => n2 (by show (pw : Int) * B % M = -1 % M; rw [ec, em, z])
        rcases cases_ with ⟨z, _⟩ | ⟨_, z, _⟩ | ⟨_, _, nx⟩
        · exact absurd z n1'
        · exact absurd z n2'
        · conv => whnf
          refine ⟨pw * B % M, some (I (1 + (j : Nat))), ?_, rfl, by omega, fun _ => by rw [show 64 - (j + 1) = 64 - j - 1 by omega]; exact nx, fun z => ?_⟩
          · show [some (I B), some (I M), some (I ((pw : Int) * B % M)), _] = _
            rw [ec]
          · rw [show 64 - j - 1 = 0 by omega] at nx
            cases nx
  · rintro ρ Ω ⟨pw, ρ3, rfl, rfl, p1, rf, z⟩
    rw [rgS_len] at z
    exact (z rfl).elim
theorem w_l_own_way (Cl : Cls) (Fr : Addr → Prop) (svs : List SV) (Ω : Om) (Φ : PhiE) (Ξ : XA) (h : c_l_own_way svs Ω Φ Ξ) :
    a_l_own_way Cl Fr { nx := fun _ Ω => Φ (.d .none) Ω, rt := Φ } (startR N_l_own_way svs) Ω := by
  obtain ⟨bm, g1, n0, n1, k⟩ := h
  rename_i b m n
  obtain ⟨b0, b1, m0, m1⟩ := id bm
  conv => whnf
  refine .mk bm g1 fun K s hr => ?_
  obtain ⟨K0, K1, hs, hm⟩ := rule_ok bm hr
  conv => whnf
  refine ⟨rfl, ?_⟩
  conv => whnf
  refine .mk b0 b1 (by omega) (by omega) ?_
  have eK : ((K : Int)).toNat = K := by omega
  rw [eK]
  have W2 : 2 ≤ b ^ K := by
    obtain ⟨t, ht⟩ : ∃ t, K = t + 1 := ⟨K - 1, by omega⟩
    rw [ht, Int.pow_succ]
    have := (pow_bd b0 b1 t).1
    have := Int.mul_le_mul_of_nonneg_left b0 (show 0 ≤ b ^ t by omega)
    omega
  obtain ⟨L0, hw, hl⟩ := way_len W2 hs 100 n (by omega) (by omega)
  have fin := k K s L0 hr hw
  generalize eW : b ^ K = W at *
  conv => whnf
  refine ⟨(by decide : 1 ≤ sizeLine), ?_⟩
  intro c fc
  conv => whnf
  refine ⟨⟨by decide, by decide⟩, ?_⟩
  conv => whnf
  refine ⟨fun j ρ Ω' => ∃ (x : Int) (pre l : List Int) (ρ7 ρ8 ρ9 : Option SV), ρ = [some (I b), some (I m), some (I n), some (I K), some (I s), some (I W), some (.r (.ref c)), ρ7, ρ8, ρ9] ∧ Ω' = (c, .lst (isD (pre ++ [x]))) :: Ω ∧ pre.length = j ∧ (x.natAbs : Int) ≤ 10 ^ 30 ∧ Way W s x l ∧ L0 = pre ++ l, ⟨n, [], L0, none, none, none, rfl, rfl, rfl, by omega, hw, rfl⟩, fun _ _ _ _ => trivial, ?_, ?_⟩
  · rintro j y ρ _ e ⟨x, pre, l, ρ7, ρ8, ρ9, rfl, rfl, pj, xb, wx, el⟩
    have a1 : atI (isD (pre ++ [x])) (-1) = some (.int x) := atI_end (by rw [isD, List.getLast?_map, List.getLast?_append]; rfl)
    have pl : pre.length ≤ 102 := by
      have := congrArg List.length el
      rw [List.length_append] at this
      omega
    conv => whnf
    refine ⟨_, _, .here, ?_⟩
    conv => whnf
    refine ⟨_, a1, ?_⟩
    conv => whnf
    refine br_d (fun lt => ?_) fun ge => ?_
    · have lt' : (x.natAbs : Int) < W := by
        have h2 : (if x < 0 then -x else x) < W := lt
        split at h2 <;> omega
      cases wx with
      | step z _ => omega
      | stop _ =>
        conv => whnf
        refine ⟨_, _, .here, ?_⟩
        conv => whnf
        refine ⟨_, .cons _ (.refl _), ?_⟩
        rw [← el]
        exact fin
    · have ge' : W ≤ x.natAbs := by
        have h2 : ¬ (if x < 0 then -x else x) < W := ge
        split at h2 <;> omega
      cases wx with
      | stop z => omega
      | @step _ l' _ w2 =>
        have dec := nxt_lt W2 hs ge' (by omega)
        have app : isD (pre ++ [x]) ++ [PyData.int (nxt W s x)] = isD (pre ++ [x] ++ [nxt W s x]) := app_isD _ [nxt W s x]
        have zs : sizeLine = 16777216 := by decide
        have sz : (isD (pre ++ [x])).length < sizeLine := by rw [isD, List.length_map, List.length_append]; show pre.length + 1 < _; omega
        have ab : (if x < 0 then -x else x) = x.natAbs := by split <;> omega
        conv => whnf
        dsimp only
        rw [ab]
        refine .mk b0 b1 (by omega) (by omega) (by omega) (by omega) hs ?_
        rw [eK, eW]
        conv => whnf
        refine ⟨⟨_, _, .here, trivial⟩, ?_⟩
        conv => whnf
        refine br_d (fun p0 => ?_) fun p0 => ?_
        · have p0' : 0 ≤ x := p0
          have en : nxt W s x = bs W s x.natAbs := by rw [show ((x.natAbs : Nat) : Int) = x by omega]; exact if_pos p0'
          conv => whnf
          refine ⟨_, _, .here, ?_⟩
          refine ⟨sz, ?_⟩
          rw [← en, app]
          exact ⟨nxt W s x, pre ++ [x], l', _, _, _, rfl, rfl, by simp [pj], by omega, w2, by rw [el]; simp⟩
        · have p0' : ¬ 0 ≤ x := p0
          have en : nxt W s x = -bs W s x.natAbs := by rw [show ((x.natAbs : Nat) : Int) = -x by omega]; exact if_neg p0'
          conv => whnf
          refine ⟨_, _, .here, ?_⟩
          refine ⟨sz, ?_⟩
          rw [← en, app]
          exact ⟨nxt W s x, pre ++ [x], l', _, _, _, rfl, rfl, by simp [pj], by omega, w2, by rw [el]; simp⟩
  · rintro ρ _ ⟨x, pre, l, ρ7, ρ8, ρ9, rfl, rfl, pj, xb, wx, el⟩
    rw [rgS_len] at pj
    have := congrArg List.length el
    rw [List.length_append, pj] at this
    have z : (120 : Int).toNat = 120 := rfl
    omega
def eu : Nat → Nat → Nat → Bool
  | 0, _, b => b == 0
  | f + 1, a, b => if b = 0 then true else eu f b (a % b)
theorem eu_all : ∀ a : Nat, a < 17 → ∀ b : Nat, b < 61 → eu 20 a b = true := by decide +kernel
theorem w_l_common (Cl : Cls) (Fr : Addr → Prop) (svs : List SV) (Ω : Om) (Φ : PhiE) (Ξ : XA) (h : c_l_common svs Ω Φ Ξ) :
    a_l_common Cl Fr { nx := fun _ Ω => Φ (.d .none) Ω, rt := Φ } (startR N_l_common svs) Ω := by
  obtain ⟨a0, a1, b0, b1, k⟩ := h
  rename_i a b
  obtain ⟨A, rfl⟩ := Int.eq_ofNat_of_zero_le a0
  obtain ⟨B, rfl⟩ := Int.eq_ofNat_of_zero_le b0
  conv => whnf
  refine ⟨⟨by decide, by decide⟩, ?_⟩
  conv => whnf
  refine ⟨fun j ρ Ω' => ∃ (x y : Nat) (ρ2 : Option SV), ρ = [some (I x), some (I y), ρ2] ∧ Ω' = Ω ∧ Nat.gcd x y = Nat.gcd A B ∧ (j ≤ 20 → eu (20 - j) x y = true), ⟨A, B, none, rfl, rfl, rfl, fun _ => eu_all A (by omega) B (by omega)⟩, fun _ _ _ _ => trivial, ?_, ?_⟩
  · rintro j z ρ Ω e ⟨x, y, ρ2, rfl, rfl, g, eu_⟩
    obtain ⟨rfl, lt⟩ := rgS_get e
    have j20 : j < 20 := by
      have : (20 : Int).toNat = 20 := rfl
      omega
    have eu2 := eu_ (by omega)
    rw [show 20 - j = (20 - (j + 1)) + 1 by omega] at eu2
    unfold eu at eu2
    conv => whnf
    refine br_d (fun e0 => ?_) fun ne => ?_
    · have y0 : y = 0 := by
        have e0' : (y : Int) = 0 := e0
        omega
      subst y0
      rw [Nat.gcd_zero_right] at g
      conv => whnf
      rw [g]
      exact k
    · have y0 : y ≠ 0 := fun z => ne (by show (y : Int) = 0; omega)
      rw [if_neg y0] at eu2
      conv => whnf
      refine ⟨show (0 : Int) < y by omega, ?_⟩
      conv => whnf
      refine ⟨y, x % y, some (I ((0 : Int) + (j : Nat))), ?_, rfl, ?_, fun _ => eu2⟩
      · show [some (I (y : Int)), some (I ((x : Int) % y)), _] = _
        rw [show ((x : Int) % y) = ((x % y : Nat) : Int) by simp]
      · rw [← g, Nat.gcd_comm y (x % y), ← Nat.gcd_rec, Nat.gcd_comm]
  · rintro ρ Ω ⟨x, y, ρ2, rfl, rfl, g, eu_⟩
    rw [rgS_len] at eu_
    have z := eu_ (Nat.le_refl _)
    have y0 : y = 0 := by
      have z' : eu 0 x y = true := z
      unfold eu at z'
      simpa using z'
    subst y0
    rw [Nat.gcd_zero_right] at g
    conv => whnf
    rw [g]
    exact k
theorem w_l_own_pair (Cl : Cls) (Fr : Addr → Prop) (svs : List SV) (Ω : Om) (Φ : PhiE) (Ξ : XA) (h : c_l_own_pair svs Ω Φ Ξ) :
    a_l_own_pair Cl Fr { nx := fun _ Ω => Φ (.d .none) Ω, rt := Φ } (startR N_l_own_pair svs) Ω := by
  obtain ⟨hB, k⟩ := h
  rename_i x L R
  conv => whnf
  refine ⟨(by decide : 2 ≤ sizeLine), ?_⟩
  conv => whnf
  refine ⟨(by decide : 2 ≤ sizeLine), ?_⟩
  conv => whnf
  refine ⟨(by decide : 2 ≤ sizeLine), ?_⟩
  conv => whnf
  refine ⟨(by decide : 2 ≤ sizeLine), ?_⟩
  conv => whnf
  refine ⟨(by decide : 2 ≤ sizeLine), ?_⟩
  conv => whnf
  refine ⟨(by decide : 2 ≤ sizeLine), ?_⟩
  conv => whnf
  refine ⟨(by decide : 2 ≤ sizeLine), ?_⟩
  conv => whnf
  refine ⟨(by decide : 2 ≤ sizeLine), ?_⟩
  conv => whnf
  refine ⟨(by decide : 2 ≤ sizeLine), ?_⟩
  conv => whnf
  refine ⟨(by decide : 2 ≤ sizeLine), ?_⟩
  conv => whnf
  refine ⟨(by decide : 2 ≤ sizeLine), ?_⟩
  conv => whnf
  refine ⟨(by decide : 2 ≤ sizeLine), ?_⟩
  conv => whnf
  refine ⟨(by decide : 2 ≤ sizeLine), ?_⟩
  conv => whnf
  refine ⟨(by decide : 2 ≤ sizeLine), ?_⟩
  conv => whnf
  refine ⟨(by decide : 2 ≤ sizeLine), ?_⟩
  conv => whnf
  refine ⟨(by decide : 2 ≤ sizeLine), ?_⟩
  conv => whnf
  refine ⟨(by decide : 2 ≤ sizeLine), ?_⟩
  conv => whnf
  refine ⟨(by decide : 2 ≤ sizeLine), ?_⟩
  conv => whnf
  refine ⟨(by decide : 2 ≤ sizeLine), ?_⟩
  conv => whnf
  refine ⟨(by decide : 2 ≤ sizeLine), ?_⟩
  conv => whnf
  refine ⟨(by decide : 2 ≤ sizeLine), ?_⟩
  conv => whnf
  refine ⟨(by decide : 2 ≤ sizeLine), ?_⟩
  conv => whnf
  refine ⟨(by decide : 2 ≤ sizeLine), ?_⟩
  conv => whnf
  refine ⟨(by decide : 2 ≤ sizeLine), ?_⟩
  conv => whnf
  refine ⟨(by decide : 2 ≤ sizeLine), ?_⟩
  conv => whnf
  refine ⟨(by decide : 2 ≤ sizeLine), ?_⟩
  conv => whnf
  refine ⟨(by decide : 2 ≤ sizeLine), ?_⟩
  conv => whnf
  refine ⟨(by decide : 27 ≤ sizeLine), ?_⟩
  conv => whnf
  refine .mk hB (by decide) (by decide) fun z Ω1 z0 z1 hB => ?_
  conv => whnf
  refine br_d (fun e0 => ?_) fun ne => ?_
  · conv => whnf
    refine .mk hB (by simp) (by simp) fun d hd Ω2 hB => ?_
    have hd2 : ∃ b m : Int, d = .tuple [.int b, .int m] ∧ Bmi b m ∧ gcdI b m = 1 := by
      simp only [List.mem_cons, List.not_mem_nil, or_false] at hd
      rcases hd with rfl | rfl | rfl | rfl | rfl | rfl | rfl | rfl | rfl | rfl | rfl | rfl | rfl | rfl | rfl | rfl | rfl | rfl | rfl | rfl | rfl | rfl | rfl | rfl | rfl | rfl | rfl <;> exact ⟨_, _, rfl, ⟨by decide, by decide, by decide, by decide⟩, by decide⟩
    obtain ⟨b, m, rfl, bm, g⟩ := hd2
    exact k _ _ _ bm g hB
  · conv => whnf
    refine ⟨⟨by decide, by decide⟩, ?_⟩
    conv => whnf
    refine ⟨fun j ρ Ω' => ∃ (ρ2 ρ3 ρ4 : Option SV) (dd : PyData), ρ = [some x, some (.d dd), ρ2, ρ3, ρ4] ∧ Bag x L R Ω', ⟨none, none, none, _, rfl, hB⟩, fun _ _ _ _ => trivial, ?_, ?_⟩
    · rintro j y ρ Ω2 e ⟨ρ2, ρ3, ρ4, dd, rfl, hB⟩
      conv => whnf
      refine .mk hB (by decide) (by decide) fun a Ω3 a0 a1 hB => ?_
      conv => whnf
      refine .mk hB (by decide) (by decide) fun b Ω3 b0 b1 hB => ?_
      conv => whnf
      refine .mk hB (by decide) (by decide) fun c Ω3 c0 c1 hB => ?_
      conv => whnf
      refine ⟨(by decide : 6 ≤ sizeLine), ?_⟩
      conv => whnf
      refine .mk hB (by simp) (by simp) fun d hd Ω3 hB => ?_
      have hd2 : ∃ B : Int, d = .int B ∧ 2 ≤ B ∧ B ≤ 16 := by
        simp at hd
        rcases hd with rfl | rfl | rfl | rfl | rfl | rfl <;> exact ⟨_, rfl, by omega, by omega⟩
      obtain ⟨B, rfl, B0, B1⟩ := hd2
      conv => whnf
      refine ⟨(by decide : 6 ≤ sizeLine), ?_⟩
      conv => whnf
      refine .mk hB (by decide) (by decide) fun f Ω4 f0 f1 hB => ?_
      conv => whnf
      refine ⟨(by decide : 1 ≤ sizeLine), ?_⟩
      conv => whnf
      refine ⟨by decide, by decide, by show 1 * (6 : Int).toNat ≤ sizeLine; decide, ?_⟩
      conv => whnf
      refine ⟨(by decide : 6 + 6 ≤ sizeLine), ?_⟩
      conv => whnf
      refine .mk hB (by simp) (by simp [repD]) fun d hd Ω5 hB => ?_
      have hd2 : ∃ M : Int, d = .int M ∧ 1 ≤ M ∧ M ≤ 60 := by
        rcases List.mem_append.mp hd with hd | hd
        · simp at hd
          rcases hd with rfl | rfl | rfl | rfl | rfl | rfl <;> exact ⟨_, rfl, by omega, by omega⟩
        · unfold repD at hd
          obtain ⟨l, hl, hd⟩ := List.mem_flatten.mp hd
          have := List.eq_of_mem_replicate hl
          subst this
          obtain rfl := List.mem_singleton.mp hd
          exact ⟨_, rfl, by omega, by omega⟩
      obtain ⟨M, rfl, M0, M1⟩ := hd2
      conv => whnf
      refine .mk (by omega) B1 (by omega) M1 ?_
      conv => whnf
      refine br_d (fun g => ?_) fun ng => ?_
      · conv => whnf
        refine ⟨(by decide : 2 ≤ sizeLine), ?_⟩
        exact k _ _ _ ⟨B0, B1, M0, M1⟩ (by have g' : ((gcdI B M : Nat) : Int) = 1 := g; omega) hB
      · conv => whnf
        exact ⟨_, _, _, _, rfl, hB⟩
    · rintro ρ Ω2 ⟨ρ2, ρ3, ρ4, dd, rfl, hB⟩
      conv => whnf
      refine ⟨(by decide : 2 ≤ sizeLine), ?_⟩
      exact k _ _ _ ⟨by decide, by decide, by decide, by decide⟩ (by decide) hB
theorem two_le {j k : Nat} (h : j ≤ k) : (2 : Int) ^ j ≤ 2 ^ k := by
  induction h with
  | refl => exact Int.le_refl _
  | @step k _ ih =>
    rw [Int.pow_succ]
    have : (0 : Int) < 2 ^ k := Int.pow_pos (by decide)
    omega
theorem w_l_edges (Cl : Cls) (Fr : Addr → Prop) (svs : List SV) (Ω : Om) (Φ : PhiE) (Ξ : XA) (h : c_l_edges svs Ω Φ Ξ) :
    a_l_edges Cl Fr { nx := fun _ Ω => Φ (.d .none) Ω, rt := Φ } (startR N_l_edges svs) Ω := by
  obtain ⟨b0, b1, k0, k1, k⟩ := h
  rename_i b K
  have t30 : (10 : Int) ^ (30 : Int).toNat = 10 ^ 30 := rfl
  conv => whnf
  refine .mk b0 b1 (by omega) (by omega) ?_
  obtain ⟨p1, p2⟩ := pow_bd b0 b1 K.toNat
  have pp : b ^ K.toNat < 2 ^ 257 := Int.lt_of_lt_of_le p2 (two_le (by omega))
  clear p2
  generalize b ^ K.toNat = P at *
  have ab : P.natAbs < 2 ^ 300 := nat_bd (by omega) (Int.lt_trans pp (by decide +kernel))
  have ab1 : (P - 1).natAbs < 2 ^ 300 := Nat.lt_of_le_of_lt (by omega) ab
  have c1 : CMulX P (P - 1) := mulx_ok ab ab1 (by decide)
  have c2 : CMulX P P := mulx_ok ab ab (by decide)
  have c3 : CMulX (P * P) P := mulx_ok (a := 600) (b := 300) (by rw [Int.natAbs_mul, show 600 = 300 + 300 from rfl, Nat.pow_add]; exact Nat.mul_lt_mul'' ab ab) ab (by decide)
  conv => whnf
  refine ⟨c1, ?_⟩
  conv => whnf
  refine ⟨c1, ?_⟩
  conv => whnf
  refine ⟨c2, ?_⟩
  conv => whnf
  refine ⟨c3, ?_⟩
  conv => whnf
  refine ⟨(by decide : 6 ≤ sizeLine), ?_⟩
  conv => whnf
  refine ⟨by simp, ?_⟩
  refine ⟨fun i acc Ω' => ∃ is : List Int, acc = (isD is).map SV.d ∧ Ω' = Ω ∧ is.length ≤ i ∧ ∀ z ∈ is, 0 ≤ z ∧ z ≤ 10 ^ 30, ⟨[], rfl, rfl, Nat.le_refl _, by simp⟩, fun i acc Ω' ⟨is, h1, h2, h3, h4⟩ => ⟨trivial, by rw [h1, List.length_map, isD, List.length_map]; exact h3⟩, ?_, ?_⟩
  · rintro i y acc Ω e ⟨is, rfl, rfl, li, ok⟩
    have hy : ∃ z, y = I z ∧ 0 ≤ z := by
      have := List.mem_of_getElem? e
      have m0 : 0 ≤ P * (P - 1) := Int.mul_nonneg (by omega) (by omega)
      have m1 : 0 ≤ P * P * P := Int.mul_nonneg (Int.mul_nonneg (by omega) (by omega)) (by omega)
      simp at this
      rcases this with rfl | rfl | rfl | rfl | rfl | rfl <;> exact ⟨_, rfl, by omega⟩
    obtain ⟨z, rfl, z0⟩ := hy
    conv => whnf
    refine ⟨⟨by decide, by decide, by decide⟩, ?_⟩
    conv => whnf
    refine br_d (fun le => ?_) fun gt => ?_
    · conv => whnf
      refine ⟨is ++ [z], ?_, rfl, by simp; omega, fun w hw => ?_⟩
      · rw [← app_isD, List.map_append]
        rfl
      · rcases List.mem_append.mp hw with hw | hw
        · exact ok w hw
        · obtain rfl := List.mem_singleton.mp hw
          exact ⟨z0, le⟩
    · conv => whnf
      exact ⟨is, rfl, rfl, by omega, ok⟩
  · rintro acc Ω ⟨is, rfl, rfl, li, ok⟩
    refine newX_d ?_
    exact k is li ok
theorem w_l_is_refused (Cl : Cls) (Fr : Addr → Prop) (svs : List SV) (Ω : Om) (Φ : PhiE) (Ξ : XA) (h : c_l_is_refused svs Ω Φ Ξ) :
    a_l_is_refused Cl Fr { nx := fun _ Ω => Φ (.d .none) Ω, rt := Φ } (startR N_l_is_refused svs) Ω := by
  obtain ⟨bm, g, n0, n1, k⟩ := h
  rename_i b m n w
  have su : ∀ (e1 : Addr), (aSeq (aAsg (aAndV (aCB (acIsE e1 (.ref Cl.Unfit) true) (aCons (aVar 4) (aCons (aC (.r (.ref Cl.Unfit))) aNil))) (aAndV (aCB (acIsE e1 (.ty "ValueError") true) (aCons (aVar 4) (aCons (aC (.r (.ty "ValueError"))) aNil))) (aNotV (aCB (acIsE e1 (.ref Cl.TooMany) false) (aCons (aVar 4) (aCons (aC (.r (.ref Cl.TooMany))) aNil)))))) (gN 5)) (aSeq (aIf (aOr (aTru (aCB (acIsE e1 (.ref Cl.BadText) false) (aCons (aVar 4) (aCons (aC (.r (.ref Cl.BadText))) aNil)))) (aOr (aTru (aCB (acIsE e1 (.ref Cl.BadWord) false) (aCons (aVar 4) (aCons (aC (.r (.ref Cl.BadWord))) aNil)))) (aTru (aCB (acIsE e1 (.ref Cl.BadLog) false) (aCons (aVar 4) (aCons (aC (.r (.ref Cl.BadLog))) aNil)))))) (aAsg (aC (.d (.bool false))) (gN 5)) aNx) (aSeq (aIf (aOr (aTru (aCB (acIsE e1 (.ref Cl.Refused) false) (aCons (aVar 4) (aCons (aC (.r (.ref Cl.Refused))) aNil)))) (aOr (aTru (aCB (acIsE e1 (.ref Cl.NothingToUndo) false) (aCons (aVar 4) (aCons (aC (.r (.ref Cl.NothingToUndo))) aNil)))) (aTru (aCB (acIsE e1 (.ref Cl.NothingToRedo) false) (aCons (aVar 4) (aCons (aC (.r (.ref Cl.NothingToRedo))) aNil)))))) (aAsg (aC (.d (.bool false))) (gN 5)) aNx) (aRet (aAndV (aVar 5) (aAndV (aNotV (aCB (acIsE e1 (.ref Cl.NoName) false) (aCons (aVar 4) (aCons (aC (.r (.ref Cl.NoName))) aNil)))) (aNotV (aCB (acIsE e1 (.ref Cl.NoVersion) false) (aCons (aVar 4) (aCons (aC (.r (.ref Cl.NoVersion))) aNil)))))))))) { nx := fun _ _ => True, rt := Φ } [some (I b), some (I m), some (I n), some (I w), some (.r (.ref e1)), none] Ω := by
    intro e1
    conv => whnf
    refine ⟨rfl, rfl, ?_⟩
    conv => whnf
    refine br_T ?_
    conv => whnf
    refine ⟨rfl, rfl, ?_⟩
    conv => whnf
    refine br_T ?_
    conv => whnf
    refine ⟨rfl, rfl, ?_⟩
    conv => whnf
    refine ⟨rfl, rfl, ?_⟩
    conv => whnf
    refine br_F ?_
    conv => whnf
    refine ⟨rfl, rfl, ?_⟩
    conv => whnf
    refine br_F ?_
    conv => whnf
    refine ⟨rfl, rfl, ?_⟩
    conv => whnf
    refine br_F ?_
    conv => whnf
    refine ⟨rfl, rfl, ?_⟩
    conv => whnf
    refine br_F ?_
    conv => whnf
    refine ⟨rfl, rfl, ?_⟩
    conv => whnf
    refine br_F ?_
    conv => whnf
    refine ⟨rfl, rfl, ?_⟩
    conv => whnf
    refine br_F ?_
    conv => whnf
    refine br_T ?_
    conv => whnf
    refine ⟨rfl, rfl, ?_⟩
    conv => whnf
    refine br_T ?_
    conv => whnf
    refine ⟨rfl, rfl, ?_⟩
    exact k
  have bad : ∀ {P : Prop}, gcdI b m = 1 → P := fun z => absurd z g
  conv => whnf
  refine br_d (fun _ => ?_) fun _ => ?_
  · conv => whnf
    refine .mk bm (fun z => bad z) fun _ => ⟨rfl, fun a => su a⟩
  · conv => whnf
    refine br_d (fun _ => ?_) fun _ => ?_
    · conv => whnf
      refine .mk bm n0 n1 (fun z => bad z) fun _ => ⟨rfl, fun a => su a⟩
    · conv => whnf
      refine br_d (fun _ => ?_) fun _ => ?_
      · conv => whnf
        refine .mk bm (fun z => bad z) fun _ => ⟨rfl, fun a => su a⟩
      · conv => whnf
        refine .mk bm n0 n1 (fun z => bad z) fun _ => ⟨rfl, fun a => su a⟩
theorem w_l_alike_pair (Cl : Cls) (Fr : Addr → Prop) (svs : List SV) (Ω : Om) (Φ : PhiE) (Ξ : XA) (h : c_l_alike_pair svs Ω Φ Ξ) :
    a_l_alike_pair Cl Fr { nx := fun _ Ω => Φ (.d .none) Ω, rt := Φ } (startR N_l_alike_pair svs) Ω := by
  obtain ⟨hB, k⟩ := h
  rename_i x L R
  conv => whnf
  refine .mk hB (by decide) (by decide) fun a Ω1 a0 a1 hB => ?_
  conv => whnf
  refine ⟨⟨by decide, by decide⟩, ⟨by omega, by omega⟩, ?_⟩
  conv => whnf
  refine ⟨by rw [rgS_len]; omega, ?_⟩
  refine ⟨fun i acc Ω' => ∃ is : List Int, acc = (isD is).map SV.d ∧ Bag x L R Ω' ∧ is.length ≤ i ∧ ((1 + a).toNat ≤ i → is ≠ []) ∧ ∀ z ∈ is, 2 ≤ z ∧ z ≤ 2 + a ∧ (2 + a) % z = 0, ⟨[], rfl, hB, Nat.le_refl _, fun z => absurd z (by omega), by simp⟩, fun i acc Ω' ⟨is, h1, h2, h3, h4⟩ => ⟨trivial, by rw [h1, List.length_map, isD, List.length_map]; exact h3⟩, ?_, ?_⟩
  · rintro i y acc Ω2 e ⟨is, rfl, hB, li, ne, ok⟩
    obtain ⟨rfl, lt⟩ := rgS_get e
    conv => whnf
    refine ⟨show (0 : Int) < 2 + (i : Nat) by omega, ?_⟩
    conv => whnf
    refine br_d (fun e0 => ?_) fun n0 => ?_
    · conv => whnf
      refine ⟨is ++ [(2 : Int) + (i : Nat)], ?_, hB, by simp; omega, fun _ => by simp, fun w hw => ?_⟩
      · rw [← app_isD, List.map_append]
        rfl
      · rcases List.mem_append.mp hw with hw | hw
        · exact ok w hw
        · obtain rfl := List.mem_singleton.mp hw
          exact ⟨by omega, by omega, e0⟩
    · conv => whnf
      refine ⟨is, rfl, hB, by omega, fun z => ?_, ok⟩
      by_cases q : (1 + a).toNat ≤ i
      · exact ne q
      · have e1 : (2 : Int) + (i : Nat) = 2 + a := by omega
        exact absurd (by show (2 + a) % (2 + (i : Nat) : Int) = 0; rw [e1]; exact Int.emod_self) n0
  · rintro acc Ω2 ⟨is, rfl, hB, li, ne, ok⟩
    rw [rgS_len] at li ne
    refine newX_d ?_
    conv => whnf
    refine .mk hB (by have := ne (by omega); simpa [isD] using this) (by rw [isD, List.length_map]; omega) fun d hd Ω3 hB => ?_
    obtain ⟨f, hf, rfl⟩ := List.mem_map.mp hd
    obtain ⟨f0, f1, f2⟩ := ok f hf
    have q0 : 1 ≤ 60 / f := (Int.le_ediv_iff_mul_le (by omega)).mpr (by omega)
    have q1 := Int.mul_ediv_self_le (x := 60) (k := f) (by omega)
    conv => whnf
    refine ⟨cdiv (by omega) (by omega), ?_⟩
    conv => whnf
    refine .mk hB (by omega) (bel (by omega) (by have := Int.ediv_le_self f (show (0:Int) ≤ 60 by decide); omega)) fun t Ω4 t0 t1 hB => ?_
    have up : f * (1 + t) ≤ 60 := Int.le_trans (Int.mul_le_mul_of_nonneg_left (show 1 + t ≤ 60 / f by omega) (by omega)) q1
    have dn : 1 ≤ f * (1 + t) := Int.mul_pos (by omega) (by omega)
    conv => whnf
    refine ⟨cmul (by omega) (by omega) (by have := Int.ediv_le_self f (show (0:Int) ≤ 60 by decide); omega) (by have := Int.ediv_le_self f (show (0:Int) ≤ 60 by decide); omega), ?_⟩
    conv => whnf
    refine ⟨(by decide : 2 ≤ sizeLine), ?_⟩
    refine k _ _ _ ⟨by omega, by omega, by omega, up⟩ (fun g => ?_) hB
    have d1 : f.natAbs ∣ (2 + a).natAbs := Int.natAbs_dvd_natAbs.mpr (Int.dvd_of_emod_eq_zero f2)
    have d2 : f.natAbs ∣ (f * (1 + t)).natAbs := Int.natAbs_dvd_natAbs.mpr (Int.dvd_mul_right f (1 + t))
    have d3 := Nat.dvd_gcd d1 d2
    have g' : Nat.gcd (2 + a).natAbs (f * (1 + t)).natAbs = 1 := g
    rw [g'] at d3
    have := Nat.le_of_dvd (by decide) d3
    omega
theorem w_l_uneven (Cl : Cls) (Fr : Addr → Prop) (svs : List SV) (Ω : Om) (Φ : PhiE) (Ξ : XA) (h : c_l_uneven svs Ω Φ Ξ) :
    a_l_uneven Cl Fr { nx := fun _ Ω => Φ (.d .none) Ω, rt := Φ } (startR N_l_uneven svs) Ω := by
  obtain ⟨hB, b0, b1, k0, k1, k⟩ := h
  rename_i x b K L R
  conv => whnf
  refine .mk b0 b1 (by omega) (by omega) ?_
  obtain ⟨p1, p2⟩ := pow_bd b0 b1 K.toNat
  have pp : b ^ K.toNat < 2 ^ 257 := Int.lt_of_lt_of_le p2 (two_le (by omega))
  clear p2
  have W2 : 2 ≤ b ^ K.toNat := by
    obtain ⟨t, ht⟩ : ∃ t, K.toNat = t + 1 := ⟨K.toNat - 1, by omega⟩
    rw [ht, Int.pow_succ]
    have := (pow_bd b0 b1 t).1
    have := Int.mul_le_mul_of_nonneg_left b0 (show 0 ≤ b ^ t by omega)
    omega
  generalize b ^ K.toNat = P at *
  have PN : P.natAbs < 2 ^ 258 := nat_bd (by omega) (Int.lt_trans pp (by decide +kernel))
  conv => whnf
  refine ⟨⟨by decide, by decide⟩, ?_⟩
  conv => whnf
  refine ⟨fun j ρ Ω' => ∃ (pw f : Int) (ρ6 ρ7 ρ8 : Option SV), ρ = [some x, some (I b), some (I K), some (I P), some (I pw), some (I f), ρ6, ρ7, ρ8] ∧ Bag x L R Ω' ∧ 0 < pw ∧ pw.natAbs < 2 ^ (258 * j + 1) ∧ 0 ≤ f ∧ f ≤ 10 ^ 30, ⟨1, 0, none, none, none, rfl, hB, by decide, by decide, by decide, by decide⟩, fun _ _ _ _ => trivial, ?_, ?_⟩
  · rintro j y ρ Ω1 e ⟨pw, f, ρ6, ρ7, ρ8, rfl, hB, pw0, pwN, f0, f1⟩
    obtain ⟨rfl, lt⟩ := rgS_get e
    have z100 : (100 : Int).toNat = 100 := rfl
    rw [z100] at lt
    conv => whnf
    refine .mk hB (by omega) (bel (by omega) (by omega)) fun a Ω a0 a1 hB => ?_
    conv => whnf
    have mi : ∃ c, (if (1000 : Int) < P then 1000 else P) = c ∧ 0 < c ∧ c ≤ P ∧ c ≤ 1000 := by split <;> exact ⟨_, rfl, by omega⟩
    obtain ⟨c, ec, c0, c1, c2⟩ := mi
    dsimp only
    rw [ec]
    refine .mk hB (by omega) (bel (by omega) (by omega)) fun g Ω g0 g1 hB => ?_
    have ag : 0 ≤ a * g ∧ a * g ≤ g := by
      have : a = 0 ∨ a = 1 := by omega
      rcases this with rfl | rfl <;> omega
    conv => whnf
    refine ⟨cmul (by omega) (by omega) (by omega) (by omega), ?_⟩
    conv => whnf
    refine ⟨show (0 : Int) < 2 by decide, ?_⟩
    conv => whnf
    refine br_d (fun od => ?_) fun ev => ?_
    · conv => whnf
      have oN : (P - 1 - a * g).natAbs < 2 ^ 258 := by omega
      have o0 : 0 ≤ P - 1 - a * g := by omega
      refine ⟨mulx_ok (a := 258) (b := 258 * j + 1) oN pwN (by omega), ?_⟩
      conv => whnf
      refine ⟨⟨by decide, by decide, by decide⟩, ?_⟩
      conv => whnf
      refine br_d (fun gt => ?_) fun le => ?_
      · conv => whnf
        exact k _ _ f0 f1 hB
      · have t30 : (10 : Int) ^ (30 : Int).toNat = 10 ^ 30 := rfl
        rw [t30] at le
        have m0 := Int.mul_nonneg o0 (show 0 ≤ pw by omega)
        conv => whnf
        refine ⟨mulx_ok (a := 258) (b := 258 * j + 1) oN pwN (by omega), ?_⟩
        conv => whnf
        refine ⟨mulx_ok (a := 258 * j + 1) (b := 258) pwN PN (by omega), ?_⟩
        conv => whnf
        refine ⟨_, _, _, _, _, rfl, hB, Int.mul_pos (by omega) (by omega), ?_, by omega, by omega⟩
        rw [Int.natAbs_mul, show 258 * (j + 1) + 1 = 258 * j + 1 + 258 by omega, Nat.pow_add]
        exact Nat.mul_lt_mul'' pwN PN
    · conv => whnf
      refine .mk hB (by omega) (bel (by omega) (by omega)) fun a2 Ω a20 a21 hB => ?_
      conv => whnf
      have mi : ∃ c, (if (4 : Int) < P then 4 else P) = c ∧ 0 < c ∧ c ≤ P ∧ c ≤ 4 := by split <;> exact ⟨_, rfl, by omega⟩
      obtain ⟨c', ec', c0', c1', c2'⟩ := mi
      dsimp only
      rw [ec']
      refine .mk hB (by omega) (bel (by omega) (by omega)) fun g2 Ω g20 g21 hB => ?_
      have ag2 : 0 ≤ a2 * g2 ∧ a2 * g2 ≤ g2 := by
        have : a2 = 0 ∨ a2 = 1 := by omega
        rcases this with rfl | rfl <;> omega
      conv => whnf
      refine ⟨cmul (by omega) (by omega) (by omega) (by omega), ?_⟩
      conv => whnf
      have oN : (a2 * g2).natAbs < 2 ^ 258 := by omega
      have o0 : 0 ≤ a2 * g2 := by omega
      refine ⟨mulx_ok (a := 258) (b := 258 * j + 1) oN pwN (by omega), ?_⟩
      conv => whnf
      refine ⟨⟨by decide, by decide, by decide⟩, ?_⟩
      conv => whnf
      refine br_d (fun gt => ?_) fun le => ?_
      · conv => whnf
        exact k _ _ f0 f1 hB
      · have t30 : (10 : Int) ^ (30 : Int).toNat = 10 ^ 30 := rfl
        rw [t30] at le
        have m0 := Int.mul_nonneg o0 (show 0 ≤ pw by omega)
        conv => whnf
        refine ⟨mulx_ok (a := 258) (b := 258 * j + 1) oN pwN (by omega), ?_⟩
        conv => whnf
        refine ⟨mulx_ok (a := 258 * j + 1) (b := 258) pwN PN (by omega), ?_⟩
        conv => whnf
        refine ⟨_, _, _, _, _, rfl, hB, Int.mul_pos (by omega) (by omega), ?_, by omega, by omega⟩
        rw [Int.natAbs_mul, show 258 * (j + 1) + 1 = 258 * j + 1 + 258 by omega, Nat.pow_add]
        exact Nat.mul_lt_mul'' pwN PN
  · rintro ρ Ω1 ⟨pw, f, ρ6, ρ7, ρ8, rfl, hB, pw0, pwN, f0, f1⟩
    conv => whnf
    exact k _ _ f0 f1 hB
theorem w_l_number (Cl : Cls) (Fr : Addr → Prop) (svs : List SV) (Ω : Om) (Φ : PhiE) (Ξ : XA) (h : c_l_number svs Ω Φ Ξ) :
    a_l_number Cl Fr { nx := fun _ Ω => Φ (.d .none) Ω, rt := Φ } (startR N_l_number svs) Ω := by
  obtain ⟨hB, bm, k0, k1, k⟩ := h
  rename_i x b m K L R
  obtain ⟨b0, b1, m0, m1⟩ := id bm
  have t30 : (10 : Int) ^ (30 : Int).toNat = 10 ^ 30 := rfl
  conv => whnf
  refine ⟨⟨by decide, by decide, by decide⟩, ?_⟩
  conv => whnf
  refine .mk hB (by omega) (bel (by omega) (by omega)) fun w Ω w0 w1 hB => ?_
  conv => whnf
  refine br_d (fun _ => ?_) fun _ => ?_
  · conv => whnf
    refine ⟨by decide, ?_⟩
    conv => whnf
    refine .mk hB (by simp) (by simp) fun d hd Ω hB => ?_
    obtain ⟨z, rfl, hz⟩ : ∃ z : Int, d = .int z ∧ (0 ≤ z ∧ z ≤ 10 ^ 30) := by
      repeat (rcases List.mem_cons.mp hd with rfl | hd; (exact ⟨_, rfl, by omega⟩))
      exact absurd hd List.not_mem_nil
    exact k _ _ hz.1 hz.2 hB
  conv => whnf
  refine br_d (fun _ => ?_) fun _ => ?_
  · conv => whnf
    refine ⟨cmul (by omega) (by omega) (by omega) (by omega), ?_⟩
    have u0 : 0 < 4 * m * b := Int.mul_pos (by omega) (by omega)
    have u1 : 4 * m * b ≤ 240 * 16 := Int.le_trans (Int.mul_le_mul_of_nonneg_left b1 (by omega)) (by omega)
    conv => whnf
    refine ⟨cmul (by omega) (by omega) (by omega) (by omega), ?_⟩
    conv => whnf
    refine .mk hB u0 (bel u0 (by omega)) fun r Ω r0 r1 hB => ?_
    exact k _ _ (by omega) (by omega) hB
  conv => whnf
  refine br_d (fun _ => ?_) fun _ => ?_
  · conv => whnf
    refine .mk hB (by omega) (bel (by omega) (by omega)) fun e Ω e0 e1 hB => ?_
    conv => whnf
    refine .mk b0 b1 (by omega) (by omega) ?_
    obtain ⟨p1, p2⟩ := pow_bd b0 b1 e.toNat
    generalize b ^ e.toNat = P at *
    conv => whnf
    refine .mk hB (by omega) (bel (by omega) (by omega)) fun a Ω a0 a1 hB => ?_
    conv => whnf
    rw [t30]
    refine k _ _ ?_ ?_ hB
    · show 0 ≤ if P + a - 1 < 10 ^ 30 then P + a - 1 else 10 ^ 30
      split <;> omega
    · show (if P + a - 1 < 10 ^ 30 then P + a - 1 else 10 ^ 30) ≤ (10 : Int) ^ 30
      split <;> omega
  have dm : 0 ≤ (10 : Int) ^ 30 / m ∧ 10 ^ 30 / m ≤ 10 ^ 30 := ⟨Int.ediv_nonneg (by decide) (by omega), Int.ediv_le_self m (by decide)⟩
  conv => whnf
  refine br_d (fun _ => ?_) fun _ => ?_
  · conv => whnf
    refine ⟨cdiv (by omega) (by omega), ?_⟩
    conv => whnf
    rw [t30]
    refine .mk hB (by omega) (by omega) fun r Ω r0 r1 hB => ?_
    have q1 := Int.mul_ediv_self_le (x := 10 ^ 30) (k := m) (by omega)
    have up : m * r ≤ m * (10 ^ 30 / m) := Int.mul_le_mul_of_nonneg_left (by omega) (by omega)
    conv => whnf
    refine ⟨cmul (by omega) (by omega) (by omega) (by omega), ?_⟩
    exact k _ _ (Int.mul_nonneg (by omega) r0) (by omega) hB
  conv => whnf
  refine br_d (fun _ => ?_) fun _ => ?_
  · conv => whnf
    refine .mk hB b0 b1 k0 k1 fun r Ω r0 r1 hB => ?_
    exact k _ _ r0 r1 hB
  conv => whnf
  rw [t30]
  refine .mk hB (by omega) (by omega) fun r Ω r0 r1 hB => ?_
  exact k _ _ r0 (by omega) hB
theorem way_last {W s x : Int} {l : List Int} (h : Way W s x l) : ∃ pre z, l = pre ++ [z] ∧ (z.natAbs : Int) < W := by
  induction h with
  | stop h => exact ⟨[], _, rfl, h⟩
  | step h _ ih =>
    obtain ⟨pre, z, e, lt⟩ := ih
    exact ⟨_ :: pre, z, by rw [e]; rfl, lt⟩
theorem way_head {W s x : Int} {l : List Int} (h : Way W s x l) : l[0]? = some x := by
  cases h <;> rfl
theorem way_step {W s m x : Int} {l : List Int} (hW : 2 ≤ W) (hs : s = 1 ∨ s = -1) (hm : (W - s) % m = 0) (h : Way W s x l) : x.natAbs < 2 ^ 118 → ∀ i u v, l[i]? = some u → l[i + 1]? = some v → W ≤ u.natAbs ∧ v.natAbs < u.natAbs ∧ (u - v) % m = 0 := by
  induction h with
  | stop h =>
    intro _ i u v h1 h2
    cases i <;> simp at h2
  | @step x l h w ih =>
    intro xb i u v h1 h2
    have lt := nxt_lt hW hs h xb
    cases i with
    | zero =>
      simp at h1
      subst h1
      rw [List.getElem?_cons_succ, way_head w] at h2
      cases h2
      exact ⟨h, lt, nxt_mod hW hm xb⟩
    | succ i =>
      rw [List.getElem?_cons_succ] at h1 h2
      exact ih (by omega) i u v h1 h2
theorem pow_ge2 {b : Int} (b0 : 2 ≤ b) (b1 : b ≤ 16) {K : Nat} (hK : 1 ≤ K) : 2 ≤ b ^ K := by
  obtain ⟨t, ht⟩ : ∃ t, K = t + 1 := ⟨K - 1, by omega⟩
  rw [ht, Int.pow_succ]
  have := (pow_bd b0 b1 t).1
  have := Int.mul_le_mul_of_nonneg_left b0 (show 0 ≤ b ^ t by omega)
  omega
theorem way_ex {b m n : Int} {K : Nat} {s : Int} (bm : Bmi b m) (hr : ruleI b m = some (K, s)) (n0 : 0 ≤ n) (n1 : n ≤ 10 ^ 30) : ∃ l, Way (b ^ K) s n l ∧ l.length ≤ 1000 := by
  obtain ⟨K0, K1, hs, hm⟩ := rule_ok bm hr
  obtain ⟨L0, hw, hl⟩ := way_len (pow_ge2 bm.b0 bm.b1 K0) hs 100 n (by have := pow_ge2 bm.b0 bm.b1 K0; omega) (by omega)
  exact ⟨L0, hw, by omega⟩
theorem w_l_is_way_right (Cl : Cls) (Fr : Addr → Prop) (svs : List SV) (Ω : Om) (Φ : PhiE) (Ξ : XA) (h : c_l_is_way_right svs Ω Φ Ξ) :
    a_l_is_way_right Cl Fr { nx := fun _ Ω => Φ (.d .none) Ω, rt := Φ } (startR N_l_is_way_right svs) Ω := by
  obtain ⟨bm, g1, hr, n0, n1, k⟩ := h
  rename_i b m n K s
  obtain ⟨b0, b1, m0, m1⟩ := id bm
  obtain ⟨K0, K1, hs, hm⟩ := rule_ok bm hr
  obtain ⟨L0, w0, l0⟩ := way_ex bm hr n0 n1
  have W2 := pow_ge2 b0 b1 K0
  have nx : n.natAbs < 2 ^ 118 := by omega
  have st := way_step W2 hs hm w0 nx
  obtain ⟨pre, z, ez, zl⟩ := way_last w0
  have un : ∀ K' s' l, ruleI b m = some (K', s') → Way (b ^ K') s' n l → l = L0 := fun K' s' l h1 h2 => by
    rw [hr] at h1
    cases h1
    exact h2.uniq w0
  have aL : atI (isD L0) (-1) = some (.int z) := last_isD (by rw [ez]; simp)
  have eK : ((K : Int)).toNat = K := by omega
  conv => whnf
  refine .mk bm g1 n0 n1 fun K' s' l h1 h2 => ?_
  obtain rfl := un _ _ _ h1 h2
  conv => whnf
  refine .mk b0 b1 (by omega) (by omega) ?_
  rw [eK]
  generalize b ^ K = W at *
  conv => whnf
  refine .mk bm n0 n1 (fun _ K' s' l' h1 h2 => ?_) fun h => absurd g1 h
  obtain rfl := un _ _ _ h1 h2
  conv => whnf
  refine .row l0 ?_
  conv => whnf
  refine br_F ?_
  conv => whnf
  refine ⟨_, aL, ?_⟩
  conv => whnf
  refine br_d0 (by show ¬ W ≤ if z < 0 then -z else z; split <;> omega) ?_
  conv => whnf
  refine ⟨fun j ρ Ω' => ∃ (ρ7 ρ8 : Option SV), ρ = [some (I b), some (I m), some (I n), some (I K), some (T (isD l')), some (I W), some (T (isD l')), ρ7, ρ8] ∧ Ω' = Ω, ⟨none, none, rfl, rfl⟩, fun _ _ _ _ => trivial, ?_, ?_⟩
  · rintro i y ρ _ e ⟨ρ7, ρ8, rfl, rfl⟩
    obtain ⟨d, e', h1, h2, rfl⟩ := zpD_get e
    rw [cut_from_isD (by decide)] at h2
    obtain ⟨u, hu, rfl⟩ := get_isD' h1
    obtain ⟨v, hv, rfl⟩ := get_isD' h2
    rw [List.getElem?_drop, show (1 : Int).toNat + i = i + 1 by rw [show (1 : Int).toNat = 1 from rfl]; omega] at hv
    obtain ⟨q1, q2, q3⟩ := st i u v hu hv
    conv => whnf
    refine ⟨rfl, ?_⟩
    conv => whnf
    refine br_d0 (by show ¬ (if u < 0 then -u else u) < W; split <;> omega) ?_
    conv => whnf
    refine br_d0 (by show ¬ (if u < 0 then -u else u) ≤ (if v < 0 then -v else v); split <;> split <;> omega) ?_
    conv => whnf
    refine ⟨by omega, ?_⟩
    conv => whnf
    refine br_d0 (by show ¬ 0 < (u - v) % m; omega) ?_
    conv => whnf
    exact ⟨_, _, rfl, rfl⟩
  · rintro ρ _ ⟨ρ7, ρ8, rfl, rfl⟩
    conv => whnf
    refine .mk bm n0 n1 (fun _ K' s' l'' h1 h2 => ?_) fun h => absurd g1 h
    obtain rfl := un _ _ _ h1 h2
    conv => whnf
    exact .row l0 k
section
local macro_rules | `(tactic| walk_at "z1") => `(tactic| first | exact True.intro | rfl | omega | (dsimp only; omega) | exact Nat.le_of_ble_eq_true rfl | (exact ⟨by omega, by omega⟩) | (exact cmul (by omega) (by omega) (by omega) (by omega)) | (exact cdiv (by omega) (by omega)) | decide | assumption)
local macro_rules | `(tactic| walk_at "zs") => `(tactic| ((conv => whnf); first | with_reducible refine br_T ?_ | with_reducible refine br_F ?_ | refine br_d1 (by omega) ?_ | refine br_d0 (by omega) ?_ | refine br_n ?_ | refine ⟨by walk_at "z1", ?_⟩ | refine ⟨_, _, .here, ?_⟩ | refine ⟨_, _, rfl, rfl, ?_⟩ | refine ⟨_, rfl, ?_⟩))
theorem sgn_pow {s : Int} (hs : s = 1 ∨ s = -1) : ∀ t : Nat, s ^ t = if (t : Int) % 2 = 1 then s else 1
  | 0 => by rw [Int.pow_zero, if_neg (by decide)]
  | t + 1 => by
    rw [Int.pow_succ, sgn_pow hs t]
    by_cases e : (t : Int) % 2 = 1
    · rw [if_pos e, if_neg (by omega)]
      rcases hs with rfl | rfl <;> rfl
    · rw [if_neg e, if_pos (by omega), Int.one_mul]
theorem pow_alike {a s m : Int} (h : (a - s) % m = 0) : ∀ t : Nat, (a ^ t - s ^ t) % m = 0
  | 0 => by rw [Int.pow_zero, Int.pow_zero, Int.sub_self, Int.zero_emod]
  | t + 1 => by
    obtain ⟨u, hu⟩ := Int.dvd_of_emod_eq_zero h
    obtain ⟨v, hv⟩ := Int.dvd_of_emod_eq_zero (pow_alike h t)
    refine Int.emod_eq_zero_of_dvd ⟨v * a + s ^ t * u, ?_⟩
    rw [Int.pow_succ, Int.pow_succ, Int.mul_add, ← Int.mul_assoc, ← hv, Int.mul_left_comm m (s ^ t) u, ← hu, Int.sub_mul, Int.mul_sub]
    omega
theorem w_l_are_sums_right (Cl : Cls) (Fr : Addr → Prop) (svs : List SV) (Ω : Om) (Φ : PhiE) (Ξ : XA) (h : c_l_are_sums_right svs Ω Φ Ξ) :
    a_l_are_sums_right Cl Fr { nx := fun _ Ω => Φ (.d .none) Ω, rt := Φ } (startR N_l_are_sums_right svs) Ω := by
  obtain ⟨hB, bm, g1, n0, n1, k⟩ := h
  rename_i x b m n L R
  obtain ⟨b0, b1, m0, m1⟩ := id bm
  obtain ⟨K, s, hr⟩ := rule_ex bm g1
  obtain ⟨K0, K1, hs, hm⟩ := rule_ok bm hr
  have un : ∀ K' s', ruleI b m = some (K', s') → K' = K ∧ s' = s := fun K' s' h1 => by
    rw [hr] at h1
    cases h1
    exact ⟨rfl, rfl⟩
  have eK : ((K : Int)).toNat = K := by omega
  have W2 := pow_ge2 b0 b1 K0
  have md := bs_mod W2 hm 119 n n0 (by omega) (by decide)
  conv => whnf
  refine .mk bm g1 fun K' s' h1 => ?_
  obtain ⟨rfl, rfl⟩ := un _ _ h1
  conv => whnf
  refine ⟨rfl, ?_⟩
  conv => whnf
  refine .mk b0 b1 n0 n1 (by omega) (by omega) hs ?_
  rw [eK]
  conv => whnf
  refine .mk b0 b1 n0 n1 (by omega) (by omega) hs ?_
  rw [eK]
  conv => whnf
  refine .int ?_
  conv => whnf
  refine br_F ?_
  conv => whnf
  refine ⟨by omega, ?_⟩
  conv => whnf
  refine br_d0 (by show ¬ 0 < (n - bs (b ^ K') s' n) % m; omega) ?_
  have d64 : 1 ≤ (64 : Int) / K' := (Int.le_ediv_iff_mul_le (by omega)).mpr (by omega)
  have d65 : (64 : Int) / K' ≤ 64 := Int.ediv_le_self _ (by decide)
  have d66 := Int.mul_ediv_self_le (x := 64) (k := (K' : Int)) (by omega)
  conv => whnf
  refine ⟨cdiv (by omega) (by omega), ?_⟩
  conv => whnf
  refine .mk hB (by omega) (bel (by omega) (by omega)) fun t Ω t0 t1 hB => ?_
  have up : (K' : Int) * (1 + t) ≤ 64 := Int.le_trans (Int.mul_le_mul_of_nonneg_left (show 1 + t ≤ 64 / K' by omega) (by omega)) d66
  have dn : 1 ≤ (K' : Int) * (1 + t) := Int.mul_pos (by omega) (by omega)
  obtain ⟨t', rfl⟩ : ∃ t' : Nat, t = t' := ⟨t.toNat, by omega⟩
  have eT : ((K' : Int) * (1 + (t' : Int))).toNat = K' * (1 + t') := by
    have : (K' : Int) * (1 + (t' : Int)) = ((K' * (1 + t') : Nat) : Int) := by simp
    rw [this, Int.toNat_natCast]
  have fin : ∀ by_ : Int, (by_ = 1 ∨ by_ = -1) → (b ^ (K' * (1 + t')) - by_) % m = 0 → (by_ = s' ∨ by_ = 1) → True := fun _ _ _ _ => trivial
  have par : ∀ by_ : Int, by_ = (if (1 + (t' : Int)) % 2 = 1 then s' else 1) → (by_ = 1 ∨ by_ = -1) ∧ (n - bs (b ^ (K' * (1 + t'))) by_ n) % m = 0 := by
    intro by_ e
    have hb : by_ = 1 ∨ by_ = -1 := by
      rw [e]
      split
      · exact hs
      · exact .inl rfl
    refine ⟨hb, bs_mod (pow_ge2 b0 b1 (Nat.mul_pos K0 (by omega))) ?_ 119 n n0 (by omega) (by decide)⟩
    have e1 : by_ = s' ^ (1 + t') := by
      rw [e]
      exact (sgn_pow hs (1 + t')).symm
    rw [e1, Int.pow_mul]
    exact pow_alike hm (1 + t')
  clear fin
  conv => whnf
  refine ⟨by walk_at "z1", ?_⟩
  conv => whnf
  refine br_d (fun od => ?_) fun ev => ?_
  · obtain ⟨hb, mb⟩ := par s' (by rw [if_pos od])
    conv => whnf
    refine ⟨cmul (by omega) (by omega) (by omega) (by omega), ?_⟩
    conv => whnf
    refine .mk b0 b1 n0 n1 dn up hb ?_
    rw [eT]
    conv => whnf
    refine ⟨cmul (by omega) (by omega) (by omega) (by omega), ?_⟩
    conv => whnf
    refine .mk b0 b1 n0 n1 dn up hb ?_
    rw [eT]
    conv => whnf
    refine .int ?_
    conv => whnf
    refine br_F ?_
    conv => whnf
    refine ⟨by omega, ?_⟩
    conv => whnf
    refine br_d0 (by show ¬ 0 < (n - bs (b ^ (K' * (1 + t'))) s' n) % m; omega) ?_
    conv => whnf
    refine ⟨by walk_at "z1", ?_⟩
    conv => whnf
    refine ⟨fun j ρ Ω' => ∃ (ρ10 ρ11 : Option SV), ρ = [some x, some (I b), some (I m), some (I n), some (I K'), some (I s'), some (I (bs (b ^ K') s' n)), some (I (bs (b ^ (K' * (1 + t'))) s' n)), some (I (1 + (t' : Int))), some (I s'), ρ10, ρ11] ∧ Bag x L R Ω', ⟨none, none, rfl, hB⟩, fun _ _ _ _ => trivial, ?_, ?_⟩
    · rintro j y ρ Ω e ⟨ρ10, ρ11, rfl, hB⟩
      obtain ⟨w, rfl, hw⟩ : ∃ w : Int, y = I w ∧ (w = 1 ∨ w = -1) := by
        rcases j with _ | _ | j <;> simp at e
        · exact ⟨-1, e.symm, .inr rfl⟩
        · exact ⟨1, e.symm, .inl rfl⟩
      conv => whnf
      refine .mk hB (by omega) (by decide) fun a Ω a0 a1 hB => ?_
      conv => whnf
      refine .mk hB (by omega) (by decide) fun c Ω c0 c1 hB => ?_
      conv => whnf
      refine ⟨by walk_at "z1", ?_⟩
      conv => whnf
      refine .mk hB (by simp) (by simp) fun d hd Ω hB => ?_
      obtain ⟨z, rfl, hz⟩ : ∃ z : Int, d = .int z ∧ (1 ≤ z ∧ z ≤ 64) := by
        repeat (rcases List.mem_cons.mp hd with rfl | hd; (exact ⟨_, rfl, by omega⟩))
        exact absurd hd List.not_mem_nil
      conv => whnf
      refine .mk b0 b1 n0 n1 hz.1 hz.2 hw ?_
      conv => whnf
      refine .mk b0 b1 n0 n1 hz.1 hz.2 hw ?_
      conv => whnf
      refine .int ?_
      conv => whnf
      refine br_F ?_
      conv => whnf
      exact ⟨_, _, rfl, hB⟩
    · rintro ρ Ω ⟨ρ10, ρ11, rfl, hB⟩
      conv => whnf
      refine .mk b0 b1 n0 n1 (by omega) (by omega) hs ?_
      rw [eK]
      conv => whnf
      exact .int (k _ hB)
  · obtain ⟨hb, mb⟩ := par 1 (by rw [if_neg ev])
    conv => whnf
    refine ⟨cmul (by omega) (by omega) (by omega) (by omega), ?_⟩
    conv => whnf
    refine .mk b0 b1 n0 n1 dn up hb ?_
    rw [eT]
    conv => whnf
    refine ⟨cmul (by omega) (by omega) (by omega) (by omega), ?_⟩
    conv => whnf
    refine .mk b0 b1 n0 n1 dn up hb ?_
    rw [eT]
    conv => whnf
    refine .int ?_
    conv => whnf
    refine br_F ?_
    conv => whnf
    refine ⟨by omega, ?_⟩
    conv => whnf
    refine br_d0 (by show ¬ 0 < (n - bs (b ^ (K' * (1 + t'))) 1 n) % m; omega) ?_
    conv => whnf
    refine ⟨by walk_at "z1", ?_⟩
    conv => whnf
    refine ⟨fun j ρ Ω' => ∃ (ρ10 ρ11 : Option SV), ρ = [some x, some (I b), some (I m), some (I n), some (I K'), some (I s'), some (I (bs (b ^ K') s' n)), some (I (bs (b ^ (K' * (1 + t'))) 1 n)), some (I (1 + (t' : Int))), some (I 1), ρ10, ρ11] ∧ Bag x L R Ω', ⟨none, none, rfl, hB⟩, fun _ _ _ _ => trivial, ?_, ?_⟩
    · rintro j y ρ Ω e ⟨ρ10, ρ11, rfl, hB⟩
      obtain ⟨w, rfl, hw⟩ : ∃ w : Int, y = I w ∧ (w = 1 ∨ w = -1) := by
        rcases j with _ | _ | j <;> simp at e
        · exact ⟨-1, e.symm, .inr rfl⟩
        · exact ⟨1, e.symm, .inl rfl⟩
      conv => whnf
      refine .mk hB (by omega) (by decide) fun a Ω a0 a1 hB => ?_
      conv => whnf
      refine .mk hB (by omega) (by decide) fun c Ω c0 c1 hB => ?_
      conv => whnf
      refine ⟨by walk_at "z1", ?_⟩
      conv => whnf
      refine .mk hB (by simp) (by simp) fun d hd Ω hB => ?_
      obtain ⟨z, rfl, hz⟩ : ∃ z : Int, d = .int z ∧ (1 ≤ z ∧ z ≤ 64) := by
        repeat (rcases List.mem_cons.mp hd with rfl | hd; (exact ⟨_, rfl, by omega⟩))
        exact absurd hd List.not_mem_nil
      conv => whnf
      refine .mk b0 b1 n0 n1 hz.1 hz.2 hw ?_
      conv => whnf
      refine .mk b0 b1 n0 n1 hz.1 hz.2 hw ?_
      conv => whnf
      refine .int ?_
      conv => whnf
      refine br_F ?_
      conv => whnf
      exact ⟨_, _, rfl, hB⟩
    · rintro ρ Ω ⟨ρ10, ρ11, rfl, hB⟩
      conv => whnf
      refine .mk b0 b1 n0 n1 (by omega) (by omega) hs ?_
      rw [eK]
      conv => whnf
      exact .int (k _ hB)
end
section
local macro_rules | `(tactic| walk_at "z1") => `(tactic| first | exact True.intro | rfl | omega | (dsimp only; omega) | exact Nat.le_of_ble_eq_true rfl | (exact ⟨by omega, by omega⟩) | (exact cmul (by omega) (by omega) (by omega) (by omega)) | (exact cdiv (by omega) (by omega)) | decide | assumption)
local macro_rules | `(tactic| walk_at "zs") => `(tactic| ((conv => whnf); first | with_reducible refine br_T ?_ | with_reducible refine br_F ?_ | refine br_d1 (by omega) ?_ | refine br_d0 (by omega) ?_ | refine br_n ?_ | refine ⟨by walk_at "z1", ?_⟩ | refine ⟨_, _, .here, ?_⟩ | refine ⟨_, _, rfl, rfl, ?_⟩ | refine ⟨_, rfl, ?_⟩))
theorem w_law (Cl : Cls) (Fr : Addr → Prop) (svs : List SV) (Ω : Om) (Φ : PhiE) (Ξ : XA) (h : c_law svs Ω Φ Ξ) :
    a_law Cl Fr { nx := fun _ Ω => Φ (.d .none) Ω, rt := Φ } (startR N_law svs) Ω := by
  obtain ⟨ok, k⟩ := h
  rename_i ns
  conv => whnf
  refine .mk ok fun x Ω hB => ?_
  conv => whnf
  refine .mk hB fun b m Ω bm g hB => ?_
  conv => whnf
  refine ⟨rfl, ?_⟩
  conv => whnf
  refine ⟨⟨by decide, by decide⟩, ?_⟩
  conv => whnf
  refine ⟨fun j ρ Ω' => ∃ ρ4, ρ = [some (.l (ns.map PyData.int)), some x, some (I b), some (I m), ρ4, none, none, none, none, none] ∧ Bag x [] [] Ω', ⟨none, rfl, hB⟩, fun _ _ _ _ => trivial, ?_, ?_⟩
  · rintro j y ρ Ω e ⟨ρ4, rfl, hB⟩
    obtain ⟨rfl, lt⟩ := rgS_get e
    have m1 := bm.m1
    have m0 := bm.m0
    conv => whnf
    refine .mk hB bm (by decide) (by decide) fun n Ω n0 n1 hB => ?_
    conv => whnf
    refine ⟨by walk_at "z1", ?_⟩
    conv => whnf
    refine .mk hB (by simp) (by simp) fun d hd Ω hB => ?_
    obtain ⟨z, rfl, hz⟩ : ∃ z : Int, d = .int z ∧ (0 ≤ z ∧ z ≤ 10 ^ 30) := by
      repeat (rcases List.mem_cons.mp hd with rfl | hd; (exact ⟨_, rfl, by omega⟩))
      exact absurd hd List.not_mem_nil
    conv => whnf
    refine .mk bm g hz.1 hz.2 ?_
    conv => whnf
    refine br_F ?_
    conv => whnf
    exact ⟨_, rfl, hB⟩
  · rintro ρ Ω ⟨ρ4, rfl, hB⟩
    clear bm g
    conv => whnf
    refine ⟨⟨by decide, by decide⟩, ?_⟩
    conv => whnf
    refine ⟨fun j ρ Ω' => ∃ r2 r3 r4 r5 r6 r7 r8 r9 : Option SV, ρ = [some (.l (ns.map PyData.int)), some x, r2, r3, r4, r5, r6, r7, r8, r9] ∧ Bag x [] [] Ω', ⟨_, _, _, _, _, _, _, _, rfl, hB⟩, fun _ _ _ _ => trivial, ?_, ?_⟩
    · rintro j0 y ρ Ω e ⟨r2, r3, r4, r5, r6, r7, r8, r9, rfl, hB⟩
      obtain ⟨rfl, lt⟩ := rgS_get e
      conv => whnf
      refine .mk hB fun b m Ω bm g hB => ?_
      obtain ⟨b0, b1, m0, m1⟩ := id bm
      obtain ⟨K, s, hr⟩ := rule_ex bm g
      obtain ⟨K0, K1, hs, hm⟩ := rule_ok bm hr
      have un : ∀ K' s', ruleI b m = some (K', s') → K' = K ∧ s' = s := fun K' s' h1 => by
        rw [hr] at h1
        cases h1
        exact ⟨rfl, rfl⟩
      conv => whnf
      refine ⟨rfl, ?_⟩
      conv => whnf
      refine .mk bm g fun K' s' h1 => ?_
      obtain ⟨rfl, rfl⟩ := un _ _ h1
      conv => whnf
      refine ⟨rfl, ?_⟩
      conv => whnf
      refine .mk bm (fun _ K' s' h1 => ?_) fun h => absurd g h
      obtain ⟨rfl, rfl⟩ := un _ _ h1
      conv => whnf
      refine ⟨by walk_at "z1", ?_⟩
      conv => whnf
      refine .row (is := [(K' : Int), s']) (by decide : 2 ≤ 1000) ?_
      conv => whnf
      refine br_F ?_
      conv => whnf
      refine ⟨⟨by decide, by decide⟩, ?_⟩
      conv => whnf
      refine ⟨fun j ρ Ω' => ∃ r8 r9 : Option SV, ρ = [some (.l (ns.map PyData.int)), some x, some (I b), some (I m), r4, some (I (0 + (j0 : Nat))), some (I K'), some (I s'), r8, r9] ∧ Bag x [] [] Ω', ⟨_, _, rfl, hB⟩, fun _ _ _ _ => trivial, ?_, ?_⟩
      · rintro j y ρ Ω e ⟨r8, r9, rfl, hB⟩
        obtain ⟨rfl, lt⟩ := rgS_get e
        conv => whnf
        refine br_d (fun _ => ?_) fun _ => ?_
        · conv => whnf
          refine .mk hB bm (by omega) (by omega) fun n Ω n0 n1 hB => ?_
          conv => whnf
          refine .mk hB bm g n0 n1 fun Ω hB => ?_
          conv => whnf
          refine br_F ?_
          conv => whnf
          refine .mk bm g hr n0 n1 ?_
          conv => whnf
          refine br_F ?_
          conv => whnf
          exact ⟨_, _, rfl, hB⟩
        · conv => whnf
          refine .mk hB b0 b1 (by omega) (by omega) fun n Ω n0 n1 hB => ?_
          conv => whnf
          refine .mk hB bm g n0 n1 fun Ω hB => ?_
          conv => whnf
          refine br_F ?_
          conv => whnf
          refine .mk bm g hr n0 n1 ?_
          conv => whnf
          refine br_F ?_
          conv => whnf
          exact ⟨_, _, rfl, hB⟩
      · rintro ρ Ω ⟨r8, r9, rfl, hB⟩
        conv => whnf
        refine .mk b0 b1 (by omega) (by omega) fun l ll lb => ?_
        conv => whnf
        refine ⟨fun j ρ Ω' => ∃ r9 : Option SV, ρ = [some (.l (ns.map PyData.int)), some x, some (I b), some (I m), r4, some (I (0 + (j0 : Nat))), some (I K'), some (I s'), r8, r9] ∧ Bag x [] [] Ω', ⟨_, rfl, hB⟩, fun _ _ _ _ => trivial, ?_, ?_⟩
        · rintro j y ρ Ω e ⟨r9, rfl, hB⟩
          obtain ⟨n, hn, rfl⟩ := get_isD e
          obtain ⟨n0, n1⟩ := lb n (List.mem_of_getElem? hn)
          conv => whnf
          refine .mk b0 b1 n0 n1 (by omega) (by omega) hs ?_
          conv => whnf
          refine .mk b0 b1 n0 n1 (by omega) (by omega) hs ?_
          conv => whnf
          refine .int ?_
          conv => whnf
          refine br_F ?_
          conv => whnf
          refine .mk bm g hr n0 n1 ?_
          conv => whnf
          refine br_F ?_
          conv => whnf
          exact ⟨_, rfl, hB⟩
        · rintro ρ Ω ⟨r9, rfl, hB⟩
          conv => whnf
          refine .mk bm (fun _ K'' s'' h1 => ?_) fun h => absurd g h
          obtain ⟨rfl, rfl⟩ := un _ _ h1
          conv => whnf
          refine ⟨by walk_at "z1", ?_⟩
          conv => whnf
          refine .row (is := [(K'' : Int), s'']) (by decide : 2 ≤ 1000) ?_
          conv => whnf
          refine br_F ?_
          conv => whnf
          exact ⟨_, _, _, _, _, _, _, _, rfl, hB⟩
    · rintro ρ Ω ⟨r2, r3, r4, r5, r6, r7, r8, r9, rfl, hB⟩
      conv => whnf
      exact k _
end
theorem d_block_rule {P : Program} {w : World} {K : PySem.W.Frag} {mg : Str → Option Value} {base : Heap} {f : Addr} {cdv : Value} {A : Around} {outer : List Env} {s : Shared} {H : Hp} {E : XK} {G : Gn} (T : Top K mg) (hgd : A.guards = some [])
    (hr : Room 0 (A.deeper (envOfC "block_rule" (defScope s_block_rule) s.heap.objs.size f cdv))) {Ξ : XA} (hX : ∀ {x : XI} {Ω : Om} {P' F H : Hp} {cls : Value} {d : Option Addr}, Ξ x Ω → Ok ⟨G, K⟩ P' F H Ω → RpX K F H cls d x → E cls d H) :
    JSs (cxOf (L2N.CX P w) P w K mg base N_block_rule "block_rule" (defScope s_block_rule) f cdv A outer s H E) G (defBody s_block_rule) (a_block_rule T.cl (fun p => G.H0 p = none) Ξ) :=
    (jss_cons (js_if (jt_cmp jo_gt (je_callGB jc_gcd rfl T.i_gcd (ja_cons (je_var (pv 0)) (ja_cons (je_var (pv 1)) ja_nil))) je_int (nomark _)) (jss_one (js_raise rfl (L2N.takes_of rfl rfl rfl rfl) (xok_of hX) (mk_own0 PySem.F.excBase_ValueError T.xi_Unfit T.g_Unfit T.kp_Unfit (raises_own T.be_Unfit T.ty_Unfit) rfl))) jss_nil)
    (jss_cons (js_par2 (i := 2) (j := 3) rfl sc_block_rule.nd rfl rfl (by decide) rfl rfl (ja_cons (je_bin jo_mod (je_var (pv 0)) (je_var (pv 1))) (ja_cons je_int ja_nil)) rfl)
    (jss_cons (js_while (passes_of rfl) (jw_pt (jw_and (jt_cmp (jo_ne hr.units) (je_var (pv 2)) (je_bin jo_mod je_int (je_var (pv 1))) (nomark _)) (jw_and1 (jt_cmp (jo_ne hr.units) (je_var (pv 2)) (je_bin jo_sub (je_var (pv 1)) je_int) (nomark _))))) (jss_one (js_par2 (i := 2) (j := 3) rfl sc_block_rule.nd rfl rfl (by decide) rfl rfl (ja_cons (je_bin jo_mod (je_bin jo_mulI (je_var (pv 2)) (je_var (pv 0))) (je_var (pv 1))) (ja_cons (je_bin (jo_add mok0) (je_var (pv 3)) je_int) ja_nil)) rfl)))
    (jss_one (js_ret (je_tup (ja_cons (je_var (pv 3)) (ja_cons (je_if (jt_cmp (jo_eq hr.units) (je_var (pv 2)) (je_bin jo_mod je_int (je_var (pv 1))) (nomark _)) je_int (je_un ju_neg je_int)) ja_nil))))))))
theorem ok_block_rule {P : Program} {w : World} {K : PySem.W.Frag} {mg : Str → Option Value} {base : Heap} (T : Top K mg) : FnG P w K mg base (L2N.CX P w) 1 T.f_block_rule T.fd_block_rule ["b", "m"] (spOf K (c_block_rule T.cl)) :=
  fn_ok (k := 0) (as := fun Fr Ξ => a_block_rule T.cl Fr Ξ) T.F_block_rule sc_block_rule (ari_block_rule T.cl) (fun cdv A outer s H E G Ξ hgd hr hX => d_block_rule T hgd hr hX) (w_block_rule T.cl)
theorem d_block_sum {P : Program} {w : World} {K : PySem.W.Frag} {mg : Str → Option Value} {base : Heap} {f : Addr} {cdv : Value} {A : Around} {outer : List Env} {s : Shared} {H : Hp} {E : XK} {G : Gn} (T : Top K mg) (hgd : A.guards = some [])
    (hr : Room 0 (A.deeper (envOfC "block_sum" (defScope s_block_sum) s.heap.objs.size f cdv))) :
    JSs (cxOf CX0 P w K mg base N_block_sum "block_sum" (defScope s_block_sum) f cdv A outer s H E).nox G (defBody s_block_sum) (a_block_sum T.cl fun p => G.H0 p = none) :=
    (jss_cons (js_set (i := 4) sc_block_sum.nd rfl (Or.inl rfl) je_int)
    (jss_cons (js_for PassesOwn.never rfl (ji_range1 rfl T.n_range (ja_cons (je_var (pv 2)) ja_nil)) (jg_name (i := 5) sc_block_sum.nd rfl (Or.inl rfl)) (jss_one (js_set (i := 4) sc_block_sum.nd rfl (Or.inl rfl) (je_bin jo_mulI (je_var (pv 4)) (je_var (pv 0))))))
    (jss_cons (js_par3 (i := 6) (j := 7) (l := 8) rfl sc_block_sum.nd rfl rfl rfl (by decide) (by decide) (by decide) rfl rfl rfl (ja_cons je_int (ja_cons (je_var (pv 1)) (ja_cons je_int ja_nil))) rfl)
    (jss_cons (js_while PassesOwn.never (jt_cmp jo_gt (je_var (pv 7)) je_int (nomark _)) (jss_cons (js_set (i := 6) sc_block_sum.nd rfl (Or.inl rfl) (je_bin (jo_add mok0) (je_var (pv 6)) (je_bin jo_mulI (je_var (pv 8)) (je_bin jo_mod (je_var (pv 7)) (je_var (pv 4))))))
    (jss_one (js_par2 (i := 7) (j := 8) rfl sc_block_sum.nd rfl rfl (by decide) rfl rfl (ja_cons (je_bin jo_div (je_var (pv 7)) (je_var (pv 4))) (ja_cons (je_bin jo_mulI (je_var (pv 8)) (je_var (pv 3))) ja_nil)) rfl))))
    (jss_one (js_ret (je_var (pv 6))))))))
theorem ok_block_sum {P : Program} {w : World} {K : PySem.W.Frag} {mg : Str → Option Value} {base : Heap} (T : Top K mg) : FnG P w K mg base CX0 1 T.f_block_sum T.fd_block_sum ["b", "number", "k", "sign"] (spOf K c_block_sum) :=
  fn_ok0 (k := 0) T.F_block_sum sc_block_sum ari_block_sum (fun cdv A outer s H E G hgd hr => d_block_sum T hgd hr) (w_block_sum T.cl)
theorem d_l_own_bag {P : Program} {w : World} {K : PySem.W.Frag} {mg : Str → Option Value} {base : Heap} {f : Addr} {cdv : Value} {A : Around} {outer : List Env} {s : Shared} {H : Hp} {E : XK} {G : Gn} (T : Top K mg) (hgd : A.guards = some [])
    (hr : Room 0 (A.deeper (envOfC "_law_own_bag" (defScope s_l_own_bag) s.heap.objs.size f cdv))) :
    JSs (cxOf CX0 P w K mg base N_l_own_bag "_law_own_bag" (defScope s_l_own_bag) f cdv A outer s H E).nox G (defBody s_l_own_bag) (a_l_own_bag T.cl fun p => G.H0 p = none) :=
    (jss_cons (js_setLc mok0 rfl sc_l_own_bag.nd rfl rfl (sw_true rfl rfl rfl (by decide +kernel)) (ji_of (je_sl mok0 (je_var (pv 0)) jp_none (jp_some je_int))) (blkOk_by (own := [("cell", 3)]) (N := N_l_own_bag) (sc := defScope s_l_own_bag) (by decide +kernel)) (fun _ => (jgo_name (i := 3) (by first | decide | simp) sc_l_own_bag.nd rfl (Or.inl rfl))) (fun _ => jts_nil) (fun _ => (je_callB jc_abs rfl T.n_abs (by decide +kernel) (ja_cons (je_var (pv 3)) ja_nil))) (own := [("cell", 3)]))
    (jss_cons (js_set (i := 2) sc_l_own_bag.nd rfl (Or.inl rfl) (je_bin (jo_add mok0) je_int (je_callB jc_len rfl T.n_len (by decide +kernel) (ja_cons (je_var (pv 1)) ja_nil))))
    (jss_cons (js_for PassesOwn.never rfl (ji_of (je_var (pv 1))) (jg_name (i := 3) sc_l_own_bag.nd rfl (Or.inl rfl)) (jss_one (js_set (i := 2) sc_l_own_bag.nd rfl (Or.inl rfl) (je_bin jo_mod (je_callTy jc_int rfl T.n_int (by decide +kernel) (ja_cons (je_bin (jo_add mok0) (je_bin (jo_add mok0) (je_bin jo_mulI (je_var (pv 2)) je_int) (je_bin jo_mod (je_callTy jc_int rfl T.n_int (by decide +kernel) (ja_cons (je_var (pv 3)) ja_nil)) je_int)) je_int) ja_nil)) je_int))))
    (jss_one (js_ret (je_lst mok1 (ja_cons (je_listRev mok1 rfl rfl T.n_list rfl T.n_reversed (je_callTy (jc_listOf mok0) rfl T.n_list (by decide +kernel) (ja_cons (je_var (pv 1)) ja_nil))) (ja_cons je_int (ja_cons (je_var (pv 2)) ja_nil)))))))))
theorem ok_l_own_bag {P : Program} {w : World} {K : PySem.W.Frag} {mg : Str → Option Value} {base : Heap} (T : Top K mg) : FnG P w K mg base CX0 1 T.f_l_own_bag T.fd_l_own_bag ["script"] (spOf K c_l_own_bag) :=
  fn_ok0 (k := 0) T.F_l_own_bag sc_l_own_bag ari_l_own_bag (fun cdv A outer s H E G hgd hr => d_l_own_bag T hgd hr) (w_l_own_bag T.cl)
theorem d_l_draw {P : Program} {w : World} {K : PySem.W.Frag} {mg : Str → Option Value} {base : Heap} {f : Addr} {cdv : Value} {A : Around} {outer : List Env} {s : Shared} {H : Hp} {E : XK} {G : Gn} (T : Top K mg) (hgd : A.guards = some [])
    (hr : Room 0 (A.deeper (envOfC "_law_draw" (defScope s_l_draw) s.heap.objs.size f cdv))) :
    JSs (cxOf CX0 P w K mg base N_l_draw "_law_draw" (defScope s_l_draw) f cdv A outer s H E).nox G (defBody s_l_draw) (a_l_draw T.cl fun p => G.H0 p = none) :=
    (jss_cons (js_while PassesOwn.never (jw_pt (jw_and (jt_cmp (jo_eq hr.units) (je_ix jx_seq (je_var (pv 0)) je_int (fun _ _ => rfl)) je_int (nomark _)) (jw_and1 (jt_cmp (jo_ne hr.units) (je_ix jx_seq (je_var (pv 0)) je_int (fun _ _ => rfl)) (je_lst mok0 ja_nil) (nomark _))))) (jss_cons (js_set (i := 2) sc_l_draw.nd rfl (Or.inl rfl) (je_ml0 PySem.F.slot_list_pop PySem.F.type_list_pop jm_pop (je_ix jx_seq (je_var (pv 0)) je_int (fun _ _ => rfl))))
    (jss_one (js_setAt (by intro _ _ _ p q r; exact ps_asg p (pg_sub q r set_list)) (je_if (jt_cmp jo_gt (je_var (pv 2)) (je_bin jo_pow je_int je_int) (nomark _)) (je_var (pv 2)) je_int) (je_var (pv 0)) je_int))))
    (jss_cons (js_if (jt_cmp jo_gt (je_ix jx_seq (je_var (pv 0)) je_int (fun _ _ => rfl)) je_int (nomark _)) (jss_cons (js_set (i := 3) sc_l_draw.nd rfl (Or.inl rfl) (je_bin jo_mod (je_callTy jc_int rfl T.n_int (by decide +kernel) (ja_cons (je_ix jx_seq (je_var (pv 0)) je_int (fun _ _ => rfl)) ja_nil)) (je_var (pv 1))))
    (jss_cons (js_setAt (by intro _ _ _ p q r; exact ps_asg p (pg_sub q r set_list)) (je_bin jo_div (je_callTy jc_int rfl T.n_int (by decide +kernel) (ja_cons (je_ix jx_seq (je_var (pv 0)) je_int (fun _ _ => rfl)) ja_nil)) (je_var (pv 1))) (je_var (pv 0)) je_int)
    (jss_one (js_ret (je_var (pv 3)))))) jss_nil)
    (jss_cons (js_setAt (by intro _ _ _ p q r; exact ps_asg p (pg_sub q r set_list)) (je_bin jo_mod (je_callTy jc_int rfl T.n_int (by decide +kernel) (ja_cons (je_bin (jo_add mok0) (je_bin jo_mulI (je_ix jx_seq (je_var (pv 0)) je_int (fun _ _ => rfl)) je_int) je_int) ja_nil)) je_int) (je_var (pv 0)) je_int)
    (jss_one (js_ret (je_bin jo_mod (je_callTy jc_int rfl T.n_int (by decide +kernel) (ja_cons (je_bin jo_div (je_bin jo_mod (je_callTy jc_int rfl T.n_int (by decide +kernel) (ja_cons (je_bin jo_mulI (je_ix jx_seq (je_var (pv 0)) je_int (fun _ _ => rfl)) (je_ix jx_seq (je_var (pv 0)) je_int (fun _ _ => rfl))) ja_nil)) je_int) je_int) ja_nil)) (je_var (pv 1))))))))
theorem ok_l_draw {P : Program} {w : World} {K : PySem.W.Frag} {mg : Str → Option Value} {base : Heap} (T : Top K mg) : FnG P w K mg base CX0 1 T.f_l_draw T.fd_l_draw ["bag", "below"] (spOf K c_l_draw) :=
  fn_ok0 (k := 0) T.F_l_draw sc_l_draw ari_l_draw (fun cdv A outer s H E G hgd hr => d_l_draw T hgd hr) (w_l_draw T.cl)
theorem d_l_is_row {P : Program} {w : World} {K : PySem.W.Frag} {mg : Str → Option Value} {base : Heap} {f : Addr} {cdv : Value} {A : Around} {outer : List Env} {s : Shared} {H : Hp} {E : XK} {G : Gn} (T : Top K mg) (hgd : A.guards = some [])
    (hr : Room 0 (A.deeper (envOfC "_law_is_row" (defScope s_l_is_row) s.heap.objs.size f cdv))) :
    JSs (cxOf CX0 P w K mg base N_l_is_row "_law_is_row" (defScope s_l_is_row) f cdv A outer s H E).nox G (defBody s_l_is_row) (a_l_is_row T.cl fun p => G.H0 p = none) :=
    (jss_one (js_ret (je_and (je_callB jc_isi rfl T.n_isinstance (by decide +kernel) (ja_cons (je_var (pv 0)) (ja_cons (je_raw (v := .ty "tuple") (pe_bltn rfl T.n_tuple (by decide +kernel) rfl)) ja_nil))) (je_one (je_callB (jc_all rfl) rfl T.n_all (by decide +kernel) (ja_cons (je_lc mok0 rfl sc_l_is_row.nd (ji_of (je_var (pv 0))) (blkOk_by (own := [("item", 1)]) (N := N_l_is_row) (sc := defScope s_l_is_row) (by decide +kernel)) (fun _ => (jgo_name (i := 1) (by first | decide | simp) sc_l_is_row.nd rfl (Or.inl rfl))) (fun _ => jts_nil) (fun _ => (je_and (je_callB jc_isi rfl T.n_isinstance (by decide +kernel) (ja_cons (je_var (pv 1)) (ja_cons (je_raw (v := .ty "int") (pe_bltn rfl T.n_int (by decide +kernel) rfl)) ja_nil))) (je_one (je_not (je_callB jc_isi rfl T.n_isinstance (by decide +kernel) (ja_cons (je_var (pv 1)) (ja_cons (je_raw (v := .ty "bool") (pe_bltn rfl T.n_bool (by decide +kernel) rfl)) ja_nil))))))) (own := [("item", 1)])) ja_nil))))))
theorem ok_l_is_row {P : Program} {w : World} {K : PySem.W.Frag} {mg : Str → Option Value} {base : Heap} (T : Top K mg) : FnG P w K mg base CX0 1 T.f_l_is_row T.fd_l_is_row ["told"] (spOf K c_l_is_row) :=
  fn_ok0 (k := 0) T.F_l_is_row sc_l_is_row ari_l_is_row (fun cdv A outer s H E G hgd hr => d_l_is_row T hgd hr) (w_l_is_row T.cl)
theorem d_l_common {P : Program} {w : World} {K : PySem.W.Frag} {mg : Str → Option Value} {base : Heap} {f : Addr} {cdv : Value} {A : Around} {outer : List Env} {s : Shared} {H : Hp} {E : XK} {G : Gn} (T : Top K mg) (hgd : A.guards = some [])
    (hr : Room 0 (A.deeper (envOfC "_law_common" (defScope s_l_common) s.heap.objs.size f cdv))) :
    JSs (cxOf CX0 P w K mg base N_l_common "_law_common" (defScope s_l_common) f cdv A outer s H E).nox G (defBody s_l_common) (a_l_common T.cl fun p => G.H0 p = none) :=
    (jss_cons (js_for PassesOwn.never rfl (ji_range1 rfl T.n_range (ja_cons je_int ja_nil)) (jg_name (i := 2) sc_l_common.nd rfl (Or.inl rfl)) (jss_cons (js_if (jt_cmp (jo_eq hr.units) (je_var (pv 1)) je_int (nomark _)) (jss_one js_break) jss_nil)
    (jss_one (js_par2 (i := 0) (j := 1) rfl sc_l_common.nd rfl rfl (by decide) rfl rfl (ja_cons (je_var (pv 1)) (ja_cons (je_bin jo_mod (je_callTy jc_int rfl T.n_int (by decide +kernel) (ja_cons (je_var (pv 0)) ja_nil)) (je_var (pv 1))) ja_nil)) rfl))))
    (jss_one (js_ret (je_var (pv 0)))))
theorem ok_l_common {P : Program} {w : World} {K : PySem.W.Frag} {mg : Str → Option Value} {base : Heap} (T : Top K mg) : FnG P w K mg base CX0 1 T.f_l_common T.fd_l_common ["one", "other"] (spOf K c_l_common) :=
  fn_ok0 (k := 0) T.F_l_common sc_l_common ari_l_common (fun cdv A outer s H E G hgd hr => d_l_common T hgd hr) (w_l_common T.cl)
theorem d_l_power {P : Program} {w : World} {K : PySem.W.Frag} {mg : Str → Option Value} {base : Heap} {f : Addr} {cdv : Value} {A : Around} {outer : List Env} {s : Shared} {H : Hp} {E : XK} {G : Gn} (T : Top K mg) (hgd : A.guards = some [])
    (hr : Room 0 (A.deeper (envOfC "_law_power" (defScope s_l_power) s.heap.objs.size f cdv))) :
    JSs (cxOf CX0 P w K mg base N_l_power "_law_power" (defScope s_l_power) f cdv A outer s H E).nox G (defBody s_l_power) (a_l_power T.cl fun p => G.H0 p = none) :=
    (jss_cons (js_set (i := 2) sc_l_power.nd rfl (Or.inl rfl) je_int)
    (jss_cons (js_for PassesOwn.never rfl (ji_range1 rfl T.n_range (ja_cons (je_var (pv 1)) ja_nil)) (jg_name (i := 3) sc_l_power.nd rfl (Or.inl rfl)) (jss_one (js_set (i := 2) sc_l_power.nd rfl (Or.inl rfl) (je_bin jo_mulI (je_var (pv 2)) (je_var (pv 0))))))
    (jss_one (js_ret (je_var (pv 2))))))
theorem ok_l_power {P : Program} {w : World} {K : PySem.W.Frag} {mg : Str → Option Value} {base : Heap} (T : Top K mg) : FnG P w K mg base CX0 1 T.f_l_power T.fd_l_power ["b", "k"] (spOf K c_l_power) :=
  fn_ok0 (k := 0) T.F_l_power sc_l_power ari_l_power (fun cdv A outer s H E G hgd hr => d_l_power T hgd hr) (w_l_power T.cl)
theorem d_l_own_rule {P : Program} {w : World} {K : PySem.W.Frag} {mg : Str → Option Value} {base : Heap} {f : Addr} {cdv : Value} {A : Around} {outer : List Env} {s : Shared} {H : Hp} {E : XK} {G : Gn} (T : Top K mg) (hgd : A.guards = some [])
    (hr : Room 0 (A.deeper (envOfC "_law_own_rule" (defScope s_l_own_rule) s.heap.objs.size f cdv))) :
    JSs (cxOf CX0 P w K mg base N_l_own_rule "_law_own_rule" (defScope s_l_own_rule) f cdv A outer s H E).nox G (defBody s_l_own_rule) (a_l_own_rule T.cl fun p => G.H0 p = none) :=
    (jss_cons (js_set (i := 2) sc_l_own_rule.nd rfl (Or.inl rfl) je_int)
    (jss_cons (js_for PassesOwn.never rfl (ji_range2 rfl T.n_range (ja_cons je_int (ja_cons je_int ja_nil))) (jg_name (i := 3) sc_l_own_rule.nd rfl (Or.inl rfl)) (jss_cons (js_set (i := 2) sc_l_own_rule.nd rfl (Or.inl rfl) (je_bin jo_mod (je_callTy jc_int rfl T.n_int (by decide +kernel) (ja_cons (je_bin jo_mulI (je_var (pv 2)) (je_var (pv 0))) ja_nil)) (je_var (pv 1))))
    (jss_cons (js_if (jt_cmp (jo_eq hr.units) (je_var (pv 2)) (je_bin jo_mod (je_callTy jc_int rfl T.n_int (by decide +kernel) (ja_cons je_int ja_nil)) (je_var (pv 1))) (nomark _)) (jss_one (js_ret (je_tup (ja_cons (je_var (pv 3)) (ja_cons je_int ja_nil))))) jss_nil)
    (jss_one (js_if (jt_cmp (jo_eq hr.units) (je_var (pv 2)) (je_bin jo_mod (je_callTy jc_int rfl T.n_int (by decide +kernel) (ja_cons (je_un ju_neg je_int) ja_nil)) (je_var (pv 1))) (nomark _)) (jss_one (js_ret (je_tup (ja_cons (je_var (pv 3)) (ja_cons (je_un ju_neg je_int) ja_nil))))) jss_nil)))))
    (jss_one (js_ret (je_tup (ja_cons je_int (ja_cons je_int ja_nil)))))))
theorem ok_l_own_rule {P : Program} {w : World} {K : PySem.W.Frag} {mg : Str → Option Value} {base : Heap} (T : Top K mg) : FnG P w K mg base CX0 1 T.f_l_own_rule T.fd_l_own_rule ["b", "m"] (spOf K c_l_own_rule) :=
  fn_ok0 (k := 0) T.F_l_own_rule sc_l_own_rule ari_l_own_rule (fun cdv A outer s H E G hgd hr => d_l_own_rule T hgd hr) (w_l_own_rule T.cl)
theorem d_block_way {P : Program} {w : World} {K : PySem.W.Frag} {mg : Str → Option Value} {base : Heap} {f : Addr} {cdv : Value} {A : Around} {outer : List Env} {s : Shared} {H : Hp} {E : XK} {G : Gn} (T : Top K mg) (hgd : A.guards = some [])
    (hr : Room 1 (A.deeper (envOfC "block_way" (defScope s_block_way) s.heap.objs.size f cdv))) {Ξ : XA} (hX : ∀ {x : XI} {Ω : Om} {P' F H : Hp} {cls : Value} {d : Option Addr}, Ξ x Ω → Ok ⟨G, K⟩ P' F H Ω → RpX K F H cls d x → E cls d H) :
    JSs (cxOf (L2N.CX P w) P w K mg base N_block_way "block_way" (defScope s_block_way) f cdv A outer s H E) G (defBody s_block_way) (a_block_way T.cl (fun p => G.H0 p = none) Ξ) :=
    (jss_cons (js_asg (je_call (ok_block_rule T) (hr.mono (by decide)) hgd rfl T.m_block_rule T.F_block_rule.kp (b_block_rule T) (fun σ => L2N.passAt (L2N.takes_of rfl rfl rfl rfl) σ) (xok_of hX) (ja_cons (je_var (pv 0)) (ja_cons (je_var (pv 1)) ja_nil))) (jg_tup rfl (jgs1 (jg_name (i := 3) sc_block_way.nd rfl (Or.inl rfl)) (jgs1 (jg_name (i := 4) sc_block_way.nd rfl (Or.inl rfl)) jgs0))))
    (jss_cons (js_set (i := 5) sc_block_way.nd rfl (Or.inl rfl) je_int)
    (jss_cons (js_for (passes_of rfl) rfl (ji_range1 rfl T.n_range (ja_cons (je_var (pv 3)) ja_nil)) (jg_name (i := 6) sc_block_way.nd rfl (Or.inl rfl)) (jss_one (js_set (i := 5) sc_block_way.nd rfl (Or.inl rfl) (je_bin jo_mulI (je_var (pv 5)) (je_var (pv 0))))))
    (jss_cons (js_set (i := 7) sc_block_way.nd rfl (Or.inl rfl) (je_lst mok1 (ja_cons (je_var (pv 2)) ja_nil)))
    (jss_cons (js_while (passes_of rfl) (jt_cmp jo_ge (je_callB jc_abs rfl T.n_abs (by decide +kernel) (ja_cons (je_ix jx_seq (je_var (pv 7)) (je_un ju_neg je_int) (fun _ _ => rfl)) ja_nil)) (je_var (pv 5)) (nomark _)) (jss_cons (js_set (i := 8) sc_block_way.nd rfl (Or.inl rfl) (je_ix jx_seq (je_var (pv 7)) (je_un ju_neg je_int) (fun _ _ => rfl)))
    (jss_one (js_expr (je_ml PySem.F.slot_list_append PySem.F.type_list_append jm_append (je_var (pv 7)) (ja_cons (je_if (jt_cmp jo_ge (je_var (pv 8)) je_int (nomark _)) (je_call (ok_block_sum T) (hr.mono (by decide)) hgd rfl T.m_block_sum T.F_block_sum.kp (b_block_sum T) (fun _ => passAt0) (@xok0 _ _ _) (ja_cons (je_var (pv 0)) (ja_cons (je_var (pv 8)) (ja_cons (je_var (pv 3)) (ja_cons (je_var (pv 4)) ja_nil))))) (je_un ju_neg (je_call (ok_block_sum T) (hr.mono (by decide)) hgd rfl T.m_block_sum T.F_block_sum.kp (b_block_sum T) (fun _ => passAt0) (@xok0 _ _ _) (ja_cons (je_var (pv 0)) (ja_cons (je_un ju_neg (je_var (pv 8))) (ja_cons (je_var (pv 3)) (ja_cons (je_var (pv 4)) ja_nil))))))) ja_nil))))))
    (jss_one (js_retD (je_callTy jc_tupleOf rfl T.n_tuple (by decide +kernel) (ja_cons (je_var (pv 7)) ja_nil)))))))))
theorem ok_block_way {P : Program} {w : World} {K : PySem.W.Frag} {mg : Str → Option Value} {base : Heap} (T : Top K mg) : FnG P w K mg base (L2N.CX P w) 2 T.f_block_way T.fd_block_way ["b", "m", "number"] (spOf K (c_block_way T.cl)) :=
  fn_ok (k := 1) (as := fun Fr Ξ => a_block_way T.cl Fr Ξ) T.F_block_way sc_block_way (ari_block_way T.cl) (fun cdv A outer s H E G Ξ hgd hr hX => d_block_way T hgd hr hX) (w_block_way T.cl)
theorem d_l_pick {P : Program} {w : World} {K : PySem.W.Frag} {mg : Str → Option Value} {base : Heap} {f : Addr} {cdv : Value} {A : Around} {outer : List Env} {s : Shared} {H : Hp} {E : XK} {G : Gn} (T : Top K mg) (hgd : A.guards = some [])
    (hr : Room 1 (A.deeper (envOfC "_law_pick" (defScope s_l_pick) s.heap.objs.size f cdv))) :
    JSs (cxOf CX0 P w K mg base N_l_pick "_law_pick" (defScope s_l_pick) f cdv A outer s H E).nox G (defBody s_l_pick) (a_l_pick T.cl fun p => G.H0 p = none) :=
    (jss_one (js_ret (je_ix jx_seq (je_var (pv 1)) (je_call (ok_l_draw T) (hr.mono (by decide)) hgd rfl T.m_l_draw T.F_l_draw.kp (b_l_draw T) (fun _ => passAt0) (@xok0 _ _ _) (ja_cons (je_var (pv 0)) (ja_cons (je_callB jc_len rfl T.n_len (by decide +kernel) (ja_cons (je_var (pv 1)) ja_nil)) ja_nil))) (fun _ _ => rfl))))
theorem ok_l_pick {P : Program} {w : World} {K : PySem.W.Frag} {mg : Str → Option Value} {base : Heap} (T : Top K mg) : FnG P w K mg base CX0 2 T.f_l_pick T.fd_l_pick ["bag", "some"] (spOf K c_l_pick) :=
  fn_ok0 (k := 1) T.F_l_pick sc_l_pick ari_l_pick (fun cdv A outer s H E G hgd hr => d_l_pick T hgd hr) (w_l_pick T.cl)
theorem d_l_big {P : Program} {w : World} {K : PySem.W.Frag} {mg : Str → Option Value} {base : Heap} {f : Addr} {cdv : Value} {A : Around} {outer : List Env} {s : Shared} {H : Hp} {E : XK} {G : Gn} (T : Top K mg) (hgd : A.guards = some [])
    (hr : Room 1 (A.deeper (envOfC "_law_big" (defScope s_l_big) s.heap.objs.size f cdv))) :
    JSs (cxOf CX0 P w K mg base N_l_big "_law_big" (defScope s_l_big) f cdv A outer s H E).nox G (defBody s_l_big) (a_l_big T.cl fun p => G.H0 p = none) :=
    (jss_cons (js_set (i := 2) sc_l_big.nd rfl (Or.inl rfl) je_int)
    (jss_cons (js_for PassesOwn.never rfl (ji_range1 rfl T.n_range (ja_cons je_int ja_nil)) (jg_name (i := 3) sc_l_big.nd rfl (Or.inl rfl)) (jss_one (js_set (i := 2) sc_l_big.nd rfl (Or.inl rfl) (je_bin (jo_add mok0) (je_bin jo_mulI (je_var (pv 2)) je_int) (je_call (ok_l_draw T) (hr.mono (by decide)) hgd rfl T.m_l_draw T.F_l_draw.kp (b_l_draw T) (fun _ => passAt0) (@xok0 _ _ _) (ja_cons (je_var (pv 0)) (ja_cons je_int ja_nil)))))))
    (jss_one (js_ret (je_bin jo_mod (je_callTy jc_int rfl T.n_int (by decide +kernel) (ja_cons (je_var (pv 2)) ja_nil)) (je_var (pv 1)))))))
theorem ok_l_big {P : Program} {w : World} {K : PySem.W.Frag} {mg : Str → Option Value} {base : Heap} (T : Top K mg) : FnG P w K mg base CX0 2 T.f_l_big T.fd_l_big ["bag", "below"] (spOf K c_l_big) :=
  fn_ok0 (k := 1) T.F_l_big sc_l_big ari_l_big (fun cdv A outer s H E G hgd hr => d_l_big T hgd hr) (w_l_big T.cl)
theorem d_l_same {P : Program} {w : World} {K : PySem.W.Frag} {mg : Str → Option Value} {base : Heap} {f : Addr} {cdv : Value} {A : Around} {outer : List Env} {s : Shared} {H : Hp} {E : XK} {G : Gn} (T : Top K mg) {Cr : Con} {j k : Nat} (ih : FnG P w K mg base CX0 j T.f_l_same T.fd_l_same ["told", "due"] (spOf K Cr)) (hj : j ≤ k) (h0 : 1 ≤ k) (hgd : A.guards = some [])
    (hr : Room k (A.deeper (envOfC "_law_same" (defScope s_l_same) s.heap.objs.size f cdv))) :
    JSs (cxOf CX0 P w K mg base N_l_same "_law_same" (defScope s_l_same) f cdv A outer s H E).nox G (defBody s_l_same) (a_l_same Cr T.cl fun p => G.H0 p = none) :=
    (jss_cons (js_if (jt_of (je_callB jc_isi rfl T.n_isinstance (by decide +kernel) (ja_cons (je_var (pv 1)) (ja_cons (je_raw (v := .ty "tuple") (pe_bltn rfl T.n_tuple (by decide +kernel) rfl)) ja_nil)))) (jss_cons (js_if (jt_of (je_call (ok_l_is_row T) (hr.mono (Nat.le_trans (by decide) h0)) hgd rfl T.m_l_is_row T.F_l_is_row.kp (b_l_is_row T) (fun _ => passAt0) (@xok0 _ _ _) (ja_cons (je_var (pv 1)) ja_nil))) (jss_one (js_ret (je_and (je_call (ok_l_is_row T) (hr.mono (Nat.le_trans (by decide) h0)) hgd rfl T.m_l_is_row T.F_l_is_row.kp (b_l_is_row T) (fun _ => passAt0) (@xok0 _ _ _) (ja_cons (je_var (pv 0)) ja_nil)) (je_one (je_cmp (jo_eq hr.units) (je_var (pv 0)) (je_var (pv 1)) (nomark _)))))) jss_nil)
    (jss_cons (js_if (jw_pt (jw_or (jt_not (jt_of (je_callB jc_isi rfl T.n_isinstance (by decide +kernel) (ja_cons (je_var (pv 0)) (ja_cons (je_raw (v := .ty "tuple") (pe_bltn rfl T.n_tuple (by decide +kernel) rfl)) ja_nil))))) (jw_or1 (jt_cmp (jo_ne hr.units) (je_callB jc_len rfl T.n_len (by decide +kernel) (ja_cons (je_var (pv 0)) ja_nil)) (je_callB jc_len rfl T.n_len (by decide +kernel) (ja_cons (je_var (pv 1)) ja_nil)) (nomark _))))) (jss_one (js_ret je_bl)) jss_nil)
    (jss_one (js_ret (je_callB (jc_all rfl) rfl T.n_all (by decide +kernel) (ja_cons (je_lc mok0 rfl sc_l_same.nd (ji_zip rfl T.n_zip (ja_cons (je_var (pv 0)) (ja_cons (je_var (pv 1)) ja_nil))) (blkOk_by (own := [("one", 2), ("other", 3)]) (N := N_l_same) (sc := defScope s_l_same) (by decide +kernel)) (fun _ => (jgo_tup rfl (jgso1 (jgo_name (i := 2) (by first | decide | simp) sc_l_same.nd rfl (Or.inl rfl)) (jgso1 (jgo_name (i := 3) (by first | decide | simp) sc_l_same.nd rfl (Or.inl rfl)) jgso0)))) (fun _ => jts_nil) (fun _ => (je_call ih (hr.mono hj) hgd rfl T.m_l_same T.F_l_same.kp (b_l_same T) (fun _ => passAt0) (@xok0 _ _ _) (ja_cons (je_var (pv 2)) (ja_cons (je_var (pv 3)) ja_nil)))) (own := [("one", 2), ("other", 3)])) ja_nil)))))) jss_nil)
    (jss_cons (js_if (jt_cmp jo_is (je_var (pv 1)) je_non (nomark _)) (jss_one (js_ret (je_cmp jo_is (je_var (pv 0)) je_non (nomark _)))) jss_nil)
    (jss_cons (js_if (jt_of (je_callB jc_isi rfl T.n_isinstance (by decide +kernel) (ja_cons (je_var (pv 1)) (ja_cons (je_raw (v := .ty "bool") (pe_bltn rfl T.n_bool (by decide +kernel) rfl)) ja_nil)))) (jss_one (js_ret (je_and (je_callB jc_isi rfl T.n_isinstance (by decide +kernel) (ja_cons (je_var (pv 0)) (ja_cons (je_raw (v := .ty "bool") (pe_bltn rfl T.n_bool (by decide +kernel) rfl)) ja_nil))) (je_one (je_cmp (jo_eq hr.units) (je_var (pv 0)) (je_var (pv 1)) (nomark _)))))) jss_nil)
    (jss_cons (js_if (jt_of (je_callB jc_isi rfl T.n_isinstance (by decide +kernel) (ja_cons (je_var (pv 1)) (ja_cons (je_raw (v := .ty "str") (pe_bltn rfl T.n_str (by decide +kernel) rfl)) ja_nil)))) (jss_one (js_ret (je_and (je_callB jc_isi rfl T.n_isinstance (by decide +kernel) (ja_cons (je_var (pv 0)) (ja_cons (je_raw (v := .ty "str") (pe_bltn rfl T.n_str (by decide +kernel) rfl)) ja_nil))) (je_one (je_cmp (jo_eq hr.units) (je_var (pv 0)) (je_var (pv 1)) (nomark _)))))) jss_nil)
    (jss_one (js_ret (je_and (je_callB jc_isi rfl T.n_isinstance (by decide +kernel) (ja_cons (je_var (pv 0)) (ja_cons (je_raw (v := .ty "int") (pe_bltn rfl T.n_int (by decide +kernel) rfl)) ja_nil))) (je_and (je_not (je_callB jc_isi rfl T.n_isinstance (by decide +kernel) (ja_cons (je_var (pv 0)) (ja_cons (je_raw (v := .ty "bool") (pe_bltn rfl T.n_bool (by decide +kernel) rfl)) ja_nil)))) (je_one (je_cmp (jo_eq hr.units) (je_var (pv 0)) (je_var (pv 1)) (nomark _)))))))))))
theorem ok_l_same {P : Program} {w : World} {K : PySem.W.Frag} {mg : Str → Option Value} {base : Heap} (T : Top K mg) : ∀ n : Nat, FnG P w K mg base CX0 (2 + n) T.f_l_same T.fd_l_same ["told", "due"] (spOf K (c_l_same n)) 
  | 0 => fn_ok0 (k := 1) T.F_l_same sc_l_same (ari_l_same 0) (fun cdv A outer s H E G hgd hr => d_l_same T (Cr := recC c_l_same 0) (j := 0) fnG_no (by omega) (by omega) hgd hr) (w_l_same T.cl 0)
  | n + 1 => fn_ok0 (k := 2 + n) T.F_l_same sc_l_same (ari_l_same (n + 1)) (fun cdv A outer s H E G hgd hr => d_l_same T (Cr := recC c_l_same (n + 1)) (j := 2 + n) (ok_l_same T n) (by omega) (by omega) hgd hr) (w_l_same T.cl (n + 1))
theorem d_l_own_sum {P : Program} {w : World} {K : PySem.W.Frag} {mg : Str → Option Value} {base : Heap} {f : Addr} {cdv : Value} {A : Around} {outer : List Env} {s : Shared} {H : Hp} {E : XK} {G : Gn} (T : Top K mg) (hgd : A.guards = some [])
    (hr : Room 1 (A.deeper (envOfC "_law_own_sum" (defScope s_l_own_sum) s.heap.objs.size f cdv))) :
    JSs (cxOf CX0 P w K mg base N_l_own_sum "_law_own_sum" (defScope s_l_own_sum) f cdv A outer s H E).nox G (defBody s_l_own_sum) (a_l_own_sum T.cl fun p => G.H0 p = none) :=
    (jss_cons (js_asg (je_tup (ja_cons (je_call (ok_l_power T) (hr.mono (by decide)) hgd rfl T.m_l_power T.F_l_power.kp (b_l_power T) (fun _ => passAt0) (@xok0 _ _ _) (ja_cons (je_var (pv 0)) (ja_cons (je_var (pv 2)) ja_nil))) (ja_cons je_int (ja_cons je_int (ja_cons (je_var (pv 1)) ja_nil))))) (jg_tup rfl (jgs1 (jg_name (i := 4) sc_l_own_sum.nd rfl (Or.inl rfl)) (jgs1 (jg_name (i := 5) sc_l_own_sum.nd rfl (Or.inl rfl)) (jgs1 (jg_name (i := 6) sc_l_own_sum.nd rfl (Or.inl rfl)) (jgs1 (jg_name (i := 7) sc_l_own_sum.nd rfl (Or.inl rfl)) jgs0))))))
    (jss_cons (js_for PassesOwn.never rfl (ji_range1 rfl T.n_range (ja_cons je_int ja_nil)) (jg_name (i := 8) sc_l_own_sum.nd rfl (Or.inl rfl)) (jss_cons (js_if (jt_cmp (jo_eq hr.units) (je_var (pv 7)) je_int (nomark _)) (jss_one js_break) jss_nil)
    (jss_one (js_par3 (i := 5) (j := 6) (l := 7) rfl sc_l_own_sum.nd rfl rfl rfl (by decide) (by decide) (by decide) rfl rfl rfl (ja_cons (je_bin (jo_add mok0) (je_var (pv 5)) (je_bin jo_mulI (je_var (pv 6)) (je_bin jo_mod (je_callTy jc_int rfl T.n_int (by decide +kernel) (ja_cons (je_var (pv 7)) ja_nil)) (je_var (pv 4))))) (ja_cons (je_bin jo_mulI (je_var (pv 6)) (je_var (pv 3))) (ja_cons (je_bin jo_div (je_callTy jc_int rfl T.n_int (by decide +kernel) (ja_cons (je_var (pv 7)) ja_nil)) (je_var (pv 4))) ja_nil))) rfl))))
    (jss_one (js_ret (je_var (pv 5))))))
theorem ok_l_own_sum {P : Program} {w : World} {K : PySem.W.Frag} {mg : Str → Option Value} {base : Heap} (T : Top K mg) : FnG P w K mg base CX0 2 T.f_l_own_sum T.fd_l_own_sum ["b", "number", "k", "sign"] (spOf K c_l_own_sum) :=
  fn_ok0 (k := 1) T.F_l_own_sum sc_l_own_sum ari_l_own_sum (fun cdv A outer s H E G hgd hr => d_l_own_sum T hgd hr) (w_l_own_sum T.cl)
theorem d_l_uneven {P : Program} {w : World} {K : PySem.W.Frag} {mg : Str → Option Value} {base : Heap} {f : Addr} {cdv : Value} {A : Around} {outer : List Env} {s : Shared} {H : Hp} {E : XK} {G : Gn} (T : Top K mg) (hgd : A.guards = some [])
    (hr : Room 1 (A.deeper (envOfC "_law_uneven" (defScope s_l_uneven) s.heap.objs.size f cdv))) :
    JSs (cxOf CX0 P w K mg base N_l_uneven "_law_uneven" (defScope s_l_uneven) f cdv A outer s H E).nox G (defBody s_l_uneven) (a_l_uneven T.cl fun p => G.H0 p = none) :=
    (jss_cons (js_par3 (i := 3) (j := 4) (l := 5) rfl sc_l_uneven.nd rfl rfl rfl (by decide) (by decide) (by decide) rfl rfl rfl (ja_cons (je_call (ok_l_power T) (hr.mono (by decide)) hgd rfl T.m_l_power T.F_l_power.kp (b_l_power T) (fun _ => passAt0) (@xok0 _ _ _) (ja_cons (je_var (pv 1)) (ja_cons (je_var (pv 2)) ja_nil))) (ja_cons je_int (ja_cons je_int ja_nil))) rfl)
    (jss_cons (js_for PassesOwn.never rfl (ji_range1 rfl T.n_range (ja_cons je_int ja_nil)) (jg_name (i := 6) sc_l_uneven.nd rfl (Or.inl rfl)) (jss_cons (js_set (i := 7) sc_l_uneven.nd rfl (Or.inl rfl) (je_bin jo_sub (je_bin jo_sub (je_var (pv 3)) je_int) (je_bin jo_mulI (je_call (ok_l_draw T) (hr.mono (by decide)) hgd rfl T.m_l_draw T.F_l_draw.kp (b_l_draw T) (fun _ => passAt0) (@xok0 _ _ _) (ja_cons (je_var (pv 0)) (ja_cons je_int ja_nil))) (je_call (ok_l_draw T) (hr.mono (by decide)) hgd rfl T.m_l_draw T.F_l_draw.kp (b_l_draw T) (fun _ => passAt0) (@xok0 _ _ _) (ja_cons (je_var (pv 0)) (ja_cons (je_callB (jc_min2 rfl) rfl T.n_min (by decide +kernel) (ja_cons (je_var (pv 3)) (ja_cons je_int ja_nil))) ja_nil))))))
    (jss_cons (js_set (i := 8) sc_l_uneven.nd rfl (Or.inl rfl) (je_if (jt_cmp (jo_eq hr.units) (je_bin jo_mod (je_callTy jc_int rfl T.n_int (by decide +kernel) (ja_cons (je_var (pv 6)) ja_nil)) je_int) je_int (nomark _)) (je_var (pv 7)) (je_bin jo_mulI (je_call (ok_l_draw T) (hr.mono (by decide)) hgd rfl T.m_l_draw T.F_l_draw.kp (b_l_draw T) (fun _ => passAt0) (@xok0 _ _ _) (ja_cons (je_var (pv 0)) (ja_cons je_int ja_nil))) (je_call (ok_l_draw T) (hr.mono (by decide)) hgd rfl T.m_l_draw T.F_l_draw.kp (b_l_draw T) (fun _ => passAt0) (@xok0 _ _ _) (ja_cons (je_var (pv 0)) (ja_cons (je_callB (jc_min2 rfl) rfl T.n_min (by decide +kernel) (ja_cons (je_var (pv 3)) (ja_cons je_int ja_nil))) ja_nil))))))
    (jss_cons (js_if (jt_cmp jo_gt (je_bin (jo_add mok0) (je_var (pv 5)) (je_bin jo_mulI (je_var (pv 8)) (je_var (pv 4)))) (je_bin jo_pow je_int je_int) (nomark _)) (jss_one js_break) jss_nil)
    (jss_one (js_par2 (i := 5) (j := 4) rfl sc_l_uneven.nd rfl rfl (by decide) rfl rfl (ja_cons (je_bin (jo_add mok0) (je_var (pv 5)) (je_bin jo_mulI (je_var (pv 8)) (je_var (pv 4)))) (ja_cons (je_bin jo_mulI (je_var (pv 4)) (je_var (pv 3))) ja_nil)) rfl))))))
    (jss_one (js_ret (je_var (pv 5))))))
theorem ok_l_uneven {P : Program} {w : World} {K : PySem.W.Frag} {mg : Str → Option Value} {base : Heap} (T : Top K mg) : FnG P w K mg base CX0 2 T.f_l_uneven T.fd_l_uneven ["bag", "b", "k"] (spOf K c_l_uneven) :=
  fn_ok0 (k := 1) T.F_l_uneven sc_l_uneven ari_l_uneven (fun cdv A outer s H E G hgd hr => d_l_uneven T hgd hr) (w_l_uneven T.cl)
theorem d_l_edges {P : Program} {w : World} {K : PySem.W.Frag} {mg : Str → Option Value} {base : Heap} {f : Addr} {cdv : Value} {A : Around} {outer : List Env} {s : Shared} {H : Hp} {E : XK} {G : Gn} (T : Top K mg) (hgd : A.guards = some [])
    (hr : Room 1 (A.deeper (envOfC "_law_edges" (defScope s_l_edges) s.heap.objs.size f cdv))) :
    JSs (cxOf CX0 P w K mg base N_l_edges "_law_edges" (defScope s_l_edges) f cdv A outer s H E).nox G (defBody s_l_edges) (a_l_edges T.cl fun p => G.H0 p = none) :=
    (jss_cons (js_set (i := 2) sc_l_edges.nd rfl (Or.inl rfl) (je_call (ok_l_power T) (hr.mono (by decide)) hgd rfl T.m_l_power T.F_l_power.kp (b_l_power T) (fun _ => passAt0) (@xok0 _ _ _) (ja_cons (je_var (pv 0)) (ja_cons (je_var (pv 1)) ja_nil))))
    (jss_cons (js_set (i := 3) sc_l_edges.nd rfl (Or.inl rfl) (je_lst mok0 (ja_cons je_int (ja_cons (je_bin jo_sub (je_var (pv 2)) je_int) (ja_cons (je_var (pv 2)) (ja_cons (je_bin (jo_add mok0) (je_var (pv 2)) je_int) (ja_cons (je_bin jo_mulI (je_var (pv 2)) (je_bin jo_sub (je_var (pv 2)) je_int)) (ja_cons (je_bin (jo_add mok0) (je_bin jo_mulI (je_var (pv 2)) (je_bin jo_sub (je_var (pv 2)) je_int)) (je_bin jo_mulI (je_bin jo_mulI (je_var (pv 2)) (je_var (pv 2))) (je_var (pv 2)))) ja_nil))))))))
    (jss_one (js_ret (je_lc mok0 rfl sc_l_edges.nd (ji_of (je_var (pv 3))) (blkOk_by (own := [("number", 4)]) (N := N_l_edges) (sc := defScope s_l_edges) (by decide +kernel)) (fun _ => (jgo_name (i := 4) (by first | decide | simp) sc_l_edges.nd rfl (Or.inl rfl))) (fun _ => (jts_one (jt_cmp jo_le (je_var (pv 4)) (je_bin jo_pow je_int je_int) (nomark _)))) (fun _ => (je_var (pv 4))) (own := [("number", 4)]))))))
theorem ok_l_edges {P : Program} {w : World} {K : PySem.W.Frag} {mg : Str → Option Value} {base : Heap} (T : Top K mg) : FnG P w K mg base CX0 2 T.f_l_edges T.fd_l_edges ["b", "k"] (spOf K c_l_edges) :=
  fn_ok0 (k := 1) T.F_l_edges sc_l_edges ari_l_edges (fun cdv A outer s H E G hgd hr => d_l_edges T hgd hr) (w_l_edges T.cl)
theorem d_l_own_pair {P : Program} {w : World} {K : PySem.W.Frag} {mg : Str → Option Value} {base : Heap} {f : Addr} {cdv : Value} {A : Around} {outer : List Env} {s : Shared} {H : Hp} {E : XK} {G : Gn} (T : Top K mg) (hgd : A.guards = some [])
    (hr : Room 2 (A.deeper (envOfC "_law_own_pair" (defScope s_l_own_pair) s.heap.objs.size f cdv))) :
    JSs (cxOf CX0 P w K mg base N_l_own_pair "_law_own_pair" (defScope s_l_own_pair) f cdv A outer s H E).nox G (defBody s_l_own_pair) (a_l_own_pair T.cl fun p => G.H0 p = none) :=
    (jss_cons (js_set (i := 1) sc_l_own_pair.nd rfl (Or.inl rfl) (je_lst mok0 (ja_cons (je_tup (ja_cons je_int (ja_cons je_int ja_nil))) (ja_cons (je_tup (ja_cons je_int (ja_cons je_int ja_nil))) (ja_cons (je_tup (ja_cons je_int (ja_cons je_int ja_nil))) (ja_cons (je_tup (ja_cons je_int (ja_cons je_int ja_nil))) (ja_cons (je_tup (ja_cons je_int (ja_cons je_int ja_nil))) (ja_cons (je_tup (ja_cons je_int (ja_cons je_int ja_nil))) (ja_cons (je_tup (ja_cons je_int (ja_cons je_int ja_nil))) (ja_cons (je_tup (ja_cons je_int (ja_cons je_int ja_nil))) (ja_cons (je_tup (ja_cons je_int (ja_cons je_int ja_nil))) (ja_cons (je_tup (ja_cons je_int (ja_cons je_int ja_nil))) (ja_cons (je_tup (ja_cons je_int (ja_cons je_int ja_nil))) (ja_cons (je_tup (ja_cons je_int (ja_cons je_int ja_nil))) (ja_cons (je_tup (ja_cons je_int (ja_cons je_int ja_nil))) (ja_cons (je_tup (ja_cons je_int (ja_cons je_int ja_nil))) (ja_cons (je_tup (ja_cons je_int (ja_cons je_int ja_nil))) (ja_cons (je_tup (ja_cons je_int (ja_cons je_int ja_nil))) (ja_cons (je_tup (ja_cons je_int (ja_cons je_int ja_nil))) (ja_cons (je_tup (ja_cons je_int (ja_cons je_int ja_nil))) (ja_cons (je_tup (ja_cons je_int (ja_cons je_int ja_nil))) (ja_cons (je_tup (ja_cons je_int (ja_cons je_int ja_nil))) (ja_cons (je_tup (ja_cons je_int (ja_cons je_int ja_nil))) (ja_cons (je_tup (ja_cons je_int (ja_cons je_int ja_nil))) (ja_cons (je_tup (ja_cons je_int (ja_cons je_int ja_nil))) (ja_cons (je_tup (ja_cons je_int (ja_cons je_int ja_nil))) (ja_cons (je_tup (ja_cons je_int (ja_cons je_int ja_nil))) (ja_cons (je_tup (ja_cons je_int (ja_cons je_int ja_nil))) (ja_cons (je_tup (ja_cons je_int (ja_cons je_int ja_nil))) ja_nil)))))))))))))))))))))))))))))
    (jss_cons (js_if (jt_cmp (jo_eq hr.units) (je_call (ok_l_draw T) (hr.mono (by decide)) hgd rfl T.m_l_draw T.F_l_draw.kp (b_l_draw T) (fun _ => passAt0) (@xok0 _ _ _) (ja_cons (je_var (pv 0)) (ja_cons je_int ja_nil))) je_int (nomark _)) (jss_one (js_ret (je_call (ok_l_pick T) (hr.mono (by decide)) hgd rfl T.m_l_pick T.F_l_pick.kp (b_l_pick T) (fun _ => passAt0) (@xok0 _ _ _) (ja_cons (je_var (pv 0)) (ja_cons (je_var (pv 1)) ja_nil))))) jss_nil)
    (jss_cons (js_for PassesOwn.never rfl (ji_range1 rfl T.n_range (ja_cons je_int ja_nil)) (jg_name (i := 2) sc_l_own_pair.nd rfl (Or.inl rfl)) (jss_cons (js_set (i := 3) sc_l_own_pair.nd rfl (Or.inl rfl) (je_call (ok_l_pick T) (hr.mono (by decide)) hgd rfl T.m_l_pick T.F_l_pick.kp (b_l_pick T) (fun _ => passAt0) (@xok0 _ _ _) (ja_cons (je_var (pv 0)) (ja_cons (je_lst mok0 (ja_cons je_int (ja_cons je_int (ja_cons je_int (ja_cons (je_bin (jo_add mok0) je_int (je_call (ok_l_draw T) (hr.mono (by decide)) hgd rfl T.m_l_draw T.F_l_draw.kp (b_l_draw T) (fun _ => passAt0) (@xok0 _ _ _) (ja_cons (je_var (pv 0)) (ja_cons je_int ja_nil)))) (ja_cons (je_bin (jo_add mok0) je_int (je_call (ok_l_draw T) (hr.mono (by decide)) hgd rfl T.m_l_draw T.F_l_draw.kp (b_l_draw T) (fun _ => passAt0) (@xok0 _ _ _) (ja_cons (je_var (pv 0)) (ja_cons je_int ja_nil)))) (ja_cons (je_bin (jo_add mok0) je_int (je_call (ok_l_draw T) (hr.mono (by decide)) hgd rfl T.m_l_draw T.F_l_draw.kp (b_l_draw T) (fun _ => passAt0) (@xok0 _ _ _) (ja_cons (je_var (pv 0)) (ja_cons je_int ja_nil)))) ja_nil))))))) ja_nil))))
    (jss_cons (js_set (i := 4) sc_l_own_pair.nd rfl (Or.inl rfl) (je_call (ok_l_pick T) (hr.mono (by decide)) hgd rfl T.m_l_pick T.F_l_pick.kp (b_l_pick T) (fun _ => passAt0) (@xok0 _ _ _) (ja_cons (je_var (pv 0)) (ja_cons (je_bin (jo_add mok0) (je_lst mok0 (ja_cons je_int (ja_cons je_int (ja_cons (je_bin jo_sub (je_var (pv 3)) je_int) (ja_cons (je_bin (jo_add mok0) (je_var (pv 3)) je_int) (ja_cons je_int (ja_cons je_int ja_nil))))))) (je_bin (jo_mul mok0) (je_lst mok0 (ja_cons (je_bin (jo_add mok0) je_int (je_call (ok_l_draw T) (hr.mono (by decide)) hgd rfl T.m_l_draw T.F_l_draw.kp (b_l_draw T) (fun _ => passAt0) (@xok0 _ _ _) (ja_cons (je_var (pv 0)) (ja_cons je_int ja_nil)))) ja_nil)) je_int)) ja_nil))))
    (jss_one (js_if (jt_cmp (jo_eq hr.units) (je_call (ok_l_common T) (hr.mono (by decide)) hgd rfl T.m_l_common T.F_l_common.kp (b_l_common T) (fun _ => passAt0) (@xok0 _ _ _) (ja_cons (je_var (pv 3)) (ja_cons (je_var (pv 4)) ja_nil))) je_int (nomark _)) (jss_one (js_ret (je_tup (ja_cons (je_var (pv 3)) (ja_cons (je_var (pv 4)) ja_nil))))) jss_nil)))))
    (jss_one (js_ret (je_tup (ja_cons je_int (ja_cons je_int ja_nil))))))))
theorem ok_l_own_pair {P : Program} {w : World} {K : PySem.W.Frag} {mg : Str → Option Value} {base : Heap} (T : Top K mg) : FnG P w K mg base CX0 3 T.f_l_own_pair T.fd_l_own_pair ["bag"] (spOf K c_l_own_pair) :=
  fn_ok0 (k := 2) T.F_l_own_pair sc_l_own_pair ari_l_own_pair (fun cdv A outer s H E G hgd hr => d_l_own_pair T hgd hr) (w_l_own_pair T.cl)
theorem d_l_alike_pair {P : Program} {w : World} {K : PySem.W.Frag} {mg : Str → Option Value} {base : Heap} {f : Addr} {cdv : Value} {A : Around} {outer : List Env} {s : Shared} {H : Hp} {E : XK} {G : Gn} (T : Top K mg) (hgd : A.guards = some [])
    (hr : Room 2 (A.deeper (envOfC "_law_alike_pair" (defScope s_l_alike_pair) s.heap.objs.size f cdv))) :
    JSs (cxOf CX0 P w K mg base N_l_alike_pair "_law_alike_pair" (defScope s_l_alike_pair) f cdv A outer s H E).nox G (defBody s_l_alike_pair) (a_l_alike_pair T.cl fun p => G.H0 p = none) :=
    (jss_cons (js_set (i := 1) sc_l_alike_pair.nd rfl (Or.inr rfl) (je_bin (jo_add mok0) je_int (je_call (ok_l_draw T) (hr.mono (by decide)) hgd rfl T.m_l_draw T.F_l_draw.kp (b_l_draw T) (fun _ => passAt0) (@xok0 _ _ _) (ja_cons (je_var (pv 0)) (ja_cons je_int ja_nil)))))
    (jss_cons (js_set (i := 2) sc_l_alike_pair.nd rfl (Or.inl rfl) (je_call (ok_l_pick T) (hr.mono (by decide)) hgd rfl T.m_l_pick T.F_l_pick.kp (b_l_pick T) (fun _ => passAt0) (@xok0 _ _ _) (ja_cons (je_var (pv 0)) (ja_cons (je_lc mok0 rfl sc_l_alike_pair.nd (ji_range2 rfl T.n_range (ja_cons je_int (ja_cons (je_bin (jo_add mok0) (je_var (pv 1)) je_int) ja_nil))) (blkOk_by (own := [("f", 2)]) (N := N_l_alike_pair) (sc := defScope s_l_alike_pair) (by decide +kernel)) (fun _ => (jgo_name (i := 2) (by first | decide | simp) sc_l_alike_pair.nd rfl (Or.inl rfl))) (fun _ => (jts_one (jt_cmp (jo_eq hr.units) (je_bin jo_mod (je_callTy jc_int rfl T.n_int (by decide +kernel) (ja_cons (je_var (pv 1)) ja_nil)) (je_var (pv 2))) je_int (nomark _)))) (fun _ => (je_var (pv 2))) (own := [("f", 2)])) ja_nil))))
    (jss_one (js_ret (je_tup (ja_cons (je_var (pv 1)) (ja_cons (je_bin jo_mulI (je_var (pv 2)) (je_bin (jo_add mok0) je_int (je_call (ok_l_draw T) (hr.mono (by decide)) hgd rfl T.m_l_draw T.F_l_draw.kp (b_l_draw T) (fun _ => passAt0) (@xok0 _ _ _) (ja_cons (je_var (pv 0)) (ja_cons (je_bin jo_div je_int (je_var (pv 2))) ja_nil))))) ja_nil)))))))
theorem ok_l_alike_pair {P : Program} {w : World} {K : PySem.W.Frag} {mg : Str → Option Value} {base : Heap} (T : Top K mg) : FnG P w K mg base CX0 3 T.f_l_alike_pair T.fd_l_alike_pair ["bag"] (spOf K c_l_alike_pair) :=
  fn_ok0 (k := 2) T.F_l_alike_pair sc_l_alike_pair ari_l_alike_pair (fun cdv A outer s H E G hgd hr => d_l_alike_pair T hgd hr) (w_l_alike_pair T.cl)
theorem d_l_own_way {P : Program} {w : World} {K : PySem.W.Frag} {mg : Str → Option Value} {base : Heap} {f : Addr} {cdv : Value} {A : Around} {outer : List Env} {s : Shared} {H : Hp} {E : XK} {G : Gn} (T : Top K mg) (hgd : A.guards = some [])
    (hr : Room 2 (A.deeper (envOfC "_law_own_way" (defScope s_l_own_way) s.heap.objs.size f cdv))) :
    JSs (cxOf CX0 P w K mg base N_l_own_way "_law_own_way" (defScope s_l_own_way) f cdv A outer s H E).nox G (defBody s_l_own_way) (a_l_own_way T.cl fun p => G.H0 p = none) :=
    (jss_cons (js_asg (je_call (ok_l_own_rule T) (hr.mono (by decide)) hgd rfl T.m_l_own_rule T.F_l_own_rule.kp (b_l_own_rule T) (fun _ => passAt0) (@xok0 _ _ _) (ja_cons (je_var (pv 0)) (ja_cons (je_var (pv 1)) ja_nil))) (jg_tup rfl (jgs1 (jg_name (i := 3) sc_l_own_way.nd rfl (Or.inl rfl)) (jgs1 (jg_name (i := 4) sc_l_own_way.nd rfl (Or.inl rfl)) jgs0))))
    (jss_cons (js_par2 (i := 5) (j := 6) rfl sc_l_own_way.nd rfl rfl (by decide) rfl rfl (ja_cons (je_call (ok_l_power T) (hr.mono (by decide)) hgd rfl T.m_l_power T.F_l_power.kp (b_l_power T) (fun _ => passAt0) (@xok0 _ _ _) (ja_cons (je_var (pv 0)) (ja_cons (je_var (pv 3)) ja_nil))) (ja_cons (je_lst mok1 (ja_cons (je_var (pv 2)) ja_nil)) ja_nil)) rfl)
    (jss_cons (js_for PassesOwn.never rfl (ji_range1 rfl T.n_range (ja_cons je_int ja_nil)) (jg_name (i := 7) sc_l_own_way.nd rfl (Or.inl rfl)) (jss_cons (js_set (i := 8) sc_l_own_way.nd rfl (Or.inl rfl) (je_ix jx_seq (je_var (pv 6)) (je_un ju_neg je_int) (fun _ _ => rfl)))
    (jss_cons (js_if (jt_cmp jo_lt (je_callB jc_abs rfl T.n_abs (by decide +kernel) (ja_cons (je_var (pv 8)) ja_nil)) (je_var (pv 5)) (nomark _)) (jss_one js_break) jss_nil)
    (jss_cons (js_set (i := 9) sc_l_own_way.nd rfl (Or.inl rfl) (je_call (ok_l_own_sum T) (hr.mono (by decide)) hgd rfl T.m_l_own_sum T.F_l_own_sum.kp (b_l_own_sum T) (fun _ => passAt0) (@xok0 _ _ _) (ja_cons (je_var (pv 0)) (ja_cons (je_callB jc_abs rfl T.n_abs (by decide +kernel) (ja_cons (je_var (pv 8)) ja_nil)) (ja_cons (je_var (pv 3)) (ja_cons (je_var (pv 4)) ja_nil))))))
    (jss_one (js_expr (je_ml PySem.F.slot_list_append PySem.F.type_list_append jm_append (je_var (pv 6)) (ja_cons (je_if (jt_cmp jo_ge (je_var (pv 8)) je_int (nomark _)) (je_var (pv 9)) (je_un ju_neg (je_var (pv 9)))) ja_nil))))))))
    (jss_one (js_retD (je_callTy jc_tupleOf rfl T.n_tuple (by decide +kernel) (ja_cons (je_var (pv 6)) ja_nil)))))))
theorem ok_l_own_way {P : Program} {w : World} {K : PySem.W.Frag} {mg : Str → Option Value} {base : Heap} (T : Top K mg) : FnG P w K mg base CX0 3 T.f_l_own_way T.fd_l_own_way ["b", "m", "number"] (spOf K c_l_own_way) :=
  fn_ok0 (k := 2) T.F_l_own_way sc_l_own_way ari_l_own_way (fun cdv A outer s H E G hgd hr => d_l_own_way T hgd hr) (w_l_own_way T.cl)
theorem d_l_number {P : Program} {w : World} {K : PySem.W.Frag} {mg : Str → Option Value} {base : Heap} {f : Addr} {cdv : Value} {A : Around} {outer : List Env} {s : Shared} {H : Hp} {E : XK} {G : Gn} (T : Top K mg) (hgd : A.guards = some [])
    (hr : Room 2 (A.deeper (envOfC "_law_number" (defScope s_l_number) s.heap.objs.size f cdv))) :
    JSs (cxOf CX0 P w K mg base N_l_number "_law_number" (defScope s_l_number) f cdv A outer s H E).nox G (defBody s_l_number) (a_l_number T.cl fun p => G.H0 p = none) :=
    (jss_cons (js_par2 (i := 4) (j := 5) rfl sc_l_number.nd rfl rfl (by decide) rfl rfl (ja_cons (je_bin jo_pow je_int je_int) (ja_cons (je_call (ok_l_draw T) (hr.mono (by decide)) hgd rfl T.m_l_draw T.F_l_draw.kp (b_l_draw T) (fun _ => passAt0) (@xok0 _ _ _) (ja_cons (je_var (pv 0)) (ja_cons je_int ja_nil))) ja_nil)) rfl)
    (jss_cons (js_if (jt_cmp (jo_eq hr.units) (je_var (pv 5)) je_int (nomark _)) (jss_one (js_ret (je_call (ok_l_pick T) (hr.mono (by decide)) hgd rfl T.m_l_pick T.F_l_pick.kp (b_l_pick T) (fun _ => passAt0) (@xok0 _ _ _) (ja_cons (je_var (pv 0)) (ja_cons (je_lst mok0 (ja_cons je_int (ja_cons je_int (ja_cons (je_var (pv 4)) (ja_cons (je_var (pv 4)) (ja_cons (je_bin jo_sub (je_var (pv 4)) je_int) ja_nil)))))) ja_nil))))) jss_nil)
    (jss_cons (js_if (jt_cmp (jo_eq hr.units) (je_var (pv 5)) je_int (nomark _)) (jss_one (js_ret (je_call (ok_l_draw T) (hr.mono (by decide)) hgd rfl T.m_l_draw T.F_l_draw.kp (b_l_draw T) (fun _ => passAt0) (@xok0 _ _ _) (ja_cons (je_var (pv 0)) (ja_cons (je_bin jo_mulI (je_bin jo_mulI je_int (je_var (pv 2))) (je_var (pv 1))) ja_nil))))) jss_nil)
    (jss_cons (js_if (jt_cmp (jo_eq hr.units) (je_var (pv 5)) je_int (nomark _)) (jss_one (js_ret (je_callB (jc_min2 rfl) rfl T.n_min (by decide +kernel) (ja_cons (je_var (pv 4)) (ja_cons (je_bin jo_sub (je_bin (jo_add mok0) (je_call (ok_l_power T) (hr.mono (by decide)) hgd rfl T.m_l_power T.F_l_power.kp (b_l_power T) (fun _ => passAt0) (@xok0 _ _ _) (ja_cons (je_var (pv 1)) (ja_cons (je_call (ok_l_draw T) (hr.mono (by decide)) hgd rfl T.m_l_draw T.F_l_draw.kp (b_l_draw T) (fun _ => passAt0) (@xok0 _ _ _) (ja_cons (je_var (pv 0)) (ja_cons je_int ja_nil))) ja_nil))) (je_call (ok_l_draw T) (hr.mono (by decide)) hgd rfl T.m_l_draw T.F_l_draw.kp (b_l_draw T) (fun _ => passAt0) (@xok0 _ _ _) (ja_cons (je_var (pv 0)) (ja_cons je_int ja_nil)))) je_int) ja_nil))))) jss_nil)
    (jss_cons (js_if (jt_cmp (jo_eq hr.units) (je_var (pv 5)) je_int (nomark _)) (jss_one (js_ret (je_bin jo_mulI (je_var (pv 2)) (je_call (ok_l_big T) (hr.mono (by decide)) hgd rfl T.m_l_big T.F_l_big.kp (b_l_big T) (fun _ => passAt0) (@xok0 _ _ _) (ja_cons (je_var (pv 0)) (ja_cons (je_bin (jo_add mok0) (je_bin jo_div (je_var (pv 4)) (je_var (pv 2))) je_int) ja_nil)))))) jss_nil)
    (jss_cons (js_if (jt_cmp jo_lt (je_var (pv 5)) je_int (nomark _)) (jss_one (js_ret (je_call (ok_l_uneven T) (hr.mono (by decide)) hgd rfl T.m_l_uneven T.F_l_uneven.kp (b_l_uneven T) (fun _ => passAt0) (@xok0 _ _ _) (ja_cons (je_var (pv 0)) (ja_cons (je_var (pv 1)) (ja_cons (je_var (pv 3)) ja_nil)))))) jss_nil)
    (jss_one (js_ret (je_call (ok_l_big T) (hr.mono (by decide)) hgd rfl T.m_l_big T.F_l_big.kp (b_l_big T) (fun _ => passAt0) (@xok0 _ _ _) (ja_cons (je_var (pv 0)) (ja_cons (je_bin (jo_add mok0) (je_var (pv 4)) je_int) ja_nil)))))))))))
theorem ok_l_number {P : Program} {w : World} {K : PySem.W.Frag} {mg : Str → Option Value} {base : Heap} (T : Top K mg) : FnG P w K mg base CX0 3 T.f_l_number T.fd_l_number ["bag", "b", "m", "k"] (spOf K c_l_number) :=
  fn_ok0 (k := 2) T.F_l_number sc_l_number ari_l_number (fun cdv A outer s H E G hgd hr => d_l_number T hgd hr) (w_l_number T.cl)
theorem d_l_is_refused {P : Program} {w : World} {K : PySem.W.Frag} {mg : Str → Option Value} {base : Heap} {f : Addr} {cdv : Value} {A : Around} {outer : List Env} {s : Shared} {H : Hp} {E : XK} {G : Gn} (T : Top K mg) (hgd : A.guards = some [])
    (hr : Room 2 (A.deeper (envOfC "_law_is_refused" (defScope s_l_is_refused) s.heap.objs.size f cdv))) :
    JSs (cxOf CX0 P w K mg base N_l_is_refused "_law_is_refused" (defScope s_l_is_refused) f cdv A outer s H E).nox G (defBody s_l_is_refused) (a_l_is_refused T.cl fun p => G.H0 p = none) :=
    (jss_one (js_tryAs (i := 4) (cls := .ref T.cl.Unfit) rfl rfl sc_l_is_refused.nd rfl rfl ⟨rfl, by decide, Or.inl T.g_BaseError⟩ T.ex_Unfit_BaseError (fun G' Ξ1 W pn xe hg hx tk po => (jss_cons (js_if (jt_cmp (jo_eq hr.units) (je_var (pv 3)) je_int (nomark _)) (jss_one (js_expr (je_call (ok_block_rule T) (hr.mono (by decide)) hgd rfl T.m_block_rule T.F_block_rule.kp (b_block_rule T) (fun σ => L2N.passAt tk σ) hx (ja_cons (je_var (pv 0)) (ja_cons (je_var (pv 1)) ja_nil))))) (jss_one (js_if (jt_cmp (jo_eq hr.units) (je_var (pv 3)) je_int (nomark _)) (jss_one (js_expr (je_call (ok_block_way T) (hr.mono (by decide)) hgd rfl T.m_block_way T.F_block_way.kp (b_block_way T) (fun σ => L2N.passAt tk σ) hx (ja_cons (je_var (pv 0)) (ja_cons (je_var (pv 1)) (ja_cons (je_var (pv 2)) ja_nil)))))) (jss_one (js_if (jt_cmp (jo_eq hr.units) (je_var (pv 3)) je_int (nomark _)) (jss_one (js_expr (je_callK0 (ks := ["b", "m"]) (ok_block_rule T) (hr.mono (by decide)) hgd rfl T.m_block_rule T.F_block_rule.kp (kargs T.F_block_rule (ps := ["b", "m"]) (ks := ["b", "m"]) (n := 0) (π := [0, 1]) fun _ _ _ _ _ _ us ws h1 h2 => match us, ws, h1, h2 with | [], [_, _], _, _ => rfl) (by decide) (fun σ => L2N.passAt tk σ) hx (jk_cons (je_var (pv 0)) (jk_cons (je_var (pv 1)) jk_nil))))) (jss_one (js_expr (je_callK0 (ks := ["b", "m", "number"]) (ok_block_way T) (hr.mono (by decide)) hgd rfl T.m_block_way T.F_block_way.kp (kargs T.F_block_way (ps := ["b", "m", "number"]) (ks := ["b", "m", "number"]) (n := 0) (π := [0, 1, 2]) fun _ _ _ _ _ _ us ws h1 h2 => match us, ws, h1, h2 with | [], [_, _, _], _, _ => rfl) (by decide) (fun σ => L2N.passAt tk σ) hx (jk_cons (je_var (pv 0)) (jk_cons (je_var (pv 1)) (jk_cons (je_var (pv 2)) jk_nil)))))))))))
    (jss_one (js_ret je_bl)))) (fun e1 oe pn hz hf => (jss_cons (js_set (i := 5) sc_l_is_refused.nd rfl (Or.inl rfl) (je_and (je_callB (jc_isE List.mem_cons_self T.ec_Unfit hz hf is_ref T.is_Unfit_Unfit) rfl T.n_isinstance (by decide +kernel) (ja_cons (je_var (pv 4)) (ja_cons (je_raw (v := .ref T.cl.Unfit) (pe_glob rfl T.g_Unfit rfl)) ja_nil))) (je_and (je_callB (jc_isE List.mem_cons_self T.ec_Unfit hz hf is_ty T.is_Unfit_ValueError) rfl T.n_isinstance (by decide +kernel) (ja_cons (je_var (pv 4)) (ja_cons (je_raw (v := .ty "ValueError") (pe_bltn rfl T.n_ValueError (by decide +kernel) rfl)) ja_nil))) (je_one (je_not (je_callB (jc_isE List.mem_cons_self T.ec_Unfit hz hf is_ref T.is_Unfit_TooMany) rfl T.n_isinstance (by decide +kernel) (ja_cons (je_var (pv 4)) (ja_cons (je_raw (v := .ref T.cl.TooMany) (pe_glob rfl T.g_TooMany rfl)) ja_nil))))))))
    (jss_cons (js_if (jw_pt (jw_or (jt_of (je_callB (jc_isE List.mem_cons_self T.ec_Unfit hz hf is_ref T.is_Unfit_BadText) rfl T.n_isinstance (by decide +kernel) (ja_cons (je_var (pv 4)) (ja_cons (je_raw (v := .ref T.cl.BadText) (pe_glob rfl T.g_BadText rfl)) ja_nil)))) (jw_or (jt_of (je_callB (jc_isE List.mem_cons_self T.ec_Unfit hz hf is_ref T.is_Unfit_BadWord) rfl T.n_isinstance (by decide +kernel) (ja_cons (je_var (pv 4)) (ja_cons (je_raw (v := .ref T.cl.BadWord) (pe_glob rfl T.g_BadWord rfl)) ja_nil)))) (jw_or1 (jt_of (je_callB (jc_isE List.mem_cons_self T.ec_Unfit hz hf is_ref T.is_Unfit_BadLog) rfl T.n_isinstance (by decide +kernel) (ja_cons (je_var (pv 4)) (ja_cons (je_raw (v := .ref T.cl.BadLog) (pe_glob rfl T.g_BadLog rfl)) ja_nil)))))))) (jss_one (js_set (i := 5) sc_l_is_refused.nd rfl (Or.inl rfl) je_bl)) jss_nil)
    (jss_cons (js_if (jw_pt (jw_or (jt_of (je_callB (jc_isE List.mem_cons_self T.ec_Unfit hz hf is_ref T.is_Unfit_Refused) rfl T.n_isinstance (by decide +kernel) (ja_cons (je_var (pv 4)) (ja_cons (je_raw (v := .ref T.cl.Refused) (pe_glob rfl T.g_Refused rfl)) ja_nil)))) (jw_or (jt_of (je_callB (jc_isE List.mem_cons_self T.ec_Unfit hz hf is_ref T.is_Unfit_NothingToUndo) rfl T.n_isinstance (by decide +kernel) (ja_cons (je_var (pv 4)) (ja_cons (je_raw (v := .ref T.cl.NothingToUndo) (pe_glob rfl T.g_NothingToUndo rfl)) ja_nil)))) (jw_or1 (jt_of (je_callB (jc_isE List.mem_cons_self T.ec_Unfit hz hf is_ref T.is_Unfit_NothingToRedo) rfl T.n_isinstance (by decide +kernel) (ja_cons (je_var (pv 4)) (ja_cons (je_raw (v := .ref T.cl.NothingToRedo) (pe_glob rfl T.g_NothingToRedo rfl)) ja_nil)))))))) (jss_one (js_set (i := 5) sc_l_is_refused.nd rfl (Or.inl rfl) je_bl)) jss_nil)
    (jss_one (js_ret (je_and (je_var (pv 5)) (je_and (je_not (je_callB (jc_isE List.mem_cons_self T.ec_Unfit hz hf is_ref T.is_Unfit_NoName) rfl T.n_isinstance (by decide +kernel) (ja_cons (je_var (pv 4)) (ja_cons (je_raw (v := .ref T.cl.NoName) (pe_glob rfl T.g_NoName rfl)) ja_nil)))) (je_one (je_not (je_callB (jc_isE List.mem_cons_self T.ec_Unfit hz hf is_ref T.is_Unfit_NoVersion) rfl T.n_isinstance (by decide +kernel) (ja_cons (je_var (pv 4)) (ja_cons (je_raw (v := .ref T.cl.NoVersion) (pe_glob rfl T.g_NoVersion rfl)) ja_nil)))))))))))))))
theorem ok_l_is_refused {P : Program} {w : World} {K : PySem.W.Frag} {mg : Str → Option Value} {base : Heap} (T : Top K mg) : FnG P w K mg base CX0 3 T.f_l_is_refused T.fd_l_is_refused ["b", "m", "number", "way"] (spOf K c_l_is_refused) :=
  fn_ok0 (k := 2) T.F_l_is_refused sc_l_is_refused ari_l_is_refused (fun cdv A outer s H E G hgd hr => d_l_is_refused T hgd hr) (w_l_is_refused T.cl)
theorem d_l_are_sums_right {P : Program} {w : World} {K : PySem.W.Frag} {mg : Str → Option Value} {base : Heap} {f : Addr} {cdv : Value} {A : Around} {outer : List Env} {s : Shared} {H : Hp} {E : XK} {G : Gn} (T : Top K mg) (hgd : A.guards = some [])
    (hr : Room 2 (A.deeper (envOfC "_law_are_sums_right" (defScope s_l_are_sums_right) s.heap.objs.size f cdv))) :
    JSs (cxOf CX0 P w K mg base N_l_are_sums_right "_law_are_sums_right" (defScope s_l_are_sums_right) f cdv A outer s H E).nox G (defBody s_l_are_sums_right) (a_l_are_sums_right T.cl fun p => G.H0 p = none) :=
    (jss_cons (js_asg (je_call (ok_l_own_rule T) (hr.mono (by decide)) hgd rfl T.m_l_own_rule T.F_l_own_rule.kp (b_l_own_rule T) (fun _ => passAt0) (@xok0 _ _ _) (ja_cons (je_var (pv 1)) (ja_cons (je_var (pv 2)) ja_nil))) (jg_tup rfl (jgs1 (jg_name (i := 4) sc_l_are_sums_right.nd rfl (Or.inl rfl)) (jgs1 (jg_name (i := 5) sc_l_are_sums_right.nd rfl (Or.inl rfl)) jgs0))))
    (jss_cons (js_set (i := 6) sc_l_are_sums_right.nd rfl (Or.inl rfl) (je_call (ok_l_own_sum T) (hr.mono (by decide)) hgd rfl T.m_l_own_sum T.F_l_own_sum.kp (b_l_own_sum T) (fun _ => passAt0) (@xok0 _ _ _) (ja_cons (je_var (pv 1)) (ja_cons (je_var (pv 3)) (ja_cons (je_var (pv 4)) (ja_cons (je_var (pv 5)) ja_nil))))))
    (jss_cons (js_set (i := 7) sc_l_are_sums_right.nd rfl (Or.inl rfl) (je_call (ok_block_sum T) (hr.mono (by decide)) hgd rfl T.m_block_sum T.F_block_sum.kp (b_block_sum T) (fun _ => passAt0) (@xok0 _ _ _) (ja_cons (je_var (pv 1)) (ja_cons (je_var (pv 3)) (ja_cons (je_var (pv 4)) (ja_cons (je_var (pv 5)) ja_nil))))))
    (jss_cons (js_if (jw_pt (jw_or (jt_not (jt_of (je_call (ok_l_same T 0) (hr.mono (by decide)) hgd rfl T.m_l_same T.F_l_same.kp (b_l_same T) (fun _ => passAt0) (@xok0 _ _ _) (ja_cons (je_var (pv 7)) (ja_cons (je_var (pv 6)) ja_nil))))) (jw_or1 (jt_cmp jo_gt (je_bin jo_mod (je_callTy jc_int rfl T.n_int (by decide +kernel) (ja_cons (je_bin jo_sub (je_var (pv 3)) (je_var (pv 7))) ja_nil)) (je_var (pv 2))) je_int (nomark _))))) (jss_one (js_ret je_bl)) jss_nil)
    (jss_cons (js_set (i := 8) sc_l_are_sums_right.nd rfl (Or.inl rfl) (je_bin (jo_add mok0) je_int (je_call (ok_l_draw T) (hr.mono (by decide)) hgd rfl T.m_l_draw T.F_l_draw.kp (b_l_draw T) (fun _ => passAt0) (@xok0 _ _ _) (ja_cons (je_var (pv 0)) (ja_cons (je_bin jo_div je_int (je_var (pv 4))) ja_nil)))))
    (jss_cons (js_set (i := 9) sc_l_are_sums_right.nd rfl (Or.inl rfl) (je_if (jt_cmp (jo_eq hr.units) (je_bin jo_mod (je_callTy jc_int rfl T.n_int (by decide +kernel) (ja_cons (je_var (pv 8)) ja_nil)) je_int) je_int (nomark _)) (je_var (pv 5)) je_int))
    (jss_cons (js_set (i := 7) sc_l_are_sums_right.nd rfl (Or.inl rfl) (je_callK0 (ks := ["b", "number", "k", "sign"]) (ok_block_sum T) (hr.mono (by decide)) hgd rfl T.m_block_sum T.F_block_sum.kp (kargs T.F_block_sum (ps := ["b", "number", "k", "sign"]) (ks := ["b", "number", "k", "sign"]) (n := 0) (π := [0, 1, 2, 3]) fun _ _ _ _ _ _ us ws h1 h2 => match us, ws, h1, h2 with | [], [_, _, _, _], _, _ => rfl) (by decide) (fun _ => passAt0) (@xok0 _ _ _) (jk_cons (je_var (pv 1)) (jk_cons (je_var (pv 3)) (jk_cons (je_bin jo_mulI (je_var (pv 4)) (je_var (pv 8))) (jk_cons (je_var (pv 9)) jk_nil))))))
    (jss_cons (js_if (jw_pt (jw_or (jt_not (jt_of (je_call (ok_l_same T 0) (hr.mono (by decide)) hgd rfl T.m_l_same T.F_l_same.kp (b_l_same T) (fun _ => passAt0) (@xok0 _ _ _) (ja_cons (je_var (pv 7)) (ja_cons (je_call (ok_l_own_sum T) (hr.mono (by decide)) hgd rfl T.m_l_own_sum T.F_l_own_sum.kp (b_l_own_sum T) (fun _ => passAt0) (@xok0 _ _ _) (ja_cons (je_var (pv 1)) (ja_cons (je_var (pv 3)) (ja_cons (je_bin jo_mulI (je_var (pv 4)) (je_var (pv 8))) (ja_cons (je_var (pv 9)) ja_nil))))) ja_nil))))) (jw_or1 (jt_cmp jo_gt (je_bin jo_mod (je_callTy jc_int rfl T.n_int (by decide +kernel) (ja_cons (je_bin jo_sub (je_var (pv 3)) (je_var (pv 7))) ja_nil)) (je_var (pv 2))) je_int (nomark _))))) (jss_one (js_ret je_bl)) jss_nil)
    (jss_cons (js_for PassesOwn.never rfl (ji_of (je_lst mok0 (ja_cons (je_un ju_neg je_int) (ja_cons je_int ja_nil)))) (jg_name (i := 10) sc_l_are_sums_right.nd rfl (Or.inl rfl)) (jss_cons (js_set (i := 11) sc_l_are_sums_right.nd rfl (Or.inl rfl) (je_call (ok_l_pick T) (hr.mono (by decide)) hgd rfl T.m_l_pick T.F_l_pick.kp (b_l_pick T) (fun _ => passAt0) (@xok0 _ _ _) (ja_cons (je_var (pv 0)) (ja_cons (je_lst mok0 (ja_cons je_int (ja_cons je_int (ja_cons je_int (ja_cons (je_bin (jo_add mok0) je_int (je_call (ok_l_draw T) (hr.mono (by decide)) hgd rfl T.m_l_draw T.F_l_draw.kp (b_l_draw T) (fun _ => passAt0) (@xok0 _ _ _) (ja_cons (je_var (pv 0)) (ja_cons je_int ja_nil)))) (ja_cons (je_bin (jo_add mok0) je_int (je_call (ok_l_draw T) (hr.mono (by decide)) hgd rfl T.m_l_draw T.F_l_draw.kp (b_l_draw T) (fun _ => passAt0) (@xok0 _ _ _) (ja_cons (je_var (pv 0)) (ja_cons je_int ja_nil)))) (ja_cons je_int ja_nil))))))) ja_nil))))
    (jss_one (js_if (jt_not (jt_of (je_call (ok_l_same T 0) (hr.mono (by decide)) hgd rfl T.m_l_same T.F_l_same.kp (b_l_same T) (fun _ => passAt0) (@xok0 _ _ _) (ja_cons (je_call (ok_block_sum T) (hr.mono (by decide)) hgd rfl T.m_block_sum T.F_block_sum.kp (b_block_sum T) (fun _ => passAt0) (@xok0 _ _ _) (ja_cons (je_var (pv 1)) (ja_cons (je_var (pv 3)) (ja_cons (je_var (pv 11)) (ja_cons (je_var (pv 10)) ja_nil))))) (ja_cons (je_call (ok_l_own_sum T) (hr.mono (by decide)) hgd rfl T.m_l_own_sum T.F_l_own_sum.kp (b_l_own_sum T) (fun _ => passAt0) (@xok0 _ _ _) (ja_cons (je_var (pv 1)) (ja_cons (je_var (pv 3)) (ja_cons (je_var (pv 11)) (ja_cons (je_var (pv 10)) ja_nil))))) ja_nil))))) (jss_one (js_ret je_bl)) jss_nil))))
    (jss_one (js_ret (je_call (ok_l_same T 0) (hr.mono (by decide)) hgd rfl T.m_l_same T.F_l_same.kp (b_l_same T) (fun _ => passAt0) (@xok0 _ _ _) (ja_cons (je_callK0 (ks := ["b", "number", "k", "sign"]) (ok_block_sum T) (hr.mono (by decide)) hgd rfl T.m_block_sum T.F_block_sum.kp (kargs T.F_block_sum (ps := ["b", "number", "k", "sign"]) (ks := ["b", "number", "k", "sign"]) (n := 0) (π := [0, 1, 2, 3]) fun _ _ _ _ _ _ us ws h1 h2 => match us, ws, h1, h2 with | [], [_, _, _, _], _, _ => rfl) (by decide) (fun _ => passAt0) (@xok0 _ _ _) (jk_cons (je_var (pv 1)) (jk_cons (je_var (pv 3)) (jk_cons (je_var (pv 4)) (jk_cons (je_var (pv 5)) jk_nil))))) (ja_cons (je_var (pv 6)) ja_nil))))))))))))))
theorem ok_l_are_sums_right {P : Program} {w : World} {K : PySem.W.Frag} {mg : Str → Option Value} {base : Heap} (T : Top K mg) : FnG P w K mg base CX0 3 T.f_l_are_sums_right T.fd_l_are_sums_right ["bag", "b", "m", "number"] (spOf K c_l_are_sums_right) :=
  fn_ok0 (k := 2) T.F_l_are_sums_right sc_l_are_sums_right ari_l_are_sums_right (fun cdv A outer s H E G hgd hr => d_l_are_sums_right T hgd hr) (w_l_are_sums_right T.cl)
theorem d_l_is_way_right {P : Program} {w : World} {K : PySem.W.Frag} {mg : Str → Option Value} {base : Heap} {f : Addr} {cdv : Value} {A : Around} {outer : List Env} {s : Shared} {H : Hp} {E : XK} {G : Gn} (T : Top K mg) (hgd : A.guards = some [])
    (hr : Room 3 (A.deeper (envOfC "_law_is_way_right" (defScope s_l_is_way_right) s.heap.objs.size f cdv))) :
    JSs (cxOf CX0 P w K mg base N_l_is_way_right "_law_is_way_right" (defScope s_l_is_way_right) f cdv A outer s H E).nox G (defBody s_l_is_way_right) (a_l_is_way_right T.cl fun p => G.H0 p = none) :=
    (jss_cons (js_par2 (i := 4) (j := 5) rfl sc_l_is_way_right.nd rfl rfl (by decide) rfl rfl (ja_cons (je_call (ok_l_own_way T) (hr.mono (by decide)) hgd rfl T.m_l_own_way T.F_l_own_way.kp (b_l_own_way T) (fun _ => passAt0) (@xok0 _ _ _) (ja_cons (je_var (pv 0)) (ja_cons (je_var (pv 1)) (ja_cons (je_var (pv 2)) ja_nil)))) (ja_cons (je_call (ok_l_power T) (hr.mono (by decide)) hgd rfl T.m_l_power T.F_l_power.kp (b_l_power T) (fun _ => passAt0) (@xok0 _ _ _) (ja_cons (je_var (pv 0)) (ja_cons (je_var (pv 3)) ja_nil))) ja_nil)) rfl)
    (jss_cons (js_set (i := 6) sc_l_is_way_right.nd rfl (Or.inl rfl) (je_call (ok_block_way T) (hr.mono (by decide)) hgd rfl T.m_block_way T.F_block_way.kp (b_block_way T) (fun σ => L2N.passAt noTakes σ) xokF (ja_cons (je_var (pv 0)) (ja_cons (je_var (pv 1)) (ja_cons (je_var (pv 2)) ja_nil)))))
    (jss_cons (js_if (jw_pt (jw_or (jt_not (jt_of (je_call (ok_l_same T 0) (hr.mono (by decide)) hgd rfl T.m_l_same T.F_l_same.kp (b_l_same T) (fun _ => passAt0) (@xok0 _ _ _) (ja_cons (je_var (pv 6)) (ja_cons (je_var (pv 4)) ja_nil))))) (jw_or1 (jt_cmp jo_ge (je_callB jc_abs rfl T.n_abs (by decide +kernel) (ja_cons (je_ix jx_seq (je_var (pv 6)) (je_un ju_neg je_int) (fun _ _ => rfl)) ja_nil)) (je_var (pv 5)) (nomark _))))) (jss_one (js_ret je_bl)) jss_nil)
    (jss_cons (js_for PassesOwn.never rfl (ji_zip rfl T.n_zip (ja_cons (je_var (pv 6)) (ja_cons (je_sl mok0 (je_var (pv 6)) (jp_some je_int) jp_none) ja_nil))) (jg_tup rfl (jgs1 (jg_name (i := 7) sc_l_is_way_right.nd rfl (Or.inl rfl)) (jgs1 (jg_name (i := 8) sc_l_is_way_right.nd rfl (Or.inl rfl)) jgs0))) (jss_one (js_if (jw_pt (jw_or (jt_cmp jo_lt (je_callB jc_abs rfl T.n_abs (by decide +kernel) (ja_cons (je_var (pv 7)) ja_nil)) (je_var (pv 5)) (nomark _)) (jw_or (jt_cmp jo_ge (je_callB jc_abs rfl T.n_abs (by decide +kernel) (ja_cons (je_var (pv 8)) ja_nil)) (je_callB jc_abs rfl T.n_abs (by decide +kernel) (ja_cons (je_var (pv 7)) ja_nil)) (nomark _)) (jw_or1 (jt_cmp jo_gt (je_bin jo_mod (je_callTy jc_int rfl T.n_int (by decide +kernel) (ja_cons (je_bin jo_sub (je_var (pv 7)) (je_var (pv 8))) ja_nil)) (je_var (pv 1))) je_int (nomark _)))))) (jss_one (js_ret je_bl)) jss_nil)))
    (jss_one (js_ret (je_call (ok_l_same T 0) (hr.mono (by decide)) hgd rfl T.m_l_same T.F_l_same.kp (b_l_same T) (fun _ => passAt0) (@xok0 _ _ _) (ja_cons (je_callK0 (ks := ["b", "m", "number"]) (ok_block_way T) (hr.mono (by decide)) hgd rfl T.m_block_way T.F_block_way.kp (kargs T.F_block_way (ps := ["b", "m", "number"]) (ks := ["b", "m", "number"]) (n := 0) (π := [0, 1, 2]) fun _ _ _ _ _ _ us ws h1 h2 => match us, ws, h1, h2 with | [], [_, _, _], _, _ => rfl) (by decide) (fun σ => L2N.passAt noTakes σ) xokF (jk_cons (je_var (pv 0)) (jk_cons (je_var (pv 1)) (jk_cons (je_var (pv 2)) jk_nil)))) (ja_cons (je_var (pv 4)) ja_nil)))))))))
theorem ok_l_is_way_right {P : Program} {w : World} {K : PySem.W.Frag} {mg : Str → Option Value} {base : Heap} (T : Top K mg) : FnG P w K mg base CX0 4 T.f_l_is_way_right T.fd_l_is_way_right ["b", "m", "number", "k"] (spOf K c_l_is_way_right) :=
  fn_ok0 (k := 3) T.F_l_is_way_right sc_l_is_way_right ari_l_is_way_right (fun cdv A outer s H E G hgd hr => d_l_is_way_right T hgd hr) (w_l_is_way_right T.cl)
theorem d_law {P : Program} {w : World} {K : PySem.W.Frag} {mg : Str → Option Value} {base : Heap} {f : Addr} {cdv : Value} {A : Around} {outer : List Env} {s : Shared} {H : Hp} {E : XK} {G : Gn} (T : Top K mg) (hgd : A.guards = some [])
    (hr : Room 4 (A.deeper (envOfC "law" (defScope s_law) s.heap.objs.size f cdv))) :
    JSs (cxOf CX0 P w K mg base N_law "law" (defScope s_law) f cdv A outer s H E).nox G (defBody s_law) (a_law T.cl fun p => G.H0 p = none) :=
    (jss_cons (js_set (i := 1) sc_law.nd rfl (Or.inl rfl) (je_call (ok_l_own_bag T) (hr.mono (by decide)) hgd rfl T.m_l_own_bag T.F_l_own_bag.kp (b_l_own_bag T) (fun _ => passAt0) (@xok0 _ _ _) (ja_cons (je_var (pv 0)) ja_nil)))
    (jss_cons (js_asg (je_call (ok_l_alike_pair T) (hr.mono (by decide)) hgd rfl T.m_l_alike_pair T.F_l_alike_pair.kp (b_l_alike_pair T) (fun _ => passAt0) (@xok0 _ _ _) (ja_cons (je_var (pv 1)) ja_nil)) (jg_tup rfl (jgs1 (jg_name (i := 2) sc_law.nd rfl (Or.inl rfl)) (jgs1 (jg_name (i := 3) sc_law.nd rfl (Or.inl rfl)) jgs0))))
    (jss_cons (js_for PassesOwn.never rfl (ji_range1 rfl T.n_range (ja_cons je_int ja_nil)) (jg_name (i := 4) sc_law.nd rfl (Or.inl rfl)) (jss_one (js_if (jt_not (jt_of (je_call (ok_l_is_refused T) (hr.mono (by decide)) hgd rfl T.m_l_is_refused T.F_l_is_refused.kp (b_l_is_refused T) (fun _ => passAt0) (@xok0 _ _ _) (ja_cons (je_var (pv 2)) (ja_cons (je_var (pv 3)) (ja_cons (je_call (ok_l_pick T) (hr.mono (by decide)) hgd rfl T.m_l_pick T.F_l_pick.kp (b_l_pick T) (fun _ => passAt0) (@xok0 _ _ _) (ja_cons (je_var (pv 1)) (ja_cons (je_lst mok0 (ja_cons je_int (ja_cons (je_var (pv 3)) (ja_cons (je_call (ok_l_number T) (hr.mono (by decide)) hgd rfl T.m_l_number T.F_l_number.kp (b_l_number T) (fun _ => passAt0) (@xok0 _ _ _) (ja_cons (je_var (pv 1)) (ja_cons (je_var (pv 2)) (ja_cons (je_var (pv 3)) (ja_cons je_int ja_nil))))) ja_nil)))) ja_nil))) (ja_cons (je_var (pv 4)) ja_nil))))))) (jss_one (js_ret je_bl)) jss_nil)))
    (jss_cons (js_for PassesOwn.never rfl (ji_range1 rfl T.n_range (ja_cons je_int ja_nil)) (jg_name (i := 5) sc_law.nd rfl (Or.inl rfl)) (jss_cons (js_asg (je_call (ok_l_own_pair T) (hr.mono (by decide)) hgd rfl T.m_l_own_pair T.F_l_own_pair.kp (b_l_own_pair T) (fun _ => passAt0) (@xok0 _ _ _) (ja_cons (je_var (pv 1)) ja_nil)) (jg_tup rfl (jgs1 (jg_name (i := 2) sc_law.nd rfl (Or.inl rfl)) (jgs1 (jg_name (i := 3) sc_law.nd rfl (Or.inl rfl)) jgs0))))
    (jss_cons (js_asg (je_call (ok_l_own_rule T) (hr.mono (by decide)) hgd rfl T.m_l_own_rule T.F_l_own_rule.kp (b_l_own_rule T) (fun _ => passAt0) (@xok0 _ _ _) (ja_cons (je_var (pv 2)) (ja_cons (je_var (pv 3)) ja_nil))) (jg_tup rfl (jgs1 (jg_name (i := 6) sc_law.nd rfl (Or.inl rfl)) (jgs1 (jg_name (i := 7) sc_law.nd rfl (Or.inl rfl)) jgs0))))
    (jss_cons (js_if (jt_not (jt_of (je_call (ok_l_same T 0) (hr.mono (by decide)) hgd rfl T.m_l_same T.F_l_same.kp (b_l_same T) (fun _ => passAt0) (@xok0 _ _ _) (ja_cons (je_call (ok_block_rule T) (hr.mono (by decide)) hgd rfl T.m_block_rule T.F_block_rule.kp (b_block_rule T) (fun σ => L2N.passAt noTakes σ) xokF (ja_cons (je_var (pv 2)) (ja_cons (je_var (pv 3)) ja_nil))) (ja_cons (je_tup (ja_cons (je_var (pv 6)) (ja_cons (je_var (pv 7)) ja_nil))) ja_nil))))) (jss_one (js_ret je_bl)) jss_nil)
    (jss_cons (js_for PassesOwn.never rfl (ji_range1 rfl T.n_range (ja_cons je_int ja_nil)) (jg_name (i := 8) sc_law.nd rfl (Or.inl rfl)) (jss_cons (js_set (i := 9) sc_law.nd rfl (Or.inl rfl) (je_if (jt_cmp jo_gt (je_var (pv 8)) je_int (nomark _)) (je_call (ok_l_number T) (hr.mono (by decide)) hgd rfl T.m_l_number T.F_l_number.kp (b_l_number T) (fun _ => passAt0) (@xok0 _ _ _) (ja_cons (je_var (pv 1)) (ja_cons (je_var (pv 2)) (ja_cons (je_var (pv 3)) (ja_cons (je_var (pv 6)) ja_nil))))) (je_call (ok_l_uneven T) (hr.mono (by decide)) hgd rfl T.m_l_uneven T.F_l_uneven.kp (b_l_uneven T) (fun _ => passAt0) (@xok0 _ _ _) (ja_cons (je_var (pv 1)) (ja_cons (je_var (pv 2)) (ja_cons (je_var (pv 6)) ja_nil))))))
    (jss_one (js_if (jw_pt (jw_or (jt_not (jt_of (je_call (ok_l_are_sums_right T) (hr.mono (by decide)) hgd rfl T.m_l_are_sums_right T.F_l_are_sums_right.kp (b_l_are_sums_right T) (fun _ => passAt0) (@xok0 _ _ _) (ja_cons (je_var (pv 1)) (ja_cons (je_var (pv 2)) (ja_cons (je_var (pv 3)) (ja_cons (je_var (pv 9)) ja_nil))))))) (jw_or1 (jt_not (jt_of (je_call (ok_l_is_way_right T) (hr.mono (by decide)) hgd rfl T.m_l_is_way_right T.F_l_is_way_right.kp (b_l_is_way_right T) (fun _ => passAt0) (@xok0 _ _ _) (ja_cons (je_var (pv 2)) (ja_cons (je_var (pv 3)) (ja_cons (je_var (pv 9)) (ja_cons (je_var (pv 6)) ja_nil)))))))))) (jss_one (js_ret je_bl)) jss_nil))))
    (jss_cons (js_for PassesOwn.never rfl (ji_of (je_call (ok_l_edges T) (hr.mono (by decide)) hgd rfl T.m_l_edges T.F_l_edges.kp (b_l_edges T) (fun _ => passAt0) (@xok0 _ _ _) (ja_cons (je_var (pv 2)) (ja_cons (je_var (pv 6)) ja_nil)))) (jg_name (i := 9) sc_law.nd rfl (Or.inl rfl)) (jss_cons (js_if (jt_not (jt_of (je_call (ok_l_same T 0) (hr.mono (by decide)) hgd rfl T.m_l_same T.F_l_same.kp (b_l_same T) (fun _ => passAt0) (@xok0 _ _ _) (ja_cons (je_call (ok_block_sum T) (hr.mono (by decide)) hgd rfl T.m_block_sum T.F_block_sum.kp (b_block_sum T) (fun _ => passAt0) (@xok0 _ _ _) (ja_cons (je_var (pv 2)) (ja_cons (je_var (pv 9)) (ja_cons (je_var (pv 6)) (ja_cons (je_var (pv 7)) ja_nil))))) (ja_cons (je_call (ok_l_own_sum T) (hr.mono (by decide)) hgd rfl T.m_l_own_sum T.F_l_own_sum.kp (b_l_own_sum T) (fun _ => passAt0) (@xok0 _ _ _) (ja_cons (je_var (pv 2)) (ja_cons (je_var (pv 9)) (ja_cons (je_var (pv 6)) (ja_cons (je_var (pv 7)) ja_nil))))) ja_nil))))) (jss_one (js_ret je_bl)) jss_nil)
    (jss_one (js_if (jt_not (jt_of (je_call (ok_l_is_way_right T) (hr.mono (by decide)) hgd rfl T.m_l_is_way_right T.F_l_is_way_right.kp (b_l_is_way_right T) (fun _ => passAt0) (@xok0 _ _ _) (ja_cons (je_var (pv 2)) (ja_cons (je_var (pv 3)) (ja_cons (je_var (pv 9)) (ja_cons (je_var (pv 6)) ja_nil))))))) (jss_one (js_ret je_bl)) jss_nil))))
    (jss_one (js_if (jt_not (jt_of (je_call (ok_l_same T 0) (hr.mono (by decide)) hgd rfl T.m_l_same T.F_l_same.kp (b_l_same T) (fun _ => passAt0) (@xok0 _ _ _) (ja_cons (je_callK0 (ks := ["b", "m"]) (ok_block_rule T) (hr.mono (by decide)) hgd rfl T.m_block_rule T.F_block_rule.kp (kargs T.F_block_rule (ps := ["b", "m"]) (ks := ["b", "m"]) (n := 0) (π := [0, 1]) fun _ _ _ _ _ _ us ws h1 h2 => match us, ws, h1, h2 with | [], [_, _], _, _ => rfl) (by decide) (fun σ => L2N.passAt noTakes σ) xokF (jk_cons (je_var (pv 2)) (jk_cons (je_var (pv 3)) jk_nil))) (ja_cons (je_tup (ja_cons (je_var (pv 6)) (ja_cons (je_var (pv 7)) ja_nil))) ja_nil))))) (jss_one (js_ret je_bl)) jss_nil))))))))
    (jss_one (js_ret je_bl))))))
theorem ok_law {P : Program} {w : World} {K : PySem.W.Frag} {mg : Str → Option Value} {base : Heap} (T : Top K mg) : FnG P w K mg base CX0 5 T.f_law T.fd_law ["script"] (spOf K c_law) :=
  fn_ok0 (k := 4) T.F_law sc_law ari_law (fun cdv A outer s H E G hgd hr => d_law T hgd hr) (w_law T.cl)
theorem all_mk {l : PySem.W.OpenLaw} {w : World} {K : PySem.W.Frag} {h : Heap} {mg : Str → Option Value} {fa : Addr} (X : K.In h) (G : h.Ns mainGlobals mg) (hfa : mg "law" = some (.ref fa))
    {f0 : Addr} {od0 an0 : Option Addr} {sl0 : Array (Option Value)} {oc0 kV0 dc0 pm0 cd0 ct0 : Value} {f1 : Addr} {od1 an1 : Option Addr} {sl1 : Array (Option Value)} {oc1 kV1 dc1 pm1 cd1 ct1 : Value} {f2 : Addr} {od2 an2 : Option Addr} {sl2 : Array (Option Value)} {oc2 kV2 dc2 pm2 cd2 ct2 : Value} {f3 : Addr} {od3 an3 : Option Addr} {sl3 : Array (Option Value)} {oc3 kV3 dc3 pm3 cd3 ct3 : Value} {f4 : Addr} {od4 an4 : Option Addr} {sl4 : Array (Option Value)} {oc4 kV4 dc4 pm4 cd4 ct4 : Value} {f5 : Addr} {od5 an5 : Option Addr} {sl5 : Array (Option Value)} {oc5 kV5 dc5 pm5 cd5 ct5 : Value} {f6 : Addr} {od6 an6 : Option Addr} {sl6 : Array (Option Value)} {oc6 kV6 dc6 pm6 cd6 ct6 : Value} {f7 : Addr} {od7 an7 : Option Addr} {sl7 : Array (Option Value)} {oc7 kV7 dc7 pm7 cd7 ct7 : Value} {f8 : Addr} {od8 an8 : Option Addr} {sl8 : Array (Option Value)} {oc8 kV8 dc8 pm8 cd8 ct8 : Value} {f9 : Addr} {od9 an9 : Option Addr} {sl9 : Array (Option Value)} {oc9 kV9 dc9 pm9 cd9 ct9 : Value} {f10 : Addr} {od10 an10 : Option Addr} {sl10 : Array (Option Value)} {oc10 kV10 dc10 pm10 cd10 ct10 : Value} {f11 : Addr} {od11 an11 : Option Addr} {sl11 : Array (Option Value)} {oc11 kV11 dc11 pm11 cd11 ct11 : Value} {f12 : Addr} {od12 an12 : Option Addr} {sl12 : Array (Option Value)} {oc12 kV12 dc12 pm12 cd12 ct12 : Value} {f13 : Addr} {od13 an13 : Option Addr} {sl13 : Array (Option Value)} {oc13 kV13 dc13 pm13 cd13 ct13 : Value} {f14 : Addr} {od14 an14 : Option Addr} {sl14 : Array (Option Value)} {oc14 kV14 dc14 pm14 cd14 ct14 : Value} {f15 : Addr} {od15 an15 : Option Addr} {sl15 : Array (Option Value)} {oc15 kV15 dc15 pm15 cd15 ct15 : Value} {f16 : Addr} {od16 an16 : Option Addr} {sl16 : Array (Option Value)} {oc16 kV16 dc16 pm16 cd16 ct16 : Value} {f17 : Addr} {od17 an17 : Option Addr} {sl17 : Array (Option Value)} {oc17 kV17 dc17 pm17 cd17 ct17 : Value} {f18 : Addr} {od18 an18 : Option Addr} {sl18 : Array (Option Value)} {oc18 kV18 dc18 pm18 cd18 ct18 : Value} {f19 : Addr} {od19 an19 : Option Addr} {sl19 : Array (Option Value)} {oc19 kV19 dc19 pm19 cd19 ct19 : Value} {f20 : Addr} {od20 an20 : Option Addr} {sl20 : Array (Option Value)} {oc20 kV20 dc20 pm20 cd20 ct20 : Value} {f21 : Addr} {od21 an21 : Option Addr} {sl21 : Array (Option Value)} {oc21 kV21 dc21 pm21 cd21 ct21 : Value} {f22 : Addr} {od22 an22 : Option Addr} {sl22 : Array (Option Value)} {oc22 kV22 dc22 pm22 cd22 ct22 : Value} {C_BaseError : Addr} {C_Unfit : Addr} {C_TooMany : Addr} {C_BadText : Addr} {C_BadWord : Addr} {C_BadLog : Addr} {C_Refused : Addr} {C_NothingToUndo : Addr} {C_NothingToRedo : Addr} {C_NoName : Addr} {C_NoVersion : Addr} 
    (a0 : PySem.W.nsIn K mainGlobals "block_rule" = some (some (.ref f0))) (l0 : K.lookup f0 = some ⟨oc0, od0, .func (PySem.W.fnOf "block_rule" "block_rule" (defArgs s_block_rule) (defBody s_block_rule) (defScope s_block_rule) .none kV0 dc0 pm0 an0 cd0 ct0), sl0⟩) (c0 : PySem.W.codeIn K cd0 "block_rule" = true) (k0 : PySem.W.keepIn K (.ref f0) = true)
    (a1 : PySem.W.nsIn K mainGlobals "block_sum" = some (some (.ref f1))) (l1 : K.lookup f1 = some ⟨oc1, od1, .func (PySem.W.fnOf "block_sum" "block_sum" (defArgs s_block_sum) (defBody s_block_sum) (defScope s_block_sum) .none kV1 dc1 pm1 an1 cd1 ct1), sl1⟩) (c1 : PySem.W.codeIn K cd1 "block_sum" = true) (k1 : PySem.W.keepIn K (.ref f1) = true)
    (a2 : PySem.W.nsIn K mainGlobals "block_way" = some (some (.ref f2))) (l2 : K.lookup f2 = some ⟨oc2, od2, .func (PySem.W.fnOf "block_way" "block_way" (defArgs s_block_way) (defBody s_block_way) (defScope s_block_way) .none kV2 dc2 pm2 an2 cd2 ct2), sl2⟩) (c2 : PySem.W.codeIn K cd2 "block_way" = true) (k2 : PySem.W.keepIn K (.ref f2) = true)
    (a3 : PySem.W.nsIn K mainGlobals "_law_own_bag" = some (some (.ref f3))) (l3 : K.lookup f3 = some ⟨oc3, od3, .func (PySem.W.fnOf "_law_own_bag" "_law_own_bag" (defArgs s_l_own_bag) (defBody s_l_own_bag) (defScope s_l_own_bag) .none kV3 dc3 pm3 an3 cd3 ct3), sl3⟩) (c3 : PySem.W.codeIn K cd3 "_law_own_bag" = true) (k3 : PySem.W.keepIn K (.ref f3) = true)
    (a4 : PySem.W.nsIn K mainGlobals "_law_draw" = some (some (.ref f4))) (l4 : K.lookup f4 = some ⟨oc4, od4, .func (PySem.W.fnOf "_law_draw" "_law_draw" (defArgs s_l_draw) (defBody s_l_draw) (defScope s_l_draw) .none kV4 dc4 pm4 an4 cd4 ct4), sl4⟩) (c4 : PySem.W.codeIn K cd4 "_law_draw" = true) (k4 : PySem.W.keepIn K (.ref f4) = true)
    (a5 : PySem.W.nsIn K mainGlobals "_law_pick" = some (some (.ref f5))) (l5 : K.lookup f5 = some ⟨oc5, od5, .func (PySem.W.fnOf "_law_pick" "_law_pick" (defArgs s_l_pick) (defBody s_l_pick) (defScope s_l_pick) .none kV5 dc5 pm5 an5 cd5 ct5), sl5⟩) (c5 : PySem.W.codeIn K cd5 "_law_pick" = true) (k5 : PySem.W.keepIn K (.ref f5) = true)
    (a6 : PySem.W.nsIn K mainGlobals "_law_big" = some (some (.ref f6))) (l6 : K.lookup f6 = some ⟨oc6, od6, .func (PySem.W.fnOf "_law_big" "_law_big" (defArgs s_l_big) (defBody s_l_big) (defScope s_l_big) .none kV6 dc6 pm6 an6 cd6 ct6), sl6⟩) (c6 : PySem.W.codeIn K cd6 "_law_big" = true) (k6 : PySem.W.keepIn K (.ref f6) = true)
    (a7 : PySem.W.nsIn K mainGlobals "_law_is_row" = some (some (.ref f7))) (l7 : K.lookup f7 = some ⟨oc7, od7, .func (PySem.W.fnOf "_law_is_row" "_law_is_row" (defArgs s_l_is_row) (defBody s_l_is_row) (defScope s_l_is_row) .none kV7 dc7 pm7 an7 cd7 ct7), sl7⟩) (c7 : PySem.W.codeIn K cd7 "_law_is_row" = true) (k7 : PySem.W.keepIn K (.ref f7) = true)
    (a8 : PySem.W.nsIn K mainGlobals "_law_same" = some (some (.ref f8))) (l8 : K.lookup f8 = some ⟨oc8, od8, .func (PySem.W.fnOf "_law_same" "_law_same" (defArgs s_l_same) (defBody s_l_same) (defScope s_l_same) .none kV8 dc8 pm8 an8 cd8 ct8), sl8⟩) (c8 : PySem.W.codeIn K cd8 "_law_same" = true) (k8 : PySem.W.keepIn K (.ref f8) = true)
    (a9 : PySem.W.nsIn K mainGlobals "_law_common" = some (some (.ref f9))) (l9 : K.lookup f9 = some ⟨oc9, od9, .func (PySem.W.fnOf "_law_common" "_law_common" (defArgs s_l_common) (defBody s_l_common) (defScope s_l_common) .none kV9 dc9 pm9 an9 cd9 ct9), sl9⟩) (c9 : PySem.W.codeIn K cd9 "_law_common" = true) (k9 : PySem.W.keepIn K (.ref f9) = true)
    (a10 : PySem.W.nsIn K mainGlobals "_law_power" = some (some (.ref f10))) (l10 : K.lookup f10 = some ⟨oc10, od10, .func (PySem.W.fnOf "_law_power" "_law_power" (defArgs s_l_power) (defBody s_l_power) (defScope s_l_power) .none kV10 dc10 pm10 an10 cd10 ct10), sl10⟩) (c10 : PySem.W.codeIn K cd10 "_law_power" = true) (k10 : PySem.W.keepIn K (.ref f10) = true)
    (a11 : PySem.W.nsIn K mainGlobals "_law_own_pair" = some (some (.ref f11))) (l11 : K.lookup f11 = some ⟨oc11, od11, .func (PySem.W.fnOf "_law_own_pair" "_law_own_pair" (defArgs s_l_own_pair) (defBody s_l_own_pair) (defScope s_l_own_pair) .none kV11 dc11 pm11 an11 cd11 ct11), sl11⟩) (c11 : PySem.W.codeIn K cd11 "_law_own_pair" = true) (k11 : PySem.W.keepIn K (.ref f11) = true)
    (a12 : PySem.W.nsIn K mainGlobals "_law_alike_pair" = some (some (.ref f12))) (l12 : K.lookup f12 = some ⟨oc12, od12, .func (PySem.W.fnOf "_law_alike_pair" "_law_alike_pair" (defArgs s_l_alike_pair) (defBody s_l_alike_pair) (defScope s_l_alike_pair) .none kV12 dc12 pm12 an12 cd12 ct12), sl12⟩) (c12 : PySem.W.codeIn K cd12 "_law_alike_pair" = true) (k12 : PySem.W.keepIn K (.ref f12) = true)
    (a13 : PySem.W.nsIn K mainGlobals "_law_own_rule" = some (some (.ref f13))) (l13 : K.lookup f13 = some ⟨oc13, od13, .func (PySem.W.fnOf "_law_own_rule" "_law_own_rule" (defArgs s_l_own_rule) (defBody s_l_own_rule) (defScope s_l_own_rule) .none kV13 dc13 pm13 an13 cd13 ct13), sl13⟩) (c13 : PySem.W.codeIn K cd13 "_law_own_rule" = true) (k13 : PySem.W.keepIn K (.ref f13) = true)
    (a14 : PySem.W.nsIn K mainGlobals "_law_own_sum" = some (some (.ref f14))) (l14 : K.lookup f14 = some ⟨oc14, od14, .func (PySem.W.fnOf "_law_own_sum" "_law_own_sum" (defArgs s_l_own_sum) (defBody s_l_own_sum) (defScope s_l_own_sum) .none kV14 dc14 pm14 an14 cd14 ct14), sl14⟩) (c14 : PySem.W.codeIn K cd14 "_law_own_sum" = true) (k14 : PySem.W.keepIn K (.ref f14) = true)
    (a15 : PySem.W.nsIn K mainGlobals "_law_own_way" = some (some (.ref f15))) (l15 : K.lookup f15 = some ⟨oc15, od15, .func (PySem.W.fnOf "_law_own_way" "_law_own_way" (defArgs s_l_own_way) (defBody s_l_own_way) (defScope s_l_own_way) .none kV15 dc15 pm15 an15 cd15 ct15), sl15⟩) (c15 : PySem.W.codeIn K cd15 "_law_own_way" = true) (k15 : PySem.W.keepIn K (.ref f15) = true)
    (a16 : PySem.W.nsIn K mainGlobals "_law_uneven" = some (some (.ref f16))) (l16 : K.lookup f16 = some ⟨oc16, od16, .func (PySem.W.fnOf "_law_uneven" "_law_uneven" (defArgs s_l_uneven) (defBody s_l_uneven) (defScope s_l_uneven) .none kV16 dc16 pm16 an16 cd16 ct16), sl16⟩) (c16 : PySem.W.codeIn K cd16 "_law_uneven" = true) (k16 : PySem.W.keepIn K (.ref f16) = true)
    (a17 : PySem.W.nsIn K mainGlobals "_law_number" = some (some (.ref f17))) (l17 : K.lookup f17 = some ⟨oc17, od17, .func (PySem.W.fnOf "_law_number" "_law_number" (defArgs s_l_number) (defBody s_l_number) (defScope s_l_number) .none kV17 dc17 pm17 an17 cd17 ct17), sl17⟩) (c17 : PySem.W.codeIn K cd17 "_law_number" = true) (k17 : PySem.W.keepIn K (.ref f17) = true)
    (a18 : PySem.W.nsIn K mainGlobals "_law_edges" = some (some (.ref f18))) (l18 : K.lookup f18 = some ⟨oc18, od18, .func (PySem.W.fnOf "_law_edges" "_law_edges" (defArgs s_l_edges) (defBody s_l_edges) (defScope s_l_edges) .none kV18 dc18 pm18 an18 cd18 ct18), sl18⟩) (c18 : PySem.W.codeIn K cd18 "_law_edges" = true) (k18 : PySem.W.keepIn K (.ref f18) = true)
    (a19 : PySem.W.nsIn K mainGlobals "_law_is_refused" = some (some (.ref f19))) (l19 : K.lookup f19 = some ⟨oc19, od19, .func (PySem.W.fnOf "_law_is_refused" "_law_is_refused" (defArgs s_l_is_refused) (defBody s_l_is_refused) (defScope s_l_is_refused) .none kV19 dc19 pm19 an19 cd19 ct19), sl19⟩) (c19 : PySem.W.codeIn K cd19 "_law_is_refused" = true) (k19 : PySem.W.keepIn K (.ref f19) = true)
    (a20 : PySem.W.nsIn K mainGlobals "_law_is_way_right" = some (some (.ref f20))) (l20 : K.lookup f20 = some ⟨oc20, od20, .func (PySem.W.fnOf "_law_is_way_right" "_law_is_way_right" (defArgs s_l_is_way_right) (defBody s_l_is_way_right) (defScope s_l_is_way_right) .none kV20 dc20 pm20 an20 cd20 ct20), sl20⟩) (c20 : PySem.W.codeIn K cd20 "_law_is_way_right" = true) (k20 : PySem.W.keepIn K (.ref f20) = true)
    (a21 : PySem.W.nsIn K mainGlobals "_law_are_sums_right" = some (some (.ref f21))) (l21 : K.lookup f21 = some ⟨oc21, od21, .func (PySem.W.fnOf "_law_are_sums_right" "_law_are_sums_right" (defArgs s_l_are_sums_right) (defBody s_l_are_sums_right) (defScope s_l_are_sums_right) .none kV21 dc21 pm21 an21 cd21 ct21), sl21⟩) (c21 : PySem.W.codeIn K cd21 "_law_are_sums_right" = true) (k21 : PySem.W.keepIn K (.ref f21) = true)
    (a22 : PySem.W.nsIn K mainGlobals "law" = some (some (.ref f22))) (l22 : K.lookup f22 = some ⟨oc22, od22, .func (PySem.W.fnOf "law" "law" (defArgs s_law) (defBody s_law) (defScope s_law) .none kV22 dc22 pm22 an22 cd22 ct22), sl22⟩) (c22 : PySem.W.codeIn K cd22 "law" = true) (k22 : PySem.W.keepIn K (.ref f22) = true)
    (n_ValueError : PySem.W.nsIn K mainGlobals "ValueError" = some none)
    (n_abs : PySem.W.nsIn K mainGlobals "abs" = some none)
    (n_all : PySem.W.nsIn K mainGlobals "all" = some none)
    (n_bool : PySem.W.nsIn K mainGlobals "bool" = some none)
    (n_int : PySem.W.nsIn K mainGlobals "int" = some none)
    (n_isinstance : PySem.W.nsIn K mainGlobals "isinstance" = some none)
    (n_len : PySem.W.nsIn K mainGlobals "len" = some none)
    (n_list : PySem.W.nsIn K mainGlobals "list" = some none)
    (n_min : PySem.W.nsIn K mainGlobals "min" = some none)
    (n_range : PySem.W.nsIn K mainGlobals "range" = some none)
    (n_reversed : PySem.W.nsIn K mainGlobals "reversed" = some none)
    (n_str : PySem.W.nsIn K mainGlobals "str" = some none)
    (n_tuple : PySem.W.nsIn K mainGlobals "tuple" = some none)
    (n_zip : PySem.W.nsIn K mainGlobals "zip" = some none)
    (g_BaseError : PySem.W.nsIn K mainGlobals "BaseError" = some (some (.ref C_BaseError)))
    (be_BaseError : PySem.W.subIn K (.ref C_BaseError) (.type "BaseException") = some true)
    (hd_BaseError : PySem.W.hasDictIn K C_BaseError = true)
    (ty_BaseError : PySem.W.typeIn K (.ref C_BaseError) = some (.type "type"))
    (g_Unfit : PySem.W.nsIn K mainGlobals "Unfit" = some (some (.ref C_Unfit)))
    (be_Unfit : PySem.W.subIn K (.ref C_Unfit) (.type "BaseException") = some true)
    (hd_Unfit : PySem.W.hasDictIn K C_Unfit = true)
    (ty_Unfit : PySem.W.typeIn K (.ref C_Unfit) = some (.type "type"))
    (g_TooMany : PySem.W.nsIn K mainGlobals "TooMany" = some (some (.ref C_TooMany)))
    (be_TooMany : PySem.W.subIn K (.ref C_TooMany) (.type "BaseException") = some true)
    (hd_TooMany : PySem.W.hasDictIn K C_TooMany = true)
    (ty_TooMany : PySem.W.typeIn K (.ref C_TooMany) = some (.type "type"))
    (g_BadText : PySem.W.nsIn K mainGlobals "BadText" = some (some (.ref C_BadText)))
    (be_BadText : PySem.W.subIn K (.ref C_BadText) (.type "BaseException") = some true)
    (hd_BadText : PySem.W.hasDictIn K C_BadText = true)
    (ty_BadText : PySem.W.typeIn K (.ref C_BadText) = some (.type "type"))
    (g_BadWord : PySem.W.nsIn K mainGlobals "BadWord" = some (some (.ref C_BadWord)))
    (be_BadWord : PySem.W.subIn K (.ref C_BadWord) (.type "BaseException") = some true)
    (hd_BadWord : PySem.W.hasDictIn K C_BadWord = true)
    (ty_BadWord : PySem.W.typeIn K (.ref C_BadWord) = some (.type "type"))
    (g_BadLog : PySem.W.nsIn K mainGlobals "BadLog" = some (some (.ref C_BadLog)))
    (be_BadLog : PySem.W.subIn K (.ref C_BadLog) (.type "BaseException") = some true)
    (hd_BadLog : PySem.W.hasDictIn K C_BadLog = true)
    (ty_BadLog : PySem.W.typeIn K (.ref C_BadLog) = some (.type "type"))
    (g_Refused : PySem.W.nsIn K mainGlobals "Refused" = some (some (.ref C_Refused)))
    (be_Refused : PySem.W.subIn K (.ref C_Refused) (.type "BaseException") = some true)
    (hd_Refused : PySem.W.hasDictIn K C_Refused = true)
    (ty_Refused : PySem.W.typeIn K (.ref C_Refused) = some (.type "type"))
    (g_NothingToUndo : PySem.W.nsIn K mainGlobals "NothingToUndo" = some (some (.ref C_NothingToUndo)))
    (be_NothingToUndo : PySem.W.subIn K (.ref C_NothingToUndo) (.type "BaseException") = some true)
    (hd_NothingToUndo : PySem.W.hasDictIn K C_NothingToUndo = true)
    (ty_NothingToUndo : PySem.W.typeIn K (.ref C_NothingToUndo) = some (.type "type"))
    (g_NothingToRedo : PySem.W.nsIn K mainGlobals "NothingToRedo" = some (some (.ref C_NothingToRedo)))
    (be_NothingToRedo : PySem.W.subIn K (.ref C_NothingToRedo) (.type "BaseException") = some true)
    (hd_NothingToRedo : PySem.W.hasDictIn K C_NothingToRedo = true)
    (ty_NothingToRedo : PySem.W.typeIn K (.ref C_NothingToRedo) = some (.type "type"))
    (g_NoName : PySem.W.nsIn K mainGlobals "NoName" = some (some (.ref C_NoName)))
    (be_NoName : PySem.W.subIn K (.ref C_NoName) (.type "BaseException") = some true)
    (hd_NoName : PySem.W.hasDictIn K C_NoName = true)
    (ty_NoName : PySem.W.typeIn K (.ref C_NoName) = some (.type "type"))
    (g_NoVersion : PySem.W.nsIn K mainGlobals "NoVersion" = some (some (.ref C_NoVersion)))
    (be_NoVersion : PySem.W.subIn K (.ref C_NoVersion) (.type "BaseException") = some true)
    (hd_NoVersion : PySem.W.hasDictIn K C_NoVersion = true)
    (ty_NoVersion : PySem.W.typeIn K (.ref C_NoVersion) = some (.type "type"))
    (xi_Unfit : PySem.W.excIn K C_Unfit [.type "ValueError", .type "Exception", .type "BaseException", .type "object"] "ValueError.__new__" = true)
    (kp_Unfit : PySem.W.keepIn K (.ref C_Unfit) = true)
    (e1_Unfit : PySem.W.findIn K (.ref C_Unfit) "__getattribute__" = some (some (.builtin "BaseException.__getattribute__")))
    (e2_Unfit : PySem.W.findIn K (.ref C_Unfit) "__getattr__" = some none)
    (e3_Unfit : PySem.W.findIn K (.ref C_Unfit) "__class__" = some (some (.builtin "object.__class__")))
    (e4_Unfit : PySem.W.mroIn K C_Unfit (.type "object") = some true)
    (sb_Unfit_BaseError : PySem.W.subIn K (.ref C_Unfit) (.ref C_BaseError) = some true)
    (e5 : PySem.W.specialIn K (.builtin "object.__class__") "__get__" = some (some (.builtin "getset_descriptor.__get__")))
    (e6 : PySem.W.takesIn K (.builtin "object.__class__") = some true)
    (is_Unfit_BadLog : PySem.W.kitOne K (.ref C_Unfit) (.ref C_BadLog) = some false)
    (is_Unfit_BadText : PySem.W.kitOne K (.ref C_Unfit) (.ref C_BadText) = some false)
    (is_Unfit_BadWord : PySem.W.kitOne K (.ref C_Unfit) (.ref C_BadWord) = some false)
    (is_Unfit_NoName : PySem.W.kitOne K (.ref C_Unfit) (.ref C_NoName) = some false)
    (is_Unfit_NoVersion : PySem.W.kitOne K (.ref C_Unfit) (.ref C_NoVersion) = some false)
    (is_Unfit_NothingToRedo : PySem.W.kitOne K (.ref C_Unfit) (.ref C_NothingToRedo) = some false)
    (is_Unfit_NothingToUndo : PySem.W.kitOne K (.ref C_Unfit) (.ref C_NothingToUndo) = some false)
    (is_Unfit_Refused : PySem.W.kitOne K (.ref C_Unfit) (.ref C_Refused) = some false)
    (is_Unfit_TooMany : PySem.W.kitOne K (.ref C_Unfit) (.ref C_TooMany) = some false)
    (is_Unfit_Unfit : PySem.W.kitOne K (.ref C_Unfit) (.ref C_Unfit) = some true)
    (is_Unfit_ValueError : PySem.W.kitOne K (.ref C_Unfit) (.type "ValueError") = some true)
    (i_gcd : PySem.W.nsIn K mainGlobals "gcd" = some (some (.builtin "math.gcd"))) :
    ∃ fd : FuncData, (∀ (s : Shared) (v : Value), BindsTo s fd ⟨[v], []⟩ [("script", v)]) ∧ ∀ base : Heap, K.In base → base.Ns mainGlobals mg → FnG l.prog w K mg base CX0 5 fa fd ["script"] (spOf K c_law) := by
  have e := (PySem.W.mg_of X G a22).symm.trans hfa
  cases e
  let T : Top K mg := {
    cl := ⟨C_BaseError, C_Unfit, C_TooMany, C_BadText, C_BadWord, C_BadLog, C_Refused, C_NothingToUndo, C_NothingToRedo, C_NoName, C_NoVersion⟩,
    g_BaseError := PySem.W.mg_of X G g_BaseError,
    g_Unfit := PySem.W.mg_of X G g_Unfit,
    g_TooMany := PySem.W.mg_of X G g_TooMany,
    g_BadText := PySem.W.mg_of X G g_BadText,
    g_BadWord := PySem.W.mg_of X G g_BadWord,
    g_BadLog := PySem.W.mg_of X G g_BadLog,
    g_Refused := PySem.W.mg_of X G g_Refused,
    g_NothingToUndo := PySem.W.mg_of X G g_NothingToUndo,
    g_NothingToRedo := PySem.W.mg_of X G g_NothingToRedo,
    g_NoName := PySem.W.mg_of X G g_NoName,
    g_NoVersion := PySem.W.mg_of X G g_NoVersion,
    xi_Unfit := xi_Unfit, kp_Unfit := kp_Unfit, be_Unfit := be_Unfit, ty_Unfit := ty_Unfit, ec_Unfit := ⟨e1_Unfit, e2_Unfit, be_Unfit, hd_Unfit, e3_Unfit, e5, e6, e4_Unfit⟩,
    ex_Unfit_BaseError := PySem.W.exm_ref be_BaseError hd_BaseError ty_BaseError sb_Unfit_BaseError,
    is_Unfit_BadLog := is_Unfit_BadLog,
    is_Unfit_BadText := is_Unfit_BadText,
    is_Unfit_BadWord := is_Unfit_BadWord,
    is_Unfit_NoName := is_Unfit_NoName,
    is_Unfit_NoVersion := is_Unfit_NoVersion,
    is_Unfit_NothingToRedo := is_Unfit_NothingToRedo,
    is_Unfit_NothingToUndo := is_Unfit_NothingToUndo,
    is_Unfit_Refused := is_Unfit_Refused,
    is_Unfit_TooMany := is_Unfit_TooMany,
    is_Unfit_Unfit := is_Unfit_Unfit,
    is_Unfit_ValueError := is_Unfit_ValueError,
    f_block_rule := f0, fd_block_rule := _, F_block_rule := fun_mk (st := s_block_rule) l0 c0 k0, m_block_rule := PySem.W.mg_of X G a0,
    f_block_sum := f1, fd_block_sum := _, F_block_sum := fun_mk (st := s_block_sum) l1 c1 k1, m_block_sum := PySem.W.mg_of X G a1,
    f_block_way := f2, fd_block_way := _, F_block_way := fun_mk (st := s_block_way) l2 c2 k2, m_block_way := PySem.W.mg_of X G a2,
    f_l_own_bag := f3, fd_l_own_bag := _, F_l_own_bag := fun_mk (st := s_l_own_bag) l3 c3 k3, m_l_own_bag := PySem.W.mg_of X G a3,
    f_l_draw := f4, fd_l_draw := _, F_l_draw := fun_mk (st := s_l_draw) l4 c4 k4, m_l_draw := PySem.W.mg_of X G a4,
    f_l_pick := f5, fd_l_pick := _, F_l_pick := fun_mk (st := s_l_pick) l5 c5 k5, m_l_pick := PySem.W.mg_of X G a5,
    f_l_big := f6, fd_l_big := _, F_l_big := fun_mk (st := s_l_big) l6 c6 k6, m_l_big := PySem.W.mg_of X G a6,
    f_l_is_row := f7, fd_l_is_row := _, F_l_is_row := fun_mk (st := s_l_is_row) l7 c7 k7, m_l_is_row := PySem.W.mg_of X G a7,
    f_l_same := f8, fd_l_same := _, F_l_same := fun_mk (st := s_l_same) l8 c8 k8, m_l_same := PySem.W.mg_of X G a8,
    f_l_common := f9, fd_l_common := _, F_l_common := fun_mk (st := s_l_common) l9 c9 k9, m_l_common := PySem.W.mg_of X G a9,
    f_l_power := f10, fd_l_power := _, F_l_power := fun_mk (st := s_l_power) l10 c10 k10, m_l_power := PySem.W.mg_of X G a10,
    f_l_own_pair := f11, fd_l_own_pair := _, F_l_own_pair := fun_mk (st := s_l_own_pair) l11 c11 k11, m_l_own_pair := PySem.W.mg_of X G a11,
    f_l_alike_pair := f12, fd_l_alike_pair := _, F_l_alike_pair := fun_mk (st := s_l_alike_pair) l12 c12 k12, m_l_alike_pair := PySem.W.mg_of X G a12,
    f_l_own_rule := f13, fd_l_own_rule := _, F_l_own_rule := fun_mk (st := s_l_own_rule) l13 c13 k13, m_l_own_rule := PySem.W.mg_of X G a13,
    f_l_own_sum := f14, fd_l_own_sum := _, F_l_own_sum := fun_mk (st := s_l_own_sum) l14 c14 k14, m_l_own_sum := PySem.W.mg_of X G a14,
    f_l_own_way := f15, fd_l_own_way := _, F_l_own_way := fun_mk (st := s_l_own_way) l15 c15 k15, m_l_own_way := PySem.W.mg_of X G a15,
    f_l_uneven := f16, fd_l_uneven := _, F_l_uneven := fun_mk (st := s_l_uneven) l16 c16 k16, m_l_uneven := PySem.W.mg_of X G a16,
    f_l_number := f17, fd_l_number := _, F_l_number := fun_mk (st := s_l_number) l17 c17 k17, m_l_number := PySem.W.mg_of X G a17,
    f_l_edges := f18, fd_l_edges := _, F_l_edges := fun_mk (st := s_l_edges) l18 c18 k18, m_l_edges := PySem.W.mg_of X G a18,
    f_l_is_refused := f19, fd_l_is_refused := _, F_l_is_refused := fun_mk (st := s_l_is_refused) l19 c19 k19, m_l_is_refused := PySem.W.mg_of X G a19,
    f_l_is_way_right := f20, fd_l_is_way_right := _, F_l_is_way_right := fun_mk (st := s_l_is_way_right) l20 c20 k20, m_l_is_way_right := PySem.W.mg_of X G a20,
    f_l_are_sums_right := f21, fd_l_are_sums_right := _, F_l_are_sums_right := fun_mk (st := s_l_are_sums_right) l21 c21 k21, m_l_are_sums_right := PySem.W.mg_of X G a21,
    f_law := fa, fd_law := _, F_law := fun_mk (st := s_law) l22 c22 k22, m_law := PySem.W.mg_of X G a22,
    i_gcd := PySem.W.mg_of X G i_gcd,
    n_ValueError := PySem.W.mg_none_of X G n_ValueError,
    n_abs := PySem.W.mg_none_of X G n_abs,
    n_all := PySem.W.mg_none_of X G n_all,
    n_bool := PySem.W.mg_none_of X G n_bool,
    n_int := PySem.W.mg_none_of X G n_int,
    n_isinstance := PySem.W.mg_none_of X G n_isinstance,
    n_len := PySem.W.mg_none_of X G n_len,
    n_list := PySem.W.mg_none_of X G n_list,
    n_min := PySem.W.mg_none_of X G n_min,
    n_range := PySem.W.mg_none_of X G n_range,
    n_reversed := PySem.W.mg_none_of X G n_reversed,
    n_str := PySem.W.mg_none_of X G n_str,
    n_tuple := PySem.W.mg_none_of X G n_tuple,
    n_zip := PySem.W.mg_none_of X G n_zip }
  exact ⟨T.fd_law, fun s v => .of_eq rfl, fun base _ _ => ok_law T⟩
end KK
open PySem PySem.W PyProof.Rows in
set_option maxRecDepth 100000 in
set_option maxHeartbeats 0 in
theorem PySem.Challenge.cw_manybases_k81_whole_main_pieces_holds : PySem.Challenge.rw_manybases_k81_whole_main_pieces.Holds := by
  w_on; o_law; k_head; (case hw => w_witness2)
  k_fill
  refine Z.walk (l := PySem.Challenge.rw_manybases_k81_whole_main_pieces) (n := 63) (k := 5) (x := "script") rfl rfl (fun w h Y => PySem.W.kIn_of Y) ⟨rfl, by decide +kernel, by decide +kernel⟩ (by decide) ?F
  case F =>
    intro w mg fa h KX G hmg
    refine' KK.all_mk KX G hmg ?a0 ?l0 ?c0 ?k0 ?a1 ?l1 ?c1 ?k1 ?a2 ?l2 ?c2 ?k2 ?a3 ?l3 ?c3 ?k3 ?a4 ?l4 ?c4 ?k4 ?a5 ?l5 ?c5 ?k5 ?a6 ?l6 ?c6 ?k6 ?a7 ?l7 ?c7 ?k7 ?a8 ?l8 ?c8 ?k8 ?a9 ?l9 ?c9 ?k9 ?a10 ?l10 ?c10 ?k10 ?a11 ?l11 ?c11 ?k11 ?a12 ?l12 ?c12 ?k12 ?a13 ?l13 ?c13 ?k13 ?a14 ?l14 ?c14 ?k14 ?a15 ?l15 ?c15 ?k15 ?a16 ?l16 ?c16 ?k16 ?a17 ?l17 ?c17 ?k17 ?a18 ?l18 ?c18 ?k18 ?a19 ?l19 ?c19 ?k19 ?a20 ?l20 ?c20 ?k20 ?a21 ?l21 ?c21 ?k21 ?a22 ?l22 ?c22 ?k22 ?n_ValueError ?n_abs ?n_all ?n_bool ?n_int ?n_isinstance ?n_len ?n_list ?n_min ?n_range ?n_reversed ?n_str ?n_tuple ?n_zip ?g_BaseError ?be_BaseError ?hd_BaseError ?ty_BaseError ?g_Unfit ?be_Unfit ?hd_Unfit ?ty_Unfit ?g_TooMany ?be_TooMany ?hd_TooMany ?ty_TooMany ?g_BadText ?be_BadText ?hd_BadText ?ty_BadText ?g_BadWord ?be_BadWord ?hd_BadWord ?ty_BadWord ?g_BadLog ?be_BadLog ?hd_BadLog ?ty_BadLog ?g_Refused ?be_Refused ?hd_Refused ?ty_Refused ?g_NothingToUndo ?be_NothingToUndo ?hd_NothingToUndo ?ty_NothingToUndo ?g_NothingToRedo ?be_NothingToRedo ?hd_NothingToRedo ?ty_NothingToRedo ?g_NoName ?be_NoName ?hd_NoName ?ty_NoName ?g_NoVersion ?be_NoVersion ?hd_NoVersion ?ty_NoVersion ?xi_Unfit ?kp_Unfit ?e1_Unfit ?e2_Unfit ?e3_Unfit ?e4_Unfit ?sb_Unfit_BaseError ?e5 ?e6 ?is_Unfit_BadLog ?is_Unfit_BadText ?is_Unfit_BadWord ?is_Unfit_NoName ?is_Unfit_NoVersion ?is_Unfit_NothingToRedo ?is_Unfit_NothingToUndo ?is_Unfit_Refused ?is_Unfit_TooMany ?is_Unfit_Unfit ?is_Unfit_ValueError ?i_gcd
    (case a0 => k_is)
    (case l0 => k_is)
    (case c0 => k_is)
    (case k0 => k_is)
    (case a1 => k_is)
    (case l1 => k_is)
    (case c1 => k_is)
    (case k1 => k_is)
    (case a2 => k_is)
    (case l2 => k_is)
    (case c2 => k_is)
    (case k2 => k_is)
    (case a3 => k_is)
    (case l3 => k_is)
    (case c3 => k_is)
    (case k3 => k_is)
    (case a4 => k_is)
    (case l4 => k_is)
    (case c4 => k_is)
    (case k4 => k_is)
    (case a5 => k_is)
    (case l5 => k_is)
    (case c5 => k_is)
    (case k5 => k_is)
    (case a6 => k_is)
    (case l6 => k_is)
    (case c6 => k_is)
    (case k6 => k_is)
    (case a7 => k_is)
    (case l7 => k_is)
    (case c7 => k_is)
    (case k7 => k_is)
    (case a8 => k_is)
    (case l8 => k_is)
    (case c8 => k_is)
    (case k8 => k_is)
    (case a9 => k_is)
    (case l9 => k_is)
    (case c9 => k_is)
    (case k9 => k_is)
    (case a10 => k_is)
    (case l10 => k_is)
    (case c10 => k_is)
    (case k10 => k_is)
    (case a11 => k_is)
    (case l11 => k_is)
    (case c11 => k_is)
    (case k11 => k_is)
    (case a12 => k_is)
    (case l12 => k_is)
    (case c12 => k_is)
    (case k12 => k_is)
    (case a13 => k_is)
    (case l13 => k_is)
    (case c13 => k_is)
    (case k13 => k_is)
    (case a14 => k_is)
    (case l14 => k_is)
    (case c14 => k_is)
    (case k14 => k_is)
    (case a15 => k_is)
    (case l15 => k_is)
    (case c15 => k_is)
    (case k15 => k_is)
    (case a16 => k_is)
    (case l16 => k_is)
    (case c16 => k_is)
    (case k16 => k_is)
    (case a17 => k_is)
    (case l17 => k_is)
    (case c17 => k_is)
    (case k17 => k_is)
    (case a18 => k_is)
    (case l18 => k_is)
    (case c18 => k_is)
    (case k18 => k_is)
    (case a19 => k_is)
    (case l19 => k_is)
    (case c19 => k_is)
    (case k19 => k_is)
    (case a20 => k_is)
    (case l20 => k_is)
    (case c20 => k_is)
    (case k20 => k_is)
    (case a21 => k_is)
    (case l21 => k_is)
    (case c21 => k_is)
    (case k21 => k_is)
    (case a22 => k_is)
    (case l22 => k_is)
    (case c22 => k_is)
    (case k22 => k_is)
    (case n_ValueError => k_is)
    (case n_abs => k_is)
    (case n_all => k_is)
    (case n_bool => k_is)
    (case n_int => k_is)
    (case n_isinstance => k_is)
    (case n_len => k_is)
    (case n_list => k_is)
    (case n_min => k_is)
    (case n_range => k_is)
    (case n_reversed => k_is)
    (case n_str => k_is)
    (case n_tuple => k_is)
    (case n_zip => k_is)
    (case g_BaseError => k_is)
    (case be_BaseError => k_is)
    (case hd_BaseError => k_is)
    (case ty_BaseError => k_is)
    (case g_Unfit => k_is)
    (case be_Unfit => k_is)
    (case hd_Unfit => k_is)
    (case ty_Unfit => k_is)
    (case g_TooMany => k_is)
    (case be_TooMany => k_is)
    (case hd_TooMany => k_is)
    (case ty_TooMany => k_is)
    (case g_BadText => k_is)
    (case be_BadText => k_is)
    (case hd_BadText => k_is)
    (case ty_BadText => k_is)
    (case g_BadWord => k_is)
    (case be_BadWord => k_is)
    (case hd_BadWord => k_is)
    (case ty_BadWord => k_is)
    (case g_BadLog => k_is)
    (case be_BadLog => k_is)
    (case hd_BadLog => k_is)
    (case ty_BadLog => k_is)
    (case g_Refused => k_is)
    (case be_Refused => k_is)
    (case hd_Refused => k_is)
    (case ty_Refused => k_is)
    (case g_NothingToUndo => k_is)
    (case be_NothingToUndo => k_is)
    (case hd_NothingToUndo => k_is)
    (case ty_NothingToUndo => k_is)
    (case g_NothingToRedo => k_is)
    (case be_NothingToRedo => k_is)
    (case hd_NothingToRedo => k_is)
    (case ty_NothingToRedo => k_is)
    (case g_NoName => k_is)
    (case be_NoName => k_is)
    (case hd_NoName => k_is)
    (case ty_NoName => k_is)
    (case g_NoVersion => k_is)
    (case be_NoVersion => k_is)
    (case hd_NoVersion => k_is)
    (case ty_NoVersion => k_is)
    (case xi_Unfit => k_exc)
    (case kp_Unfit => k_is)
    (case e1_Unfit => k_is)
    (case e2_Unfit => k_is)
    (case e3_Unfit => k_is)
    (case e4_Unfit => k_is)
    (case sb_Unfit_BaseError => first | rfl | k_is)
    (case e5 => k_is)
    (case e6 => k_is)
    (case is_Unfit_BadLog => first | k_is | rfl)
    (case is_Unfit_BadText => first | k_is | rfl)
    (case is_Unfit_BadWord => first | k_is | rfl)
    (case is_Unfit_NoName => first | k_is | rfl)
    (case is_Unfit_NoVersion => first | k_is | rfl)
    (case is_Unfit_NothingToRedo => first | k_is | rfl)
    (case is_Unfit_NothingToUndo => first | k_is | rfl)
    (case is_Unfit_Refused => first | k_is | rfl)
    (case is_Unfit_TooMany => first | k_is | rfl)
    (case is_Unfit_Unfit => first | k_is | rfl)
    (case is_Unfit_ValueError => first | k_is | rfl)
    (case i_gcd => k_is)
