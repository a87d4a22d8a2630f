import PyProof.Rows.All
import Wide.All
import OpenK.AllK
import Wide.FinOn
import HandS.ForMost
import HandS.Wide
import HandS.EndBits
import HandS.RaiseMore
import HandS.IsInst
import HandS.Conv
import HandS.WordsExc
import HandS.TupAny
import HandS.WideBits
import HandS.Deep
import HandS.SortInts
import HandS.Gcd
import HandS.Style
import HandS.Zip
import HandS.Rev
import HandS.HotCalls
import HandS.ExcIs
import HandS.TupMul
import HandS.Iter
import HandS.Dict
import PySem.Challenge.RW_manybases_k77_whole_main_mirrored_number
set_option Elab.async false
set_option linter.all false
set_option maxRecDepth 100000
set_option maxHeartbeats 4000000
/-! Z1: a layer over data: slots hold data (PyData) or raw values, what is mutable lies in a list of cells. -/
namespace Z
open PySem PySem.Spec PyProof.Rows L2
/-! ### values, cells, states -/
/-- data (lists in it are objects of our own that never change again); a list that is only read (the script); any other value, raw -/
inductive SV where
  | d (x : PyData)
  | l (xs : List PyData)
  | r (v : V)
inductive OC where
  | lst (xs : List PyData)
  | lx (xs : List SV)
  | dk (kvs : List (Key × SV))
  | dt (kvs : List (List Key × SV))
  | raw (o : HO)
abbrev Rho := List (Option SV)
abbrev Om := List (Addr × OC)
abbrev Frag := PySem.W.Frag
theorem sqt_same {K : Frag} {H H' : Hp} {a : Addr} {xs : List V} (e : Same H H') (h : SqT K H a xs) : SqT K H' a xs := by
  rcases h with (h | ⟨o, h⟩) | h
  · exact Or.inl (Or.inl (e _ _ h))
  · exact Or.inl (Or.inr ⟨o, e _ _ h⟩)
  · exact Or.inr h
mutual
/-- v is data d in F: as Dp, but a list is an object that F tracks itself -/
inductive Dq (K : Frag) (F : Hp) : V → PyData → Prop
  | non : Dq K F .non .none
  | bl (b : Bool) : Dq K F (.bl b) (.bool b)
  | int (i : Int) : Dq K F (.int i) (.int i)
  | str (x : Str) : Dq K F (.str x) (.str x)
  | lst {a : Addr} {xs : List V} {ds : List PyData} : F a = some (.lst xs) → DqAll K F xs ds → Dq K F (.ref a) (.list ds)
  | tup {a : Addr} {xs : List V} {ds : List PyData} : SqT K F a xs → DqAll K F xs ds → Dq K F (.ref a) (.tuple ds)
inductive DqAll (K : Frag) (F : Hp) : List V → List PyData → Prop
  | nil : DqAll K F [] []
  | cons {v : V} {vs : List V} {d : PyData} {ds : List PyData} : Dq K F v d → DqAll K F vs ds → DqAll K F (v :: vs) (d :: ds)
end
mutual
theorem dq_same {K : Frag} {H H' : Hp} (e : Same H H') : ∀ (d : PyData) (v : V), Dq K H v d → Dq K H' v d
  | .none, _, h => by cases h; exact .non
  | .bool b, _, h => by cases h; exact .bl b
  | .int i, _, h => by cases h; exact .int i
  | .str x, _, h => by cases h; exact .str x
  | .list ds, _, h => by
    cases h with
    | lst hs ha => exact .lst (e _ _ hs) (dqa_same e ds _ ha)
  | .tuple ds, _, h => by
    cases h with
    | tup hs ha => exact .tup (sqt_same e hs) (dqa_same e ds _ ha)
  | .dict _, _, h => by cases h
theorem dqa_same {K : Frag} {H H' : Hp} (e : Same H H') : ∀ (ds : List PyData) (vs : List V), DqAll K H vs ds → DqAll K H' vs ds
  | [], _, h => by cases h; exact .nil
  | d :: ds, _, h => by
    cases h with
    | cons h1 h2 => exact .cons (dq_same e d _ h1) (dqa_same e ds _ h2)
end
mutual
theorem Dq.dp {K : Frag} {H : Hp} : ∀ (d : PyData) (v : V), Dq K H v d → Dp K H v d
  | .none, _, h => by cases h; exact .non
  | .bool b, _, h => by cases h; exact .bl b
  | .int i, _, h => by cases h; exact .int i
  | .str x, _, h => by cases h; exact .str x
  | .list ds, _, h => by
    cases h with
    | lst hs ha => exact .lst (SqL.of hs) (DqAll.dp ds _ ha)
  | .tuple ds, _, h => by
    cases h with
    | tup hs ha => exact .tup hs (DqAll.dp ds _ ha)
  | .dict _, _, h => by cases h
theorem DqAll.dp {K : Frag} {H : Hp} : ∀ (ds : List PyData) (vs : List V), DqAll K H vs ds → DpAll K H vs ds
  | [], _, h => by cases h; exact .nil
  | d :: ds, _, h => by
    cases h with
    | cons h1 h2 => exact .cons (Dq.dp d _ h1) (DqAll.dp ds _ h2)
end
theorem dqi {K : Frag} {F : Hp} {v : V} {i : Int} (h : Dq K F v (.int i)) : v = .int i := by cases h; rfl
theorem dqb {K : Frag} {F : Hp} {v : V} {b : Bool} (h : Dq K F v (.bool b)) : v = .bl b := by cases h; rfl
theorem dqs {K : Frag} {F : Hp} {v : V} {x : Str} (h : Dq K F v (.str x)) : v = .str x := by cases h; rfl
theorem dqn {K : Frag} {F : Hp} {v : V} (h : Dq K F v .none) : v = .non := by cases h; rfl
theorem dql {K : Frag} {F : Hp} {v : V} {ds : List PyData} (h : Dq K F v (.list ds)) : ∃ a xs, v = .ref a ∧ F a = some (.lst xs) ∧ DqAll K F xs ds := by cases h with | lst hs ha => exact ⟨_, _, rfl, hs, ha⟩
theorem dqt {K : Frag} {F : Hp} {v : V} {ds : List PyData} (h : Dq K F v (.tuple ds)) : ∃ a xs, v = .ref a ∧ SqT K F a xs ∧ DqAll K F xs ds := by cases h with | tup hs ha => exact ⟨_, _, rfl, hs, ha⟩
def Rp (K : Frag) (F : Hp) (v : V) : SV → Prop
  | .d x => Dq K F v x
  | .l ds => ∃ a xs, v = .ref a ∧ SqL K F a xs ∧ DqAll K F xs ds
  | .r u => v = u
theorem Rp.same {K : Frag} {F F' : Hp} (e : Same F F') : ∀ {v : V} {s : SV}, Rp K F v s → Rp K F' v s
  | v, .d x, h => dq_same e x v h
  | _, .l ds, ⟨a, xs, h1, h2, h3⟩ => ⟨a, xs, h1, e.seq h2, dqa_same e ds xs h3⟩
  | _, .r _, h => h
def RpO (K : Frag) (F : Hp) : HO → OC → Prop
  | .lst vs, .lst xs => DqAll K F vs xs
  | .lst vs, .lx xs => Paired (Rp K F) vs xs
  | .dK kvs, .dk ys => Paired (fun p q => p.1 = q.1 ∧ Rp K F p.2 q.2) kvs ys
  | .dT kvs, .dt ys => Paired (fun p q => p.1 = q.1 ∧ Rp K F p.2 q.2) kvs ys
  | o, .raw o' => o = o'
  | _, _ => False
theorem RpO.same {K : Frag} {F F' : Hp} (e : Same F F') {o : HO} {c : OC} (h : RpO K F o c) : RpO K F' o c := by
  unfold RpO at h ⊢
  split at h
  · exact dqa_same e _ _ h
  · exact Paired.mapP h fun _ _ q => q.same e
  · exact Paired.mapP h fun _ _ q => ⟨q.1, q.2.same e⟩
  · exact Paired.mapP h fun _ _ q => ⟨q.1, q.2.same e⟩
  · exact h
  · exact h.elim
def RpS (K : Frag) (F : Hp) (o : Option V) : Option SV → Prop
  | none => True
  | some x => ∃ v, o = some v ∧ Rp K F v x
abbrev RpE (K : Frag) (F : Hp) : L2.St → Rho → Prop := Paired (RpS K F)
theorem RpS.same {K : Frag} {F F' : Hp} (e : Same F F') : ∀ {o : Option V} {s : Option SV}, RpS K F o s → RpS K F' o s
  | _, none, _ => trivial
  | _, some _, ⟨v, h, q⟩ => ⟨v, h, q.same e⟩
theorem rpe_same {K : Frag} {F F' : Hp} (e : Same F F') {σ : L2.St} {ρ : Rho} (h : RpE K F σ ρ) : RpE K F' σ ρ := Paired.mapP h fun _ _ q => q.same e
theorem rps_same {K : Frag} {F F' : Hp} (e : Same F F') {σ : List V} {ρ : List SV} (h : Paired (Rp K F) σ ρ) : Paired (Rp K F') σ ρ := Paired.mapP h fun _ _ q => q.same e
theorem rpe_get {K : Frag} {F : Hp} : ∀ {σ : L2.St} {ρ : Rho} {i : Nat} {x : SV}, RpE K F σ ρ → ρ[i]? = some (some x) → ∃ v, σ[i]? = some (some v) ∧ Rp K F v x
  | _, _, _, _, .nil, e => by simp at e
  | _, _, 0, x, .cons r _, e => by
    simp at e; subst e
    obtain ⟨v, rfl, q⟩ := r
    exact ⟨v, rfl, q⟩
  | _, _, i + 1, x, .cons _ t, e => by
    obtain ⟨v, h1, h2⟩ := rpe_get (i := i) (x := x) t (by simpa using e)
    exact ⟨v, by simpa using h1, h2⟩
theorem pr_set {α β : Type} {R : α → β → Prop} {x : α} {y : β} (r : R x y) : ∀ {l : List α} {m : List β} (i : Nat), Paired R l m → Paired R (l.set i x) (m.set i y)
  | _, _, _, .nil => .nil
  | _, _, 0, .cons _ t => .cons r t
  | _, _, i + 1, .cons q t => .cons q (pr_set r i t)
theorem pr_app {α β : Type} {R : α → β → Prop} : ∀ {l l' : List α} {m m' : List β}, Paired R l m → Paired R l' m' → Paired R (l ++ l') (m ++ m')
  | _, _, _, _, .nil, s => s
  | _, _, _, _, .cons r t, s => .cons r (pr_app t s)
theorem pr_take {α β : Type} {R : α → β → Prop} : ∀ {l : List α} {m : List β} (n : Nat), Paired R l m → Paired R (l.take n) (m.take n)
  | _, _, 0, _ => .nil
  | _, _, _ + 1, .nil => .nil
  | _, _, n + 1, .cons r t => .cons r (pr_take n t)
theorem pr_drop {α β : Type} {R : α → β → Prop} : ∀ {l : List α} {m : List β} (n : Nat), Paired R l m → Paired R (l.drop n) (m.drop n)
  | _, _, 0, r => r
  | _, _, _ + 1, .nil => .nil
  | _, _, n + 1, .cons _ t => pr_drop n t
theorem pr_get {α β : Type} {R : α → β → Prop} : ∀ {l : List α} {m : List β} {i : Nat} {y : β}, Paired R l m → m[i]? = some y → ∃ x, l[i]? = some x ∧ R x y
  | _, _, _, _, .nil, e => by simp at e
  | _, _, 0, y, .cons r _, e => by simp at e; subst e; exact ⟨_, rfl, r⟩
  | _, _, i + 1, y, .cons _ t, e => by
    obtain ⟨v, h1, h2⟩ := pr_get (i := i) (y := y) t (by simpa using e)
    exact ⟨v, by simpa using h1, h2⟩
theorem pr_getL {α β : Type} {R : α → β → Prop} : ∀ {l : List α} {m : List β} {i : Nat} {x : α}, Paired R l m → l[i]? = some x → ∃ y, m[i]? = some y ∧ R x y
  | _, _, _, _, .nil, e => by simp at e
  | _, _, 0, y, .cons r _, e => by simp at e; subst e; exact ⟨_, rfl, r⟩
  | _, _, i + 1, y, .cons _ t, e => by
    obtain ⟨v, h1, h2⟩ := pr_getL (i := i) (x := y) t (by simpa using e)
    exact ⟨v, by simpa using h1, h2⟩
theorem pr_rev {α β : Type} {R : α → β → Prop} : ∀ {l : List α} {m : List β}, Paired R l m → Paired R l.reverse m.reverse
  | _, _, .nil => .nil
  | _, _, .cons r t => by
    rw [List.reverse_cons, List.reverse_cons]
    exact pr_app (pr_rev t) (.cons r .nil)
theorem pr_erase {α β : Type} {R : α → β → Prop} : ∀ {l : List α} {m : List β} (n : Nat), Paired R l m → Paired R (l.eraseIdx n) (m.eraseIdx n)
  | _, _, _, .nil => .nil
  | _, _, 0, .cons _ t => t
  | _, _, n + 1, .cons r t => .cons r (pr_erase n t)
theorem pr_dropLast {α β : Type} {R : α → β → Prop} {l : List α} {m : List β} (h : Paired R l m) : Paired R l.dropLast m.dropLast := by
  rw [List.dropLast_eq_take, List.dropLast_eq_take, h.length]
  exact pr_take _ h
/-- data lists -/
theorem dqa_of {K : Frag} {F : Hp} : ∀ {vs : List V} {ds : List PyData}, Paired (Rp K F) vs (ds.map SV.d) → DqAll K F vs ds
  | _, [], h => by cases h; exact .nil
  | _, d :: ds, h => by
    cases h with
    | cons r t => exact .cons r (dqa_of t)
theorem of_dqa {K : Frag} {F : Hp} : ∀ {vs : List V} {ds : List PyData}, DqAll K F vs ds → Paired (Rp K F) vs (ds.map SV.d)
  | _, [], h => by cases h; exact .nil
  | _, d :: ds, h => by
    cases h with
    | cons r t => exact .cons r (of_dqa t)
theorem dqa_len {K : Frag} {F : Hp} {vs : List V} {ds : List PyData} (h : DqAll K F vs ds) : vs.length = ds.length := by
  have q := (of_dqa h).length
  rw [List.length_map] at q
  exact q
/-! ### the entry of a def, and the state -/
structure Gn where
  F0 : Hp
  H0 : Hp
  P0 : Hp
structure En extends Gn where
  K : Frag
/-- P: what is left alone; F: what is frozen (data rests on it); Ω: the cells, apart from both -/
structure Ok (E : En) (P F H : Hp) (Ω : Om) : Prop where
  p0 : Same E.P0 P
  pf : Same P H
  pd : ∀ p ∈ Ω, P p.1 = none
  pF : ∀ a, P a ≠ none → F a = none
  f0 : Same E.F0 F
  fn : ∀ a, F a ≠ none → E.F0 a = none → E.H0 a = none
  dm : ∀ a, H a = none → E.H0 a = none
  ex : Same F H
  own : ∀ p ∈ Ω, F p.1 = none ∧ ∃ o, H p.1 = some o ∧ RpO E.K F o p.2
  nd : (Ω.map (·.1)).Nodup
section
variable {E : En} {P F H : Hp} {Ω : Om}
theorem Ok.free (h : Ok E P F H Ω) {a : Addr} (e : H a = none) : F a = none := h.ex.free e
/-- a new object, frozen at once -/
theorem Ok.newF (h : Ok E P F H Ω) {p : Addr} {o : HO} (e : H p = none) : Ok E P (upd F p o) (upd H p o) Ω ∧ Same F (upd F p o) := by
  have sF : Same F (upd F p o) := fun b u q => by rw [upd_ne (ne_of_none q (h.free e))]; exact q
  refine ⟨⟨h.p0, fun b u q => by rw [upd_ne (ne_of_none (h.pf b u q) e)]; exact h.pf b u q, h.pd, fun a q => by rw [upd_ne (fun z => q (by rw [z]; exact h.pf.free e))]; exact h.pF a q, h.f0.trans sF, fun a q z => ?_, fun a q => ?_, fun b u q => ?_, fun x hx => ?_, h.nd⟩, sF⟩
  · by_cases ha : a = p
    · rw [ha]; exact h.dm p e
    · rw [upd_ne ha] at q; exact h.fn a q z
  · by_cases ha : a = p
    · rw [ha]; exact h.dm p e
    · rw [upd_ne ha] at q; exact h.dm a q
  · by_cases hb : b = p
    · rw [hb] at q ⊢; rw [upd_same] at q ⊢; exact q
    · rw [upd_ne hb] at q ⊢; exact h.ex b u q
  · obtain ⟨h1, u, h2, h3⟩ := h.own x hx
    have ne : x.1 ≠ p := ne_of_none h2 e
    exact ⟨by rw [upd_ne ne]; exact h1, u, by rw [upd_ne ne]; exact h2, h3.same sF⟩
/-- a new object, a cell -/
theorem Ok.newO (h : Ok E P F H Ω) {p : Addr} {o : HO} {c : OC} (e : H p = none) (r : RpO E.K F o c) : Ok E P F (upd H p o) ((p, c) :: Ω) := by
  have nF := h.free e
  refine ⟨h.p0, fun b u q => by rw [upd_ne (ne_of_none (h.pf b u q) e)]; exact h.pf b u q, fun x hx => ?_, h.pF, h.f0, h.fn, fun a q => ?_, fun b u q => ?_, fun x hx => ?_, ?_⟩
  · rcases List.mem_cons.mp hx with rfl | hx
    · exact h.pf.free e
    · exact h.pd x hx
  · by_cases ha : a = p
    · rw [ha]; exact h.dm p e
    · rw [upd_ne ha] at q; exact h.dm a q
  · rw [upd_ne (ne_of_none q nF)]; exact h.ex b u q
  · rcases List.mem_cons.mp hx with rfl | hx
    · exact ⟨nF, o, upd_same, r⟩
    · obtain ⟨h1, u, h2, h3⟩ := h.own x hx
      exact ⟨h1, u, by rw [upd_ne (ne_of_none h2 e)]; exact h2, h3⟩
  · rw [List.map_cons]
    refine List.nodup_cons.mpr ⟨fun hm => ?_, h.nd⟩
    obtain ⟨x, hx, hp⟩ := List.mem_map.mp hm
    obtain ⟨_, u, h2, _⟩ := h.own x hx
    rw [hp, e] at h2
    cases h2
/-- a new object that nothing is to know -/
theorem Ok.newX (h : Ok E P F H Ω) {p : Addr} {o : HO} (e : H p = none) : Ok E P F (upd H p o) Ω := by
  have k := h.newO (c := .raw o) e (show RpO E.K F o (.raw o) by cases o <;> rfl)
  exact ⟨k.p0, k.pf, fun x hx => k.pd x (List.mem_cons_of_mem _ hx), k.pF, k.f0, k.fn, k.dm, k.ex, fun x hx => k.own x (List.mem_cons_of_mem _ hx), (List.nodup_cons.mp k.nd).2⟩
end
/-- the cell at a, and what the cells are with another thing there -/
inductive At : Om → Addr → OC → (OC → Om) → Prop where
  | here {a : Addr} {c : OC} {Ω : Om} : At ((a, c) :: Ω) a c (fun z => (a, z) :: Ω)
  | there {a : Addr} {c : OC} {Ω : Om} {p : Addr × OC} {f : OC → Om} : At Ω a c f → At (p :: Ω) a c (fun z => p :: f z)
theorem At.mem : ∀ {Ω : Om} {a : Addr} {c : OC} {f : OC → Om}, At Ω a c f → (a, c) ∈ Ω
  | _, _, _, _, .here => List.mem_cons_self
  | _, _, _, _, .there h => List.mem_cons_of_mem _ h.mem
theorem At.addrs : ∀ {Ω : Om} {a : Addr} {c : OC} {f : OC → Om}, At Ω a c f → ∀ z, (f z).map (·.1) = Ω.map (·.1)
  | _, _, _, _, .here, _ => rfl
  | _, _, _, _, .there h, z => by rw [List.map_cons, List.map_cons, h.addrs z]
theorem At.mems : ∀ {Ω : Om} {a : Addr} {c : OC} {f : OC → Om}, At Ω a c f → ∀ z x, x ∈ f z → x = (a, z) ∨ x ∈ Ω
  | _, _, _, _, .here, z, x, h => by
    rcases List.mem_cons.mp h with h | h
    · exact Or.inl h
    · exact Or.inr (List.mem_cons_of_mem _ h)
  | _, _, _, _, .there t, z, x, h => by
    rcases List.mem_cons.mp h with h | h
    · exact Or.inr (h ▸ List.mem_cons_self)
    · rcases t.mems z x h with q | q
      · exact Or.inl q
      · exact Or.inr (List.mem_cons_of_mem _ q)
theorem At.after : ∀ {Ω : Om} {a : Addr} {c : OC} {f : OC → Om}, At Ω a c f → ∀ z, At (f z) a z f
  | _, _, _, _, .here, z => .here
  | _, _, _, _, .there h, z => .there (h.after z)
section
variable {E : En} {P F H : Hp} {Ω : Om}
theorem nd_inj {α β : Type} {f : α → β} : ∀ {l : List α} {x y : α}, (l.map f).Nodup → x ∈ l → y ∈ l → f x = f y → x = y
  | [], _, _, _, h, _, _ => by cases h
  | z :: l, x, y, nd, hx, hy, e => by
    rw [List.map_cons] at nd
    obtain ⟨n1, n2⟩ := List.nodup_cons.mp nd
    rcases List.mem_cons.mp hx with h1 | h1
    · rcases List.mem_cons.mp hy with h2 | h2
      · rw [h1, h2]
      · rw [h1] at e
        exact absurd (by rw [e]; exact List.mem_map_of_mem h2) n1
    · rcases List.mem_cons.mp hy with h2 | h2
      · rw [h2] at e
        exact absurd (by rw [← e]; exact List.mem_map_of_mem h1) n1
      · exact nd_inj n2 h1 h2 e
theorem Ok.at_ (h : Ok E P F H Ω) {a : Addr} {c : OC} {f : OC → Om} (t : At Ω a c f) : F a = none ∧ ∃ o, H a = some o ∧ RpO E.K F o c := h.own _ t.mem
theorem Ok.lst (h : Ok E P F H Ω) {a : Addr} {xs : List PyData} {f : OC → Om} (t : At Ω a (.lst xs) f) : ∃ vs, H a = some (.lst vs) ∧ DqAll E.K F vs xs := by
  obtain ⟨_, o, h1, h2⟩ := h.at_ t
  cases o <;> first | exact ⟨_, h1, h2⟩ | exact (show False from h2).elim
theorem Ok.lx (h : Ok E P F H Ω) {a : Addr} {xs : List SV} {f : OC → Om} (t : At Ω a (.lx xs) f) : ∃ vs, H a = some (.lst vs) ∧ Paired (Rp E.K F) vs xs := by
  obtain ⟨_, o, h1, h2⟩ := h.at_ t
  cases o <;> first | exact ⟨_, h1, h2⟩ | exact (show False from h2).elim
theorem Ok.dk (h : Ok E P F H Ω) {a : Addr} {xs : List (Key × SV)} {f : OC → Om} (t : At Ω a (.dk xs) f) : ∃ vs, H a = some (.dK vs) ∧ Paired (fun p q => p.1 = q.1 ∧ Rp E.K F p.2 q.2) vs xs := by
  obtain ⟨_, o, h1, h2⟩ := h.at_ t
  cases o <;> first | exact ⟨_, h1, h2⟩ | exact (show False from h2).elim
/-- the cell at a is changed -/
theorem Ok.put (h : Ok E P F H Ω) {a : Addr} {c z : OC} {f : OC → Om} {o : HO} (t : At Ω a c f) (r : RpO E.K F o z) : Ok E P F (upd H a o) (f z) := by
  obtain ⟨nF, o0, h0, _⟩ := h.at_ t
  have nP : P a = none := h.pd _ t.mem
  refine ⟨h.p0, fun b u q => by rw [upd_ne (ne_of_none q nP)]; exact h.pf b u q, fun x hx => ?_, h.pF, h.f0, h.fn, fun b q => ?_, fun b u q => ?_, fun x hx => ?_, by rw [t.addrs z]; exact h.nd⟩
  · rcases t.mems z x hx with q | q
    · rw [q]; exact nP
    · exact h.pd x q
  · by_cases hb : b = a
    · rw [hb, upd_same] at q; cases q
    · rw [upd_ne hb] at q; exact h.dm b q
  · rw [upd_ne (ne_of_none q nF)]; exact h.ex b u q
  · by_cases hb : x.1 = a
    · have e : x = (a, z) := nd_inj (f := (·.1)) (l := f z) (by rw [t.addrs z]; exact h.nd) hx (t.after z).mem hb
      rw [e]
      exact ⟨nF, o, upd_same, r⟩
    · rcases t.mems z x hx with q | q
      · rw [q] at hb; exact absurd rfl hb
      · obtain ⟨h1, u, h2, h3⟩ := h.own x q
        exact ⟨h1, u, by rw [upd_ne hb]; exact h2, h3⟩
/-- a cell is frozen -/
theorem Ok.frz (h : Ok E P F H Ω) {Ω' : Om} {a : Addr} {c : OC} {o : HO} (ha : H a = some o) (n0 : E.H0 a = none) (nF : F a = none) (nP : P a = none) (hm : ∀ x ∈ Ω', x ∈ Ω ∧ x.1 ≠ a) (nd : (Ω'.map (·.1)).Nodup) : Ok E P (upd F a o) H Ω' ∧ Same F (upd F a o) := by
  have sF : Same F (upd F a o) := fun b u q => by rw [upd_ne (ne_of_none q nF)]; exact q
  refine ⟨⟨h.p0, h.pf, fun x hx => h.pd x (hm x hx).1, fun b q => by rw [upd_ne (fun z => q (by rw [z]; exact nP))]; exact h.pF b q, h.f0.trans sF, fun b q z => ?_, h.dm, fun b u q => ?_, fun x hx => ?_, nd⟩, sF⟩
  · by_cases hb : b = a
    · rw [hb]; exact n0
    · rw [upd_ne hb] at q; exact h.fn b q z
  · by_cases hb : b = a
    · rw [hb] at q ⊢; rw [upd_same] at q; rw [ha]; exact q
    · rw [upd_ne hb] at q; exact h.ex b u q
  · obtain ⟨q, ne⟩ := hm x hx
    obtain ⟨h1, u, h2, h3⟩ := h.own x q
    exact ⟨by rw [upd_ne ne]; exact h1, u, h2, h3.same sF⟩
/-- a callee's state, and back -/
theorem Ok.enter (h : Ok E P F H Ω) : Ok ⟨⟨F, H, P⟩, E.K⟩ P F H Ω := ⟨Same.refl P, h.pf, h.pd, h.pF, Same.refl F, fun a q z => absurd z q, fun a q => q, h.ex, h.own, h.nd⟩
theorem Ok.leave {P' F' H' : Hp} {Ω' : Om} (h : Ok E P F H Ω) (k : Ok ⟨⟨F, H, P⟩, E.K⟩ P' F' H' Ω') : Ok E P F' H' Ω' := by
  refine ⟨h.p0, fun b u q => k.pf b u (k.p0 b u q), fun x hx => k.p0.free (k.pd x hx), fun a q => k.pF a (fun z => q (k.p0.free z)), h.f0.trans k.f0, fun a q z => ?_, fun a q => h.dm a (k.dm a q), k.ex, k.own, k.nd⟩
  by_cases e : F a = none
  · exact h.dm a (k.fn a q e)
  · exact h.fn a e z
/-- one more thing that is left alone -/
theorem Ok.guard (h : Ok E P F H Ω) {p : Addr} {o : HO} (e : H p = none) : Ok E (upd P p o) F (upd H p o) Ω := by
  have nP := h.pf.free e
  have k := h.newX (o := o) e
  refine ⟨h.p0.trans fun b u q => by rw [upd_ne (ne_of_none q nP)]; exact q, fun b u q => ?_, fun x hx => ?_, fun a q => ?_, k.f0, k.fn, k.dm, k.ex, k.own, k.nd⟩
  · by_cases hb : b = p
    · rw [hb] at q ⊢; rw [upd_same] at q ⊢; exact q
    · rw [upd_ne hb] at q ⊢; exact h.pf b u q
  · obtain ⟨_, u, h2, _⟩ := h.own x hx
    rw [upd_ne (ne_of_none h2 e)]
    exact h.pd x hx
  · by_cases ha : a = p
    · rw [ha]; exact h.free e
    · rw [upd_ne ha] at q; exact h.pF a q
/-- the guarded thing is changed by its owner -/
theorem Ok.poke {p : Addr} {o o' : HO} (h : Ok E (upd P p o) F H Ω) (n0 : E.P0 p = none) (nF : F p = none) (np : P p = none) : Ok E (upd P p o') F (upd H p o') Ω := by
  have hp : H p = some o := h.pf p o upd_same
  refine ⟨fun b u q => ?_, fun b u q => ?_, fun x hx => ?_, fun b q => ?_, h.f0, h.fn, fun b q => ?_, fun b u q => ?_, fun x hx => ?_, h.nd⟩
  · have ne : b ≠ p := ne_of_none q n0
    have := h.p0 b u q
    rw [upd_ne ne] at this ⊢
    exact this
  · by_cases hb : b = p
    · rw [hb] at q ⊢; rw [upd_same] at q ⊢; exact q
    · have := h.pf b u (by rw [upd_ne hb] at q ⊢; exact q)
      rw [upd_ne hb]; exact this
  · have := h.pd x hx
    have ne : x.1 ≠ p := fun z => by rw [z, upd_same] at this; cases this
    rw [upd_ne ne] at this ⊢
    exact this
  · by_cases hb : b = p
    · rw [hb]; exact nF
    · exact h.pF b (by rw [upd_ne hb] at q ⊢; exact q)
  · by_cases hb : b = p
    · rw [hb, upd_same] at q; cases q
    · rw [upd_ne hb] at q; exact h.dm b q
  · rw [upd_ne (ne_of_none q nF)]; exact h.ex b u q
  · obtain ⟨h1, u, h2, h3⟩ := h.own x hx
    have := h.pd x hx
    have ne : x.1 ≠ p := fun z => by rw [z, upd_same] at this; cases this
    exact ⟨h1, u, by rw [upd_ne ne]; exact h2, h3⟩
/-- no longer guarded: frozen, a cell, or let go -/
theorem Ok.letP {P' : Hp} (h : Ok E P' F H Ω) (s0 : Same E.P0 P) (s : Same P P') : Ok E P F H Ω := ⟨s0, fun b u q => h.pf b u (s b u q), fun x hx => s.free (h.pd x hx), fun a q => h.pF a (fun z => q (s.free z)), h.f0, h.fn, h.dm, h.ex, h.own, h.nd⟩
/-- what was guarded becomes a cell -/
theorem Ok.adopt {p : Addr} {o : HO} {c : OC} (h : Ok E (upd P p o) F H Ω) (s0 : Same E.P0 P) (np : P p = none) (r : RpO E.K F o c) : Ok E P F H ((p, c) :: Ω) := by
  have sP : Same P (upd P p o) := fun b u q => by rw [upd_ne (ne_of_none q np)]; exact q
  have k := h.letP s0 sP
  have hp : H p = some o := h.pf p o upd_same
  have nF : F p = none := h.pF p (by rw [upd_same]; exact fun z => nomatch z)
  have ne : ∀ x ∈ Ω, x.1 ≠ p := fun x hx z => by
    have := h.pd x hx
    rw [z, upd_same] at this
    cases this
  refine ⟨k.p0, k.pf, fun x hx => ?_, k.pF, k.f0, k.fn, k.dm, k.ex, fun x hx => ?_, ?_⟩
  · rcases List.mem_cons.mp hx with q | q
    · rw [q]; exact np
    · exact k.pd x q
  · rcases List.mem_cons.mp hx with q | q
    · rw [q]; exact ⟨nF, o, hp, r⟩
    · exact k.own x q
  · rw [List.map_cons]
    refine List.nodup_cons.mpr ⟨fun z => ?_, k.nd⟩
    obtain ⟨x, hx, e⟩ := List.mem_map.mp z
    exact ne x hx e
/-- what was guarded becomes data -/
theorem Ok.adoptF {p : Addr} {o : HO} (h : Ok E (upd P p o) F H Ω) (s0 : Same E.P0 P) (np : P p = none) (n0 : E.H0 p = none) : Ok E P (upd F p o) H Ω ∧ Same F (upd F p o) := by
  have sP : Same P (upd P p o) := fun b u q => by rw [upd_ne (ne_of_none q np)]; exact q
  have k := h.letP s0 sP
  have nF : F p = none := h.pF p (by rw [upd_same]; exact fun z => nomatch z)
  refine k.frz (c := .raw o) (h.pf p o upd_same) n0 nF np (fun x hx => ⟨hx, fun z => ?_⟩) k.nd
  have := h.pd x hx
  rw [z, upd_same] at this
  cases this
end
end Z
/-! Z2: calls of defs where no repr is under way (A.guards = some []). -/
namespace Z
open PySem PySem.Spec PyProof.Rows L2
structure FnG (P : Program) (w : World) (K : Frag) (mg : Str → Option Value) (base : Heap) (CX : CXT) (k : Nat) (f : Addr) (fd : FuncData) (ps : List Str) (sp : Sp) : Prop where
  len : ∀ vs H Q E, sp vs H Q E → vs.length = ps.length
  go : ∀ (A : Around) (outer : List Env) (s : Shared) (H : Hp) (args : Args) (us : List Value) (vs : List V) (Q : VK) (E : XK),
    Room k A → A.guards = some [] → Env0 P w K mg base A outer s H → BindsTo s fd args (ps.zip us) → Vals vs us → sp vs H Q E →
    codeAny (model P w) A (.call (.ref f) args) (CR CX outer P w H s Q E) s
section
variable {P : Program} {w : World} {K : Frag} {mg : Str → Option Value} {base : Heap} {CX : CXT} {k : Nat} {f : Addr} {fd : FuncData} {ps : List Str} {sp : Sp}
theorem FnG.up {j : Nat} (F : FnG P w K mg base CX j f fd ps sp) (h : j ≤ k) : FnG P w K mg base CX k f fd ps sp :=
  ⟨F.len, fun A outer s H args us vs Q E hr => F.go A outer s H args us vs Q E (hr.mono h)⟩
/-- a def by its body -/
theorem fnG_of {name qual : Str} {params : Arguments} {body : List Stmt} {scope : Scope} {dV kV doc pm cdv ct oc : Value} {an od : Option Addr} {osl : Array (Option Value)} {N : List Str}
    (lk : K.lookup f = some ⟨oc, od, .func (PySem.W.fnOf name qual params body scope dV kV doc pm an cdv ct), osl⟩) (hcd : PySem.W.codeIn K cdv qual = true) (S : FnScope N ps scope)
    (len : ∀ vs H Q E, sp vs H Q E → vs.length = ps.length)
    (hbody : ∀ (A : Around) (outer : List Env) (s : Shared) (H : Hp) (vs : List V) (Q : VK) (E : XK), A.guards = some [] → Room k (A.deeper (envOfC qual scope s.heap.objs.size f cdv)) → sp vs H Q E →
      ∃ t, PSs (cxOf CX P w K mg base N qual scope f cdv A outer s H E) body t ∧ t { nx := fun _ H' => Q .non H', rt := Q } (start N vs) H) :
    FnG P w K mg base CX (k + 1) f (PySem.W.fnOf name qual params body scope dV kV doc pm an cdv ct) ps sp := by
  refine ⟨len, fun A outer s H args us vs Q E hr hgd e0 hb rv hsp => ?_⟩
  have old := fun b o e => (e0.bs b o e).1
  have KX : K.In s.heap := e0.mod.kin.keeps old
  have lim : s.heap.NoLimit := e0.mod.nolimit.keeps old
  have hkind : ∀ y ∈ ps.zip us, scope.names.lookup y.1 = some .local ∨ (scope.names.lookup y.1 = some .cell ∧ ((cellsFrom (s.heap.objs.size + 1) scope.names []).lookup y.1).isSome = true) := by
    rintro ⟨n, v⟩ hy
    exact (S.par n (List.of_mem_zip hy).1).elim .inl fun q => .inr ⟨q, PySem.W.cellsFrom_some _ _ _ (.inl q)⟩
  refine codeAny_call_function hr.depth (KX _ _ lk) rfl S.co S.gen rfl (PySem.W.codeRec_of KX hcd) (hb _ _ _ _ (wpAny_newFunctionEnv_cells S.kind hkind fun env he s1 x => ?_))
  cases he
  refine ⟨lim.keeps x.toInCall.keep, codeAny_func ?_⟩
  obtain ⟨t, ht, hq⟩ := hbody A outer s H vs Q E hgd (hr.deeper _) hsp
  have I0 := inv_start (CX := CX) (P := P) (w := w) (mg := mg) (E := E) S hr.hd e0 (len _ _ _ _ hsp) rv x
  refine wpAny_mono (ht.run [] s1 (start N vs) H _ I0 hq) (fun fl s' hs => ?_) fun _ _ z => z
  cases fl with
  | ret u => obtain ⟨v, σ', H', J, rv, q⟩ := hs; exact ⟨v, H', J.os, J.bare, J.base, J.hok, rv, q⟩
  | next => obtain ⟨σ', H', J, q⟩ := hs; exact ⟨.non, H', J.os, J.bare, J.base, J.hok, rfl, q⟩
  | brk => obtain ⟨_, _, _, q⟩ := hs; exact q.elim
  | cont => obtain ⟨_, _, _, q⟩ := hs; exact q.elim
end
section
variable {X : Cx} {CX : CXT} {k : Nat} {f : Addr} {fd : FuncData} {ps ks : List Str} {sp : Sp} {E : L2.St → XK} {x : Str} {p pos : Pos} {e : Expr} {es : List Expr} {kws : List Keyword} {t tk : TA}
/-- what a callee raises, at the caller's slots, reaches what this body wants -/
def PassAt (CX : CXT) (X : Cx) (σ : L2.St) (E : XK) : Prop := ∀ (pins : List (Addr × Obj)) (H : Hp) (s : Shared) (e : Value) (s' : Shared), Inv X pins σ H s → CX X.stack H s E e s' → X.xe e s'
theorem passAt0 {σ : L2.St} : PassAt CX0 X σ E0 := fun _ _ _ _ _ _ h => h.elim
theorem runG {pins : List (Addr × Obj)} {σ : L2.St} {H : Hp} {s : Shared} {Q : VK} {args : Args} {us : List Value} {vs : List V} (F : FnG X.prog X.w X.K X.mg X.base CX k f fd ps sp) (hr : Room k X.A) (hgd : X.A.guards = some []) (hx : PassAt CX X σ (E σ))
    (I : Inv X pins σ H s) (hb : us.length = ps.length → BindsTo s fd args (ps.zip us)) (r : Vals vs us) (h : sp vs H Q (E σ)) :
    codeAny (model X.prog X.w) X.A (.call (.ref f) args) (fun r s' => match r with | .ok (.ret u) => EP X pins σ Q u s' | .ok _ => False | .error e => X.xe e s') s := by
  have hl : us.length = ps.length := by rw [← r.length]; exact F.len _ _ _ _ h
  refine codeAny_mono (F.go X.A X.stack s H args us vs Q (E σ) hr hgd I.env0 (hb hl) r h) fun r s' hq => ?_
  match r, hq with
  | .error e, hq => exact hx pins H s e s' I hq
  | .ok (.ret u), hq => exact I.after hq
  | .ok .next, hq => exact hq
  | .ok .brk, hq => exact hq
  | .ok .cont, hq => exact hq
theorem wp_of_code {A : Around} {u : Value} {us : List Value} {kw : List (Str × Value)} {s : Shared} {Q : Value → Shared → Prop} {M : Model} {E' : Value → Shared → Prop}
    (h : codeAny M A (.call u ⟨us, kw⟩) (fun r s' => match r with | .ok (.ret u) => Q u s' | .ok _ => False | .error e => E' e s') s) : wpAny M A (call u us kw) Q E' s := by
  refine wpAny_call (codeAny_mono h fun r s' hq => ?_)
  match r, hq with
  | .error e, hq => exact hq
  | .ok (.ret u), hq => exact hq
  | .ok .next, hq => exact hq.elim
  | .ok .brk, hq => exact hq.elim
  | .ok .cont, hq => exact hq.elim
def tCallG (sp : Sp) (E : L2.St → XK) (t : TA) : TE := fun σ H Q => t σ H fun vs H1 => sp vs H1 Q (E σ)
def tCallGK (sp : Sp) (gV : List V → List V → List V) (E : L2.St → XK) (t tk : TA) : TE := fun σ H Q => t σ H fun vs H1 => tk σ H1 fun zs H2 => sp (gV vs zs) H2 Q (E σ)
/-- f(e, ..) -/
theorem pg_call (F : FnG X.prog X.w X.K X.mg X.base CX k f fd ps sp) (hr : Room k X.A) (hgd : X.A.guards = some []) (hg : Gl X x) (hm : X.mg x = some (.ref f)) (hk : PySem.W.keepIn X.K (.ref f) = true)
    (hb : Binds X.K fd ps []) (hx : ∀ σ, PassAt CX X σ (E σ)) (ha : PA X (e :: es) t) (hdb : (x == ("__debug__" : Str)) = false := by decide)
    (he : starEach (e :: es) X.env = (false, eval e X.env) :: starEach es X.env := by rfl) (hpl : (backTo pos (starEach es X.env)).any (·.1) = false := by rfl) :
    PE X (.Call (.Name x p) (e :: es) [] pos) (tCallG sp E t) := by
  refine ⟨fun pins s σ H Q I h => wpAny_Call_Name_kw (ld_glob I hg hm (PySem.W.callWith_K (h₀ := X.base) I.ok.mod.kin hk
    (thn (ha.run pos pins s σ H _ I h) fun us s1 ⟨vs, H1, I1, r, q⟩ => ⟨I1.kIn, ?_⟩) he hpl) hdb)⟩
  refine wp_of_code (runG F hr hgd (hx σ) I1 (fun hl => ?_) r q)
  have b := hb s1 us I1.kIn (by rw [List.append_nil]; exact hl)
  rw [List.append_nil] at b
  exact b
/-- f() -/
theorem pg_call0 (F : FnG X.prog X.w X.K X.mg X.base CX k f fd ps sp) (hr : Room k X.A) (hgd : X.A.guards = some []) (hg : Gl X x) (hm : X.mg x = some (.ref f)) (hk : PySem.W.keepIn X.K (.ref f) = true)
    (hb : Binds X.K fd ps []) (hx : ∀ σ, PassAt CX X σ (E σ)) (hdb : (x == ("__debug__" : Str)) = false := by decide) : PE X (.Call (.Name x p) [] [] pos) (tCallG sp E tNil) := by
  refine ⟨fun pins s σ H Q I h => wpAny_Call_Name_kw (ld_glob I hg hm (PySem.W.callWith_K0 I.kIn hk ?_) hdb)⟩
  exact wp_of_code (runG (us := []) F hr hgd (hx σ) I (fun hl => hb s [] I.kIn hl) .nil h)
end
end Z
/-! Z3: expressions over data: what is to hold (AE, AT, AA), and that it is enough (JE, JT, JA). -/
namespace Z
open PySem PySem.Spec PyProof.Rows L2
abbrev PhiE := SV → Om → Prop
abbrev AE := Rho → Om → PhiE → Prop
abbrev AT := Rho → Om → (Bool → Om → Prop) → Prop
abbrev AA := Rho → Om → (List SV → Om → Prop) → Prop
abbrev AR := SV → SV → Om → PhiE → Prop
abbrev AC := List SV → Om → PhiE → Prop
abbrev AM := SV → List SV → Om → PhiE → Prop
/-- what is known behind a step -/
abbrev Aft (E : En) (P F : Hp) (Φ : PhiE) (Q : VK) : Prop := ∀ {v : V} {sv : SV} {Ω' : Om} {F' H' : Hp}, Φ sv Ω' → Ok E P F' H' Ω' → Same F F' → Rp E.K F' v sv → Q v H'
structure SnE (E : En) (te : TE) (a : AE) : Prop where
  go : ∀ {ρ : Rho} {Ω : Om} {Φ : PhiE}, a ρ Ω Φ → ∀ {P F H : Hp} {σ : L2.St} {Q : VK}, Ok E P F H Ω → RpE E.K F σ ρ → Aft E P F Φ Q → te σ H Q
structure SnT (E : En) (te : TT) (a : AT) : Prop where
  go : ∀ {ρ : Rho} {Ω : Om} {Φ : Bool → Om → Prop}, a ρ Ω Φ → ∀ {P F H : Hp} {σ : L2.St} {Q : Bool → Hp → Prop}, Ok E P F H Ω → RpE E.K F σ ρ →
  (∀ {b : Bool} {Ω' : Om} {F' H' : Hp}, Φ b Ω' → Ok E P F' H' Ω' → Same F F' → Q b H') → te σ H Q
structure SnA (E : En) (te : TA) (a : AA) : Prop where
  go : ∀ {ρ : Rho} {Ω : Om} {Φ : List SV → Om → Prop}, a ρ Ω Φ → ∀ {P F H : Hp} {σ : L2.St} {Q : List V → Hp → Prop}, Ok E P F H Ω → RpE E.K F σ ρ →
  (∀ {vs : List V} {svs : List SV} {Ω' : Om} {F' H' : Hp}, Φ svs Ω' → Ok E P F' H' Ω' → Same F F' → Paired (Rp E.K F') vs svs → Q vs H') → te σ H Q
structure SnR (E : En) (r : R2) (ar : AR) : Prop where
  go : ∀ {x y : SV} {Ω : Om} {Φ : PhiE}, ar x y Ω Φ → ∀ {P F H : Hp} {vx vy : V} {Q : VK}, Ok E P F H Ω → Rp E.K F vx x → Rp E.K F vy y → Aft E P F Φ Q → r vx vy H Q
structure SnU (E : En) (r : V → Hp → VK → Prop) (ar : SV → Om → PhiE → Prop) : Prop where
  go : ∀ {x : SV} {Ω : Om} {Φ : PhiE}, ar x Ω Φ → ∀ {P F H : Hp} {vx : V} {Q : VK}, Ok E P F H Ω → Rp E.K F vx x → Aft E P F Φ Q → r vx H Q
structure SnC (E : En) (r : List V → Hp → VK → Prop) (ac : AC) : Prop where
  go : ∀ {xs : List SV} {Ω : Om} {Φ : PhiE}, ac xs Ω Φ → ∀ {P F H : Hp} {vs : List V} {Q : VK}, Ok E P F H Ω → Paired (Rp E.K F) vs xs → Aft E P F Φ Q → r vs H Q
structure SnM (E : En) (r : V → List V → Hp → VK → Prop) (am : AM) : Prop where
  go : ∀ {x : SV} {xs : List SV} {Ω : Om} {Φ : PhiE}, am x xs Ω Φ → ∀ {P F H : Hp} {v : V} {vs : List V} {Q : VK}, Ok E P F H Ω → Rp E.K F v x → Paired (Rp E.K F) vs xs → Aft E P F Φ Q → r v vs H Q
abbrev enX (X : Cx) (G : Gn) : En := ⟨G, X.K⟩
def JE (X : Cx) (G : Gn) (e : Expr) (a : AE) : Prop := ∃ te, PE X e te ∧ SnE (enX X G) te a
def JT (X : Cx) (G : Gn) (e : Expr) (a : AT) : Prop := ∃ te, PT X e te ∧ SnT (enX X G) te a
def JW (X : Cx) (G : Gn) (e : Expr) (a : AT) : Prop := ∃ te, PW X e te ∧ SnT (enX X G) te a
def JA (X : Cx) (G : Gn) (es : List Expr) (a : AA) : Prop := ∃ te, PA X es te ∧ SnA (enX X G) te a
def JK (X : Cx) (G : Gn) (es : List Keyword) (a : AA) : Prop := ∃ te, PK X es te ∧ SnA (enX X G) te a
def JOp (X : Cx) (G : Gn) (f : Value → Value → Sem Value) (ar : AR) : Prop := ∃ r, OpR X f r ∧ SnR (enX X G) r ar
def JUn (X : Cx) (G : Gn) (f : Value → Sem Value) (ar : SV → Om → PhiE → Prop) : Prop := ∃ r, UnR X f r ∧ SnU (enX X G) r ar
def JIx (X : Cx) (G : Gn) (ar : AR) : Prop := ∃ r, IxR X r ∧ SnR (enX X G) r ar
def JC (X : Cx) (G : Gn) (f : Value) (ac : AC) : Prop := ∃ r, CallR X f r ∧ SnC (enX X G) r ac
def JM (X : Cx) (G : Gn) (id : String) (am : AM) : Prop := ∃ r, MtR X id r ∧ SnM (enX X G) r am
/-! ### modes of new lists: data at once, or a cell of the def's own -/
abbrev Mode := Option (Addr → Prop)
def dataOf : List SV → Option (List PyData)
  | [] => some []
  | .d x :: r => match dataOf r with | some ds => some (x :: ds) | none => none
  | _ :: _ => none
def mkL (xs : List SV) : OC := match dataOf xs with | some ds => .lst ds | none => .lx xs
def newL (m : Mode) (ds : List PyData) (Ω : Om) (Φ : PhiE) : Prop := match m with
  | none => Φ (.d (.list ds)) Ω
  | some Fr => ∀ a, Fr a → Φ (.r (.ref a)) ((a, .lst ds) :: Ω)
def newX (m : Mode) (xs : List SV) (Ω : Om) (Φ : PhiE) : Prop := match m with
  | none => match dataOf xs with | some ds => Φ (.d (.list ds)) Ω | none => False
  | some Fr => ∀ a, Fr a → Φ (.r (.ref a)) ((a, mkL xs) :: Ω)
theorem dataOf_ok {K : Frag} {F : Hp} : ∀ {xs : List SV} {ds : List PyData} {vs : List V}, dataOf xs = some ds → Paired (Rp K F) vs xs → DqAll K F vs ds
  | [], ds, vs, h, r => by
    cases h
    cases r
    exact .nil
  | .d x :: xs, ds, vs, h, r => by
    cases r with
    | cons r1 r2 =>
      unfold dataOf at h
      cases e : dataOf xs with
      | none => rw [e] at h; cases h
      | some ds' =>
        rw [e] at h
        cases h
        exact .cons r1 (dataOf_ok e r2)
  | .l x :: xs, ds, vs, h, r => by cases h
  | .r x :: xs, ds, vs, h, r => by cases h
theorem mkL_ok {K : Frag} {F : Hp} {xs : List SV} {vs : List V} (r : Paired (Rp K F) vs xs) : RpO K F (.lst vs) (mkL xs) := by
  unfold mkL
  split
  · rename_i ds e; exact dataOf_ok e r
  · exact r
/-- the mode fits the entry -/
def MOk (E : En) (m : Mode) : Prop := ∀ Fr, m = some Fr → ∀ a, E.H0 a = none → Fr a
theorem mok0 {E : En} : MOk E none := fun _ h => by cases h
theorem mok1 {E : En} : MOk E (some fun a => E.H0 a = none) := fun _ h a e => by cases h; exact e
section
variable {E : En} {P F H : Hp} {Ω : Om} {Φ : PhiE} {Q : VK} {m : Mode}
theorem newL_ok (hm : MOk E m) (o : Ok E P F H Ω) {ds : List PyData} {vs : List V} (r : DqAll E.K F vs ds) (h : newL m ds Ω Φ) (k : Aft E P F Φ Q) {p : Addr} (hp : H p = none) : Q (.ref p) (upd H p (.lst vs)) := by
  cases m with
  | none =>
    obtain ⟨o1, s1⟩ := o.newF (o := .lst vs) hp
    exact k h o1 s1 (Dq.lst upd_same (dqa_same s1 _ _ r))
  | some Fr => exact k (h p (hm _ rfl p (o.dm p hp))) (o.newO hp (c := .lst ds) r) (Same.refl F) rfl
theorem newX_ok (hm : MOk E m) (o : Ok E P F H Ω) {xs : List SV} {vs : List V} (r : Paired (Rp E.K F) vs xs) (h : newX m xs Ω Φ) (k : Aft E P F Φ Q) {p : Addr} (hp : H p = none) : Q (.ref p) (upd H p (.lst vs)) := by
  cases m with
  | none =>
    have h' : (match dataOf xs with | some ds => Φ (.d (.list ds)) Ω | none => False) := h
    split at h'
    · rename_i ds e
      obtain ⟨o1, s1⟩ := o.newF (o := .lst vs) hp
      exact k h' o1 s1 (Dq.lst upd_same (dqa_same s1 _ _ (dataOf_ok e r)))
    · exact h'.elim
  | some Fr => exact k (h p (hm _ rfl p (o.dm p hp))) (o.newO hp (mkL_ok r)) (Same.refl F) rfl
end
/-! ### what is read as a list of data -/
def rdL (x : SV) (Ω : Om) (k : List PyData → Prop) : Prop := match x with
  | .d (.list ds) => k ds
  | .r (.ref a) => ∃ ds f, At Ω a (.lst ds) f ∧ k ds
  | _ => False
def rdS (x : SV) (Ω : Om) (k : List PyData → Prop) : Prop := match x with
  | .d (.list ds) => k ds
  | .d (.tuple ds) => k ds
  | .l ds => k ds
  | .r (.ref a) => ∃ ds f, At Ω a (.lst ds) f ∧ k ds
  | _ => False
def rdD (x : SV) (Ω : Om) (k : PyData → Prop) : Prop := match x with
  | .d d => k d
  | .l ds => k (.list ds)
  | .r (.ref a) => ∃ ds f, At Ω a (.lst ds) f ∧ k (.list ds)
  | _ => False
section
variable {E : En} {P F H : Hp} {Ω : Om} {x : SV} {v : V}
theorem rdL_ok {k : List PyData → Prop} (h : rdL x Ω k) (o : Ok E P F H Ω) (r : Rp E.K F v x) : ∃ a vs ds, v = .ref a ∧ H a = some (.lst vs) ∧ DqAll E.K F vs ds ∧ k ds := by
  unfold rdL at h
  split at h
  · obtain ⟨a, xs, e, hF, ha⟩ := dql r
    exact ⟨a, xs, _, e, o.ex _ _ hF, ha, h⟩
  · obtain ⟨ds, f, t, hk⟩ := h
    obtain ⟨vs, h1, h2⟩ := o.lst t
    exact ⟨_, vs, ds, r, h1, h2, hk⟩
  · exact h.elim
theorem rdS_ok {k : List PyData → Prop} (h : rdS x Ω k) (o : Ok E P F H Ω) (r : Rp E.K F v x) : ∃ a vs ds, v = .ref a ∧ (SqL E.K H a vs ∨ SqT E.K H a vs) ∧ DqAll E.K F vs ds ∧ k ds := by
  unfold rdS at h
  split at h
  · obtain ⟨a, xs, e, hF, ha⟩ := dql r
    exact ⟨a, xs, _, e, Or.inl (SqL.of (o.ex _ _ hF)), ha, h⟩
  · obtain ⟨a, xs, e, hF, ha⟩ := dqt r
    exact ⟨a, xs, _, e, Or.inr (sqt_same o.ex hF), ha, h⟩
  · obtain ⟨a, xs, e, hF, ha⟩ := r
    exact ⟨a, xs, _, e, Or.inl (o.ex.seq hF), ha, h⟩
  · obtain ⟨ds, f, t, hk⟩ := h
    obtain ⟨vs, h1, h2⟩ := o.lst t
    exact ⟨_, vs, ds, r, Or.inl (SqL.of h1), h2, hk⟩
  · exact h.elim
theorem rdD_ok {k : PyData → Prop} (h : rdD x Ω k) (o : Ok E P F H Ω) (r : Rp E.K F v x) : ∃ d, Dp E.K H v d ∧ k d := by
  unfold rdD at h
  split at h
  · exact ⟨_, Dq.dp _ _ (dq_same o.ex _ _ r), h⟩
  · obtain ⟨a, xs, rfl, hF, ha⟩ := r
    exact ⟨_, Dp.lst (o.ex.seq hF) (DqAll.dp _ _ (dqa_same o.ex _ _ ha)), h⟩
  · obtain ⟨ds, f, t, hk⟩ := h
    obtain ⟨vs, h1, h2⟩ := o.lst t
    cases r
    exact ⟨_, Dp.lst (SqL.of h1) (DqAll.dp _ _ (dqa_same o.ex _ _ h2)), hk⟩
  · exact h.elim
end
/-! ### names, constants -/
section
variable {X : Cx} {G : Gn} {e a b : Expr} {aa ab : AE} {at_ bt : AT} {ta : AA} {pos : Pos} {m : Mode}
def aVar (i : Nat) : AE := fun ρ Ω Φ => match ρ[i]? with
  | some (some x) => Φ x Ω
  | _ => False
theorem je_var {i : Nat} (h : PE X e (tVar i)) : JE X G e (aVar i) := by
  refine ⟨_, h, ⟨fun {ρ Ω Φ} h {P F H σ Q} o r k => ?_⟩⟩
  unfold aVar at h
  split at h
  · rename_i x ex
    obtain ⟨v, h1, h2⟩ := rpe_get r ex
    exact ⟨v, h1, k h o (Same.refl F) h2⟩
  · exact h.elim
def aC (x : SV) : AE := fun _ Ω Φ => Φ x Ω
theorem je_c {v : V} {x : SV} (h : PE X e (tC v)) (hx : ∀ F, Rp X.K F v x) : JE X G e (aC x) := ⟨_, h, ⟨fun {ρ Ω Φ} h {P F H σ Q} o r k => k h o (Same.refl F) (hx F)⟩⟩
theorem je_int {i : Int} {j pos} : JE X G (.Constant (.int i) j pos) (aC (.d (.int i))) := je_c pe_int fun _ => .int i
theorem je_bl {c : Bool} {j pos} : JE X G (.Constant (.bool c) j pos) (aC (.d (.bool c))) := je_c pe_bl fun _ => .bl c
theorem je_non {j pos} : JE X G (.Constant .none j pos) (aC (.d .none)) := je_c pe_non fun _ => .non
theorem je_str {x j pos} : JE X G (.Constant (.str x) j pos) (aC (.d (.str x))) := je_c pe_str fun _ => .str x
/-- a built-in's name, a def, a class: as it is -/
theorem je_raw {v : V} (h : PE X e (tC v)) : JE X G e (aC (.r v)) := je_c h fun _ => rfl
/-! ### operators -/
def aBin (ar : AR) (a b : AE) : AE := fun ρ Ω Φ => a ρ Ω fun x Ω1 => b ρ Ω1 fun y Ω2 => ar x y Ω2 Φ
theorem bin_ok {E : En} {ta tb : TE} {r : R2} {ar : AR} (h1 : SnE E ta aa) (h2 : SnE E tb ab) (h3 : SnR E r ar) : SnE E (tOp r ta tb) (aBin ar aa ab) := ⟨fun {ρ Ω Φ} h {P F H σ Q} o rp k =>
  h1.go h o rp fun {v sv Ω1 F1 H1} q o1 s1 r1 => h2.go q o1 (rpe_same s1 rp) fun {u su Ω2 F2 H2} q2 o2 s2 r2 => h3.go q2 o2 (r1.same s2) r2 fun q3 o3 s3 r3 => k q3 o3 ((s1.trans s2).trans s3) r3⟩
theorem je_bin {op : Operator} {ar : AR} (ho : JOp X G (binaryOp op) ar) (ha : JE X G a aa) (hb : JE X G b ab) : JE X G (.BinOp a op b pos) (aBin ar aa ab) := by
  obtain ⟨r, h1, h2⟩ := ho
  obtain ⟨t, h3, h4⟩ := ha
  obtain ⟨u, h5, h6⟩ := hb
  exact ⟨_, pe_op h1 h3 h5, bin_ok h4 h6 h2⟩
theorem je_cmp {op : CmpOp} {ar : AR} (ho : JOp X G (compareOp op) ar) (ha : JE X G a aa) (hb : JE X G b ab) (hm : behindInMarks op b = false) : JE X G (.Compare a [op] [b] pos) (aBin ar aa ab) := by
  obtain ⟨r, h1, h2⟩ := ho
  obtain ⟨t, h3, h4⟩ := ha
  obtain ⟨u, h5, h6⟩ := hb
  exact ⟨_, pe_cmpR h1 h3 h5 hm, bin_ok h4 h6 h2⟩
def aUn (ar : SV → Om → PhiE → Prop) (a : AE) : AE := fun ρ Ω Φ => a ρ Ω fun x Ω1 => ar x Ω1 Φ
theorem je_un {op : UnaryOp} {ar : SV → Om → PhiE → Prop} (ho : JUn X G (unaryOp op) ar) (ha : JE X G a aa) : JE X G (.UnaryOp op a pos) (aUn ar aa) := by
  obtain ⟨r, h1, h2⟩ := ho
  obtain ⟨t, h3, h4⟩ := ha
  exact ⟨_, pe_un h1 h3, ⟨fun {ρ Ω Φ} h {P F H σ Q} o rp k => h4.go h o rp fun q o1 s1 r1 => h2.go q o1 r1 fun q3 o3 s3 r3 => k q3 o3 (s1.trans s3) r3⟩⟩
def arI (C : Int → Int → Prop) (g : Int → Int → PyData) : AR := fun x y Ω Φ => match x, y with
  | .d (.int i), .d (.int j) => C i j ∧ Φ (.d (g i j)) Ω
  | _, _ => False
def arI0 (g : Int → Int → PyData) : AR := fun x y Ω Φ => match x, y with
  | .d (.int i), .d (.int j) => Φ (.d (g i j)) Ω
  | _, _ => False
theorem arI_ok {E : En} {C : Int → Int → Prop} {g : Int → Int → PyData} {g' : Int → Int → V} (hg : ∀ i j F, Dq E.K F (g' i j) (g i j)) : SnR E (rI C g') (arI C g) := by
  refine ⟨fun {x y Ω Φ} h {P F H vx vy Q} o r1 r2 k => ?_⟩
  unfold arI at h
  split at h
  · exact ⟨_, _, dqi r1, dqi r2, h.1, k h.2 o (Same.refl F) (hg _ _ F)⟩
  · exact h.elim
theorem arI0_ok {E : En} {g : Int → Int → PyData} {g' : Int → Int → V} (hg : ∀ i j F, Dq E.K F (g' i j) (g i j)) : SnR E (rI0 g') (arI0 g) := by
  refine ⟨fun {x y Ω Φ} h {P F H vx vy Q} o r1 r2 k => ?_⟩
  unfold arI0 at h
  split at h
  · exact ⟨_, _, dqi r1, dqi r2, k h o (Same.refl F) (hg _ _ F)⟩
  · exact h.elim
abbrev arSub : AR := arI0 fun i j => .int (i - j)
abbrev arMul : AR := arI CMulX fun i j => .int (i * j)
abbrev arDiv : AR := arI CDivW fun i j => .int (i / j)
abbrev arMod : AR := arI (fun _ j => 0 < j) fun i j => .int (i % j)
abbrev arPow : AR := arI CPow fun i j => .int (i ^ j.toNat)
abbrev arLt : AR := arI0 fun i j => .bool (decide (i < j))
abbrev arLe : AR := arI0 fun i j => .bool (decide (i ≤ j))
abbrev arGt : AR := arI0 fun i j => .bool (decide (j < i))
abbrev arGe : AR := arI0 fun i j => .bool (decide (j ≤ i))
theorem jo_sub : JOp X G (binaryOp .Sub) arSub := ⟨_, op_sub, arI0_ok fun _ _ _ => .int _⟩
theorem jo_mulI : JOp X G (binaryOp .Mult) arMul := ⟨_, op_mulX, arI_ok fun _ _ _ => .int _⟩
theorem jo_div : JOp X G (binaryOp .FloorDiv) arDiv := ⟨_, op_fdivW, arI_ok fun _ _ _ => .int _⟩
theorem jo_mod : JOp X G (binaryOp .Mod) arMod := ⟨_, op_mod, arI_ok fun _ _ _ => .int _⟩
theorem jo_pow : JOp X G (binaryOp .Pow) arPow := ⟨_, op_pow, arI_ok fun _ _ _ => .int _⟩
theorem jo_lt : JOp X G (compareOp .Lt) arLt := ⟨_, op_lt, arI0_ok fun _ _ _ => .bl _⟩
theorem jo_le : JOp X G (compareOp .LtE) arLe := ⟨_, op_le, arI0_ok fun _ _ _ => .bl _⟩
theorem jo_gt : JOp X G (compareOp .Gt) arGt := ⟨_, op_gt, arI0_ok fun _ _ _ => .bl _⟩
theorem jo_ge : JOp X G (compareOp .GtE) arGe := ⟨_, op_ge, arI0_ok fun _ _ _ => .bl _⟩
def arNeg (x : SV) (Ω : Om) (Φ : PhiE) : Prop := match x with
  | .d (.int i) => Φ (.d (.int (-i))) Ω
  | _ => False
theorem ju_neg : JUn X G (unaryOp .USub) arNeg := by
  refine ⟨_, un_neg, ⟨fun {x Ω Φ} h {P F H vx Q} o r k => ?_⟩⟩
  unfold arNeg at h
  split at h
  · exact ⟨_, dqi r, k h o (Same.refl F) (.int _)⟩
  · exact h.elim
/-- a + b: ints, tuples, texts, lists -/
def arAdd (m : Mode) : AR := fun x y Ω Φ => match x, y with
  | .d (.int i), .d (.int j) => Φ (.d (.int (i + j))) Ω
  | .d (.tuple xs), .d (.tuple ys) => xs.length + ys.length ≤ sizeLine ∧ Φ (.d (.tuple (xs ++ ys))) Ω
  | .d (.str s), .d (.str t) => s.length + t.length ≤ sizeLine ∧ Φ (.d (.str (s ++ t))) Ω
  | x, y => rdL x Ω fun xs => rdL y Ω fun ys => xs.length + ys.length ≤ sizeLine ∧ newL m (xs ++ ys) Ω Φ
theorem dqa_app {K : Frag} {F : Hp} : ∀ {vs ws : List V} {ds es : List PyData}, DqAll K F vs ds → DqAll K F ws es → DqAll K F (vs ++ ws) (ds ++ es)
  | _, _, _, _, .nil, h => h
  | _, _, _, _, .cons r t, h => .cons r (dqa_app t h)
theorem dqa_nil {K : Frag} {F : Hp} {vs : List V} (h : DqAll K F vs []) : vs = [] := by cases h; rfl
theorem jo_add (hm : MOk (enX X G) m) : JOp X G (binaryOp .Add) (arAdd m) := by
  refine ⟨_, OpR.or op_add (OpR.or op_catA (OpR.or op_add_str op_cat)), ⟨fun {x y Ω Φ} h {P F H vx vy Q} o r1 r2 k => ?_⟩⟩
  unfold arAdd at h
  split at h
  · exact Or.inl ⟨_, _, dqi r1, dqi r2, k h o (Same.refl F) (.int _)⟩
  · rename_i xs ys
    obtain ⟨a, vs, rfl, ha, da⟩ := dqt r1
    obtain ⟨b, ws, rfl, hb, db⟩ := dqt r2
    have e1 := dqa_len da
    have e2 := dqa_len db
    refine Or.inr (Or.inl ⟨a, b, vs, ws, rfl, rfl, sqt_same o.ex ha, sqt_same o.ex hb, by rw [e1, e2]; exact h.1, fun z => ?_, fun z1 z2 => ?_, fun z1 z2 p hp => ?_⟩)
    · subst z
      cases da
      exact k h.2 o (Same.refl F) r2
    · subst z2
      cases db
      have h2 := h.2
      rw [List.append_nil] at h2
      exact k h2 o (Same.refl F) r1
    · obtain ⟨o1, s1⟩ := o.newF (o := .tup (vs ++ ws)) hp
      exact k h.2 o1 s1 (Dq.tup (SqT.of upd_same) (dqa_same s1 _ _ (dqa_app da db)))
  · exact Or.inr (Or.inr (Or.inl ⟨_, _, dqs r1, dqs r2, h.1, k h.2 o (Same.refl F) (.str _)⟩))
  · obtain ⟨a, vs, ds, rfl, ha, da, h⟩ := rdL_ok h o r1
    obtain ⟨b, ws, es, rfl, hb, db, h1, h2⟩ := rdL_ok h o r2
    exact Or.inr (Or.inr (Or.inr ⟨a, b, vs, ws, rfl, rfl, ha, hb, by rw [dqa_len da, dqa_len db]; exact h1, fun p hp => newL_ok hm o (dqa_app da db) h2 k hp⟩))
/-- a == b -/
def arEq : AR := fun x y Ω Φ => match x, y with
  | .d (.int i), .d (.int j) => Φ (.d (.bool (decide (i = j)))) Ω
  | .d (.bool i), .d (.bool j) => Φ (.d (.bool (decide (i = j)))) Ω
  | .d (.str i), .d (.str j) => Φ (.d (.bool (decide (i = j)))) Ω
  | x, y => rdD x Ω fun d => rdD y Ω fun e => SeqAt.shaped d = true ∧ SeqAt.shaped e = true ∧ Φ (.d (.bool (PyData.eqv d e))) Ω
def arNe : AR := fun x y Ω Φ => match x, y with
  | .d (.int i), .d (.int j) => Φ (.d (.bool (!decide (i = j)))) Ω
  | .d (.bool i), .d (.bool j) => Φ (.d (.bool (!decide (i = j)))) Ω
  | .d (.str i), .d (.str j) => Φ (.d (.bool (!decide (i = j)))) Ω
  | x, y => rdD x Ω fun d => rdD y Ω fun e => SeqAt.shaped d = true ∧ SeqAt.shaped e = true ∧ Φ (.d (.bool (!PyData.eqv d e))) Ω
theorem jo_eq (hu : X.A.units + 64 < cLine) : JOp X G (compareOp .Eq) arEq := by
  refine ⟨_, OpR.or op_eq (op_eqD hu), ⟨fun {x y Ω Φ} h {P F H vx vy Q} o r1 r2 k => ?_⟩⟩
  unfold arEq at h
  split at h
  · cases dqi r1; cases dqi r2
    refine Or.inl ⟨rfl, k h o (Same.refl F) ?_⟩
    simp only [V.int.injEq]; exact .bl _
  · cases dqb r1; cases dqb r2
    refine Or.inl ⟨rfl, k h o (Same.refl F) ?_⟩
    simp only [V.bl.injEq]; exact .bl _
  · cases dqs r1; cases dqs r2
    refine Or.inl ⟨rfl, k h o (Same.refl F) ?_⟩
    simp only [V.str.injEq]; exact .bl _
  · obtain ⟨d, hd, h⟩ := rdD_ok h o r1
    obtain ⟨e, he, h1, h2, h3⟩ := rdD_ok h o r2
    exact Or.inr ⟨d, e, hd, he, h1, h2, k h3 o (Same.refl F) (.bl _)⟩
theorem jo_ne (hu : X.A.units + 64 < cLine) : JOp X G (compareOp .NotEq) arNe := by
  refine ⟨_, OpR.or op_ne (op_neD hu), ⟨fun {x y Ω Φ} h {P F H vx vy Q} o r1 r2 k => ?_⟩⟩
  unfold arNe at h
  split at h
  · cases dqi r1; cases dqi r2
    refine Or.inl ⟨rfl, k h o (Same.refl F) ?_⟩
    simp only [V.int.injEq]; exact .bl _
  · cases dqb r1; cases dqb r2
    refine Or.inl ⟨rfl, k h o (Same.refl F) ?_⟩
    simp only [V.bl.injEq]; exact .bl _
  · cases dqs r1; cases dqs r2
    refine Or.inl ⟨rfl, k h o (Same.refl F) ?_⟩
    simp only [V.str.injEq]; exact .bl _
  · obtain ⟨d, hd, h⟩ := rdD_ok h o r1
    obtain ⟨e, he, h1, h2, h3⟩ := rdD_ok h o r2
    exact Or.inr ⟨d, e, hd, he, h1, h2, k h3 o (Same.refl F) (.bl _)⟩
/-- a is None, a is not None -/
def isNon : SV → Bool
  | .d .none => true
  | .r v => decide (v = .non)
  | _ => false
theorem isNon_ok {K : Frag} {F : Hp} {v : V} : ∀ {x : SV}, Rp K F v x → decide (v = .non) = isNon x
  | .d .none, h => by cases dqn h; rfl
  | .d (.int i), h => by cases dqi h; rfl
  | .d (.bool b), h => by cases dqb h; rfl
  | .d (.str b), h => by cases dqs h; rfl
  | .d (.list b), h => by obtain ⟨a, _, rfl, _⟩ := dql h; rfl
  | .d (.tuple b), h => by obtain ⟨a, _, rfl, _⟩ := dqt h; rfl
  | .d (.dict b), h => by cases h
  | .l ds, h => by obtain ⟨a, _, rfl, _⟩ := h; rfl
  | .r u, h => by cases (show v = u from h); rfl
def arIs : AR := fun x y Ω Φ => match y with
  | .d .none => Φ (.d (.bool (isNon x))) Ω
  | _ => False
def arIsNot : AR := fun x y Ω Φ => match y with
  | .d .none => Φ (.d (.bool (!isNon x))) Ω
  | _ => False
theorem jo_is : JOp X G (compareOp .Is) arIs := by
  refine ⟨_, op_isN, ⟨fun {x y Ω Φ} h {P F H vx vy Q} o r1 r2 k => ?_⟩⟩
  unfold arIs at h
  split at h
  · exact ⟨dqn r2, k h o (Same.refl F) (by rw [isNon_ok r1]; exact .bl _)⟩
  · exact h.elim
theorem jo_isnot : JOp X G (compareOp .IsNot) arIsNot := by
  refine ⟨_, op_notN, ⟨fun {x y Ω Φ} h {P F H vx vy Q} o r1 r2 k => ?_⟩⟩
  unfold arIsNot at h
  split at h
  · exact ⟨dqn r2, k h o (Same.refl F) (by rw [isNon_ok r1]; exact .bl _)⟩
  · exact h.elim
/-! ### truth, tests, and, or, not -/
/-- the ways of a truth value -/
structure br (b : Bool) (A B : Prop) : Prop where
  t : b = true → A
  f : b = false → B
theorem br_of {b : Bool} {A B : Prop} (h1 : b = true → A) (h2 : b = false → B) : br b A B := ⟨h1, h2⟩
theorem br_d {p : Prop} [Decidable p] {A B : Prop} (h1 : p → A) (h2 : ¬p → B) : br (decide p) A B := ⟨fun h => h1 (of_decide_eq_true h), fun h => h2 (of_decide_eq_false h)⟩
theorem br_n {b : Bool} {A B : Prop} (h : br b B A) : br (!b) A B := ⟨fun e => h.f (by cases b <;> simp_all), fun e => h.t (by cases b <;> simp_all)⟩
theorem br_T {A B : Prop} (h : A) : br true A B := ⟨fun _ => h, fun e => (by cases e)⟩
theorem br_F {A B : Prop} (h : B) : br false A B := ⟨fun e => (by cases e), fun _ => h⟩
def brX (b : Bool) (A B : Prop) : Prop := match b with
  | true => A
  | false => B
theorem br_out {b : Bool} {A B : Prop} (h : br b A B) : brX b A B := by
  cases b
  · exact h.f rfl
  · exact h.t rfl
theorem br_ite {b : Bool} {A B : Prop} (h : brX b A B) : if b = true then A else B := by
  cases b
  · rw [if_neg Bool.false_ne_true]; exact h
  · rw [if_pos rfl]; exact h
def truD (x : SV) (Ω : Om) (k : Bool → Prop) : Prop := match x with
  | .d .none => k false
  | .d (.bool b) => k b
  | .d (.int i) => k (i != 0)
  | .d (.str y) => y.length ≤ sizeLine ∧ k ((y.length : Int) != 0)
  | x => rdS x Ω fun ds => k (!ds.isEmpty)
theorem truD_ok {E : En} {P F H : Hp} {Ω : Om} {x : SV} {v : V} {k : Bool → Prop} (h : truD x Ω k) (o : Ok E P F H Ω) (r : Rp E.K F v x) : ∃ b, TruV E.K v H b ∧ k b := by
  unfold truD at h
  split at h
  · cases dqn r; exact ⟨false, rfl, h⟩
  · cases dqb r; exact ⟨_, rfl, h⟩
  · cases dqi r; exact ⟨_, rfl, h⟩
  · cases dqs r; exact ⟨_, ⟨h.1, rfl⟩, h.2⟩
  · obtain ⟨a, vs, ds, rfl, hs, da, hk⟩ := rdS_ok h o r
    have ee : (!vs.isEmpty) = !ds.isEmpty := by cases da <;> rfl
    rcases hs with hs | hs
    · exact ⟨_, Or.inl ⟨vs, hs, ee.symm⟩, hk⟩
    · exact ⟨_, Or.inr (Or.inl ⟨vs, hs, ee.symm⟩), hk⟩
def aTru (a : AE) : AT := fun ρ Ω Φ => a ρ Ω fun x Ω' => truD x Ω' fun b => Φ b Ω'
theorem jt_of (ha : JE X G a aa) (he : ∀ whole, isTrue a X.env whole = (do let v ← whole; standAt a.pos; holding [v] (truthy v)) := by intro _; rfl) : JT X G a (aTru aa) := by
  obtain ⟨t, h3, h4⟩ := ha
  refine ⟨_, pt_truth h3 he, ⟨fun {ρ Ω Φ} h {P F H σ Q} o rp k => h4.go h o rp fun {v sv Ω1 F1 H1} q o1 s1 r1 => ?_⟩⟩
  obtain ⟨b, hb, hk⟩ := truD_ok q o1 r1
  exact ⟨b, hb, k hk o1 s1⟩
/-- a comparison as a test -/
def aB (a : AE) : AT := fun ρ Ω Φ => a ρ Ω fun x Ω' => match x with | .d (.bool b) => Φ b Ω' | _ => False
theorem jt_cmp {op : CmpOp} {ar : AR} (ho : JOp X G (compareOp op) ar) (ha : JE X G a aa) (hb : JE X G b ab) (hm : behindInMarks op b = false) : JT X G (.Compare a [op] [b] pos) (aB (aBin ar aa ab)) := by
  obtain ⟨r, h1, h2⟩ := ho
  obtain ⟨t, h3, h4⟩ := ha
  obtain ⟨u, h5, h6⟩ := hb
  refine ⟨_, pt_cmpR h1 h3 h5 hm, ⟨fun {ρ Ω Φ} h {P F H σ Q} o rp k => (bin_ok h4 h6 h2).go h o rp fun {v sv Ω1 F1 H1} q o1 s1 r1 => ?_⟩⟩
  dsimp only at q
  split at q
  · exact ⟨_, dqb r1, k q o1 s1⟩
  · exact q.elim
def aAnd (t u : AT) : AT := fun ρ Ω Φ => t ρ Ω fun b Ω1 => br b (u ρ Ω1 Φ) (Φ false Ω1)
def aOr (t u : AT) : AT := fun ρ Ω Φ => t ρ Ω fun b Ω1 => br b (Φ true Ω1) (u ρ Ω1 Φ)
def aNot (t : AT) : AT := fun ρ Ω Φ => t ρ Ω fun b Ω1 => Φ (!b) Ω1
theorem jw_pt (h : JW X G a at_) : JT X G a at_ := by
  obtain ⟨t, h1, h2⟩ := h
  exact ⟨t, h1.pt, h2⟩
theorem jw_and1 (h : JT X G a at_) : JW X G (.BoolOp .And [a] pos) at_ := by
  obtain ⟨t, h1, h2⟩ := h
  exact ⟨t, pw_and1 h1, h2⟩
theorem jw_or1 (h : JT X G a at_) : JW X G (.BoolOp .Or [a] pos) at_ := by
  obtain ⟨t, h1, h2⟩ := h
  exact ⟨t, pw_or1 h1, h2⟩
theorem jw_and {rest : List Expr} (h : JT X G a at_) (h' : JW X G (.BoolOp .And (b :: rest) pos) bt) : JW X G (.BoolOp .And (a :: b :: rest) pos) (aAnd at_ bt) := by
  obtain ⟨t, h1, h2⟩ := h
  obtain ⟨u, h3, h4⟩ := h'
  refine ⟨_, pw_and h1 h3, ⟨fun {ρ Ω Φ} h {P F H σ Q} o rp k => h2.go h o rp fun {b Ω1 F1 H1} q o1 s1 => br_ite ?_⟩⟩
  replace q := br_out q
  cases b
  · exact k q o1 s1
  · exact h4.go q o1 (rpe_same s1 rp) fun q2 o2 s2 => k q2 o2 (s1.trans s2)
theorem jw_or {rest : List Expr} (h : JT X G a at_) (h' : JW X G (.BoolOp .Or (b :: rest) pos) bt) : JW X G (.BoolOp .Or (a :: b :: rest) pos) (aOr at_ bt) := by
  obtain ⟨t, h1, h2⟩ := h
  obtain ⟨u, h3, h4⟩ := h'
  refine ⟨_, pw_or h1 h3, ⟨fun {ρ Ω Φ} h {P F H σ Q} o rp k => h2.go h o rp fun {b Ω1 F1 H1} q o1 s1 => br_ite ?_⟩⟩
  replace q := br_out q
  cases b
  · exact h4.go q o1 (rpe_same s1 rp) fun q2 o2 s2 => k q2 o2 (s1.trans s2)
  · exact k q o1 s1
theorem jt_not (h : JT X G a at_) : JT X G (.UnaryOp .Not a pos) (aNot at_) := by
  obtain ⟨t, h1, h2⟩ := h
  exact ⟨_, pt_not h1, ⟨fun {ρ Ω Φ} h {P F H σ Q} o rp k => h2.go h o rp fun q o1 s1 => k q o1 s1⟩⟩
/-- and, or, not as values: all but the last True or False -/
def aAndV (a b : AE) : AE := fun ρ Ω Φ => a ρ Ω fun x Ω1 => match x with
  | .d (.bool c) => br c (b ρ Ω1 Φ) (Φ (.d (.bool false)) Ω1)
  | _ => False
def aOrV (a b : AE) : AE := fun ρ Ω Φ => a ρ Ω fun x Ω1 => match x with
  | .d (.bool c) => br c (Φ (.d (.bool true)) Ω1) (b ρ Ω1 Φ)
  | _ => False
def aNotV (a : AE) : AE := fun ρ Ω Φ => a ρ Ω fun x Ω1 => match x with
  | .d (.bool c) => Φ (.d (.bool (!c))) Ω1
  | _ => False
theorem je_one {op} (h : JE X G a aa) : JE X G (.BoolOp op [a] pos) aa := by
  obtain ⟨t, h1, h2⟩ := h
  exact ⟨t, pe_one h1, h2⟩
theorem je_and {rest : List Expr} (h : JE X G a aa) (h' : JE X G (.BoolOp .And (b :: rest) pos) ab) : JE X G (.BoolOp .And (a :: b :: rest) pos) (aAndV aa ab) := by
  obtain ⟨t, h1, h2⟩ := h
  obtain ⟨u, h3, h4⟩ := h'
  refine ⟨_, pe_and h1 h3, ⟨fun {ρ Ω Φ} h {P F H σ Q} o rp k => h2.go h o rp fun {v sv Ω1 F1 H1} q o1 s1 r1 => ?_⟩⟩
  dsimp only at q
  split at q
  · rename_i c
    refine ⟨c, dqb r1, br_ite ?_⟩
    replace q := br_out q
    cases c
    · exact k q o1 s1 (.bl _)
    · exact h4.go q o1 (rpe_same s1 rp) fun q2 o2 s2 r2 => k q2 o2 (s1.trans s2) r2
  · exact q.elim
theorem je_or {rest : List Expr} (h : JE X G a aa) (h' : JE X G (.BoolOp .Or (b :: rest) pos) ab) : JE X G (.BoolOp .Or (a :: b :: rest) pos) (aOrV aa ab) := by
  obtain ⟨t, h1, h2⟩ := h
  obtain ⟨u, h3, h4⟩ := h'
  refine ⟨_, pe_or h1 h3, ⟨fun {ρ Ω Φ} h {P F H σ Q} o rp k => h2.go h o rp fun {v sv Ω1 F1 H1} q o1 s1 r1 => ?_⟩⟩
  dsimp only at q
  split at q
  · rename_i c
    refine ⟨c, dqb r1, br_ite ?_⟩
    replace q := br_out q
    cases c
    · exact h4.go q o1 (rpe_same s1 rp) fun q2 o2 s2 r2 => k q2 o2 (s1.trans s2) r2
    · exact k q o1 s1 (.bl _)
  · exact q.elim
theorem je_not (h : JE X G a aa) : JE X G (.UnaryOp .Not a pos) (aNotV aa) := by
  obtain ⟨t, h1, h2⟩ := h
  refine ⟨_, pe_not h1, ⟨fun {ρ Ω Φ} h {P F H σ Q} o rp k => h2.go h o rp fun {v sv Ω1 F1 H1} q o1 s1 r1 => ?_⟩⟩
  dsimp only at q
  split at q
  · exact ⟨_, dqb r1, k q o1 s1 (.bl _)⟩
  · exact q.elim
def aIfE (t : AT) (a b : AE) : AE := fun ρ Ω Φ => t ρ Ω fun c Ω1 => br c (a ρ Ω1 Φ) (b ρ Ω1 Φ)
theorem je_if {c : Expr} (ht : JT X G c at_) (ha : JE X G a aa) (hb : JE X G b ab) : JE X G (.IfExp c a b pos) (aIfE at_ aa ab) := by
  obtain ⟨t, h1, h2⟩ := ht
  obtain ⟨ta, h3, h4⟩ := ha
  obtain ⟨tb, h5, h6⟩ := hb
  refine ⟨_, pe_ifExp h1 h3 h5, ⟨fun {ρ Ω Φ} h {P F H σ Q} o rp k => h2.go h o rp fun {c Ω1 F1 H1} q o1 s1 => br_ite ?_⟩⟩
  replace q := br_out q
  cases c
  · exact h6.go q o1 (rpe_same s1 rp) fun q2 o2 s2 r2 => k q2 o2 (s1.trans s2) r2
  · exact h4.go q o1 (rpe_same s1 rp) fun q2 o2 s2 r2 => k q2 o2 (s1.trans s2) r2
/-! ### argument lists, displays -/
def aNil : AA := fun _ Ω Φ => Φ [] Ω
def aCons (a : AE) (t : AA) : AA := fun ρ Ω Φ => a ρ Ω fun x Ω1 => t ρ Ω1 fun xs Ω2 => Φ (x :: xs) Ω2
theorem cons_ok {E : En} {ta : TE} {tr : TA} {ar : AA} (h1 : SnE E ta aa) (h2 : SnA E tr ar) : SnA E (tCons ta tr) (aCons aa ar) := ⟨fun {ρ Ω Φ} h {P F H σ Q} o rp k =>
  h1.go h o rp fun {v sv Ω1 F1 H1} q o1 s1 r1 => h2.go q o1 (rpe_same s1 rp) fun {vs svs Ω2 F2 H2} q2 o2 s2 r2 => k q2 o2 (s1.trans s2) (.cons (r1.same s2) r2)⟩
theorem ja_nil : JA X G [] aNil := ⟨_, pa_nil, ⟨fun {ρ Ω Φ} h {P F H σ Q} o rp k => k h o (Same.refl F) .nil⟩⟩
theorem ja_cons {es : List Expr} {ar : AA} (ha : JE X G e aa) (hr : JA X G es ar) (hs : starEach (e :: es) X.env = (false, eval e X.env) :: starEach es X.env := by rfl) : JA X G (e :: es) (aCons aa ar) := by
  obtain ⟨t, h1, h2⟩ := ha
  obtain ⟨u, h3, h4⟩ := hr
  exact ⟨_, pa_cons h1 h3 hs, cons_ok h2 h4⟩
theorem jk_nil : JK X G [] aNil := ⟨_, pk_nil, ⟨fun {ρ Ω Φ} h {P F H σ Q} o rp k => k h o (Same.refl F) .nil⟩⟩
theorem jk_cons {kws : List Keyword} {ar : AA} {nm : Option Str} {kpos : Pos} (ha : JE X G e aa) (hr : JK X G kws ar) : JK X G (⟨nm, e, kpos⟩ :: kws) (aCons aa ar) := by
  obtain ⟨t, h1, h2⟩ := ha
  obtain ⟨u, h3, h4⟩ := hr
  exact ⟨_, pk_cons h1 h3, cons_ok h2 h4⟩
def aTup (t : AA) : AE := fun ρ Ω Φ => t ρ Ω fun xs Ω' => xs.length ≤ sizeLine ∧ match dataOf xs with | some ds => Φ (.d (.tuple ds)) Ω' | none => False
theorem je_tup {es : List Expr} {ar : AA} {x1} (h : JA X G es ar) : JE X G (.Tuple es x1 pos) (aTup ar) := by
  obtain ⟨t, h1, h2⟩ := h
  refine ⟨_, pe_tup h1, ⟨fun {ρ Ω Φ} h {P F H σ Q} o rp k => h2.go h o rp fun {vs svs Ω1 F1 H1} q o1 s1 r1 => ⟨by rw [r1.length]; exact q.1, fun p hp => ?_⟩⟩⟩
  have q2 := q.2
  split at q2
  · rename_i ds e
    obtain ⟨o2, s2⟩ := o1.newF (o := .tup vs) hp
    exact k q2 o2 (s1.trans s2) (Dq.tup (SqT.of upd_same) (dqa_same s2 _ _ (dataOf_ok e r1)))
  · exact q2.elim
def aLst (m : Mode) (t : AA) : AE := fun ρ Ω Φ => t ρ Ω fun xs Ω' => xs.length ≤ sizeLine ∧ newX m xs Ω' Φ
theorem je_lst {es : List Expr} {ar : AA} (hm : MOk (enX X G) m) (h : JA X G es ar) : JE X G (.List es pos) (aLst m ar) := by
  obtain ⟨t, h1, h2⟩ := h
  exact ⟨_, pe_lst h1, ⟨fun {ρ Ω Φ} h {P F H σ Q} o rp k => h2.go h o rp fun {vs svs Ω1 F1 H1} q o1 s1 r1 => ⟨by rw [r1.length]; exact q.1, fun p hp => newX_ok hm o1 r1 q.2 (fun q2 o2 s2 r2 => k q2 o2 (s1.trans s2) r2) hp⟩⟩⟩
end
end Z
/-! Z4: subscripts, slices, built-ins, methods, calls of defs; what a for walks; statements. -/
namespace Z
open PySem PySem.Spec PyProof.Rows L2
theorem dqa_rev {K : Frag} {F : Hp} {vs : List V} {ds : List PyData} (h : DqAll K F vs ds) : DqAll K F vs.reverse ds.reverse := by
  have q := pr_rev (of_dqa h)
  rw [← List.map_reverse] at q
  exact dqa_of q
theorem dqa_take {K : Frag} {F : Hp} {vs : List V} {ds : List PyData} (n : Nat) (h : DqAll K F vs ds) : DqAll K F (vs.take n) (ds.take n) := by
  have q := pr_take n (of_dqa h)
  rw [← List.map_take] at q
  exact dqa_of q
theorem dqa_drop {K : Frag} {F : Hp} {vs : List V} {ds : List PyData} (n : Nat) (h : DqAll K F vs ds) : DqAll K F (vs.drop n) (ds.drop n) := by
  have q := pr_drop n (of_dqa h)
  rw [← List.map_drop] at q
  exact dqa_of q
theorem dqa_get {K : Frag} {F : Hp} {vs : List V} {ds : List PyData} {i : Nat} {d : PyData} (h : DqAll K F vs ds) (e : ds[i]? = some d) : ∃ v, vs[i]? = some v ∧ Dq K F v d :=
  pr_get (R := Rp K F) (of_dqa h) (i := i) (y := .d d) (by rw [List.getElem?_map, e]; rfl)
theorem dqa_getL {K : Frag} {F : Hp} {vs : List V} {ds : List PyData} {i : Nat} {v : V} (h : DqAll K F vs ds) (e : vs[i]? = some v) : ∃ d, ds[i]? = some d ∧ Dq K F v d := by
  obtain ⟨y, hy, r⟩ := pr_getL (of_dqa h) e
  rw [List.getElem?_map] at hy
  cases hd : ds[i]? with
  | none => rw [hd] at hy; cases hy
  | some d => rw [hd] at hy; cases hy; exact ⟨d, rfl, r⟩
theorem dqa_set {K : Frag} {F : Hp} {vs : List V} {ds : List PyData} {v : V} {d : PyData} (i : Nat) (h : DqAll K F vs ds) (r : Dq K F v d) : DqAll K F (vs.set i v) (ds.set i d) := by
  have q := pr_set (R := Rp K F) (x := v) (y := .d d) r i (of_dqa h)
  rw [← List.map_set] at q
  exact dqa_of q
theorem dqa_erase {K : Frag} {F : Hp} {vs : List V} {ds : List PyData} (i : Nat) (h : DqAll K F vs ds) : DqAll K F (vs.eraseIdx i) (ds.eraseIdx i) := by
  have q := pr_erase i (of_dqa h)
  have e : (ds.map SV.d).eraseIdx i = (ds.eraseIdx i).map SV.d := by
    rw [List.eraseIdx_eq_take_drop_succ, List.eraseIdx_eq_take_drop_succ, List.map_append, List.map_take, List.map_drop]
  rw [e] at q
  exact dqa_of q
theorem dqa_ints {K : Frag} {F : Hp} : ∀ {vs : List V} {ns : List Int}, DqAll K F vs (ns.map PyData.int) → vs = ns.map V.int
  | _, [], h => by cases h; rfl
  | _, n :: ns, h => by
    cases h with
    | cons r t => rw [dqi r, dqa_ints t]; rfl
theorem ints_dqa {K : Frag} {F : Hp} : ∀ (ns : List Int), DqAll K F (ns.map V.int) (ns.map PyData.int)
  | [] => .nil
  | n :: ns => .cons (.int n) (ints_dqa ns)
theorem dqa_bools {K : Frag} {F : Hp} : ∀ {vs : List V} {ns : List Bool}, DqAll K F vs (ns.map PyData.bool) → vs = ns.map V.bl
  | _, [], h => by cases h; rfl
  | _, n :: ns, h => by
    cases h with
    | cons r t => rw [dqb r, dqa_bools t]; rfl
theorem at_len {K : Frag} {F : Hp} {vs : List V} {ds : List PyData} {i : Int} {d : PyData} (h : DqAll K F vs ds) (e : atI ds i = some d) : ∃ v, atI vs i = some v ∧ Dq K F v d := by
  unfold atI at e ⊢
  rw [dqa_len h]
  cases q : ixN ds.length i with
  | none => rw [q] at e; cases e
  | some j => rw [q] at e; exact dqa_get h e
theorem at_lenX {K : Frag} {F : Hp} {vs : List V} {xs : List SV} {i : Int} {x : SV} (h : Paired (Rp K F) vs xs) (e : atI xs i = some x) : ∃ v, atI vs i = some v ∧ Rp K F v x := by
  unfold atI at e ⊢
  rw [h.length]
  cases q : ixN xs.length i with
  | none => rw [q] at e; cases e
  | some j => rw [q] at e; exact pr_get h e
/-- the items of xs[lo:hi] -/
def cutD {α : Type} (xs : List α) (lo hi : Option Int) : List α := (xs.drop (HT.sIx xs.length 0 lo)).take (HT.sIx xs.length xs.length hi - HT.sIx xs.length 0 lo)
theorem dqa_cut {K : Frag} {F : Hp} {vs : List V} {ds : List PyData} (lo hi : Option Int) (h : DqAll K F vs ds) : DqAll K F (cutV vs lo hi) (cutD ds lo hi) := by
  unfold cutV cutD
  rw [dqa_len h]
  exact dqa_take _ (dqa_drop _ h)
section
variable {X : Cx} {G : Gn} {e a b : Expr} {aa ab : AE} {at_ bt : AT} {ta : AA} {pos : Pos} {m : Mode}
/-! ### a[i] -/
def ixC (c : OC) (i : Int) (Ω : Om) (Φ : PhiE) : Prop := match c with
  | .lst ds => ∃ d, atI ds i = some d ∧ Φ (.d d) Ω
  | .lx xs => ∃ x, atI xs i = some x ∧ Φ x Ω
  | _ => False
def arIx : AR := fun x y Ω Φ => match x, y with
  | .d (.list ds), .d (.int i) => ∃ d, atI ds i = some d ∧ Φ (.d d) Ω
  | .d (.tuple ds), .d (.int i) => ∃ d, atI ds i = some d ∧ Φ (.d d) Ω
  | .d (.str z), .d (.int i) => z.length ≤ sizeLine ∧ ∃ c, atI z.cps.toList i = some c ∧ Φ (.d (.str ⟨#[c]⟩)) Ω
  | .l ds, .d (.int i) => ∃ d, atI ds i = some d ∧ Φ (.d d) Ω
  | .r (.ref p), .d (.int i) => ∃ c f, At Ω p c f ∧ ixC c i Ω Φ
  | _, _ => False
theorem jx_seq : JIx X G arIx := by
  refine ⟨_, ix_seq, ⟨fun {x y Ω Φ} h {P F H vx vy Q} o r1 r2 k => ?_⟩⟩
  unfold arIx at h
  split at h
  · obtain ⟨d, e, q⟩ := h
    obtain ⟨p, vs, rfl, hF, da⟩ := dql r1
    obtain ⟨v, e2, rv⟩ := at_len da e
    exact Or.inl ⟨p, vs, _, v, rfl, dqi r2, SqL.of (o.ex _ _ hF), e2, k q o (Same.refl F) rv⟩
  · obtain ⟨d, e, q⟩ := h
    obtain ⟨p, vs, rfl, hF, da⟩ := dqt r1
    obtain ⟨v, e2, rv⟩ := at_len da e
    exact Or.inr (Or.inl ⟨p, vs, _, v, rfl, dqi r2, sqt_same o.ex hF, e2, k q o (Same.refl F) rv⟩)
  · obtain ⟨hz, c, e, q⟩ := h
    exact Or.inr (Or.inr ⟨_, _, c, dqs r1, dqi r2, hz, e, k q o (Same.refl F) (.str _)⟩)
  · obtain ⟨d, e, q⟩ := h
    obtain ⟨p, vs, rfl, hF, da⟩ := r1
    obtain ⟨v, e2, rv⟩ := at_len da e
    exact Or.inl ⟨p, vs, _, v, rfl, dqi r2, o.ex.seq hF, e2, k q o (Same.refl F) rv⟩
  · obtain ⟨c, f, t, q⟩ := h
    cases r1
    unfold ixC at q
    split at q
    · obtain ⟨d, e, q⟩ := q
      obtain ⟨vs, h1, h2⟩ := o.lst t
      obtain ⟨v, e2, rv⟩ := at_len h2 e
      exact Or.inl ⟨_, vs, _, v, rfl, dqi r2, SqL.of h1, e2, k q o (Same.refl F) rv⟩
    · obtain ⟨d, e, q⟩ := q
      obtain ⟨vs, h1, h2⟩ := o.lx t
      obtain ⟨v, e2, rv⟩ := at_lenX h2 e
      exact Or.inl ⟨_, vs, _, v, rfl, dqi r2, SqL.of h1, e2, k q o (Same.refl F) rv⟩
    · exact q.elim
  · exact h.elim
theorem je_ix {ar : AR} (hr : JIx X G ar) (ha : JE X G a aa) (hb : JE X G b ab) (hs : PlainIx b) : JE X G (.Subscript a b pos) (aBin ar aa ab) := by
  obtain ⟨r, h1, h2⟩ := hr
  obtain ⟨t, h3, h4⟩ := ha
  obtain ⟨u, h5, h6⟩ := hb
  exact ⟨_, pe_ix h1 h3 h5 hs, bin_ok h4 h6 h2⟩
/-! ### a[lo:hi] -/
abbrev AO := Rho → Om → (Option Int → Om → Prop) → Prop
structure SnO (E : En) (te : TO) (a : AO) : Prop where
  go : ∀ {ρ : Rho} {Ω : Om} {Φ : Option Int → Om → Prop}, a ρ Ω Φ → ∀ {P F H : Hp} {σ : L2.St} {Q : Option Int → Hp → Prop}, Ok E P F H Ω → RpE E.K F σ ρ →
    (∀ {b : Option Int} {Ω' : Om} {F' H' : Hp}, Φ b Ω' → Ok E P F' H' Ω' → Same F F' → Q b H') → te σ H Q
def JO (X : Cx) (G : Gn) (e : Option Expr) (a : AO) : Prop := ∃ te, PO X e te ∧ SnO (enX X G) te a
def aNoP : AO := fun _ Ω Φ => Φ none Ω
def aPart (a : AE) : AO := fun ρ Ω Φ => a ρ Ω fun x Ω' => match x with | .d (.int i) => Φ (some i) Ω' | _ => False
theorem jp_none : JO X G none aNoP := ⟨_, po_none, ⟨fun {ρ Ω Φ} h {P F H σ Q} o rp k => k h o (Same.refl F)⟩⟩
theorem jp_some (ha : JE X G a aa) : JO X G (some a) (aPart aa) := by
  obtain ⟨t, h1, h2⟩ := ha
  refine ⟨_, po_some h1, ⟨fun {ρ Ω Φ} h {P F H σ Q} o rp k => h2.go h o rp fun {v sv Ω1 F1 H1} q o1 s1 r1 => ?_⟩⟩
  dsimp only at q
  split at q
  · exact ⟨_, dqi r1, k q o1 s1⟩
  · exact q.elim
def slR (m : Mode) (x : SV) (lo hi : Option Int) (Ω : Om) (Φ : PhiE) : Prop := match x with
  | .d (.tuple ds) => Φ (.d (.tuple (cutD ds lo hi))) Ω
  | .l ds => newL m (cutD ds lo hi) Ω Φ
  | x => rdL x Ω fun ds => newL m (cutD ds lo hi) Ω Φ
def aSl (m : Mode) (a : AE) (lo hi : AO) : AE := fun ρ Ω Φ => a ρ Ω fun x Ω1 => lo ρ Ω1 fun i Ω2 => hi ρ Ω2 fun j Ω3 => slR m x i j Ω3 Φ
theorem cut_all {α : Type} {xs : List α} {lo hi : Option Int} (h : HT.sIx xs.length 0 lo = 0 ∧ HT.sIx xs.length xs.length hi = xs.length) : cutD xs lo hi = xs := by
  unfold cutD
  rw [h.1, h.2, List.drop_zero, Nat.sub_zero, List.take_length]
theorem je_sl {lo hi : Option Expr} {al ah : AO} {p2 : Pos} (hm : MOk (enX X G) m) (ha : JE X G a aa) (hl : JO X G lo al) (hh : JO X G hi ah) : JE X G (.Subscript a (.Slice lo hi none p2) pos) (aSl m aa al ah) := by
  obtain ⟨t, h1, h2⟩ := ha
  obtain ⟨u, h3, h4⟩ := hl
  obtain ⟨w, h5, h6⟩ := hh
  refine ⟨_, pe_slice (SlR.or sl_tupA sl_list) h1 h3 h5, ⟨fun {ρ Ω Φ} h {P F H σ Q} o rp k => h2.go h o rp fun {v sv Ω1 F1 H1} q o1 s1 r1 => h4.go q o1 (rpe_same s1 rp) fun {i Ω2 F2 H2} q2 o2 s2 => h6.go q2 o2 (rpe_same (s1.trans s2) rp) fun {j Ω3 F3 H3} q3 o3 s3 => ?_⟩⟩
  have r3 := (r1.same s2).same s3
  have k3 : Aft (enX X G) P F3 Φ Q := fun p1 p2 p3 p4 => k p1 p2 (((s1.trans s2).trans s3).trans p3) p4
  unfold slR at q3
  split at q3
  · rename_i ds
    obtain ⟨p, vs, rfl, hF, da⟩ := dqt r3
    refine Or.inl ⟨p, vs, rfl, sqt_same o3.ex hF, fun z => ?_, fun z q hq => ?_⟩
    · rw [dqa_len da] at z
      rw [cut_all z] at q3
      exact k3 q3 o3 (Same.refl F3) r3
    · obtain ⟨o4, s4⟩ := o3.newF (o := .tup (cutV vs i j)) hq
      exact k3 q3 o4 s4 (Dq.tup (SqT.of upd_same) (dqa_same s4 _ _ (dqa_cut i j da)))
  · obtain ⟨p, vs, rfl, hF, da⟩ := r3
    exact Or.inr ⟨p, vs, rfl, o3.ex.seq hF, fun q hq => newL_ok hm o3 (dqa_cut i j da) q3 k3 hq⟩
  · obtain ⟨p, vs, ds, rfl, hF, da, q4⟩ := rdL_ok q3 o3 r3
    exact Or.inr ⟨p, vs, rfl, SqL.of hF, fun q hq => newL_ok hm o3 (dqa_cut i j da) q4 k3 hq⟩
/-! ### built-ins -/
def aCB (ac : AC) (t : AA) : AE := fun ρ Ω Φ => t ρ Ω fun xs Ω' => ac xs Ω' Φ
theorem cb_ok {E : En} {r : List V → Hp → VK → Prop} {ac : AC} {t : TA} (h1 : SnA E t ta) (h2 : SnC E r ac) : SnE E (tCB r t) (aCB ac ta) := ⟨fun {ρ Ω Φ} h {P F H σ Q} o rp k =>
  h1.go h o rp fun q o1 s1 r1 => h2.go q o1 r1 fun q2 o2 s2 r2 => k q2 o2 (s1.trans s2) r2⟩
theorem je_callB {id : String} {ac : AC} {x : Str} {p : Pos} {es : List Expr} (hc : JC X G (.builtin id) ac) (hg : Gl X x) (hm : X.mg x = none) (hv : bootBuiltins x = some (.builtin id)) (ha : JA X G (e :: es) ta) (hn : x ≠ "__name__" := by decide) (hdb : (x == ("__debug__" : Str)) = false := by decide)
    (he : starEach (e :: es) X.env = (false, eval e X.env) :: starEach es X.env := by rfl) (hpl : (backTo pos (starEach es X.env)).any (·.1) = false := by rfl) : JE X G (.Call (.Name x p) (e :: es) [] pos) (aCB ac ta) := by
  obtain ⟨r, h1, h2⟩ := hc
  obtain ⟨t, h3, h4⟩ := ha
  exact ⟨_, pe_callB h1 hg hm hv h3 hn hdb he hpl, cb_ok h4 h2⟩
theorem je_callTy {T : String} {ac : AC} {x : Str} {p : Pos} {es : List Expr} (hc : JC X G (.type T) ac) (hg : Gl X x) (hm : X.mg x = none) (hv : bootBuiltins x = some (.type T)) (ha : JA X G (e :: es) ta) (hn : x ≠ "__name__" := by decide) (hdb : (x == ("__debug__" : Str)) = false := by decide)
    (he : starEach (e :: es) X.env = (false, eval e X.env) :: starEach es X.env := by rfl) (hpl : (backTo pos (starEach es X.env)).any (·.1) = false := by rfl) : JE X G (.Call (.Name x p) (e :: es) [] pos) (aCB ac ta) := by
  obtain ⟨r, h1, h2⟩ := hc
  obtain ⟨t, h3, h4⟩ := ha
  exact ⟨_, pe_callTy h1 hg hm hv h3 hn hdb he hpl, cb_ok h4 h2⟩
theorem pr1 {α β : Type} {R : α → β → Prop} {vs : List α} {x : β} (h : Paired R vs [x]) : ∃ v, vs = [v] ∧ R v x := by
  cases h with
  | cons r t => cases t; exact ⟨_, rfl, r⟩
theorem pr2 {α β : Type} {R : α → β → Prop} {vs : List α} {x y : β} (h : Paired R vs [x, y]) : ∃ v u, vs = [v, u] ∧ R v x ∧ R u y := by
  cases h with
  | cons r t =>
    obtain ⟨u, rfl, r2⟩ := pr1 t
    exact ⟨_, u, rfl, r, r2⟩
/-- of one argument -/
def ac1 (f : SV → Om → PhiE → Prop) : AC := fun xs Ω Φ => match xs with
  | [x] => f x Ω Φ
  | _ => False
def ac2 (f : SV → SV → Om → PhiE → Prop) : AC := fun xs Ω Φ => match xs with
  | [x, y] => f x y Ω Φ
  | _ => False
theorem ac1_ok {E : En} {r : List V → Hp → VK → Prop} {f : SV → Om → PhiE → Prop}
    (h : ∀ {x : SV} {Ω : Om} {Φ : PhiE}, f x Ω Φ → ∀ {P F H : Hp} {v : V} {Q : VK}, Ok E P F H Ω → Rp E.K F v x → Aft E P F Φ Q → r [v] H Q) : SnC E r (ac1 f) := by
  refine ⟨fun {xs Ω Φ} q {P F H vs Q} o rp k => ?_⟩
  unfold ac1 at q
  split at q
  · obtain ⟨v, rfl, r1⟩ := pr1 rp
    exact h q o r1 k
  · exact q.elim
theorem ac2_ok {E : En} {r : List V → Hp → VK → Prop} {f : SV → SV → Om → PhiE → Prop}
    (h : ∀ {x y : SV} {Ω : Om} {Φ : PhiE}, f x y Ω Φ → ∀ {P F H : Hp} {v u : V} {Q : VK}, Ok E P F H Ω → Rp E.K F v x → Rp E.K F u y → Aft E P F Φ Q → r [v, u] H Q) : SnC E r (ac2 f) := by
  refine ⟨fun {xs Ω Φ} q {P F H vs Q} o rp k => ?_⟩
  unfold ac2 at q
  split at q
  · obtain ⟨v, u, rfl, r1, r2⟩ := pr2 rp
    exact h q o r1 r2 k
  · exact q.elim
def fLen (x : SV) (Ω : Om) (Φ : PhiE) : Prop := match x with
  | .d (.str z) => z.length ≤ sizeLine ∧ Φ (.d (.int z.length)) Ω
  | x => rdS x Ω fun ds => Φ (.d (.int ds.length)) Ω
abbrev acLen : AC := ac1 fLen
theorem jc_len : JC X G (.builtin "len") acLen := by
  refine ⟨fun xs H Q => (∃ p ys, xs = [.ref p] ∧ (SqL X.K H p ys ∨ SqT X.K H p ys) ∧ Q (.int ys.length) H) ∨ ∃ z, xs = [.str z] ∧ z.length ≤ sizeLine ∧ Q (.int z.length) H, fun pins s σ H xs us Q I r h => ?_, ac1_ok fun {x Ω Φ} h {P F H v Q} o r k => ?_⟩
  · rcases h with h | h
    · exact call_len_seq pins s σ H xs us Q I r h
    · exact call_len_str pins s σ H xs us Q I r h
  · unfold fLen at h
    split at h
    · cases dqs r; exact Or.inr ⟨_, rfl, h.1, k h.2 o (Same.refl F) (.int _)⟩
    · obtain ⟨p, vs, ds, rfl, hs, da, q⟩ := rdS_ok h o r
      refine Or.inl ⟨p, vs, rfl, hs, k q o (Same.refl F) ?_⟩
      rw [dqa_len da]
      exact .int _
def fI1 (g : Int → Int) (x : SV) (Ω : Om) (Φ : PhiE) : Prop := match x with
  | .d (.int i) => Φ (.d (.int (g i))) Ω
  | _ => False
abbrev acAbs : AC := ac1 (fI1 fun i => if i < 0 then -i else i)
theorem jc_abs : JC X G (.builtin "abs") acAbs := by
  refine ⟨_, call_abs, ac1_ok fun {x Ω Φ} h {P F H v Q} o r k => ?_⟩
  unfold fI1 at h
  split at h
  · cases dqi r; exact ⟨_, rfl, k h o (Same.refl F) (.int _)⟩
  · exact h.elim
def fInt (x : SV) (Ω : Om) (Φ : PhiE) : Prop := match x with
  | .d (.int i) => Φ (.d (.int i)) Ω
  | .d (.bool b) => Φ (.d (.int (if b then 1 else 0))) Ω
  | _ => False
abbrev acInt : AC := ac1 fInt
theorem jc_int : JC X G (.type "int") acInt := by
  refine ⟨_, call_int1, ac1_ok fun {x Ω Φ} h {P F H v Q} o r k => ?_⟩
  unfold fInt at h
  split at h
  · cases dqi r; exact Or.inl ⟨_, rfl, k h o (Same.refl F) (.int _)⟩
  · cases dqb r; exact Or.inr ⟨_, rfl, k h o (Same.refl F) (.int _)⟩
  · exact h.elim
def fI2 (g : Int → Int → Int) (x y : SV) (Ω : Om) (Φ : PhiE) : Prop := match x, y with
  | .d (.int i), .d (.int j) => Φ (.d (.int (g i j))) Ω
  | _, _ => False
abbrev acMax2 : AC := ac2 (fI2 fun i j => if j > i then j else i)
abbrev acMin2 : AC := ac2 (fI2 fun i j => if j < i then j else i)
theorem jc_max2 (hc : X.calm = true) : JC X G (.builtin "max") acMax2 := by
  refine ⟨_, call_max2 hc, ac2_ok fun {x y Ω Φ} h {P F H v u Q} o r1 r2 k => ?_⟩
  unfold fI2 at h
  split at h
  · cases dqi r1; cases dqi r2; exact ⟨_, _, rfl, k h o (Same.refl F) (.int _)⟩
  · exact h.elim
theorem jc_min2 (hc : X.calm = true) : JC X G (.builtin "min") acMin2 := by
  refine ⟨_, call_min2 hc, ac2_ok fun {x y Ω Φ} h {P F H v u Q} o r1 r2 k => ?_⟩
  unfold fI2 at h
  split at h
  · cases dqi r1; cases dqi r2; exact ⟨_, _, rfl, k h o (Same.refl F) (.int _)⟩
  · exact h.elim
/-- tuple(x), list(x) of lists and tuples -/
def fTupOf (x : SV) (Ω : Om) (Φ : PhiE) : Prop := match x with
  | .d (.tuple ds) => Φ (.d (.tuple ds)) Ω
  | .l ds => Φ (.d (.tuple ds)) Ω
  | x => rdL x Ω fun ds => Φ (.d (.tuple ds)) Ω
abbrev acTupOf : AC := ac1 fTupOf
theorem jc_tupleOf : JC X G (.type "tuple") acTupOf := by
  refine ⟨_, call_tuple_of, ac1_ok fun {x Ω Φ} h {P F H v Q} o r k => ?_⟩
  have fin : ∀ {p : Addr} {vs : List V} {ds : List PyData}, DqAll X.K F vs ds → Φ (.d (.tuple ds)) Ω → ∀ l, H l = none → Q (.ref l) (upd H l (.tup vs)) := fun {p vs ds} da q l hl => by
    obtain ⟨o1, s1⟩ := o.newF (o := .tup vs) hl
    exact k q o1 s1 (Dq.tup (SqT.of upd_same) (dqa_same s1 _ _ da))
  unfold fTupOf at h
  split at h
  · obtain ⟨p, vs, rfl, hF, da⟩ := dqt r
    exact ⟨p, vs, rfl, Or.inr ⟨sqt_same o.ex hF, k h o (Same.refl F) r⟩⟩
  · obtain ⟨p, vs, rfl, hF, da⟩ := r
    exact ⟨p, vs, rfl, Or.inl ⟨o.ex.seq hF, fin (p := p) da h⟩⟩
  · obtain ⟨p, vs, ds, rfl, hs, da, q⟩ := rdL_ok h o r
    exact ⟨p, vs, rfl, Or.inl ⟨SqL.of hs, fin (p := p) da q⟩⟩
def fLstOf (m : Mode) (x : SV) (Ω : Om) (Φ : PhiE) : Prop := rdS x Ω fun ds => newL m ds Ω Φ
abbrev acLstOf (m : Mode) : AC := ac1 (fLstOf m)
theorem jc_listOf (hm : MOk (enX X G) m) : JC X G (.type "list") (acLstOf m) := by
  refine ⟨_, call_list_of, ac1_ok fun {x Ω Φ} h {P F H v Q} o r k => ?_⟩
  obtain ⟨p, vs, ds, rfl, hs, da, q⟩ := rdS_ok h o r
  exact ⟨p, vs, rfl, hs, fun l hl => newL_ok hm o da q k hl⟩
/-- list(range(n)), list(range(a, b)) -/
def rgD (a b : Int) : List PyData := (List.range (b - a).toNat).map fun i => PyData.int (a + (i : Nat))
theorem dqa_rg {K : Frag} {F : Hp} (a b : Int) : DqAll K F (rgV a b) (rgD a b) := by
  unfold rgV rgD
  generalize List.range (b - a).toNat = l
  induction l with
  | nil => exact .nil
  | cons i l ih => exact .cons (.int _) ih
abbrev ARg := Rho → Om → (Int → Int → Om → Prop) → Prop
def aRg1 (a : AE) : ARg := fun ρ Ω Φ => a ρ Ω fun x Ω' => match x with | .d (.int n) => Φ 0 n Ω' | _ => False
def aRg2 (a b : AE) : ARg := fun ρ Ω Φ => a ρ Ω fun x Ω1 => b ρ Ω1 fun y Ω2 => match x, y with | .d (.int i), .d (.int j) => Φ i j Ω2 | _, _ => False
structure SnRg (E : En) (te : L2.St → Hp → (Int → Int → Hp → Prop) → Prop) (a : ARg) : Prop where
  go : ∀ {ρ : Rho} {Ω : Om} {Φ : Int → Int → Om → Prop}, a ρ Ω Φ → ∀ {P F H : Hp} {σ : L2.St} {Q : Int → Int → Hp → Prop}, Ok E P F H Ω → RpE E.K F σ ρ →
    (∀ {i j : Int} {Ω' : Om} {F' H' : Hp}, Φ i j Ω' → Ok E P F' H' Ω' → Same F F' → Q i j H') → te σ H Q
def JRg (X : Cx) (G : Gn) (e : Expr) (a : ARg) : Prop := ∃ te, PRg X e te ∧ SnRg (enX X G) te a
theorem jrg_1 {p : Pos} (hg : Gl X "range") (hm : X.mg "range" = none) (ha : JE X G a aa) (na : starEach [a] X.env = (false, eval a X.env) :: starEach [] X.env := by rfl) : JRg X G (.Call (.Name "range" p) [a] [] pos) (aRg1 aa) := by
  obtain ⟨t, h1, h2⟩ := ha
  refine ⟨_, prg_1 hg hm h1 na, ⟨fun {ρ Ω Φ} h {P F H σ Q} o rp k => h2.go h o rp fun {v sv Ω1 F1 H1} q o1 s1 r1 => ?_⟩⟩
  dsimp only at q
  split at q
  · exact ⟨_, dqi r1, k q o1 s1⟩
  · exact q.elim
theorem jrg_2 {p : Pos} (hg : Gl X "range") (hm : X.mg "range" = none) (ha : JE X G a aa) (hb : JE X G b ab) (na : starEach [a, b] X.env = (false, eval a X.env) :: starEach [b] X.env := by rfl) (nb : starEach [b] X.env = (false, eval b X.env) :: starEach [] X.env := by rfl) (hp : (backTo pos (starEach [b] X.env)).any (·.1) = false := by rfl) : JRg X G (.Call (.Name "range" p) [a, b] [] pos) (aRg2 aa ab) := by
  obtain ⟨t, h1, h2⟩ := ha
  obtain ⟨u, h3, h4⟩ := hb
  refine ⟨_, prg_2 hg hm h1 h3 na nb hp, ⟨fun {ρ Ω Φ} h {P F H σ Q} o rp k => h2.go h o rp fun {v sv Ω1 F1 H1} q o1 s1 r1 => h4.go q o1 (rpe_same s1 rp) fun {v2 sv2 Ω2 F2 H2} q2 o2 s2 r2 => ?_⟩⟩
  dsimp only at q2
  split at q2
  · exact ⟨_, _, dqi (r1.same s2), dqi r2, k q2 o2 (s1.trans s2)⟩
  · exact q2.elim
def aLstRg (m : Mode) (a : ARg) : AE := fun ρ Ω Φ => a ρ Ω fun i j Ω' => RgOk i j ∧ newL m (rgD i j) Ω' Φ
theorem je_listRg {ar : ARg} {p : Pos} (hm : MOk (enX X G) m) (hc : X.calm = true) (hg : Gl X "list") (hmg : X.mg "list" = none) (ha : JRg X G e ar) (na : starEach [e] X.env = (false, eval e X.env) :: starEach [] X.env := by rfl) : JE X G (.Call (.Name "list" p) [e] [] pos) (aLstRg m ar) := by
  obtain ⟨t, h1, h2⟩ := ha
  exact ⟨_, pe_listRg hc hg hmg h1 na, ⟨fun {ρ Ω Φ} h {P F H σ Q} o rp k => h2.go h o rp fun {i j Ω1 F1 H1} q o1 s1 => ⟨q.1, fun p hp => newL_ok hm o1 (dqa_rg i j) q.2 (fun q2 o2 s2 r2 => k q2 o2 (s1.trans s2) r2) hp⟩⟩⟩
/-- sum, max, min of a list of ints; all, any of bools -/
def intsOf : List PyData → Option (List Int)
  | [] => some []
  | .int i :: r => match intsOf r with | some ns => some (i :: ns) | none => none
  | _ :: _ => none
theorem intsOf_ok : ∀ {ds : List PyData} {ns : List Int}, intsOf ds = some ns → ds = ns.map PyData.int
  | [], ns, h => by cases h; rfl
  | .int i :: r, ns, h => by
    unfold intsOf at h
    cases e : intsOf r with
    | none => rw [e] at h; cases h
    | some ms => rw [e] at h; cases h; rw [intsOf_ok e]; rfl
  | .none :: r, ns, h => by cases h
  | .bool b :: r, ns, h => by cases h
  | .str b :: r, ns, h => by cases h
  | .list b :: r, ns, h => by cases h
  | .tuple b :: r, ns, h => by cases h
  | .dict b :: r, ns, h => by cases h
def fSum (x : SV) (Ω : Om) (Φ : PhiE) : Prop := ∃ ns : List Int, rdS x Ω fun ds => (match x with | .d (.tuple _) => False | _ => True) ∧ ds = ns.map PyData.int ∧ Φ (.d (.int ns.sum)) Ω
theorem rdL_of_S {x : SV} {Ω : Om} {k : List PyData → Prop} (h : rdS x Ω fun ds => (match x with | .d (.tuple _) => False | _ => True) ∧ k ds) {E : En} {P F H : Hp} {v : V} (o : Ok E P F H Ω) (r : Rp E.K F v x) :
    ∃ a vs ds, v = .ref a ∧ SqL E.K H a vs ∧ DqAll E.K F vs ds ∧ k ds := by
  obtain ⟨a, vs, ds, rfl, hs, da, h1, h2⟩ := rdS_ok h o r
  rcases hs with hs | hs
  · exact ⟨a, vs, ds, rfl, hs, da, h2⟩
  · unfold rdS at h
    split at h
    · obtain ⟨a', xs, e, hF, ha⟩ := dql r
      cases e
      exact ⟨_, xs, _, rfl, SqL.of (o.ex _ _ hF), ha, h.2⟩
    · exact h1.elim
    · obtain ⟨a', xs, e, hF, ha⟩ := r
      cases e
      exact ⟨_, xs, _, rfl, o.ex.seq hF, ha, h.2⟩
    · obtain ⟨ds', f, t, hk⟩ := h
      obtain ⟨vs', h1, h2⟩ := o.lst t
      cases r
      exact ⟨_, vs', _, rfl, SqL.of h1, h2, hk.2⟩
    · exact h.elim
theorem jc_sum (hc : X.calm = true) : JC X G (.builtin "sum") (ac1 fSum) := by
  refine ⟨_, cr_sum hc, ac1_ok fun {x Ω Φ} h {P F H v Q} o r k => ?_⟩
  obtain ⟨ns, h⟩ := h
  obtain ⟨a, vs, ds, rfl, hs, da, rfl, q⟩ := rdL_of_S h o r
  rw [dqa_ints da] at hs
  exact ⟨a, ns, rfl, hs, k q o (Same.refl F) (.int _)⟩
def fAll (x : SV) (Ω : Om) (Φ : PhiE) : Prop := ∃ bs : List Bool, rdS x Ω fun ds => (match x with | .d (.tuple _) => False | _ => True) ∧ ds = bs.map PyData.bool ∧ Φ (.d (.bool (bs.all id))) Ω
def fAny (x : SV) (Ω : Om) (Φ : PhiE) : Prop := ∃ bs : List Bool, rdS x Ω fun ds => (match x with | .d (.tuple _) => False | _ => True) ∧ ds = bs.map PyData.bool ∧ Φ (.d (.bool (bs.any id))) Ω
theorem jc_all (hc : X.calm = true) : JC X G (.builtin "all") (ac1 fAll) := by
  refine ⟨_, cr_all hc, ac1_ok fun {x Ω Φ} h {P F H v Q} o r k => ?_⟩
  obtain ⟨ns, h⟩ := h
  obtain ⟨a, vs, ds, rfl, hs, da, rfl, q⟩ := rdL_of_S h o r
  rw [dqa_bools da] at hs
  exact ⟨a, ns, rfl, hs, k q o (Same.refl F) (.bl _)⟩
theorem jc_any (hc : X.calm = true) : JC X G (.builtin "any") (ac1 fAny) := by
  refine ⟨_, cr_any hc, ac1_ok fun {x Ω Φ} h {P F H v Q} o r k => ?_⟩
  obtain ⟨ns, h⟩ := h
  obtain ⟨a, vs, ds, rfl, hs, da, rfl, q⟩ := rdL_of_S h o r
  rw [dqa_bools da] at hs
  exact ⟨a, ns, rfl, hs, k q o (Same.refl F) (.bl _)⟩
/-- sorted of ints -/
def fSorted (m : Mode) (x : SV) (Ω : Om) (Φ : PhiE) : Prop := ∃ ns : List Int, rdS x Ω fun ds => (match x with | .d (.tuple _) => False | _ => True) ∧ ds = ns.map PyData.int ∧ ∀ ms : List Int, ms.Perm ns → ms.Pairwise (· ≤ ·) → newL m (ms.map PyData.int) Ω Φ
theorem jc_sorted (hm : MOk (enX X G) m) : JC X G (.builtin "sorted") (ac1 (fSorted m)) := by
  refine ⟨_, cr_sortedI, ac1_ok fun {x Ω Φ} h {P F H v Q} o r k => ?_⟩
  obtain ⟨ns, h⟩ := h
  obtain ⟨a, vs, ds, rfl, hs, da, rfl, q⟩ := rdL_of_S h o r
  rw [dqa_ints da] at hs
  exact ⟨a, ns, rfl, hs, fun ms p h1 h2 hp => newL_ok hm o (ints_dqa ms) (q ms h1 h2) k hp⟩
/-- isinstance(x, T) for a built-in T -/
def tyD : SV → Option String
  | .d .none => some "NoneType"
  | .d (.bool _) => some "bool"
  | .d (.int _) => some "int"
  | .d (.str _) => some "str"
  | .d (.list _) => some "list"
  | .d (.tuple _) => some "tuple"
  | _ => none
theorem tyX_of {E : En} {P F H : Hp} {Ω : Om} (o : Ok E P F H Ω) : ∀ {x : SV} {v : V} {t : String}, Rp E.K F v x → tyD x = some t → TyX E.K H v (.type t)
  | .d .none, v, t, r, e => by cases dqn r; cases e; exact .base .non
  | .d (.bool b), v, t, r, e => by cases dqb r; cases e; exact .base (.bl b)
  | .d (.int b), v, t, r, e => by cases dqi r; cases e; exact .base (.int b)
  | .d (.str b), v, t, r, e => by cases dqs r; cases e; exact .base (.str b)
  | .d (.list b), v, t, r, e => by
    obtain ⟨a, xs, rfl, hF, _⟩ := dql r
    cases e
    exact .base (.lst (o.ex _ _ hF))
  | .d (.tuple b), v, t, r, e => by
    obtain ⟨a, xs, rfl, hF, _⟩ := dqt r
    cases e
    rcases sqt_same o.ex hF with (h | ⟨ob, h⟩) | ⟨ob, its, n, h, hc, _⟩
    · exact .base (.tup h)
    · exact .fTuple h
    · exact .kTuple h hc
  | .d (.dict b), v, t, r, e => by cases e
  | .l ds, v, t, r, e => by cases e
  | .r u, v, t, r, e => by cases e
def fIsi (x y : SV) (Ω : Om) (Φ : PhiE) : Prop := match y with
  | .r (.ty n) => ∃ t b, tyD x = some t ∧ L2.kitB t n = some b ∧ Φ (.d (.bool b)) Ω
  | _ => False
theorem jc_isi : JC X G (.builtin "isinstance") (ac2 fIsi) := by
  refine ⟨_, call_isi, ac2_ok fun {x y Ω Φ} h {P F H v u Q} o r1 r2 k => ?_⟩
  unfold fIsi at h
  split at h
  · obtain ⟨t, b, h1, h2, h3⟩ := h
    cases (show u = _ from r2)
    exact ⟨_, _, _, _, b, rfl, ClsV.ty _, tyX_of o r1 h1, kit_ty h2, k h3 o (Same.refl F) (.bl b)⟩
  · exact h.elim
/-- math.gcd -/
theorem jc_gcd : JC X G (.builtin "math.gcd") (ac2 (fI2 fun i j => ((Nat.gcd i.natAbs j.natAbs : Nat) : Int))) := by
  refine ⟨_, cr_gcd, ac2_ok fun {x y Ω Φ} h {P F H v u Q} o r1 r2 k => ?_⟩
  unfold fI2 at h
  split at h
  · cases dqi r1; cases dqi r2; exact ⟨_, _, rfl, k h o (Same.refl F) (.int _)⟩
  · exact h.elim
/-- repr of data -/
def fRepr (x : SV) (Ω : Om) (Φ : PhiE) : Prop := rdD x Ω fun d => d.showable = true ∧ d.hasDict = false ∧ d.depth ≤ 60 ∧ d.shown.length ≤ sizeLine ∧ Φ (.d (.str d.shown)) Ω
theorem call_reprD (hu : X.A.units + 64 < cLine) (hgd : X.A.guards = some []) : CallR X (.builtin "repr") (fun xs H Q => ∃ v d, xs = [v] ∧ Dp X.K H v d ∧ d.showable = true ∧ d.hasDict = false ∧ d.depth ≤ 60 ∧ d.shown.length ≤ sizeLine ∧ Q (.str d.shown) H) := by
  intro pins s σ H xs us Q I r h
  obtain ⟨v, d, rfl, hd, h1, h2, h3, h4, q⟩ := h
  obtain ⟨u, rfl, ru⟩ := vals1 r
  have big : ∀ {p : Addr} {as : List Addr}, Reads s.heap (.ref p) d as → u = .ref p → wpAny (model X.prog X.w) X.A (call (.builtin "repr") [u]) (EP X pins σ Q) X.xe s := fun {p as} rd e => by
    rw [e]
    exact repr_of_reads' rd h1 (PyData.noDict_hsm h2) hgd (by omega) (fun _ _ e => e) (fun h' u tk hk => ⟨.str d.shown, H, I.kept hk, ⟨_, rfl⟩, q⟩) h4
  cases d with
  | none =>
    cases hd
    cases ru
    exact PySem.P.repr_of_none ⟨.str _, H, I.tok _, ⟨_, rfl⟩, by simpa only [PyData.shown] using q⟩
  | bool b =>
    cases hd
    cases ru
    exact PySem.P.repr_of_bool ⟨.str _, H, I.tok _, ⟨_, rfl⟩, by simpa only [PyData.shown] using q⟩
  | int i =>
    cases hd
    obtain ⟨t, rfl⟩ := ru
    exact PySem.P.repr_of_int (by simpa [PyData.showable] using h1) ⟨.str _, H, I.tok _, ⟨_, rfl⟩, by simpa only [PyData.shown] using q⟩
  | str x =>
    cases hd
    obtain ⟨t, rfl⟩ := ru
    exact PySem.P.repr_of_str ⟨.str _, H, I.tok _, ⟨_, rfl⟩, by simpa only [PyData.shown] using q⟩ (by simpa only [PyData.shown] using h4)
  | list ds =>
    obtain ⟨as, rd⟩ := Dp.reads I _ v u hd ru
    cases hd with
    | lst _ _ => cases ru; exact big rd rfl
  | tuple ds =>
    obtain ⟨as, rd⟩ := Dp.reads I _ v u hd ru
    cases hd with
    | tup _ _ => cases ru; exact big rd rfl
  | dict kvs => cases hd
theorem jc_repr (hu : X.A.units + 64 < cLine) (hgd : X.A.guards = some []) : JC X G (.builtin "repr") (ac1 fRepr) := by
  refine ⟨_, call_reprD hu hgd, ac1_ok fun {x Ω Φ} h {P F H v Q} o r k => ?_⟩
  obtain ⟨d, hd, h1, h2, h3, h4, q⟩ := rdD_ok h o r
  exact ⟨v, d, rfl, hd, h1, h2, h3, h4, k q o (Same.refl F) (.str _)⟩
/-! ### methods of lists -/
def isLs (x : SV) (Ω : Om) : Prop := match x with
  | .d (.list _) => True
  | .r (.ref a) => ∃ c f, At Ω a c f ∧ (match c with | .lst _ => True | .lx _ => True | _ => False)
  | _ => False
theorem isLs_ok {E : En} {P F H : Hp} {Ω : Om} {x : SV} {v : V} (h : isLs x Ω) (o : Ok E P F H Ω) (r : Rp E.K F v x) : tyV E.K "list" v H := by
  unfold isLs at h
  split at h
  · obtain ⟨a, xs, rfl, hF, _⟩ := dql r
    exact Or.inl ⟨rfl, _, SqL.of (o.ex _ _ hF)⟩
  · obtain ⟨c, f, t, hc⟩ := h
    cases (show v = _ from r)
    split at hc
    · obtain ⟨vs, h1, _⟩ := o.lst t
      exact Or.inl ⟨rfl, _, SqL.of h1⟩
    · obtain ⟨vs, h1, _⟩ := o.lx t
      exact Or.inl ⟨rfl, _, SqL.of h1⟩
    · exact hc.elim
  · exact h.elim
def aMl (am : AM) (a : AE) (t : AA) : AE := fun ρ Ω Φ => a ρ Ω fun x Ω1 => isLs x Ω1 ∧ t ρ Ω1 fun xs Ω2 => am x xs Ω2 Φ
def aMl0 (am : AM) (a : AE) : AE := fun ρ Ω Φ => a ρ Ω fun x Ω1 => isLs x Ω1 ∧ am x [] Ω1 Φ
theorem je_ml {name : Str} {id : String} {am : AM} {es : List Expr} {apos cpos : Pos} (slot : Slot "list" name id) (hty : typeOf (.builtin id) = pure (.type "method_descriptor")) (hm : JM X G id am) (ha : JE X G a aa) (ht : JA X G (e :: es) ta)
    (hbase : attributeBase a name X.env (eval a X.env) = eval a X.env := by rfl)
    (hfew : ((backTo cpos (starEach (e :: es) X.env)).all (fun x => !x.1) && (backToKw cpos (keywordEach [] X.env)).all (fun x => x.1.isSome)
      && decide ((e :: es).length + ([] : List Keyword).length + (if ([] : List Keyword).isEmpty then 0 else 1) < 30)) = true := by rfl)
    (hline : (apos.endLine == cpos.line) = true := by rfl) (hs : starEach (e :: es) X.env = (false, eval e X.env) :: starEach es X.env := by rfl) (hplain : (backTo cpos (starEach es X.env)).any (·.1) = false := by rfl) :
    JE X G (.Call (.Attribute a name apos) (e :: es) [] cpos) (aMl am aa ta) := by
  obtain ⟨r, h1, h2⟩ := hm
  obtain ⟨t, h3, h4⟩ := ha
  obtain ⟨u, h5, h6⟩ := ht
  refine ⟨_, pe_bm PySem.F.plainAttrs_list slot hty h1 h3 h5 hbase hfew hline hs hplain, ⟨fun {ρ Ω Φ} h {P F H σ Q} o rp k => h4.go h o rp fun {v sv Ω1 F1 H1} q o1 s1 r1 => ⟨isLs_ok q.1 o1 r1, ?_⟩⟩⟩
  exact h6.go q.2 o1 (rpe_same s1 rp) fun q2 o2 s2 r2 => h2.go q2 o2 (r1.same s2) r2 fun q3 o3 s3 r3 => k q3 o3 ((s1.trans s2).trans s3) r3
theorem je_ml0 {name : Str} {id : String} {am : AM} {apos cpos : Pos} (slot : Slot "list" name id) (hty : typeOf (.builtin id) = pure (.type "method_descriptor")) (hm : JM X G id am) (ha : JE X G a aa)
    (hbase : attributeBase a name X.env (eval a X.env) = eval a X.env := by rfl) (hline : (apos.endLine == cpos.line) = true := by rfl) : JE X G (.Call (.Attribute a name apos) [] [] cpos) (aMl0 am aa) := by
  obtain ⟨r, h1, h2⟩ := hm
  obtain ⟨t, h3, h4⟩ := ha
  refine ⟨_, pe_bm0 PySem.F.plainAttrs_list slot hty h1 h3 hbase hline, ⟨fun {ρ Ω Φ} h {P F H σ Q} o rp k => h4.go h o rp fun {v sv Ω1 F1 H1} q o1 s1 r1 => ⟨isLs_ok q.1 o1 r1, ?_⟩⟩⟩
  exact h2.go q.2 o1 r1 .nil fun q3 o3 s3 r3 => k q3 o3 (s1.trans s3) r3
/-- xs.append(y) -/
def amAppend : AM := fun x xs Ω Φ => match x, xs with
  | .r (.ref p), [y] => ∃ c f, At Ω p c f ∧ (match c, y with
    | .lst ds, .d d => ds.length < sizeLine ∧ Φ (.d .none) (f (.lst (ds ++ [d])))
    | .lx ys, y => ys.length < sizeLine ∧ Φ (.d .none) (f (.lx (ys ++ [y])))
    | .lst ds, y => ds.length < sizeLine ∧ Φ (.d .none) (f (.lx (ds.map SV.d ++ [y])))
    | _, _ => False)
  | _, _ => False
theorem jm_append : JM X G "list.append" amAppend := by
  refine ⟨_, mt_append, ⟨fun {x xs Ω Φ} h {P F H v vs Q} o r rs k => ?_⟩⟩
  unfold amAppend at h
  split at h
  · rename_i p y
    obtain ⟨c, f, t, h⟩ := h
    cases (show v = _ from r)
    obtain ⟨u, rfl, ru⟩ := pr1 rs
    split at h
    · obtain ⟨ws, h1, h2⟩ := o.lst t
      exact ⟨p, ws, u, rfl, rfl, h1, by rw [dqa_len h2]; exact h.1, k h.2 (o.put t (dqa_app h2 (.cons ru .nil))) (Same.refl F) .non⟩
    · obtain ⟨ws, h1, h2⟩ := o.lx t
      exact ⟨p, ws, u, rfl, rfl, h1, by rw [h2.length]; exact h.1, k h.2 (o.put t (pr_app h2 (.cons ru .nil))) (Same.refl F) .non⟩
    · obtain ⟨ws, h1, h2⟩ := o.lst t
      exact ⟨p, ws, u, rfl, rfl, h1, by rw [dqa_len h2]; exact h.1, k h.2 (o.put t (pr_app (of_dqa h2) (.cons ru .nil))) (Same.refl F) .non⟩
    · exact h.elim
  · exact h.elim
/-- xs.pop(), xs.pop(i) -/
def amPop : AM := fun x xs Ω Φ => match x, xs with
  | .r (.ref p), [] => ∃ ds f, At Ω p (.lst ds) f ∧ ∃ d, ds[ds.length - 1]? = some d ∧ Φ (.d d) (f (.lst ds.dropLast))
  | .r (.ref p), [.d (.int i)] => ∃ ds f, At Ω p (.lst ds) f ∧ ∃ d, 0 ≤ i ∧ i < 2 ^ 63 ∧ ds[i.toNat]? = some d ∧ Φ (.d d) (f (.lst (ds.eraseIdx i.toNat)))
  | _, _ => False
theorem dqa_dropLast {K : Frag} {F : Hp} {vs : List V} {ds : List PyData} (h : DqAll K F vs ds) : DqAll K F vs.dropLast ds.dropLast := by
  rw [List.dropLast_eq_take, List.dropLast_eq_take, dqa_len h]
  exact dqa_take _ h
theorem jm_pop : JM X G "list.pop" amPop := by
  refine ⟨_, MtR.or mt_pop mt_popAt, ⟨fun {x xs Ω Φ} h {P F H v vs Q} o r rs k => ?_⟩⟩
  unfold amPop at h
  split at h
  · obtain ⟨ds, f, t, d, e, q⟩ := h
    cases (show v = _ from r)
    cases rs
    obtain ⟨ws, h1, h2⟩ := o.lst t
    obtain ⟨u, e2, ru⟩ := dqa_get h2 e
    rw [← dqa_len h2] at e2
    exact Or.inl ⟨_, ws, u, rfl, rfl, h1, e2, k q (o.put t (dqa_dropLast h2)) (Same.refl F) ru⟩
  · rename_i p i
    obtain ⟨ds, f, t, d, h0, h63, e, q⟩ := h
    cases (show v = _ from r)
    obtain ⟨u, rfl, ru⟩ := pr1 rs
    cases dqi ru
    obtain ⟨ws, h1, h2⟩ := o.lst t
    obtain ⟨u, e2, ru⟩ := dqa_get h2 e
    have hlt : i.toNat < ws.length := (List.getElem?_eq_some_iff.mp e2).1
    exact Or.inr ⟨_, ws, i, i.toNat, u, rfl, rfl, h1, by omega, h63, by first | exact seqIndex_of h0 (by omega) | (unfold seqIndex?; simp; omega), e2, k q (o.put t (dqa_erase _ h2)) (Same.refl F) ru⟩
  · exact h.elim
/-- xs.extend(ys) -/
def amExtend : AM := fun x xs Ω Φ => match x, xs with
  | .r (.ref p), [y] => ∃ ds f, At Ω p (.lst ds) f ∧ rdL y Ω fun es => ds.length + es.length ≤ sizeLine ∧ Φ (.d .none) (f (.lst (ds ++ es)))
  | _, _ => False
theorem jm_extend : JM X G "list.extend" amExtend := by
  refine ⟨_, mt_extend, ⟨fun {x xs Ω Φ} h {P F H v vs Q} o r rs k => ?_⟩⟩
  unfold amExtend at h
  split at h
  · obtain ⟨ds, f, t, h⟩ := h
    cases (show v = _ from r)
    obtain ⟨u, rfl, ru⟩ := pr1 rs
    obtain ⟨ws, h1, h2⟩ := o.lst t
    obtain ⟨b, us, es, rfl, h3, h4, h5, q⟩ := rdL_ok h o ru
    exact ⟨_, b, ws, us, rfl, rfl, h1, h3, by rw [dqa_len h2, dqa_len h4]; exact h5, k q (o.put t (dqa_app h2 h4)) (Same.refl F) .non⟩
  · exact h.elim
end
end Z
/-! Z5: calls of defs by contracts; what a for walks; targets; statements; comprehensions; a def by its body. -/
namespace Z
open PySem PySem.Spec PyProof.Rows L2
/-! ### contracts -/
abbrev XI := Value × Option (List (Str × SV))
abbrev XA := XI → Om → Prop
abbrev Con := List SV → Om → PhiE → XA → Prop
def RpX (K : Frag) (F H : Hp) (cls : Value) (d : Option Addr) (x : XI) : Prop := cls = x.1 ∧ match d, x.2 with
  | none, none => True
  | some a, some fs => ∃ gs, H a = some (.xd gs) ∧ Paired (fun p q => p.1 = q.1 ∧ Rp K F p.2 q.2) gs fs
  | _, _ => False
def spOf (K : Frag) (T : Con) : Sp := fun vs H Q Ex => ∃ (P F : Hp) (Ω : Om) (svs : List SV) (Φ : PhiE) (Ξ : XA), Ok ⟨⟨F, H, P⟩, K⟩ P F H Ω ∧ Paired (Rp K F) vs svs ∧ T svs Ω Φ Ξ ∧
  (∀ v sv Ω' P' F' H', Φ sv Ω' → Ok ⟨⟨F, H, P⟩, K⟩ P' F' H' Ω' → Rp K F' v sv → Q v H') ∧ (∀ x Ω' P' F' H' cls d, Ξ x Ω' → Ok ⟨⟨F, H, P⟩, K⟩ P' F' H' Ω' → RpX K F' H' cls d x → Ex cls d H')
abbrev Ari (T : Con) (n : Nat) : Prop := ∀ svs Ω Φ Ξ, T svs Ω Φ Ξ → svs.length = n
/-- no exception is wished for -/
abbrev xno : Rho → XA := fun _ _ _ => False
def XOk (X : Cx) (G : Gn) (E : L2.St → XK) (Ξ : Rho → XA) : Prop := ∀ {σ : L2.St} {ρ : Rho} {x : XI} {Ω : Om} {P F H : Hp} {cls : Value} {d : Option Addr}, Ξ ρ x Ω → Ok (enX X G) P F H Ω → RpE X.K F σ ρ → RpX X.K F H cls d x → E σ cls d H
theorem xok0 {X : Cx} {G : Gn} {E : L2.St → XK} : XOk X G E xno := fun h => h.elim
section
variable {X : Cx} {G : Gn} {e a b : Expr} {aa ab : AE} {at_ bt : AT} {ta tb : AA} {pos : Pos} {m : Mode}
variable {CX : CXT} {k : Nat} {f : Addr} {fd : FuncData} {ps ks : List Str} {T : Con} {E : L2.St → XK} {Ξ : Rho → XA} {x : Str} {p : Pos} {es : List Expr} {kws : List Keyword}
def aCall (T : Con) (Ξ : Rho → XA) (t : AA) : AE := fun ρ Ω Φ => t ρ Ω fun svs Ω' => T svs Ω' Φ (Ξ ρ)
theorem enter_sp {P F H : Hp} {Ω : Om} {vs : List V} {svs : List SV} {Φ : PhiE} {Q : VK} {σ : L2.St} {ρ : Rho} (o : Ok (enX X G) P F H Ω) (r : Paired (Rp X.K F) vs svs) (rp : RpE X.K F σ ρ) (hE : XOk X G E Ξ) (h : T svs Ω Φ (Ξ ρ))
    (k : Aft (enX X G) P F Φ Q) : spOf X.K T vs H Q (E σ) := by
  refine ⟨P, F, Ω, svs, Φ, Ξ ρ, o.enter, r, h, fun v sv Ω' P' F' H' q o' r' => k q (o.leave o') o'.f0 r', fun x Ω' P' F' H' cls d q o' r' => ?_⟩
  exact hE q (o.leave o') (rpe_same o'.f0 rp) r'
theorem je_call (F : FnG X.prog X.w X.K X.mg X.base CX k f fd ps (spOf X.K T)) (hr : Room k X.A) (hgd : X.A.guards = some []) (hg : Gl X x) (hm : X.mg x = some (.ref f)) (hk : PySem.W.keepIn X.K (.ref f) = true)
    (hb : Binds X.K fd ps []) (hx : ∀ σ, PassAt CX X σ (E σ)) (hE : XOk X G E Ξ) (ha : JA X G (e :: es) ta) (hdb : (x == ("__debug__" : Str)) = false := by decide)
    (he : starEach (e :: es) X.env = (false, eval e X.env) :: starEach es X.env := by rfl) (hpl : (backTo pos (starEach es X.env)).any (·.1) = false := by rfl) :
    JE X G (.Call (.Name x p) (e :: es) [] pos) (aCall T Ξ ta) := by
  obtain ⟨t, h1, h2⟩ := ha
  exact ⟨_, pg_call F hr hgd hg hm hk hb hx h1 hdb he hpl, ⟨fun {ρ Ω Φ} h {P F H σ Q} o rp k => h2.go h o rp fun q o1 s1 r1 => enter_sp o1 r1 (rpe_same s1 rp) hE q fun q2 o2 s2 r2 => k q2 o2 (s1.trans s2) r2⟩⟩
theorem je_call0 (F : FnG X.prog X.w X.K X.mg X.base CX k f fd ps (spOf X.K T)) (hr : Room k X.A) (hgd : X.A.guards = some []) (hg : Gl X x) (hm : X.mg x = some (.ref f)) (hk : PySem.W.keepIn X.K (.ref f) = true)
    (hb : Binds X.K fd ps []) (hx : ∀ σ, PassAt CX X σ (E σ)) (hE : XOk X G E Ξ) (hdb : (x == ("__debug__" : Str)) = false := by decide) : JE X G (.Call (.Name x p) [] [] pos) (aCall T Ξ aNil) :=
  ⟨_, pg_call0 F hr hgd hg hm hk hb hx hdb, ⟨fun {ρ Ω Φ} h {P F H σ Q} o rp k => enter_sp o .nil rp hE h k⟩⟩
/-! ### calls with keywords: π tells where each parameter's value stands among the positional ones and the keywords' -/
def gP {α : Type} (d : α) (n m : Nat) (π : List Nat) (us ws : List α) : List α := if us.length = n ∧ ws.length = m then π.map fun i => (us ++ ws).getD i d else []
def KArg (K : Frag) (fd : FuncData) (ps ks : List Str) (n : Nat) (π : List Nat) : Prop := ∀ (s : Shared) (us ws : List Value), K.In s.heap → us.length = n → ws.length = ks.length → BindsTo s fd ⟨us, ks.zip ws⟩ (ps.zip (π.map fun i => (us ++ ws).getD i .none))
theorem vals_gP {n m : Nat} {π : List Nat} {vs zs : List V} {us ws : List Value} (r : Vals vs us) (rz : Vals zs ws) : Vals (gP .non n m π vs zs) (gP .none n m π us ws) := by
  unfold gP
  rw [r.length, rz.length]
  split
  · have q := r.append rz
    induction π with
    | nil => exact .nil
    | cons i π ih =>
      refine .cons ?_ ih
      show RelV ((vs ++ zs).getD i .non) ((us ++ ws).getD i .none)
      cases e : (vs ++ zs)[i]? with
      | none =>
        rw [List.getD_eq_getElem?_getD, List.getD_eq_getElem?_getD, e, q.none_of e]
        rfl
      | some v =>
        obtain ⟨u, hu, ru⟩ := q.get e
        rw [List.getD_eq_getElem?_getD, List.getD_eq_getElem?_getD, e, hu]
        exact ru
  · exact .nil
theorem rp_gP {K : Frag} {F : Hp} {n m : Nat} {π : List Nat} {vs zs : List V} {us ws : List SV} (r : Paired (Rp K F) vs us) (rz : Paired (Rp K F) zs ws) : Paired (Rp K F) (gP .non n m π vs zs) (gP (.d .none) n m π us ws) := by
  unfold gP
  rw [r.length, rz.length]
  split
  · have q := pr_app r rz
    induction π with
    | nil => exact .nil
    | cons i π ih =>
      refine .cons ?_ ih
      show Rp K F ((vs ++ zs).getD i .non) ((us ++ ws).getD i (.d .none))
      cases e : (us ++ ws)[i]? with
      | none =>
        have e2 : (vs ++ zs)[i]? = none := by
          have hl := q.length
          have := List.getElem?_eq_none_iff.mp e
          exact List.getElem?_eq_none_iff.mpr (by omega)
        rw [List.getD_eq_getElem?_getD, List.getD_eq_getElem?_getD, e, e2]
        exact Dq.non
      | some v =>
        obtain ⟨u, hu, ru⟩ := pr_get q e
        rw [List.getD_eq_getElem?_getD, List.getD_eq_getElem?_getD, e, hu]
        exact ru
  · exact .nil
theorem fin_callK {sp : Sp} {n : Nat} {π : List Nat} {pins : List (Addr × Obj)} {σ : L2.St} {H : Hp} {s : Shared} {Q : VK} {us ws : List Value} {vs zs : List V} (F : FnG X.prog X.w X.K X.mg X.base CX k f fd ps sp) (hr : Room k X.A) (hgd : X.A.guards = some [])
    (hb : KArg X.K fd ps ks n π) (hπ : 0 < ps.length) (hx : PassAt CX X σ (E σ)) (I : Inv X pins σ H s) (r : Vals vs us) (rz : Vals zs ws) (h : sp (gP .non n ks.length π vs zs) H Q (E σ)) :
    wpAny (model X.prog X.w) X.A (PySem.call (.ref f) us (ks.zip ws)) (EP X pins σ Q) X.xe s := by
  refine wp_of_code (runG (us := gP .none n ks.length π us ws) F hr hgd hx I (fun hl => ?_) (vals_gP r rz) h)
  by_cases hc : us.length = n ∧ ws.length = ks.length
  · have e : gP Value.none n ks.length π us ws = π.map fun i => (us ++ ws).getD i .none := by unfold gP; rw [if_pos hc]
    rw [e]
    exact hb s us ws I.kIn hc.1 hc.2
  · have e : gP Value.none n ks.length π us ws = [] := by unfold gP; rw [if_neg hc]
    rw [e] at hl
    exact absurd hl (by simp; omega)
theorem pg_callK {sp : Sp} {t tk : TA} {n : Nat} {π : List Nat} (F : FnG X.prog X.w X.K X.mg X.base CX k f fd ps sp) (hr : Room k X.A) (hgd : X.A.guards = some []) (hg : Gl X x) (hm : X.mg x = some (.ref f)) (hk : PySem.W.keepIn X.K (.ref f) = true)
    (hb : KArg X.K fd ps ks n π) (hπ : 0 < ps.length) (hx : ∀ σ, PassAt CX X σ (E σ)) (ha : PA X (e :: es) t) (hkw : PK X kws tk)
    (hall : (backToKw pos (keywordEach kws X.env)).all (·.1.isSome) = true) (hks : (backToKw pos (keywordEach kws X.env)).filterMap (·.1) = ks) (hdb : (x == ("__debug__" : Str)) = false)
    (he : starEach (e :: es) X.env = (false, eval e X.env) :: starEach es X.env)
    (hpl : ((backTo pos (starEach (e :: es) X.env)).any (·.1) || (backToKw pos (keywordEach kws X.env)).any (·.1.isNone)) = false) : PE X (.Call (.Name x p) (e :: es) kws pos) (tCallGK sp (gP .non n ks.length π) E t tk) := by
  refine ⟨fun pins s σ H Q I h => wpAny_Call_Name_kw (ld_glob I hg hm (PySem.W.callWith_KW (h₀ := X.base) I.ok.mod.kin hk hall ?_ hpl he) hdb)⟩
  refine thn (ha.run pos pins s σ H _ I h) fun us s1 ⟨vs, H1, I1, r, q⟩ => thn (hkw.run pos pins s1 σ H1 _ I1 q) fun ws s2 ⟨zs, H2, I2, rz, q2⟩ => ⟨I2.kIn, ?_⟩
  rw [hks]
  exact fin_callK F hr hgd hb hπ (hx σ) I2 r rz q2
theorem pg_callK0 {sp : Sp} {tk : TA} {n : Nat} {π : List Nat} (F : FnG X.prog X.w X.K X.mg X.base CX k f fd ps sp) (hr : Room k X.A) (hgd : X.A.guards = some []) (hg : Gl X x) (hm : X.mg x = some (.ref f)) (hk : PySem.W.keepIn X.K (.ref f) = true)
    (hb : KArg X.K fd ps ks n π) (hπ : 0 < ps.length) (hx : ∀ σ, PassAt CX X σ (E σ)) (hkw : PK X kws tk)
    (hall : (backToKw pos (keywordEach kws X.env)).all (·.1.isSome) = true) (hks : (backToKw pos (keywordEach kws X.env)).filterMap (·.1) = ks) (hdb : (x == ("__debug__" : Str)) = false)
    (hpl : ((backTo pos (starEach [] X.env)).any (·.1) || (backToKw pos (keywordEach kws X.env)).any (·.1.isNone)) = false) : PE X (.Call (.Name x p) [] kws pos) (tCallGK sp (gP .non n ks.length π) E tNil tk) := by
  refine ⟨fun pins s σ H Q I h => wpAny_Call_Name_kw (ld_glob I hg hm (PySem.W.callWith_KW0 (h₀ := X.base) I.ok.mod.kin hk hall ?_ hpl) hdb)⟩
  refine thn (hkw.run pos pins s σ H _ I h) fun ws s2 ⟨zs, H2, I2, rz, q2⟩ => ⟨I2.kIn, ?_⟩
  rw [hks]
  exact fin_callK (us := []) F hr hgd hb hπ (hx σ) I2 .nil rz q2
def aCallK (T : Con) (Ξ : Rho → XA) (n m : Nat) (π : List Nat) (t tk : AA) : AE := fun ρ Ω Φ => t ρ Ω fun xs Ω1 => tk ρ Ω1 fun zs Ω2 => T (gP (.d .none) n m π xs zs) Ω2 Φ (Ξ ρ)
theorem je_callK0 {n : Nat} {π : List Nat} (F : FnG X.prog X.w X.K X.mg X.base CX k f fd ps (spOf X.K T)) (hr : Room k X.A) (hgd : X.A.guards = some []) (hg : Gl X x) (hm : X.mg x = some (.ref f)) (hk : PySem.W.keepIn X.K (.ref f) = true)
    (hb : KArg X.K fd ps ks n π) (hπ : 0 < ps.length) (hx : ∀ σ, PassAt CX X σ (E σ)) (hE : XOk X G E Ξ) (hkw : JK X G kws tb)
    (hall : (backToKw pos (keywordEach kws X.env)).all (·.1.isSome) = true := by rfl) (hks : (backToKw pos (keywordEach kws X.env)).filterMap (·.1) = ks := by rfl) (hdb : (x == ("__debug__" : Str)) = false := by decide)
    (hpl : ((backTo pos (starEach [] X.env)).any (·.1) || (backToKw pos (keywordEach kws X.env)).any (·.1.isNone)) = false := by rfl) :
    JE X G (.Call (.Name x p) [] kws pos) (aCallK T Ξ n ks.length π aNil tb) := by
  obtain ⟨u, h3, h4⟩ := hkw
  exact ⟨_, pg_callK0 F hr hgd hg hm hk hb hπ hx h3 hall hks hdb hpl, ⟨fun {ρ Ω Φ} h {P F H σ Q} o rp k => h4.go h o rp fun q o1 s1 r1 => enter_sp o1 (rp_gP .nil r1) (rpe_same s1 rp) hE q fun q2 o2 s2 r2 => k q2 o2 (s1.trans s2) r2⟩⟩
theorem je_callK {n : Nat} {π : List Nat} (F : FnG X.prog X.w X.K X.mg X.base CX k f fd ps (spOf X.K T)) (hr : Room k X.A) (hgd : X.A.guards = some []) (hg : Gl X x) (hm : X.mg x = some (.ref f)) (hk : PySem.W.keepIn X.K (.ref f) = true)
    (hb : KArg X.K fd ps ks n π) (hπ : 0 < ps.length) (hx : ∀ σ, PassAt CX X σ (E σ)) (hE : XOk X G E Ξ) (ha : JA X G (e :: es) ta) (hkw : JK X G kws tb)
    (hall : (backToKw pos (keywordEach kws X.env)).all (·.1.isSome) = true := by rfl) (hks : (backToKw pos (keywordEach kws X.env)).filterMap (·.1) = ks := by rfl) (hdb : (x == ("__debug__" : Str)) = false := by decide)
    (he : starEach (e :: es) X.env = (false, eval e X.env) :: starEach es X.env := by rfl)
    (hpl : ((backTo pos (starEach (e :: es) X.env)).any (·.1) || (backToKw pos (keywordEach kws X.env)).any (·.1.isNone)) = false := by rfl) :
    JE X G (.Call (.Name x p) (e :: es) kws pos) (aCallK T Ξ n ks.length π ta tb) := by
  obtain ⟨t, h1, h2⟩ := ha
  obtain ⟨u, h3, h4⟩ := hkw
  exact ⟨_, pg_callK F hr hgd hg hm hk hb hπ hx h1 h3 hall hks hdb he hpl, ⟨fun {ρ Ω Φ} h {P F H σ Q} o rp k => h2.go h o rp fun q o1 s1 r1 => h4.go q o1 (rpe_same s1 rp) fun q2 o2 s2 r2 => enter_sp o2 (rp_gP (rps_same s2 r1) r2) (rpe_same (s1.trans s2) rp) hE q2 fun q3 o3 s3 r3 => k q3 o3 ((s1.trans s2).trans s3) r3⟩⟩
end
end Z
/-! Z6: what a for walks; targets; statements; a def by its body. -/
namespace Z
open PySem PySem.Spec PyProof.Rows L2
/-! ### targets -/
abbrev AG := SV → Rho → (Rho → Prop) → Prop
abbrev AGs := List SV → Rho → (Rho → Prop) → Prop
structure SnG (E : En) (g : TG) (ag : AG) : Prop where
  go : ∀ {x : SV} {ρ : Rho} {k : Rho → Prop}, ag x ρ k → ∀ {P F H : Hp} {Ω : Om} {v : V} {σ : L2.St} {Q : L2.St → Hp → Prop}, Ok E P F H Ω → RpE E.K F σ ρ → Rp E.K F v x → (∀ {σ' ρ'}, k ρ' → RpE E.K F σ' ρ' → Q σ' H) → g v σ H Q
structure SnGs (E : En) (g : TGs) (ag : AGs) : Prop where
  go : ∀ {xs : List SV} {ρ : Rho} {k : Rho → Prop}, ag xs ρ k → ∀ {P F H : Hp} {Ω : Om} {vs : List V} {σ : L2.St} {Q : L2.St → Hp → Prop}, Ok E P F H Ω → RpE E.K F σ ρ → Paired (Rp E.K F) vs xs → (∀ {σ' ρ'}, k ρ' → RpE E.K F σ' ρ' → Q σ' H) → g vs σ H Q
def JG (X : Cx) (G : Gn) (tg : Expr) (ag : AG) : Prop := ∃ g, PG X tg g ∧ SnG (enX X G) g ag
def JGs (X : Cx) (G : Gn) (tg : List Expr) (ag : AGs) : Prop := ∃ g, PGs X tg g ∧ SnGs (enX X G) g ag
def gN (i : Nat) : AG := fun x ρ k => k (ρ.set i (some x))
def gT (n : Nat) (gs : AGs) : AG := fun x ρ k => match x with
  | .d (.tuple ds) => ds.length = n ∧ gs (ds.map SV.d) ρ k
  | _ => False
def gs0 : AGs := fun xs ρ k => match xs with
  | [] => k ρ
  | _ => False
def gs1 (g : AG) (gs : AGs) : AGs := fun xs ρ k => match xs with
  | x :: r => g x ρ fun ρ' => gs r ρ' k
  | _ => False
/-! ### statements -/
structure AEnds where
  nx : Rho → Om → Prop
  rt : PhiE
  bk : Rho → Om → Prop := fun _ _ => False
  ct : Rho → Om → Prop := fun _ _ => False
abbrev AS := AEnds → Rho → Om → Prop
structure EndsOk (E : En) (P Fl : Hp) (D : AEnds) (D' : Ends) : Prop where
  nx : ∀ {ρ : Rho} {Ω : Om} {F H : Hp} {σ : L2.St}, D.nx ρ Ω → Ok E P F H Ω → Same Fl F → RpE E.K F σ ρ → D'.nx σ H
  rt : ∀ {x : SV} {Ω : Om} {F H : Hp} {v : V}, D.rt x Ω → Ok E P F H Ω → Same Fl F → Rp E.K F v x → D'.rt v H
  bk : ∀ {ρ : Rho} {Ω : Om} {F H : Hp} {σ : L2.St}, D.bk ρ Ω → Ok E P F H Ω → Same Fl F → RpE E.K F σ ρ → D'.bk σ H
  ct : ∀ {ρ : Rho} {Ω : Om} {F H : Hp} {σ : L2.St}, D.ct ρ Ω → Ok E P F H Ω → Same Fl F → RpE E.K F σ ρ → D'.ct σ H
theorem EndsOk.up {E : En} {P Fl Fm : Hp} {D : AEnds} {D' : Ends} (k : EndsOk E P Fl D D') (s : Same Fl Fm) : EndsOk E P Fm D D' :=
  ⟨fun q o z r => k.nx q o (s.trans z) r, fun q o z r => k.rt q o (s.trans z) r, fun q o z r => k.bk q o (s.trans z) r, fun q o z r => k.ct q o (s.trans z) r⟩
structure SnS (E : En) (ts : TS) (a : AS) : Prop where
  go : ∀ {D : AEnds} {ρ : Rho} {Ω : Om}, a D ρ Ω → ∀ {P F H : Hp} {σ : L2.St} {D' : Ends}, EndsOk E P F D D' → Ok E P F H Ω → RpE E.K F σ ρ → ts D' σ H
def JS (X : Cx) (G : Gn) (st : Stmt) (a : AS) : Prop := ∃ t, PS X st t ∧ SnS (enX X G) t a
def JSs (X : Cx) (G : Gn) (st : List Stmt) (a : AS) : Prop := ∃ t, PSs X st t ∧ SnS (enX X G) t a
/-! ### what is walked: the items, and what is to stand meanwhile -/
structure ItOk (E : En) (F0 : Hp) (J : It) (xs : List SV) (Kp : Om → Prop) : Prop where
  go : ∀ {i : Nat} {P F H : Hp} {Ω : Om}, Same F0 F → Ok E P F H Ω → Kp Ω → i < xs.length → J.go i H
  yl : ∀ {i : Nat} {P F H : Hp} {Ω : Om} {x : V} {H' : Hp} {y : SV}, Same F0 F → Ok E P F H Ω → Kp Ω → J.yld i H x H' → xs[i]? = some y → ∃ F', Ok E P F' H' Ω ∧ Same F F' ∧ Rp E.K F' x y
  st : ∀ {i : Nat} {P F H : Hp} {Ω : Om}, Same F0 F → Ok E P F H Ω → Kp Ω → xs.length ≤ i → J.stop i H
abbrev PhiI := List SV → (Om → Prop) → Om → Prop
abbrev AI := Rho → Om → PhiI → Prop
structure SnI (E : En) (wi : TI) (ai : AI) : Prop where
  go : ∀ {ρ : Rho} {Ω : Om} {Φ : PhiI}, ai ρ Ω Φ → ∀ {P F H : Hp} {σ : L2.St} {R : It → Hp → Prop}, Ok E P F H Ω → RpE E.K F σ ρ →
    (∀ {J : It} {xs : List SV} {Kp : Om → Prop} {Ω' : Om} {F' H' : Hp}, Φ xs Kp Ω' → Ok E P F' H' Ω' → Same F F' → ItOk E F' J xs Kp → R J H') → wi σ H R
def JI (X : Cx) (G : Gn) (tg iter : Expr) (ai : AI) : Prop := ∃ wi, PI X tg iter wi ∧ SnI (enX X G) wi ai
section
variable {X : Cx} {G : Gn} {e a b tg : Expr} {aa ab : AE} {at_ bt : AT} {ta tb : AA} {pos : Pos} {m : Mode} {g : AG} {gs : AGs} {s t : AS} {ai : AI}
theorem jg_name {i : Nat} {x : Str} (hN : X.N.Nodup) (hi : X.N[i]? = some x) (hx : Loc X.env.scope x) (hf : X.fn x = true ∨ X.env.scope.names.lookup x = some .local := by first | exact .inl rfl | exact .inr rfl | assumption) : JG X G (.Name x pos) (gN i) :=
  ⟨_, pg_name hN hi hx hf, ⟨fun {x ρ k} h {P F H Ω v σ Q} o rp r q => q h (pr_set (R := RpS X.K F) (y := some x) ⟨_, rfl, r⟩ i rp)⟩⟩
theorem jgs0 : JGs X G [] gs0 := by
  refine ⟨_, pgs_nil, ⟨fun {xs ρ k} h {P F H Ω vs σ Q} o rp r q => ?_⟩⟩
  unfold gs0 at h
  split at h
  · cases r
    exact ⟨rfl, q h rp⟩
  · exact h.elim
theorem jgs1 {es : List Expr} (h1 : JG X G e g) (h2 : JGs X G es gs) (hs : (assignEach (e :: es) X.env).map (·.2) = assign e X.env :: (assignEach es X.env).map (·.2) := by rfl) : JGs X G (e :: es) (gs1 g gs) := by
  obtain ⟨g', p1, q1⟩ := h1
  obtain ⟨u, p2, q2⟩ := h2
  refine ⟨_, pgs_cons p1 p2 hs, ⟨fun {xs ρ k} h {P F H Ω vs σ Q} o rp r q => ?_⟩⟩
  unfold gs1 at h
  split at h
  · cases r with
    | cons r1 r2 => exact ⟨_, _, rfl, q1.go h o rp r1 fun h' rp' => q2.go h' o rp' r2 q⟩
  · exact h.elim
theorem jg_tup {es : List Expr} {n k' : Nat} (hc : X.calm = true) (h : JGs X G es gs) (hn : (assignEach es X.env).length = n := by rfl) (hst : (assignEach es X.env).findIdx? (·.1) = none := by rfl) : JG X G (.Tuple es k' pos) (gT n gs) := by
  obtain ⟨u, p, q'⟩ := h
  refine ⟨_, pg_tup hc p hn hst, ⟨fun {x ρ k} h {P F H Ω v σ Q} o rp r q => ?_⟩⟩
  unfold gT at h
  split at h
  · obtain ⟨p, vs, rfl, hF, da⟩ := dqt r
    exact ⟨p, vs, rfl, sqt_same o.ex hF, by rw [dqa_len da]; exact h.1, q'.go h.2 o rp (of_dqa da) q⟩
  · exact h.elim
/-! ### what is walked -/
abbrev kpT : Om → Prop := fun _ => True
def kpAt (p : Addr) (c : OC) : Om → Prop := fun Ω => ∃ f, At Ω p c f
theorem itl_ok {E : En} {F0 : Hp} {p : Addr} {xs : List SV} {Kp : Om → Prop}
    (h : ∀ {P F H : Hp} {Ω : Om}, Same F0 F → Ok E P F H Ω → Kp Ω → ∃ vs, SqL E.K H p vs ∧ Paired (Rp E.K F) vs xs) : ItOk E F0 (Itl E.K p) xs Kp := by
  refine ⟨fun s o k hi => ?_, fun s o k y e => ?_, fun s o k hi => ?_⟩
  · obtain ⟨vs, h1, h2⟩ := h s o k
    obtain ⟨v, hv, _⟩ := pr_get h2 (List.getElem?_eq_getElem hi)
    exact ⟨vs, v, h1, hv⟩
  · obtain ⟨vs, h1, h2⟩ := h s o k
    obtain ⟨rfl, y2⟩ := y
    obtain ⟨v, hv, r⟩ := pr_get h2 e
    rw [y2 vs h1] at hv
    cases hv
    exact ⟨_, o, Same.refl _, r⟩
  · obtain ⟨vs, h1, h2⟩ := h s o k
    exact ⟨vs, h1, by rw [h2.length]; exact hi⟩
theorem itt_ok {E : En} {F0 : Hp} {p : Addr} {xs : List SV} {Kp : Om → Prop}
    (h : ∀ {P F H : Hp} {Ω : Om}, Same F0 F → Ok E P F H Ω → Kp Ω → ∃ vs, SqT E.K H p vs ∧ Paired (Rp E.K F) vs xs) : ItOk E F0 (Itt E.K p) xs Kp := by
  refine ⟨fun s o k hi => ?_, fun s o k y e => ?_, fun s o k hi => ?_⟩
  · obtain ⟨vs, h1, h2⟩ := h s o k
    obtain ⟨v, hv, _⟩ := pr_get h2 (List.getElem?_eq_getElem hi)
    exact ⟨vs, v, h1, hv⟩
  · obtain ⟨vs, h1, h2⟩ := h s o k
    obtain ⟨rfl, y2⟩ := y
    obtain ⟨v, hv, r⟩ := pr_get h2 e
    rw [y2 vs h1] at hv
    cases hv
    exact ⟨_, o, Same.refl _, r⟩
  · obtain ⟨vs, h1, h2⟩ := h s o k
    exact ⟨vs, h1, by rw [h2.length]; exact hi⟩
def seqI (x : SV) (Ω : Om) (Φ : PhiI) : Prop := match x with
  | .d (.list ds) => Φ (ds.map SV.d) kpT Ω
  | .d (.tuple ds) => Φ (ds.map SV.d) kpT Ω
  | .d (.str z) => Φ (z.cps.toList.map fun c => SV.d (.str ⟨#[c]⟩)) kpT Ω
  | .l ds => Φ (ds.map SV.d) kpT Ω
  | .r (.ref p) => ∃ c f, At Ω p c f ∧ (match c with
    | .lst ds => Φ (ds.map SV.d) (kpAt p (.lst ds)) Ω
    | .lx xs => Φ xs (kpAt p (.lx xs)) Ω
    | _ => False)
  | _ => False
def aIt (a : AE) : AI := fun ρ Ω Φ => a ρ Ω fun x Ω' => seqI x Ω' Φ
end
section
variable {X : Cx} {G : Gn} {e a b tg : Expr} {aa ab : AE} {at_ bt : AT} {ta tb : AA} {pos : Pos} {m : Mode} {g : AG} {gs : AGs} {s t : AS} {ai : AI}
/-- for x in e: e's reading is made once for each kind of thing walked -/
def iSeq (K : Frag) (tl : TE) : TI := fun σ H R => tl σ H fun x H1 => (∃ a, x = .ref a ∧ (∃ xs, SqL K H1 a xs) ∧ R (Itl K a) H1) ∨ (∃ a, x = .ref a ∧ (∃ xs, SqT K H1 a xs) ∧ R (Itt K a) H1) ∨ ∃ z, x = .str z ∧ R (Its z) H1
theorem pi_seq {l : Expr} {tl : TE} (hl : PE X l tl) : PI X tg l (iSeq X.K tl) := by
  refine ⟨fun pins s σ H R I h => thn (hl.run pins s σ H _ I h) fun v s1 ⟨x, H1, I1, r1, q⟩ => ?_⟩
  have fp : ∀ b ∈ [s1.heap.objs.size], FpOk X pins H1 b := fun b hb => by
    rw [List.mem_singleton.mp hb]
    exact I1.fpOk (Nat.le_refl _) (I1.hok.fresh (Nat.le_refl _))
  have kp : ∀ (ob : Obj), Inv X pins σ H1 { s1 with heap := s1.heap.push ob } := fun ob => I1.kept (t' := s1.toks) fun _ _ z => Heap.get?_push_of_some _ z
  rcases q with ⟨a, rfl, ⟨xs, hx⟩, q⟩ | ⟨a, rfl, ⟨xs, hx⟩, q⟩ | ⟨z, rfl, q⟩
  · cases r1
    obtain ⟨its, rv, p, hz⟩ := I1.list hx
    exact wpAny_pyIter_list p.isList ⟨_, [_], _, _, H1, rfl, kp _, turn_list a _, ⟨_, Heap.get?_push_size _ rfl, rfl, rfl⟩, fp, q⟩
  · cases r1
    obtain ⟨its, rv, p, hz⟩ := I1.tuple hx
    exact wpAny_pyIter_tuple (items := its.toArray) p ⟨_, [_], _, _, H1, rfl, kp _, turn_tuple a _, ⟨_, Heap.get?_push_size _ rfl, rfl, rfl⟩, fp, q⟩
  · obtain ⟨t, rfl⟩ := r1
    by_cases ha : z.cps.all (· < 128) = true
    · exact wpAny_pyIter_ascii ha (pi_one (tk := s1.toks) I1 _ (turn_str _ z t "str_ascii_iterator" (.inl rfl)) ⟨_, Heap.get?_push_size _ rfl, rfl, rfl⟩ q)
    · exact wpAny_pyIter_wide (by simpa using ha) (pi_one (tk := s1.toks) I1 _ (turn_str _ z t "str_iterator" (.inr rfl)) ⟨_, Heap.get?_push_size _ rfl, rfl, rfl⟩ q)
theorem its_ok {E : En} {F0 : Hp} {z : Str} : ItOk E F0 (Its z) (z.cps.toList.map fun c => SV.d (.str ⟨#[c]⟩)) kpT := by
  have hl : (z.cps.toList.map fun c => SV.d (.str ⟨#[c]⟩)).length = z.cps.size := by simp
  refine ⟨fun s o k hi => by rw [hl] at hi; exact hi, fun {i P F H Ω x H' y} s o k yy e => ?_, fun s o k hi => by rw [hl] at hi; exact hi⟩
  obtain ⟨rfl, c, hc, rfl⟩ := yy
  rw [List.getElem?_map, Array.getElem?_toList, hc] at e
  cases e
  exact ⟨F, o, Same.refl F, .str _⟩
theorem ji_of (ha : JE X G e aa) : JI X G tg e (aIt aa) := by
  obtain ⟨t, h1, h2⟩ := ha
  refine ⟨_, pi_seq h1, ⟨fun {ρ Ω Φ} h {P F H σ R} o rp k => h2.go h o rp fun {v sv Ω1 F1 H1} q o1 s1 r1 => ?_⟩⟩
  have q : seqI sv Ω1 Φ := q
  unfold seqI at q
  split at q
  · obtain ⟨p, vs, rfl, hF, da⟩ := dql r1
    exact Or.inl ⟨p, rfl, ⟨vs, SqL.of (o1.ex _ _ hF)⟩, k q o1 s1 (itl_ok fun s o _ => ⟨vs, SqL.of (o.ex _ _ (s _ _ hF)), of_dqa (dqa_same s _ _ da)⟩)⟩
  · obtain ⟨p, vs, rfl, hF, da⟩ := dqt r1
    exact Or.inr (Or.inl ⟨p, rfl, ⟨vs, sqt_same o1.ex hF⟩, k q o1 s1 (itt_ok fun s o _ => ⟨vs, sqt_same o.ex (sqt_same s hF), of_dqa (dqa_same s _ _ da)⟩)⟩)
  · cases dqs r1
    exact Or.inr (Or.inr ⟨_, rfl, k q o1 s1 its_ok⟩)
  · obtain ⟨p, vs, rfl, hF, da⟩ := r1
    exact Or.inl ⟨p, rfl, ⟨vs, o1.ex.seq hF⟩, k q o1 s1 (itl_ok fun s o _ => ⟨vs, o.ex.seq (s.seq hF), of_dqa (dqa_same s _ _ da)⟩)⟩
  · obtain ⟨c, f, t, q⟩ := q
    cases (show v = _ from r1)
    split at q
    · obtain ⟨vs, h3, h4⟩ := o1.lst t
      refine Or.inl ⟨_, rfl, ⟨vs, SqL.of h3⟩, k q o1 s1 (itl_ok fun s o kk => ?_)⟩
      obtain ⟨f', t'⟩ := kk
      obtain ⟨ws, h5, h6⟩ := o.lst t'
      exact ⟨ws, SqL.of h5, of_dqa h6⟩
    · obtain ⟨vs, h3, h4⟩ := o1.lx t
      refine Or.inl ⟨_, rfl, ⟨vs, SqL.of h3⟩, k q o1 s1 (itl_ok fun s o kk => ?_)⟩
      obtain ⟨f', t'⟩ := kk
      obtain ⟨ws, h5, h6⟩ := o.lx t'
      exact ⟨ws, SqL.of h5, h6⟩
    · exact q.elim
  · exact q.elim
/-- range(n), range(a, b) -/
def rgS (lo : Int) (n : Nat) : List SV := (List.range n).map fun i => SV.d (.int (lo + (i : Nat)))
theorem rgS_get {lo : Int} {n i : Nat} {x : SV} (h : (rgS lo n)[i]? = some x) : x = .d (.int (lo + (i : Nat))) ∧ i < n := by
  unfold rgS at h
  rw [List.getElem?_map] at h
  cases e : (List.range n)[i]? with
  | none => rw [e] at h; cases h
  | some j =>
    rw [e] at h
    obtain ⟨h1, h2⟩ := List.getElem?_eq_some_iff.mp e
    rw [List.getElem_range] at h2
    rw [List.length_range] at h1
    subst h2
    cases h
    exact ⟨rfl, h1⟩
theorem rgS_len {lo : Int} {n : Nat} : (rgS lo n).length = n := by unfold rgS; rw [List.length_map, List.length_range]
theorem itr_ok {E : En} {F0 : Hp} {lo : Int} {n : Nat} : ItOk E F0 (Itr lo n) (rgS lo n) kpT := by
  refine ⟨fun s o k hi => by rw [rgS_len] at hi; exact hi, fun {i P F H Ω x H' y} s o k yy e => ?_, fun s o k hi => by rw [rgS_len] at hi; exact hi⟩
  obtain ⟨rfl, rfl⟩ := yy
  obtain ⟨rfl, _⟩ := rgS_get e
  exact ⟨F, o, Same.refl F, .int _⟩
def bd62 (i : Int) : Prop := -(2 ^ 62) ≤ i ∧ i < 2 ^ 62
def aRng1 (t : AA) : AI := fun ρ Ω Φ => t ρ Ω fun xs Ω' => match xs with
  | [.d (.int j)] => bd62 j ∧ Φ (rgS 0 j.toNat) kpT Ω'
  | _ => False
def aRng2 (t : AA) : AI := fun ρ Ω Φ => t ρ Ω fun xs Ω' => match xs with
  | [.d (.int i), .d (.int j)] => bd62 i ∧ bd62 j ∧ Φ (rgS i (j - i).toNat) kpT Ω'
  | _ => False
theorem ji_range1 {p : Pos} (hg : Gl X "range") (hm : X.mg "range" = none) (ha : JA X G [a] ta) (hs : starEach [a] X.env = [(false, eval a X.env)] := by rfl) : JI X G tg (.Call (.Name "range" p) [a] [] pos) (aRng1 ta) := by
  obtain ⟨t, h1, h2⟩ := ha
  refine ⟨_, pi_range1 hg hm h1 hs, ⟨fun {ρ Ω Φ} h {P F H σ R} o rp k => h2.go h o rp fun {vs svs Ω1 F1 H1} q o1 s1 r1 => ?_⟩⟩
  split at q
  · obtain ⟨v, rfl, r⟩ := pr1 r1
    cases dqi r
    exact ⟨_, rfl, q.1.1, q.1.2, k q.2 o1 s1 itr_ok⟩
  · exact q.elim
theorem ji_range2 {p : Pos} (hg : Gl X "range") (hm : X.mg "range" = none) (ha : JA X G [a, b] ta) (hs : starEach [a, b] X.env = [(false, eval a X.env), (false, eval b X.env)] := by rfl) (hs2 : starEach [b] X.env = [(false, eval b X.env)] := by rfl) :
    JI X G tg (.Call (.Name "range" p) [a, b] [] pos) (aRng2 ta) := by
  obtain ⟨t, h1, h2⟩ := ha
  refine ⟨_, pi_range2 hg hm h1 hs hs2, ⟨fun {ρ Ω Φ} h {P F H σ R} o rp k => h2.go h o rp fun {vs svs Ω1 F1 H1} q o1 s1 r1 => ?_⟩⟩
  split at q
  · obtain ⟨v, u, rfl, r, r'⟩ := pr2 r1
    cases dqi r
    cases dqi r'
    exact ⟨_, _, rfl, ⟨q.1.1, q.1.2, q.2.1.1, q.2.1.2⟩, k q.2.2 o1 s1 itr_ok⟩
  · exact q.elim
/-! ### statements -/
variable {st : Stmt} {sts rest : List Stmt}
def aNx : AS := fun D ρ Ω => D.nx ρ Ω
def aSeq (s t : AS) : AS := fun D ρ Ω => s { D with nx := t D } ρ Ω
theorem jss_nil : JSs X G [] aNx := ⟨_, pss_nil, ⟨fun {D ρ Ω} h {P F H σ D'} k o rp => k.nx h o (Same.refl F) rp⟩⟩
theorem seq_ok {E : En} {ts tu : TS} {s t : AS} (h1 : SnS E ts s) (h2 : SnS E tu t) : SnS E (tSeq ts tu) (aSeq s t) :=
  ⟨fun {D ρ Ω} h {P F H σ D'} k o rp => h1.go h (D' := { D' with nx := tu D' }) ⟨fun q o z rp => h2.go q (k.up z) o rp, k.rt, k.bk, k.ct⟩ o rp⟩
theorem jss_cons (h1 : JS X G st s) (h2 : JSs X G rest t) : JSs X G (st :: rest) (aSeq s t) := by
  obtain ⟨_, p1, q1⟩ := h1
  obtain ⟨_, p2, q2⟩ := h2
  exact ⟨_, pss_cons p1 p2, seq_ok q1 q2⟩
theorem jss_one (h1 : JS X G st s) : JSs X G [st] s := by
  obtain ⟨_, p1, q1⟩ := h1
  exact ⟨_, pss_one p1, q1⟩
theorem js_pass : JS X G (.Pass pos) aNx := ⟨_, ps_pass, ⟨fun {D ρ Ω} h {P F H σ D'} k o rp => k.nx h o (Same.refl F) rp⟩⟩
def aBrk : AS := fun D ρ Ω => D.bk ρ Ω
def aCnt : AS := fun D ρ Ω => D.ct ρ Ω
theorem js_break : JS X G (.Break pos) aBrk := ⟨_, ps_break, ⟨fun {D ρ Ω} h {P F H σ D'} k o rp => k.bk h o (Same.refl F) rp⟩⟩
theorem js_cont : JS X G (.Continue pos) aCnt := ⟨_, ps_continue, ⟨fun {D ρ Ω} h {P F H σ D'} k o rp => k.ct h o (Same.refl F) rp⟩⟩
def aAsg (a : AE) (g : AG) : AS := fun D ρ Ω => a ρ Ω fun x Ω' => g x ρ fun ρ' => D.nx ρ' Ω'
theorem asg_ok {E : En} {te : TE} {tg : TG} {a : AE} {g : AG} (h1 : SnE E te a) (h2 : SnG E tg g) : SnS E (tAsg te tg) (aAsg a g) :=
  ⟨fun {D ρ Ω} h {P F H σ D'} k o rp => h1.go h o rp fun q o1 s1 r1 => h2.go q o1 (rpe_same s1 rp) r1 fun q2 rp2 => k.nx q2 o1 s1 rp2⟩
theorem js_asg (ha : JE X G e aa) (hg : JG X G tg g) (hs : swapsWithSole [tg] e pos.line X.env = pure false := by rfl) (hw : swappedStores [tg] e X.env = pure none := by rfl) (h1 : (assignEach [tg] X.env).map (·.2) = [assign tg X.env] := by rfl) : JS X G (.Assign [tg] e pos) (aAsg aa g) := by
  obtain ⟨_, p1, q1⟩ := ha
  obtain ⟨_, p2, q2⟩ := hg
  exact ⟨_, ps_asg p1 p2 hs hw h1, asg_ok q1 q2⟩
theorem gN_ok {E : En} {i : Nat} : SnG E (gName i) (gN i) := ⟨fun {x ρ k} h {P F H Ω v σ Q} o rp r q => q h (pr_set (R := RpS E.K F) (y := some x) ⟨_, rfl, r⟩ i rp)⟩
theorem js_set {i : Nat} {x : Str} {pos' : Pos} (hN : X.N.Nodup) (hi : X.N[i]? = some x) (hx : Loc X.env.scope x) (ha : JE X G e aa) (hs : swapsWith e (some (.Name x pos')) pos.line X.env = pure false := by rfl) (hf : X.fn x = true ∨ X.env.scope.names.lookup x = some .local := by first | exact .inl rfl | exact .inr rfl | assumption) :
    JS X G (.Assign [.Name x pos'] e pos) (aAsg aa (gN i)) := by
  obtain ⟨_, p1, q1⟩ := ha
  exact ⟨_, ps_set hN hi hx p1 hs hf, asg_ok q1 gN_ok⟩
/-- a, b = e1, e2 and a, b, c = e1, e2, e3, plain names -/
def aPar2 (i j : Nat) (t : AA) : AS := fun D ρ Ω => t ρ Ω fun xs Ω' => match xs with
  | [x, y] => D.nx ((ρ.set i (some x)).set j (some y)) Ω'
  | _ => False
def aPar3 (i j l : Nat) (t : AA) : AS := fun D ρ Ω => t ρ Ω fun xs Ω' => match xs with
  | [x, y, z] => D.nx (((ρ.set i (some x)).set j (some y)).set l (some z)) Ω'
  | _ => False
theorem js_par2 {i j : Nat} {x y : Str} {px py pt : Pos} {kt k2 pt2} (hc : X.calm = true) (hN : X.N.Nodup) (hi : X.N[i]? = some x) (hj : X.N[j]? = some y) (hij : i ≠ j)
    (hx : X.env.scope.names.lookup x = some .local) (hy : X.env.scope.names.lookup y = some .local) (ha : JA X G [a, b] ta)
    (hw : swappedStores [.Tuple [.Name x px, .Name y py] kt pt] (.Tuple [a, b] k2 pt2) X.env = pure (some [x, y]))
    (hs : swapsWithSole [.Tuple [.Name x px, .Name y py] kt pt] (.Tuple [a, b] k2 pt2) pos.line X.env = pure false := by rfl) :
    JS X G (.Assign [.Tuple [.Name x px, .Name y py] kt pt] (.Tuple [a, b] k2 pt2) pos) (aPar2 i j ta) := by
  obtain ⟨_, p1, q1⟩ := ha
  refine ⟨_, ps_par hc hN hi hj hij hx hy p1 hw hs, ⟨fun {D ρ Ω} h {P F H σ D'} k o rp => q1.go h o rp fun {vs svs Ω1 F1 H1} q o1 s1 r1 => ?_⟩⟩
  split at q
  · obtain ⟨v, u, rfl, r, r'⟩ := pr2 r1
    exact ⟨v, u, rfl, k.nx q o1 s1 (pr_set (R := RpS X.K F1) (y := some _) ⟨_, rfl, r'⟩ _ (pr_set (R := RpS X.K F1) (y := some _) ⟨_, rfl, r⟩ _ (rpe_same s1 rp)))⟩
  · exact q.elim
theorem js_par3 {c : Expr} {i j l : Nat} {x y z : Str} {px py pz pt : Pos} {kt k2 pt2} (hc : X.calm = true) (hN : X.N.Nodup) (hi : X.N[i]? = some x) (hj : X.N[j]? = some y) (hl : X.N[l]? = some z) (hij : i ≠ j) (hil : i ≠ l) (hjl : j ≠ l)
    (hx : X.env.scope.names.lookup x = some .local) (hy : X.env.scope.names.lookup y = some .local) (hz : X.env.scope.names.lookup z = some .local) (ha : JA X G [a, b, c] ta)
    (hw : swappedStores [.Tuple [.Name x px, .Name y py, .Name z pz] kt pt] (.Tuple [a, b, c] k2 pt2) X.env = pure (some [x, y, z]))
    (hs : swapsWithSole [.Tuple [.Name x px, .Name y py, .Name z pz] kt pt] (.Tuple [a, b, c] k2 pt2) pos.line X.env = pure false := by rfl) :
    JS X G (.Assign [.Tuple [.Name x px, .Name y py, .Name z pz] kt pt] (.Tuple [a, b, c] k2 pt2) pos) (aPar3 i j l ta) := by
  obtain ⟨_, p1, q1⟩ := ha
  refine ⟨_, ps_par3 hc hN hi hj hl hij hil hjl hx hy hz p1 hw hs, ⟨fun {D ρ Ω} h {P F H σ D'} k o rp => q1.go h o rp fun {vs svs Ω1 F1 H1} q o1 s1 r1 => ?_⟩⟩
  split at q
  · cases r1 with
    | cons r1 r2 =>
      obtain ⟨v, u, rfl, r, r'⟩ := pr2 r2
      exact ⟨_, v, u, rfl, k.nx q o1 s1 (pr_set (R := RpS X.K F1) (y := some _) ⟨_, rfl, r'⟩ _ (pr_set (R := RpS X.K F1) (y := some _) ⟨_, rfl, r⟩ _ (pr_set (R := RpS X.K F1) (y := some _) ⟨_, rfl, r1⟩ _ (rpe_same s1 rp))))⟩
  · exact q.elim
def aExp (a : AE) : AS := fun D ρ Ω => a ρ Ω fun _ Ω' => D.nx ρ Ω'
theorem js_expr (ha : JE X G e aa) (hs : swapsWith e none pos.line X.env = pure false := by rfl) : JS X G (.Expr e pos) (aExp aa) := by
  obtain ⟨_, p1, q1⟩ := ha
  exact ⟨_, ps_expr p1 hs, ⟨fun {D ρ Ω} h {P F H σ D'} k o rp => q1.go h o rp fun q o1 s1 r1 => k.nx q o1 s1 (rpe_same s1 rp)⟩⟩
def aRet (a : AE) : AS := fun D ρ Ω => a ρ Ω D.rt
theorem js_ret (ha : JE X G e aa) : JS X G (.Return (some e) pos) (aRet aa) := by
  obtain ⟨_, p1, q1⟩ := ha
  exact ⟨_, ps_ret p1, ⟨fun {D ρ Ω} h {P F H σ D'} k o rp => q1.go h o rp fun q o1 s1 r1 => k.rt q o1 s1 r1⟩⟩
/-- cells of the def's own are let go -/
theorem Ok.sub {E : En} {P F H : Hp} {Ω Ω' : Om} (o : Ok E P F H Ω) (s : Ω'.Sublist Ω) : Ok E P F H Ω' := ⟨o.p0, o.pf, fun p h => o.pd p (s.subset h), o.pF, o.f0, o.fn, o.dm, o.ex, fun p h => o.own p (s.subset h), o.nd.sublist (s.map _)⟩
def rtD (k : PhiE) (x : SV) (Ω : Om) : Prop := ∃ Ω2 : Om, Ω2.Sublist Ω ∧ k x Ω2
def aRetD (a : AE) : AS := fun D ρ Ω => a ρ Ω (rtD D.rt)
theorem js_retD (ha : JE X G e aa) : JS X G (.Return (some e) pos) (aRetD aa) := by
  obtain ⟨_, p1, q1⟩ := ha
  refine ⟨_, ps_ret p1, ⟨fun {D ρ Ω} h {P F H σ D'} k o rp => q1.go h o rp fun q o1 s1 r1 => ?_⟩⟩
  obtain ⟨Ω2, sl, q⟩ := q
  exact k.rt q (o1.sub sl) s1 r1
def aRetN : AS := fun D _ Ω => D.rt (.d .none) Ω
theorem js_retN : JS X G (.Return none pos) aRetN := ⟨_, ps_retN, ⟨fun {D ρ Ω} h {P F H σ D'} k o rp => k.rt h o (Same.refl F) .non⟩⟩
/-- a cell is taken out -/
inductive Cut : Om → Addr → Om → Prop where
  | here {a : Addr} {c : OC} {Ω : Om} : Cut ((a, c) :: Ω) a Ω
  | there {a : Addr} {Ω Ω' : Om} {p : Addr × OC} : Cut Ω a Ω' → Cut (p :: Ω) a (p :: Ω')
theorem Cut.addr : ∀ {Ω Ω' : Om} {a : Addr}, Cut Ω a Ω' → (Ω.map (·.1)).Nodup → (∀ x ∈ Ω', x ∈ Ω ∧ x.1 ≠ a) ∧ (Ω'.map (·.1)).Nodup
  | _, _, _, .here, nd => by
    rw [List.map_cons] at nd
    obtain ⟨n1, n2⟩ := List.nodup_cons.mp nd
    exact ⟨fun x hx => ⟨List.mem_cons_of_mem _ hx, fun z => n1 (by rw [← z]; exact List.mem_map_of_mem (f := (·.1)) hx)⟩, n2⟩
  | p :: _, _, a, .there h, nd => by
    have hm : ∀ {Ω Ω' : Om} {b : Addr}, Cut Ω b Ω' → b ∈ Ω.map (·.1) := fun {Ω Ω' b} h => by
      induction h with
      | here => exact List.mem_cons_self
      | there _ ih => exact List.mem_cons_of_mem _ ih
    rw [List.map_cons] at nd
    obtain ⟨n1, n2⟩ := List.nodup_cons.mp nd
    obtain ⟨h1, h2⟩ := h.addr n2
    refine ⟨fun x hx => ?_, ?_⟩
    · rcases List.mem_cons.mp hx with q | q
      · rw [q]; exact ⟨List.mem_cons_self, fun z => n1 (by rw [z]; exact hm h)⟩
      · exact ⟨List.mem_cons_of_mem _ (h1 x q).1, (h1 x q).2⟩
    · rw [List.map_cons]
      refine List.nodup_cons.mpr ⟨fun z => ?_, h2⟩
      obtain ⟨x, hx, e⟩ := List.mem_map.mp z
      exact n1 (by rw [← e]; exact List.mem_map_of_mem (f := (·.1)) (h1 x hx).1)
/-- return of a list of the def's own: it is frozen -/
def rtF (Fr : Addr → Prop) (k : PhiE) (x : SV) (Ω : Om) : Prop := match x with
  | .r (.ref p) => ∃ ds f, At Ω p (.lst ds) f ∧ Fr p ∧ ∃ Ω2, Cut Ω p Ω2 ∧ ∃ Ω3 : Om, Ω3.Sublist Ω2 ∧ k (.d (.list ds)) Ω3
  | _ => False
def aRetF (Fr : Addr → Prop) (a : AE) : AS := fun D ρ Ω => a ρ Ω (rtF Fr D.rt)
theorem js_retF (ha : JE X G e aa) : JS X G (.Return (some e) pos) (aRetF (fun p => G.H0 p = none) aa) := by
  obtain ⟨_, p1, q1⟩ := ha
  refine ⟨_, ps_ret p1, ⟨fun {D ρ Ω} h {P F H σ D'} k o rp => q1.go h o rp fun {v sv Ω1 F1 H1} q o1 s1 r1 => ?_⟩⟩
  unfold rtF at q
  split at q
  · obtain ⟨ds, f, t, fr, Ω2, c, Ω3, sl, q⟩ := q
    cases (show v = _ from r1)
    obtain ⟨nF, _⟩ := o1.at_ t
    obtain ⟨vs, h1, h2⟩ := o1.lst t
    obtain ⟨c1, c2⟩ := c.addr o1.nd
    obtain ⟨o2, s2⟩ := o1.frz (c := .lst ds) h1 fr nF (o1.pd _ t.mem) c1 c2
    exact k.rt q (o2.sub sl) (s1.trans s2) (Dq.lst upd_same (dqa_same s2 _ _ h2))
  · exact q.elim
def aIf (t : AT) (a b : AS) : AS := fun D ρ Ω => t ρ Ω fun c Ω' => br c (a D ρ Ω') (b D ρ Ω')
theorem js_if {c : Expr} {xs ys : List Stmt} (hc : JT X G c at_) (ha : JSs X G xs s) (hb : JSs X G ys t) : JS X G (.If c xs ys pos) (aIf at_ s t) := by
  obtain ⟨_, p1, q1⟩ := hc
  obtain ⟨_, p2, q2⟩ := ha
  obtain ⟨_, p3, q3⟩ := hb
  refine ⟨_, ps_if p1 p2 p3, ⟨fun {D ρ Ω} h {P F H σ D'} k o rp => q1.go h o rp fun {b Ω1 F1 H1} q o1 s1 => br_ite ?_⟩⟩
  replace q := br_out q
  cases b
  · exact q3.go q (k.up s1) o1 (rpe_same s1 rp)
  · exact q2.go q (k.up s1) o1 (rpe_same s1 rp)
def aWhile (t : AT) (s : AS) : AS := fun D ρ Ω => ∃ W : Nat → Rho → Om → Prop, (∃ m, W m ρ Ω) ∧ ∀ m ρ Ω, W m ρ Ω →
  t ρ Ω fun b Ω1 => br b (s { D with nx := fun ρ' Ω' => ∃ m', m' < m ∧ W m' ρ' Ω', ct := fun ρ' Ω' => ∃ m', m' < m ∧ W m' ρ' Ω', bk := D.nx } ρ Ω1) (D.nx ρ Ω1)
theorem js_while {c : Expr} {body : List Stmt} (hp : PassesOwn (model X.prog X.w) X.A X.env X.xe) (hc : JT X G c at_) (hb : JSs X G body s) : JS X G (.While c body [] pos) (aWhile at_ s) := by
  obtain ⟨_, p1, q1⟩ := hc
  obtain ⟨tb, p2, q2⟩ := hb
  refine ⟨_, ps_while hp p1 p2, ⟨fun {D ρ Ω} h {P F H σ D'} k o rp => ?_⟩⟩
  obtain ⟨W, ⟨m0, w0⟩, turn⟩ := h
  refine ⟨fun m σ H => ∃ ρ Ω F', Same F F' ∧ W m ρ Ω ∧ Ok (enX X G) P F' H Ω ∧ RpE X.K F' σ ρ, ⟨m0, ρ, Ω, F, Same.refl F, w0, o, rp⟩, ?_⟩
  rintro m σ1 H1 ⟨ρ1, Ω1, F1, z1, w1, o1, rp1⟩
  refine q1.go (turn m ρ1 Ω1 w1) o1 rp1 fun {b Ω2 F2 H2} q o2 s2 => br_ite ?_
  replace q := br_out q
  have z2 := z1.trans s2
  cases b
  · exact k.nx q o2 z2 (rpe_same s2 rp1)
  · refine ⟨fun σ' H' => ∃ m', m' < m ∧ ∃ ρ Ω F', Same F F' ∧ W m' ρ Ω ∧ Ok (enX X G) P F' H' Ω ∧ RpE X.K F' σ' ρ, fun σ' H' z => z, ?_⟩
    refine q2.go q ⟨fun z o z3 rp => ?_, fun z o z3 r => k.rt z o (z2.trans z3) r, fun z o z3 rp => k.nx z o (z2.trans z3) rp, fun z o z3 rp => ?_⟩ o2 (rpe_same s2 rp1)
    · obtain ⟨m', h1, h2⟩ := z
      exact ⟨m', h1, _, _, _, z2.trans z3, h2, o, rp⟩
    · obtain ⟨m', h1, h2⟩ := z
      exact ⟨m', h1, _, _, _, z2.trans z3, h2, o, rp⟩
def aFor (ai : AI) (g : AG) (s : AS) : AS := fun D ρ Ω => ai ρ Ω fun xs Kp Ω1 => ∃ W : Nat → Rho → Om → Prop, W 0 ρ Ω1 ∧ (∀ i ρ Ω, W i ρ Ω → Kp Ω) ∧
  (∀ i x ρ Ω, xs[i]? = some x → W i ρ Ω → g x ρ fun ρ' => s { D with nx := W (i + 1), ct := W (i + 1), bk := D.nx } ρ' Ω) ∧ ∀ ρ Ω, W xs.length ρ Ω → D.nx ρ Ω
theorem js_for {iter : Expr} {body : List Stmt} (hp : PassesOwn (model X.prog X.w) X.A X.env X.xe) (hc : X.calm = true) (hi : JI X G tg iter ai) (hg : JG X G tg g) (hb : JSs X G body s) (h : ∀ {wi : TI} {g' : TG} {tb : TS}, PI X tg iter wi → PG X tg g' → PSs X body tb → PS X (.For tg iter body [] pos) (tFor wi g' tb) := by intro _ _ _ a b c; first | exact ps_for PassesOwn.never rfl a b c | exact ps_for (passes_of rfl) rfl a b c | exact ps_for (by assumption) rfl a b c) :
    JS X G (.For tg iter body [] pos) (aFor ai g s) := by
  obtain ⟨wi, p1, q1⟩ := hi
  obtain ⟨g', p2, q2⟩ := hg
  obtain ⟨tb, p3, q3⟩ := hb
  refine ⟨_, h p1 p2 p3, ⟨fun {D ρ Ω} h {P F H σ D'} k o rp => q1.go h o rp fun {J xs Kp Ω1 F1 H1} q o1 s1 it => ?_⟩⟩
  obtain ⟨W, w0, wk, turn, fin⟩ := q
  refine ⟨fun i m σ H => m = xs.length - i ∧ i ≤ xs.length ∧ ∃ ρ Ω F, Same F1 F ∧ W i ρ Ω ∧ Ok (enX X G) P F H Ω ∧ RpE X.K F σ ρ, ⟨_, rfl, Nat.zero_le _, ρ, Ω1, F1, Same.refl F1, w0, o1, rpe_same s1 rp⟩, ?_⟩
  rintro i m σ2 H2 ⟨rfl, hi, ρ2, Ω2, F2, s2, w2, o2, rp2⟩
  by_cases hlt : i < xs.length
  · refine Or.inr ⟨it.go s2 o2 (wk _ _ _ w2) hlt, fun σ' H' => ∃ ρ Ω F, Same F1 F ∧ W (i + 1) ρ Ω ∧ Ok (enX X G) P F H' Ω ∧ RpE X.K F σ' ρ, fun σ' H' z => ⟨_, by omega, rfl, hlt, z⟩, fun x H' y => ?_⟩
    have e : xs[i]? = some xs[i] := List.getElem?_eq_getElem hlt
    obtain ⟨F3, o3, s3, r3⟩ := it.yl s2 o2 (wk _ _ _ w2) y e
    refine q2.go (turn i _ ρ2 Ω2 e w2) o3 (rpe_same s3 rp2) r3 fun {σ4 ρ4} q4 rp4 => ?_
    have z3 := s2.trans s3
    exact q3.go q4 ⟨fun z o z4 rp => ⟨_, _, _, z3.trans z4, z, o, rp⟩, fun z o z4 r => k.rt z o ((s1.trans z3).trans z4) r, fun z o z4 rp => k.nx z o ((s1.trans z3).trans z4) rp, fun z o z4 rp => ⟨_, _, _, z3.trans z4, z, o, rp⟩⟩ o3 rp4
  · have e : i = xs.length := by omega
    subst e
    exact Or.inl ⟨it.st s2 o2 (wk _ _ _ w2) (Nat.le_refl _), k.nx (fin _ _ w2) o2 (s1.trans s2) rp2⟩
end
end Z
/-! Z7: xs[i] = e; comprehensions; a def by its body; the law's end. -/
namespace Z
open PySem PySem.Spec PyProof.Rows L2
section
variable {X : Cx} {G : Gn} {e a b tg : Expr} {aa ab ac : AE} {at_ bt : AT} {ta tb : AA} {pos : Pos} {m : Mode} {g : AG} {gs : AGs} {s t : AS} {ai : AI}
/-- o[i] = e on a cell's list -/
def aSetIx (a o i : AE) : AS := fun D ρ Ω => a ρ Ω fun x Ω1 => o ρ Ω1 fun l Ω2 => i ρ Ω2 fun j Ω3 => match l, j with
  | .r (.ref p), .d (.int n) => ∃ c f, At Ω3 p c f ∧ (match c, x with
    | .lst ds, .d d => ∃ q, ixN ds.length n = some q ∧ D.nx ρ (f (.lst (ds.set q d)))
    | .lx ys, x => ∃ q, ixN ys.length n = some q ∧ D.nx ρ (f (.lx (ys.set q x)))
    | _, _ => False)
  | _, _ => False
theorem js_setIx (he : JE X G e aa) (ha : JE X G a ab) (hb : JE X G b ac) {spos : Pos}
    (h : ∀ {te ta tb : TE}, PE X e te → PE X a ta → PE X b tb → PS X (.Assign [.Subscript a b pos] e spos) (tAsg te (gSub ta tb rSetL)) := by intro _ _ _ p q r; exact ps_asg p (pg_sub q r set_list)) :
    JS X G (.Assign [.Subscript a b pos] e spos) (aSetIx aa ab ac) := by
  obtain ⟨te, p1, q1⟩ := he
  obtain ⟨ta, p2, q2⟩ := ha
  obtain ⟨tb, p3, q3⟩ := hb
  refine ⟨_, h p1 p2 p3, ⟨fun {D ρ Ω} h {P F H σ D'} k o rp => q1.go h o rp fun {v sv Ω1 F1 H1} z1 o1 s1 r1 => q2.go z1 o1 (rpe_same s1 rp) fun {v2 sv2 Ω2 F2 H2} z2 o2 s2 r2 => q3.go z2 o2 (rpe_same (s1.trans s2) rp) fun {v3 sv3 Ω3 F3 H3} z3 o3 s3 r3 => ?_⟩⟩
  have k3 := (s1.trans s2).trans s3
  have r1' := (r1.same s2).same s3
  dsimp only at z3
  split at z3
  · obtain ⟨c, f, t, z3⟩ := z3
    cases (show v2 = _ from r2)
    cases dqi r3
    split at z3
    · obtain ⟨q, e1, z⟩ := z3
      obtain ⟨vs, h1, h2⟩ := o3.lst t
      exact ⟨_, vs, _, q, rfl, rfl, h1, by rw [dqa_len h2]; exact e1, k.nx z (o3.put t (dqa_set q h2 r1')) k3 (rpe_same k3 rp)⟩
    · obtain ⟨q, e1, z⟩ := z3
      obtain ⟨vs, h1, h2⟩ := o3.lx t
      exact ⟨_, vs, _, q, rfl, rfl, h1, by rw [h2.length]; exact e1, k.nx z (o3.put t (pr_set r1' q h2)) k3 (rpe_same k3 rp)⟩
    · exact z3.elim
  · exact z3.elim
/-! ### comprehensions -/
def wipR (ρ : Rho) : List Nat → Rho
  | [] => ρ
  | v :: vs => (wipR ρ vs).set v none
theorem wip_ok {K : Frag} {F : Hp} {σ : L2.St} {ρ : Rho} (h : RpE K F σ ρ) : ∀ vs : List Nat, RpE K F (wipe σ vs) (wipR ρ vs)
  | [] => h
  | v :: vs => pr_set (R := RpS K F) (x := none) (y := none) trivial v (wip_ok h vs)
/-- only the block's own slots are stored -/
def GOnly (g : TG) (vs : List Nat) : Prop := ∀ {v : V} {σ : L2.St} {H : Hp} {Q Q' : L2.St → Hp → Prop}, g v σ H Q → (∀ σ2 H2, wipe σ2 vs = wipe σ vs → Q σ2 H2 → Q' σ2 H2) → g v σ H Q'
theorem wipe_set {σ : L2.St} {x : Option V} {i : Nat} : ∀ {vs : List Nat}, i ∈ vs → wipe (σ.set i x) vs = wipe σ vs
  | [], h => by cases h
  | v :: vs, h => by
    show (wipe (σ.set i x) vs).set v none = (wipe σ vs).set v none
    have comm : ∀ ws : List Nat, i ∉ ws → wipe (σ.set i x) ws = (wipe σ ws).set i x := fun ws => by
      induction ws with
      | nil => exact fun _ => rfl
      | cons w ws ih =>
        intro hn
        show (wipe (σ.set i x) ws).set w none = ((wipe σ ws).set w none).set i x
        rw [ih fun z => hn (List.mem_cons_of_mem _ z)]
        exact (List.set_comm _ _ (fun z => hn (by rw [z]; exact List.mem_cons_self)))
    by_cases hm : i ∈ vs
    · rw [wipe_set hm]
    · rcases List.mem_cons.mp h with e | e
      · rw [comm vs hm, e, List.set_set]
      · exact absurd e hm
theorem wipe_wipe {σ : L2.St} : ∀ {vs ws : List Nat}, (∀ v ∈ vs, v ∈ ws) → wipe (wipe σ vs) ws = wipe σ ws
  | [], ws, _ => rfl
  | v :: vs, ws, h => by
    show wipe ((wipe σ vs).set v none) ws = wipe σ ws
    rw [wipe_set (h v List.mem_cons_self), wipe_wipe fun w hw => h w (List.mem_cons_of_mem _ hw)]
def JGo (X : Cx) (G : Gn) (tg : Expr) (ag : AG) (vs : List Nat) : Prop := ∃ g, PG X tg g ∧ SnG (enX X G) g ag ∧ GOnly g vs
def JGso (X : Cx) (G : Gn) (tg : List Expr) (ag : AGs) (vs : List Nat) : Prop := ∃ g, PGs X tg g ∧ SnGs (enX X G) g ag ∧ ∀ {xs : List V} {σ : L2.St} {H : Hp} {Q Q' : L2.St → Hp → Prop}, g xs σ H Q → (∀ σ2 H2, wipe σ2 vs = wipe σ vs → Q σ2 H2 → Q' σ2 H2) → g xs σ H Q'
theorem jgo_name {i : Nat} {x : Str} {vs : List Nat} (hi' : i ∈ vs) (hN : X.N.Nodup) (hi : X.N[i]? = some x) (hx : Loc X.env.scope x) (hf : X.fn x = true ∨ X.env.scope.names.lookup x = some .local := by first | exact .inl rfl | exact .inr rfl | assumption) : JGo X G (.Name x pos) (gN i) vs :=
  ⟨_, pg_name hN hi hx hf, gN_ok, fun h k => k _ _ (wipe_set hi') h⟩
theorem jgso0 {vs : List Nat} : JGso X G [] gs0 vs := by
  refine ⟨_, pgs_nil, ⟨fun {xs ρ k} h {P F H Ω vs σ Q} o rp r q => ?_⟩, fun h k => ⟨h.1, k _ _ rfl h.2⟩⟩
  unfold gs0 at h
  split at h
  · cases r
    exact ⟨rfl, q h rp⟩
  · exact h.elim
theorem jgso1 {es : List Expr} {vs : List Nat} (h1 : JGo X G e g vs) (h2 : JGso X G es gs vs) (hs : (assignEach (e :: es) X.env).map (·.2) = assign e X.env :: (assignEach es X.env).map (·.2) := by rfl) : JGso X G (e :: es) (gs1 g gs) vs := by
  obtain ⟨g', p1, q1, z1⟩ := h1
  obtain ⟨u, p2, q2, z2⟩ := h2
  refine ⟨_, pgs_cons p1 p2 hs, ⟨fun {xs ρ k} h {P F H Ω vs σ Q} o rp r q => ?_⟩, fun {xs σ H Q Q'} h k => ?_⟩
  · unfold gs1 at h
    split at h
    · cases r with
      | cons r1 r2 => exact ⟨_, _, rfl, q1.go h o rp r1 fun h' rp' => q2.go h' o rp' r2 q⟩
    · exact h.elim
  · obtain ⟨v, r, e, h⟩ := h
    exact ⟨v, r, e, z1 h fun σ2 H2 e2 h2 => z2 h2 fun σ3 H3 e3 h3 => k σ3 H3 (e3.trans e2) h3⟩
theorem jgo_tup {es : List Expr} {n k' : Nat} {vs : List Nat} (hc : X.calm = true) (h : JGso X G es gs vs) (hn : (assignEach es X.env).length = n := by rfl) (hst : (assignEach es X.env).findIdx? (·.1) = none := by rfl) : JGo X G (.Tuple es k' pos) (gT n gs) vs := by
  obtain ⟨u, p, q', z⟩ := h
  refine ⟨_, pg_tup hc p hn hst, ⟨fun {x ρ k} h {P F H Ω v σ Q} o rp r q => ?_⟩, fun {v σ H Q Q'} h k => ?_⟩
  · unfold gT at h
    split at h
    · obtain ⟨p, vs, rfl, hF, da⟩ := dqt r
      exact ⟨p, vs, rfl, sqt_same o.ex hF, by rw [dqa_len da]; exact h.1, q'.go h.2 o rp (of_dqa da) q⟩
    · exact h.elim
  · obtain ⟨a, xs, e, h1, h2, h3⟩ := h
    exact ⟨a, xs, e, h1, h2, z h3 k⟩
def JTs (X : Cx) (G : Gn) (e : List Expr) (a : AT) : Prop := ∃ te, PTs X e te ∧ SnT (enX X G) te a
def aYes : AT := fun _ Ω Φ => Φ true Ω
theorem jts_nil : JTs X G [] aYes := ⟨_, pts_nil, ⟨fun {ρ Ω Φ} h {P F H σ Q} o rp k => k h o (Same.refl F)⟩⟩
theorem jts_one {c : Expr} (h : JT X G c at_) : JTs X G [c] at_ := by
  obtain ⟨_, p, q⟩ := h
  exact ⟨_, pts_one p, q⟩
def aLc (m : Mode) (ai : AI) (g : AG) (tt : AT) (te : AE) (vs : List Nat) : AE := fun ρ Ω Φ => ai ρ Ω fun xs Kp Ω1 => xs.length ≤ 1000000 ∧ ∃ W : Nat → List SV → Om → Prop, W 0 [] Ω1 ∧ (∀ i acc Ω, W i acc Ω → Kp Ω ∧ acc.length ≤ i) ∧
  (∀ i x acc Ω, xs[i]? = some x → W i acc Ω → g x (wipR ρ vs) fun ρ' => tt ρ' Ω fun b Ω2 => br b (te ρ' Ω2 fun y Ω3 => W (i + 1) (acc ++ [y]) Ω3) (W (i + 1) acc Ω2)) ∧
  ∀ acc Ω, W xs.length acc Ω → newX m acc Ω Φ
theorem lc_ok {E : En} {wi : TI} {g' : TG} {tt' : TT} {te' : TE} {ai : AI} {g : AG} {tt : AT} {te : AE} {vs : List Nat} (hm : MOk E m) (h1 : SnI E wi ai) (h2 : SnG E g' g) (h2' : GOnly g' vs) (h3 : SnT E tt' tt) (h4 : SnE E te' te) : SnE E (tLc wi g' tt' te' vs) (aLc m ai g tt te vs) := by
  refine ⟨fun {ρ Ω Φ} h {P F H σ Q} o rp k => h1.go h o rp fun {J xs Kp Ω1 F1 H1} q o1 s1 it => fun Dl hD => ?_⟩
  obtain ⟨hz, W, w0, wk, turn, fin⟩ := q
  have nP : P Dl = none := o1.pf.free hD
  have s0 : Same E.P0 P := o1.p0
  have n00 : E.P0 Dl = none := s0.free nP
  have nF : ∀ {Q' F' H' : Hp} {Ω' : Om} {u : HO}, Ok E (upd Q' Dl u) F' H' Ω' → F' Dl = none := fun ok => ok.pF Dl (by rw [upd_same]; exact fun z => nomatch z)
  refine ⟨fun i m H => m = xs.length - i ∧ i ≤ xs.length ∧ ∃ acc ws F' Ω', Same F1 F' ∧ W i acc Ω' ∧ Ok E (upd P Dl (.lst ws)) F' H Ω' ∧ Paired (Rp E.K F') ws acc, ⟨_, rfl, Nat.zero_le _, [], [], F1, Ω1, Same.refl F1, w0, o1.guard hD, .nil⟩, ?_⟩
  rintro i mm H2 ⟨rfl, hi, acc, ws, F2, Ω2, s2, w2, o2, r2⟩
  obtain ⟨kp, hl⟩ := wk _ _ _ w2
  by_cases hlt : i < xs.length
  · refine Or.inr ⟨it.go s2 o2 kp hlt, fun H => ∃ acc ws F' Ω', Same F1 F' ∧ W (i + 1) acc Ω' ∧ Ok E (upd P Dl (.lst ws)) F' H Ω' ∧ Paired (Rp E.K F') ws acc, fun H' z => ⟨_, by omega, rfl, hlt, z⟩, fun x H' y => ?_⟩
    have e : xs[i]? = some xs[i] := List.getElem?_eq_getElem hlt
    obtain ⟨F3, o3, s3, r3⟩ := it.yl s2 o2 kp y e
    have z3 := s2.trans s3
    refine h2' (h2.go (turn i _ acc Ω2 e w2) o3 (wip_ok (rpe_same (s1.trans z3) rp) vs) r3 (Q := fun σ2 H4 => H4 = H' ∧ ∃ ρ', (tt ρ' Ω2 fun b Ω2 => br b (te ρ' Ω2 fun y Ω3 => W (i + 1) (acc ++ [y]) Ω3) (W (i + 1) acc Ω2)) ∧ RpE E.K F3 σ2 ρ') fun {σ' ρ'} h5 rp5 => ⟨rfl, ρ', h5, rp5⟩) ?_
    rintro σ2 H4 ew ⟨rfl, ρ', h5, rp5⟩
    refine ⟨by rw [ew, wipe_wipe fun v hv => hv], h3.go h5 o3 rp5 fun {b Ω5 F5 H5} q5 o5 s5 => br_ite ?_⟩
    replace q5 := br_out q5
    cases b
    · exact ⟨acc, ws, F5, Ω5, z3.trans s5, q5, o5, rps_same (s3.trans s5) r2⟩
    · refine h4.go q5 o5 (rpe_same s5 rp5) fun {v sv Ω6 F6 H6} q6 o6 s6 r6 => ⟨ws, o6.pf Dl _ upd_same, ?_, acc ++ [sv], ws ++ [v], F6, Ω6, (z3.trans s5).trans s6, q6, o6.poke n00 (nF o6) nP, pr_app (rps_same ((s3.trans s5).trans s6) r2) (.cons r6 .nil)⟩
      have := r2.length
      have l1 : (1000000 : Nat) < sizeLine := by decide
      omega
  · have e : i = xs.length := by omega
    subst e
    refine Or.inl ⟨it.st s2 o2 kp (Nat.le_refl _), ?_⟩
    have q := fin _ _ w2
    have n0 : E.H0 Dl = none := o1.dm _ hD
    cases m with
    | none =>
      have q' : (match dataOf acc with | some ds => Φ (.d (.list ds)) Ω2 | none => False) := q
      split at q'
      · rename_i ds e
        obtain ⟨o7, s7⟩ := o2.adoptF s0 nP n0
        exact k q' o7 ((s1.trans s2).trans s7) (Dq.lst upd_same (dqa_same s7 _ _ (dataOf_ok e r2)))
      · exact q'.elim
    | some Fr => exact k (q Dl (hm _ rfl Dl n0)) (o2.adopt s0 nP (mkL_ok r2)) (s1.trans s2) rfl
/-- one reading for all contexts of a block -/
theorem all_pe {ι : Type} {Xs : ι → Cx} {E : En} (h : ∀ i, ∃ te, PE (Xs i) e te ∧ SnE E te aa) : ∃ te, (∀ i, PE (Xs i) e te) ∧ SnE E te aa := by
  refine ⟨fun σ H Q => ∀ i, (h i).choose σ H Q, fun i => ⟨fun pins s σ H Q I q => (h i).choose_spec.1.run pins s σ H Q I (q i)⟩, ⟨fun {ρ Ω Φ} q {P F H σ Q} o rp k i => (h i).choose_spec.2.go q o rp k⟩⟩
theorem all_pts {ι : Type} {Xs : ι → Cx} {E : En} {es : List Expr} (h : ∀ i, ∃ te, PTs (Xs i) es te ∧ SnT E te at_) : ∃ te, (∀ i, PTs (Xs i) es te) ∧ SnT E te at_ := by
  refine ⟨fun σ H Q => ∀ i, (h i).choose σ H Q, fun i => ⟨fun pins s σ H Q I q => (h i).choose_spec.1.run pins s σ H Q I (q i)⟩, ⟨fun {ρ Ω Φ} q {P F H σ Q} o rp k i => (h i).choose_spec.2.go q o rp k⟩⟩
theorem all_pg {ι : Type} {Xs : ι → Cx} {E : En} {vs : List Nat} (h : ∀ i, ∃ g', PG (Xs i) e g' ∧ SnG E g' g ∧ GOnly g' vs) : ∃ g', (∀ i, PG (Xs i) e g') ∧ SnG E g' g ∧ GOnly g' vs := by
  refine ⟨fun v σ H Q => ∀ i, (h i).choose v σ H Q, fun i => ⟨fun pins s σ H v u Q I r q => (h i).choose_spec.1.run pins s σ H v u Q I r (q i)⟩, ⟨fun {x ρ k} q {P F H Ω v σ Q} o rp r k i => (h i).choose_spec.2.1.go q o rp r k⟩, fun {v σ H Q Q'} q k i => (h i).choose_spec.2.2 (q i) k⟩
section
variable {elt iter : Expr} {ifs : List Expr} {scope : Scope} {own : List (Str × Nat)} {tt : AT} {te : AE}
abbrev BI := Shared × Hp × Addr × List (Str × Addr) × List Addr
abbrev blkX (X : Cx) (scope : Scope) (i : BI) : Cx := X.blk i.1 i.2.1 scope (compEnvC scope i.2.2.2.1 i.2.2.1 X.env) i.2.2.2.2
theorem je_lc (hm : MOk (enX X G) m) (hc : X.calm = true) (hN : X.N.Nodup) (hi : JI X G tg iter ai) (ok : BlkOk X.N X.env.scope scope own)
    (hg : ∀ i, JGo (blkX X scope i) G tg g (own.map (·.2))) (ht : ∀ i, JTs (blkX X scope i) G ifs tt) (he : ∀ i, JE (blkX X scope i) G elt te) (hs : ∀ x, foldedSetIterable iter X.env x = pure x := by intro _; rfl) :
    JE X G (.ListComp elt [⟨tg, iter, ifs, 0⟩] scope pos) (aLc m ai g tt te (own.map (·.2))) := by
  obtain ⟨wi, p1, q1⟩ := hi
  obtain ⟨g', p2, q2, z2⟩ := all_pg (E := enX X G) hg
  obtain ⟨t', p3, q3⟩ := all_pts (E := enX X G) ht
  obtain ⟨e', p4, q4⟩ := all_pe (E := enX X G) he
  exact ⟨_, pe_lc hc hN p1 ok (fun s H C cl fp => p2 (s, H, C, cl, fp)) (fun s H C cl fp => p3 (s, H, C, cl, fp)) (fun s H C cl fp => p4 (s, H, C, cl, fp)) hs, lc_ok hm q1 q2 z2 q3 q4⟩
/-- y = [..] -/
theorem js_setLc {i : Nat} {y : Str} {py spos : Pos} (hm : MOk (enX X G) m) (hc : X.calm = true) (hN : X.N.Nodup) (hy : X.N[i]? = some y) (hyl : X.env.scope.names.lookup y = some .local)
    (hsw : swapsWith (.ListComp elt [⟨tg, iter, ifs, 0⟩] scope pos) (some (.Name y py)) spos.line X.env = pure true) (hi : JI X G tg iter ai) (ok : BlkOk X.N X.env.scope scope own)
    (hg : ∀ i, JGo (blkX X scope i) G tg g (own.map (·.2))) (ht : ∀ i, JTs (blkX X scope i) G ifs tt) (he : ∀ i, JE (blkX X scope i) G elt te) (hs : ∀ x, foldedSetIterable iter X.env x = pure x := by intro _; rfl) :
    JS X G (.Assign [.Name y py] (.ListComp elt [⟨tg, iter, ifs, 0⟩] scope pos) spos) (aAsg (aLc m ai g tt te (own.map (·.2))) (gN i)) := by
  obtain ⟨wi, p1, q1⟩ := hi
  obtain ⟨g', p2, q2, z2⟩ := all_pg (E := enX X G) hg
  obtain ⟨t', p3, q3⟩ := all_pts (E := enX X G) ht
  obtain ⟨e', p4, q4⟩ := all_pe (E := enX X G) he
  exact ⟨_, ps_setLc hc hN hy hyl hsw p1 ok (fun s H C cl fp => p2 (s, H, C, cl, fp)) (fun s H C cl fp => p3 (s, H, C, cl, fp)) (fun s H C cl fp => p4 (s, H, C, cl, fp)) hs, asg_ok (lc_ok hm q1 q2 z2 q3 q4) gN_ok⟩
end
end
/-! ### a def by its body -/
def startR (N : List Str) (svs : List SV) : Rho := svs.map some ++ List.replicate (N.length - svs.length) none
theorem pr_map {α β γ δ : Type} {R : α → β → Prop} {S : γ → δ → Prop} {f : α → γ} {g : β → δ} (h : ∀ a b, R a b → S (f a) (g b)) : ∀ {l : List α} {m : List β}, Paired R l m → Paired S (l.map f) (m.map g)
  | _, _, .nil => .nil
  | _, _, .cons r t => .cons (h _ _ r) (pr_map h t)
theorem pr_rep {α β : Type} {R : α → β → Prop} {a : α} {b : β} (h : R a b) : ∀ n, Paired R (List.replicate n a) (List.replicate n b)
  | 0 => .nil
  | n + 1 => .cons h (pr_rep h n)
theorem start_ok {K : Frag} {F : Hp} {N : List Str} {vs : List V} {svs : List SV} (r : Paired (Rp K F) vs svs) : RpE K F (L2.start N vs) (startR N svs) := by
  unfold L2.start startR
  rw [r.length]
  exact pr_app (pr_map (fun a b q => ⟨a, rfl, q⟩) r) (pr_rep trivial _)
section
variable {P : Program} {w : World} {K : Frag} {mg : Str → Option Value} {base : Heap} {CX : CXT} {k : Nat} {f : Addr} {fd : FuncData} {ps N : List Str} {T : Con} {x qual : Str} {st : Stmt} {as : (Addr → Prop) → XA → AS}
/-- THE RULE for a def: its body's reading as (for the addresses that are new, and what is wished of an exception), and that it keeps the contract T -/
theorem fn_ok (Fu : Fun K x qual st f fd) (S : FnScope N ps (defScope st)) (hT : Ari T ps.length)
    (hb : ∀ (cdv : Value) (A : Around) (outer : List Env) (s : Shared) (H : Hp) (E : XK) (G : Gn) (Ξ : XA), A.guards = some [] → Room k (A.deeper (envOfC qual (defScope st) s.heap.objs.size f cdv)) →
      (∀ {x : XI} {Ω : Om} {P' F H : Hp} {cls : Value} {d : Option Addr}, Ξ x Ω → Ok ⟨G, K⟩ P' F H Ω → RpX K F H cls d x → E cls d H) →
      JSs (cxOf CX P w K mg base N qual (defScope st) f cdv A outer s H E) G (defBody st) (as (fun p => G.H0 p = none) Ξ))
    (hr : ∀ Fr svs Ω Φ Ξ, T svs Ω Φ Ξ → as Fr Ξ { nx := fun _ Ω => Φ (.d .none) Ω, rt := Φ } (startR N svs) Ω) : FnG P w K mg base CX (k + 1) f fd ps (spOf K T) := by
  obtain ⟨oc, od, kV, doc, pm, an, cdv, ct, osl, rfl, lk, hcd⟩ := Fu.ex
  refine fnG_of lk hcd S (fun vs H Q E h => ?_) fun A outer s H vs Q E hgd hrm hsp => ?_
  · obtain ⟨P0, F, Ω, svs, Φ, Ξ, o, r, h, _⟩ := h
    rw [r.length]
    exact hT _ _ _ _ h
  · obtain ⟨P0, F, Ω, svs, Φ, Ξ, o, r, h, k1, k2⟩ := hsp
    obtain ⟨t, p, q⟩ := hb cdv A outer s H E ⟨F, H, P0⟩ Ξ hgd hrm fun z1 z2 z3 => k2 _ _ _ _ _ _ _ z1 z2 z3
    exact ⟨t, p, q.go (hr _ svs Ω Φ Ξ h) ⟨fun z o' _ _ => k1 _ _ _ _ _ _ z o' Dq.non, fun z o' _ r' => k1 _ _ _ _ _ _ z o' r', fun z _ _ _ => z.elim, fun z _ _ _ => z.elim⟩ o (start_ok r)⟩
/-- .. for a def that lets nothing out -/
theorem fn_ok0 {as : (Addr → Prop) → AS} (Fu : Fun K x qual st f fd) (S : FnScope N ps (defScope st)) (hT : Ari T ps.length)
    (hb : ∀ (cdv : Value) (A : Around) (outer : List Env) (s : Shared) (H : Hp) (E : XK) (G : Gn), A.guards = some [] → Room k (A.deeper (envOfC qual (defScope st) s.heap.objs.size f cdv)) →
      JSs (cxOf CX0 P w K mg base N qual (defScope st) f cdv A outer s H E).nox G (defBody st) (as (fun p => G.H0 p = none)))
    (hr : ∀ Fr svs Ω Φ Ξ, T svs Ω Φ Ξ → as Fr { nx := fun _ Ω => Φ (.d .none) Ω, rt := Φ } (startR N svs) Ω) : FnG P w K mg base CX0 (k + 1) f fd ps (spOf K T) :=
  fn_ok (as := fun Fr _ => as Fr) Fu S hT (fun cdv A outer s H E G Ξ h1 h2 h3 => by
    obtain ⟨t, p, q⟩ := hb cdv A outer s H E G h1 h2
    exact ⟨t, p.nox, ⟨fun {D ρ Ω} z {P F H σ D'} k o r => q.go z k o r⟩⟩) hr
theorem kargs (Fu : Fun K x qual st f fd) {ks : List Str} {n : Nat} {π : List Nat}
    (h : ∀ (kV doc pm : Value) (an : Option Addr) (cdv ct : Value) (us ws : List Value), us.length = n → ws.length = ks.length → bindArgs (PySem.W.fnOf x qual (defArgs st) (defBody st) (defScope st) .none kV doc pm an cdv ct) ⟨us, ks.zip ws⟩ = pure (ps.zip (π.map fun i => (us ++ ws).getD i .none))) : KArg K fd ps ks n π := by
  obtain ⟨oc, od, kV, doc, pm, an, cdv, ct, osl, rfl, lk, hcd⟩ := Fu.ex
  exact fun s us ws _ h1 h2 => .of_eq (h kV doc pm an cdv ct us ws h1 h2)
end
end Z
/-! Zr: list(reversed(xs)); xs[::-1]. -/
namespace Z
open PySem PySem.Spec PyProof.Rows L2
section
variable {prog : Program} {w : World} {A : Around} {E : Value → Shared → Prop} {s : Shared}
theorem rev_fill {R : Result → Shared → Prop} {it l S : Addr} {items : Array Value} {res : Value} {c₀ : Nat} (hh : A.handled = none) (hit : s.heap.IsRevIter it l ((items.size : Int) - 1)) (hl : s.heap.IsList l items) (hne : l ≠ it) (hn : items.size ≤ sizeLine)
    (hSi : S ≠ it) (hSl : S ≠ l) (hS : s.heap.get? S = some { cls := .type "list", data := .seq #[] c₀ })
    (hR : ∀ h' tk acc c', (∀ b o, b ≠ S → b ≠ it → s.heap.get? b = some o → h'.get? b = some o) → h'.get? S = some { cls := .type "list", dict := none, data := .seq acc c', slots := #[] } →
      ItemsOf (fun i v => items[items.size - 1 - i]? = some v) acc items.size → R (.ok (.ret res)) { s with heap := h', toks := tk }) :
    wpAny (model prog w) A.in1 (Builtin.List.listExtendWith (.ref S) (.ref it) res)
      (fun fin s' => match fin with | .done f => R (.ok f) s' | .again c' => c'.quiet = true ∧ codeAny (model prog w) A c' R s') (fun e s' => R (.error e) s') s := by
  have W := (Walks.listRev (prog := prog) (w := w) (A := A.in1) hh it l hne items).toS
  have hSf : S ∉ [it, l] := by
    intro z
    rcases List.mem_cons.mp z with q | q
    · exact hSi q
    · exact hSl (List.mem_singleton.mp q)
  have hT : s.TypeIs (.ref it) "list_reverseiterator" := hit.typeIs
  unfold Builtin.List.listExtendWith
  refine wpAny_bind (wpAny_typeOf hT ?_)
  have e1 : Builtin.List.listSameRef (.ref S) (.ref it) = false := by simp [Builtin.List.listSameRef, hSi]
  rw [if_neg (by rw [e1]; decide)]
  refine wpAny_bind (wpAny_pyIter_revIter hit (wpAny_bind (wpAny_holding ?_)))
  unfold Builtin.List.listLengthHint
  refine wpAny_bind (wpAny_specialOf hT RT.nolen_lri ?_)
  show wpAny _ _ (specialOf (Value.ref it) (Str.ofString "__length_hint__") >>= _) _ _ _
  refine wpAny_bind (wpAny_specialOf hT RT.hint_lri ?_)
  generalize hid : ("list_reverseiterator.__length_hint__" : String) = id0
  wp_delta
  rw [show splitId id0 = some ("list_reverseiterator", "__length_hint__") from by subst hid; decide +kernel]
  subst hid
  refine wpAny_bind (wpAny_isInstance (b := true) hT (by rw [isSubtype_type]; kernel_rfl) (wpAny_pure ?_))
  rw [if_neg (by decide)]
  have e0 : ((items.size : Nat) : Int) - 1 - ((0 : Nat) : Int) = (items.size : Int) - 1 := by omega
  refine wpAny_pure ⟨plainId_quiet F.plain_extend_loop _, codeAny_extend_loopS W hn S hSf res items.size 0 _ #[] c₀ rfl (Nat.zero_le _) ⟨Nat.zero_le _, by rw [e0]; exact hit, hl⟩ hS (ItemsOf.nil _) fun s' acc c' hm hS' hacc => ?_⟩
  rw [Moved.eq_with hm]
  refine hR s'.heap s'.toks acc c' (fun b o h1 h2 e => hm.heap b o (fun hmem => ?_) e) hS' hacc
  rcases List.mem_cons.mp hmem with q | q
  · exact h1 q
  · exact h2 (List.mem_singleton.mp q)
theorem call_list_revI {it l : Addr} {items : Array Value} {Q : Value → Shared → Prop} (hh : A.handled = none) (hit : s.heap.IsRevIter it l ((items.size : Int) - 1)) (hl : s.heap.IsList l items) (hne : l ≠ it) (hn : items.size ≤ sizeLine)
    (hQ : ∀ h' tk acc c', (∀ b o, b ≠ it → s.heap.get? b = some o → h'.get? b = some o) → h'.get? s.heap.objs.size = some { cls := .type "list", dict := none, data := .seq acc c', slots := #[] } →
      ItemsOf (fun i v => items[items.size - 1 - i]? = some v) acc items.size → Q (.ref s.heap.objs.size) { s with heap := h', toks := tk }) :
    wpAny (model prog w) A (PySem.call (.type "list") [.ref it]) Q E s := by
  refine callType_codes (Q₁ := fun obj s₁ => obj = .ref s.heap.objs.size ∧ s₁ = { s with heap := s.heap.push { cls := .type "list", data := .seq #[] } }) PySem.F.called_list (PySem.F.typeCall_list_1 _) PySem.F.entry_list_init
    (code_list_new _ ⟨rfl, rfl⟩) fun obj s₁ h₁ => ?_
  obtain ⟨rfl, rfl⟩ := h₁
  generalize hSz : s.heap.objs.size = S
  have hS : (s.heap.push { cls := .type "list", data := .seq #[] }).get? S = some { cls := .type "list", data := .seq #[] } := by rw [← hSz]; exact Heap.get?_push_size _ rfl
  obtain ⟨oi, hoi, _⟩ := id hit
  obtain ⟨ol, hol, _⟩ := id hl
  have hSi : S ≠ it := by rw [← hSz]; exact Nat.ne_of_gt (Heap.lt_size hoi)
  have hSl : S ≠ l := by rw [← hSz]; exact Nat.ne_of_gt (Heap.lt_size hol)
  refine ⟨⟨_, hS, rfl⟩, PySem.F.args_list_init_2 _ _, ?_⟩
  show wpAny _ _ (do let old ← Builtin.List.listItems (.ref S); Builtin.List.listUpdate (.ref S) (fun _ => #[]); letGo old.toList.reverse; Builtin.List.listExtendWith (.ref S) (.ref it) .none) _ _ _
  refine wpAny_bind ?_
  unfold Builtin.List.listItems
  refine wpAny_bind (wpAny_seqItems hS rfl (wpAny_pure ?_))
  refine wpAny_bind (m := Builtin.List.listUpdate (.ref S) (fun _ => #[])) ?_
  unfold Builtin.List.listUpdate
  refine wpAny_updateSeq hS rfl ?_
  have hS2 := Heap.get?_update_self (Obj.mapSeq (fun _ => (#[] : Array Value))) hS rfl
  have oth : ∀ b o, b ≠ S → s.heap.get? b = some o → ((s.heap.push { cls := .type "list", data := .seq #[] }).update S (Obj.mapSeq (fun _ => (#[] : Array Value)))).get? b = some o :=
    fun b o hb e => (Heap.get?_update_other _ _ (Ne.symm hb)).trans (Heap.get?_push_of_some _ e)
  refine wpAny_bind (wpAny_letGo ?_)
  refine rev_fill (A := A.in1) (c₀ := _) (items := items) (l := l) hh (hit.at fun o e => oth it o (Ne.symm hSi) e) ?_ hne hn hSi hSl hS2 (fun h' tk acc c' hk hS' hacc => ?_)
  · obtain ⟨ol, hol, hr⟩ := id hl
    exact ⟨ol, oth l ol (Ne.symm hSl) hol, hr⟩
  · rw [← hSz] at hS'
    refine ⟨rfl, ?_⟩
    have q := hQ h' tk acc c' (fun b o hb e => ?_) hS' hacc
    · rw [hSz] at q
      exact q
    · have hb2 : b ≠ S := by rw [← hSz]; exact Nat.ne_of_lt (Heap.lt_size e)
      exact hk b o hb2 hb (oth b o hb2 e)
end
section
variable {X : Cx} {G : Gn} {e : Expr} {aa : AE} {m : Mode}
/-- list(reversed(x)), x a list: a new list -/
def tLstRev (K : Frag) (te : TE) : TE := fun σ H Q => te σ H fun v H1 => ∃ (a : Addr) (xs : List V), v = .ref a ∧ SqL K H1 a xs ∧ ∀ q, H1 q = none → Q (.ref q) (upd H1 q (.lst xs.reverse))
theorem pe_lstRev {te : TE} {p p2 pos pos2 : Pos} (hc : X.calm = true) (hg : Gl X "list") (hm : X.mg "list" = none) (hg2 : Gl X "reversed") (hm2 : X.mg "reversed" = none) (he : PE X e te)
    (hs : starEach [e] X.env = (false, eval e X.env) :: starEach [] X.env)
    (hs2 : starEach [.Call (.Name "reversed" p2) [e] [] pos2] X.env = (false, eval (.Call (.Name "reversed" p2) [e] [] pos2) X.env) :: starEach [] X.env) :
    PE X (.Call (.Name "list" p) [.Call (.Name "reversed" p2) [e] [] pos2] [] pos) (tLstRev X.K te) := by
  refine ⟨fun pins s σ H Q I h => Call_ (ld_blt I hg hm boot_list (PyProof.Rows.callWith_type1 (args_cons (Call_ (ld_blt I hg2 hm2 PyProof.Rows.boot_reversed (PyProof.Rows.callWith_type1 (args_cons (thn (he.run pins s σ H _ I h) fun u s1 ⟨v, H1, I1, r1, q1⟩ => args_nil ?_) hs) hs rfl))) hs2) hs2 rfl))⟩
  obtain ⟨a, xs, rfl, hq, q⟩ := q1
  obtain rfl : u = Value.ref a := r1
  obtain ⟨its, rv, p', hz⟩ := I1.list hq
  refine call_reversed_list p'.isList (args_nil ?_)
  generalize hro : revObj a ((its.toArray.size : Int) - 1) = ro
  have k0 : ∀ b o, s1.heap.get? b = some o → (s1.heap.push ro).get? b = some o := fun b o z => Heap.get?_push_of_some _ z
  have I2 : Inv X pins σ H1 { s1 with heap := s1.heap.push ro } := I1.kept (t' := s1.toks) k0
  obtain ⟨f0, f1, f2, f3, f4, f5⟩ := I1.fpOk (H' := H1) (b := s1.heap.objs.size) (Nat.le_refl _) (I1.hok.fresh (Nat.le_refl _))
  have hl := p'.isList
  obtain ⟨ol, hol, _⟩ := id hl
  have hne : a ≠ s1.heap.objs.size := Nat.ne_of_lt (Heap.lt_size hol)
  have hn : its.toArray.size ≤ sizeLine := by rw [List.size_toArray, ← rv.length]; exact hz
  have hri : ({ s1 with heap := s1.heap.push ro } : Shared).heap.IsRevIter s1.heap.objs.size a ((its.toArray.size : Int) - 1) := by
    rw [← hro]
    exact ⟨_, Heap.get?_push_size _ rfl, rfl, rfl⟩
  have hDn : H1 (s1.heap.push ro).objs.size = none := I1.hok.fresh (by rw [Heap.size_push]; exact Nat.le_succ _)
  have hne2 : (s1.heap.push ro).objs.size ≠ s1.heap.objs.size := by rw [Heap.size_push]; exact Nat.succ_ne_self _
  refine call_list_revI (s := { s1 with heap := s1.heap.push ro }) (I1.ok.hd hc) hri (hl.push _) hne hn fun h' tk acc c' hk hS hi => ?_
  have hlen : xs.reverse.length ≤ sizeLine := by rw [List.length_reverse]; exact hz
  have hv : Vals xs.reverse acc.toList := RT.vals_rev rv hi
  have I3 := I2.laid (a := (s1.heap.push ro).objs.size) (o := .lst xs.reverse) (t' := tk) (h' := (s1.heap.push ro).push { cls := .type "list", data := .seq acc c' }) (fun b o z => Heap.get?_push_of_some _ z) (Nat.le_refl _)
    (show ObjOk X.prog X.w _ _ _ (.lst xs.reverse) from ⟨hlen, acc.toList, c', hv, by rw [Array.toArray_toList]; exact Heap.get?_push_size _ rfl⟩)
  have I4 := I3.turned (t' := tk) (h' := h') (it := s1.heap.objs.size) (fun b o hb z => ?_) (by rw [upd_ne (Ne.symm hne2)]; exact f0) f1 f3 f4 f5
  · exact ⟨.ref (s1.heap.push ro).objs.size, _, I4, rfl, q _ hDn⟩
  · by_cases hbS : b = (s1.heap.push ro).objs.size
    · rcases Heap.get?_push_cases z with ⟨_, e⟩ | z2
      · rw [hbS, e]
        exact hS
      · exact hk b o hb z2
    · rcases Heap.get?_push_cases z with ⟨e, _⟩ | z2
      · exact absurd e hbS
      · exact hk b o hb z2
def aLstRev (m : Mode) (a : AE) : AE := fun ρ Ω Φ => a ρ Ω fun x Ω' => rdS x Ω' fun ds => (match x with | .d (.tuple _) => False | _ => True) ∧ newL m ds.reverse Ω' Φ
theorem je_listRev {p p2 pos pos2 : Pos} (hm : MOk (enX X G) m) (hc : X.calm = true) (hg : Gl X "list") (hml : X.mg "list" = none) (hg2 : Gl X "reversed") (hm2 : X.mg "reversed" = none) (ha : JE X G e aa)
    (hs : starEach [e] X.env = (false, eval e X.env) :: starEach [] X.env := by rfl)
    (hs2 : starEach [.Call (.Name "reversed" p2) [e] [] pos2] X.env = (false, eval (.Call (.Name "reversed" p2) [e] [] pos2) X.env) :: starEach [] X.env := by rfl) :
    JE X G (.Call (.Name "list" p) [.Call (.Name "reversed" p2) [e] [] pos2] [] pos) (aLstRev m aa) := by
  obtain ⟨t, h1, h2⟩ := ha
  refine ⟨_, pe_lstRev hc hg hml hg2 hm2 h1 hs hs2, ⟨fun {ρ Ω Φ} h {P F H σ Q} o rp k => h2.go h o rp fun {v sv Ω1 F1 H1} q o1 s1 r1 => ?_⟩⟩
  obtain ⟨a, vs, ds, rfl, hs, da, q⟩ := rdL_of_S q o1 r1
  exact ⟨a, vs, rfl, hs, fun p hp => newL_ok hm o1 (dqa_rev da) q (fun q2 o2 s2 r2 => k q2 o2 (s1.trans s2) r2) hp⟩
end
end Z
/-! Zw: the law's end, for a def that is only called where no repr is under way. -/
namespace Z
open PySem PySem.Spec PyProof.Rows L2
section
variable {P : Program} {w : World} {K : Frag} {mg mb : Str → Option Value} {k : Nat} {fa a : Addr} {fd : FuncData} {x : Str} {sp : Sp} {s : Shared} {vs : List Value} {ns : List Int}
/-- what the law's call must come to -/
abbrev WellDone (s0 : Shared) : Except Value Flow → Shared → Prop := fun r s' => r = .ok (.ret (.bool true)) ∧ OldK s0.heap s'.heap ∧ s'.os = s0.os ∧ AllBare s'.gens
/-- .. from a heap of tracked objects in which at most the script lies -/
theorem lawG_in {H : Hp} (kin : K.In s.heap) (gns : s.heap.Ns mainGlobals mg) (bns : s.heap.Ns builtinsNs mb) (bok : ∀ y : Str, y ≠ "__name__" → mb y = bootBuiltins y) (nol : s.heap.NoLimit) (ng : s.gens = #[])
    (obj : s.heap.get? a = some { cls := .type "list", data := .seq vs.toArray }) (rm : Room k callerA)
    (F : ∀ b : Heap, K.In b → b.Ns mainGlobals mg → FnG P w K mg b CX0 k fa fd [x] sp) (bd : ∀ (z : Shared) (u : Value), BindsTo z fd ⟨[u], []⟩ [(x, u)])
    (only : Only H) (hs : sp [.ref a] H (fun v _ => v = .bl true) fun _ _ _ => False) (hok : HOk P w H s.heap) (just : ∀ b, H b ≠ none → b = a) (out : H a ≠ none → K.lookup a = none) :
    codeAny (model P w) callerA (.call (.ref fa) ⟨[.ref a], []⟩) (WellDone s) s := by
  have isA : ∀ {b : Addr} {u : HO}, H b = some u → b = a := fun {b u} e => just b fun z => by rw [e] at z; cases z
  have free : ∀ {b : Addr} {o : Obj} {es : Array DictEntry} {ep : Nat}, s.heap.get? b = some o → o.data = .dict es ep → H b = none := by
    intro b o es ep e d
    rcases hb : H b with _ | u
    · rfl
    · cases isA hb
      cases obj.symm.trans e
      exact absurd (show Data.seq vs.toArray _ = Data.dict es ep from d) (fun z => by cases z)
  have ns' : ∀ {b : Addr} {m : Str → Option Value}, s.heap.Ns b m → (hidT s.heap H).Ns b m := by
    rintro b m ⟨o, es, ep, e, d, r⟩
    exact ⟨o, es, ep, hidT_get e (free e d), d, r⟩
  have kin' : K.In (hidT s.heap H) := by
    intro b o e
    refine hidT_get (kin b o e) ?_
    rcases hb : H b with _ | u
    · rfl
    · cases isA hb
      have z := out (by rw [hb]; exact fun q => by cases q)
      cases z.symm.trans e
  obtain ⟨mc, c1, c2⟩ := nol
  have env : Env0 P w K mg (hidT s.heap H) callerA [] s H :=
    ⟨rfl, ⟨kin', ns' gns, ⟨mb, ns' bns, bok⟩, ⟨mc, ns' c1, c2⟩⟩, fun _ _ e => of_hidT e, Nat.le_of_eq (hidT_size _ _), trivial, fun _ z => absurd (show _ ∈ ([] : List Addr) from z) (by simp), hok, .of_eq ng⟩
  refine codeAny_mono ((F _ kin' (ns' gns)).go callerA [] s H ⟨[.ref a], []⟩ [.ref a] [.ref a] _ _ rm rfl env (bd s (.ref a)) (.cons rfl .nil) hs) fun r s' got => ?_
  match r, got with
  | .error _, got => exact got.elim
  | .ok .next, got => exact got.elim
  | .ok .brk, got => exact got.elim
  | .ok .cont, got => exact got.elim
  | .ok (.ret u), got =>
    obtain ⟨v, H', os, bare, un, hok', ru, rfl⟩ := got
    cases (show u = Value.bool true from ru)
    refine ⟨rfl, OldK.of_keep fun b o e => ?_, os, bare⟩
    rcases hb : H b with _ | u
    · exact un.keep b o e hb (fun z => absurd (show b ∈ ([] : List Addr) from z) (by simp)) (by simp)
    · rcases only b with z | ⟨ob, xs, z⟩
      · cases z.symm.trans hb
      · have g1 := (hok b _ z).1
        cases g1.symm.trans e
        exact (hok' b _ (un.frzs b _ _ z)).1
theorem lawG (kin : K.In s.heap) (gns : s.heap.Ns mainGlobals mg) (bns : s.heap.Ns builtinsNs mb) (bok : ∀ y : Str, y ≠ "__name__" → mb y = bootBuiltins y) (nol : s.heap.NoLimit) (ng : s.gens = #[])
    (obj : s.heap.get? a = some { cls := .type "list", data := .seq vs.toArray }) (hi : IntsAre vs ns) (hl : ns.length ≤ sizeLine) (rm : Room k callerA)
    (F : ∀ b : Heap, K.In b → b.Ns mainGlobals mg → FnG P w K mg b CX0 k fa fd [x] sp) (bd : ∀ (z : Shared) (u : Value), BindsTo z fd ⟨[u], []⟩ [(x, u)])
    (hsp : ∀ H : Hp, Only H → SqL K H a (ns.map V.int) → sp [.ref a] H (fun v _ => v = .bl true) fun _ _ _ => False) :
    codeAny (model P w) callerA (.call (.ref fa) ⟨[.ref a], []⟩) (WellDone s) s := by
  have ru := vals_ints hi
  rcases hk : K.lookup a with _ | o
  · -- the script stands outside the written part
    let o : Obj := { cls := .type "list", data := .seq vs.toArray }
    let H : Hp := fun b => if b = a then some (.frz o (.lst (ns.map V.int))) else none
    have at_ : H a = some (.frz o (.lst (ns.map V.int))) := if_pos rfl
    have off : ∀ {b}, b ≠ a → H b = none := fun h => if_neg h
    have only : Only H := fun b => by
      by_cases e : b = a
      · subst e; exact .inr ⟨_, _, at_⟩
      · exact .inl (off e)
    refine lawG_in (H := H) kin gns bns bok nol ng obj rm F bd only (hsp H only (.inl (.inr ⟨o, at_⟩))) (fun b u z => ?_) (fun b z => Classical.byContradiction fun e => z (off e)) fun _ => hk
    by_cases e : b = a
    · subst e
      cases at_.symm.trans z
      exact ⟨obj, by rw [List.length_map]; exact hl, vs, _, ru, obj⟩
    · cases (off e).symm.trans z
  · have e := kin a o hk
    cases obj.symm.trans e
    have only : Only fun _ => none := fun _ => .inl rfl
    refine lawG_in (H := fun _ => none) kin gns bns bok nol ng obj rm F bd only (hsp _ only (.inr ⟨_, vs.toArray, _, hk, rfl, rfl, rfl, by rw [List.size_toArray, hi.length]; exact hl, by simpa using ru⟩)) (fun b u z => ?_) (fun b z => absurd rfl z) fun z => absurd rfl z
    cases (show (none : Option HO) = some u from z)
end
/-- the script: a list of ints, of at most n, each of at most 2^20 bits -/
def ScrOk (n : Nat) (ns : List Int) : Prop := ns.length ≤ n ∧ ∀ z ∈ ns, Builtin.Int.intBits z ≤ 1048576
theorem dqa_ofInts {K : Frag} {F : Hp} : ∀ ns : List Int, DqAll K F (ns.map V.int) (ns.map PyData.int)
  | [] => .nil
  | n :: r => .cons (.int n) (dqa_ofInts r)
theorem ok_start {K : Frag} {H : Hp} : Ok ⟨⟨H, H, fun _ => none⟩, K⟩ (fun _ => none) H H [] :=
  ⟨Same.refl _, fun _ _ z => (by cases z), fun _ z => absurd z (by simp), fun _ z => absurd rfl z, Same.refl H, fun _ h1 h2 => absurd h2 h1, fun _ e => e, Same.refl H, fun _ z => absurd z (by simp), .nil⟩
/-- what the law promises: at a script of at most n ints, True -/
inductive LawC (n : Nat) : Con where
  | mk {ns : List Int} {Φ : PhiE} {Ξ : XA} : ScrOk n ns → (∀ Ω, Φ (.d (.bool true)) Ω) → LawC n [.l (ns.map PyData.int)] [] Φ Ξ
theorem LawC.ari {n : Nat} : Ari (LawC n) 1 := by rintro _ _ _ _ ⟨_, _⟩; rfl
/-- THE END -/
theorem walk {l : PySem.W.OpenLaw} {n k : Nat} {q : Program} {loose : List Str} {XP : (Str → Option Value) → Heap → Prop} {YP : World → Heap → Prop} {d : DefRec} {K : Params → Frag} {x : Str}
    (hn : l.most = some n) (hdf : d.params.defaults = []) (in_ : ∀ (w : World) (h : Heap), YP w h → (K w.params).In h) (hr : Room k callerA) (hz : n ≤ sizeLine)
    (F : ∀ (w : World) (mg : Str → Option Value) (fa : Addr) (h : Heap), (K w.params).In h → h.Ns mainGlobals mg → mg d.name = some (.ref fa) →
      ∃ fd : FuncData, (∀ (s : Shared) (v : Value), BindsTo s fd ⟨[v], []⟩ [(x, v)]) ∧ ∀ b : Heap, (K w.params).In b → b.Ns mainGlobals mg → FnG l.prog w (K w.params) mg b CX0 k fa fd [x] (spOf (K w.params) (LawC n))) :
    PySem.W.WalkO q loose XP YP l.row.toRowW d [] fun f vs => PySem.call f vs := by
  refine Att.attach_callB hn hdf fun w _ s mg mb fa _ _ _ _ a vs ns G Y _ _ _ nm obj iv len bits ng => ?_
  have kin := in_ w _ Y
  obtain ⟨fd, bd, f⟩ := F w mg fa _ kin G.T.g nm
  exact lawG kin G.T.g G.T.b G.T.builtins G.T.nolimit ng obj iv (Nat.le_trans len hz) hr f bd fun H _ hs =>
    ⟨_, H, [], [.l (ns.map PyData.int)], fun x _ => x = .d (.bool true), fun _ _ => False, ok_start, .cons ⟨a, _, rfl, hs, dqa_ofInts ns⟩ .nil, .mk ⟨len, bits⟩ fun _ => rfl,
      fun v sv Ω' P' F' H' e o' r => (by subst e; exact dqb r), fun _ _ _ _ _ _ _ z => z.elim⟩
end Z
/-! Z8: raise, try .. except .. as, what is asked of an exception in hand. -/
namespace Z
open PySem PySem.Spec PyProof.Rows L2
/-! ### C() -/
section
variable {X : Cx} {C : Addr} {bmB : List Value} {B newId initId : String} {x : Str} {p pos : Pos}
theorem mk_own0 (F : ExcBaseFacts B newId initId bmB) (q : PySem.W.excIn X.K C bmB newId = true) (gC : X.mg x = some (.ref C)) (kC : PySem.W.keepIn X.K (.ref C) = true) (r : Raises X (.ref C)) (hg : Gl X x) (db : (x == ("__debug__" : Str)) = false := by decide) :
    L2N.PMk X (.Call (.Name x p) [] [] pos) fun _ H Q => Q (.ref C) none H := by
  intro pins s σ H Q I h
  refine wpAny_Call_Name_kw (ld_glob I hg gC (PySem.W.callWith_K0 I.kIn kC ?_) db)
  obtain ⟨_, _, _, _, _, _, _, _, _, _, _, _, _, _, _, _, _, hC, hN, hni, T⟩ := exc_obj I.kIn q
  exact wpAny_call_exc_subT F T hC hN hni (fun h' e hm => L2N.mk_of I hm r h (I.hok.gone hm.new)) (Nat.zero_le _)
end
/-! ### raise -/
section
variable {X : Cx} {G : Gn} {e : Expr} {pos : Pos} {C : Addr} {W : WX} {Ξ : Rho → XA}
theorem noTakes {X : Cx} : L2N.Takes X (fun _ _ _ _ => False) := by
  rintro u s' ⟨_, _, _, _, _, _, _, _, _, _, _, _, _, _, _, _, w⟩
  exact w.elim
def aRaise (Ξ : Rho → XA) (c : Value) : AS := fun _ ρ Ω => Ξ ρ (c, none) Ω
theorem js_raise (hc : X.calm = true) (tk : L2N.Takes X W) (hW : XOk X G (WE W) Ξ) (mk : L2N.PMk X e fun _ H Q => Q (.ref C) none H) : JS X G (.Raise (some e) none pos) (aRaise Ξ (.ref C)) :=
  ⟨_, L2N.ps_raise hc tk mk, ⟨fun {D ρ Ω} h {P F H σ D'} _ o rp => hW h o rp ⟨rfl, trivial⟩⟩⟩
end
/-! ### try .. except C as n -/
def aTry (i : Nat) (c : Value) (ab : (Rho → XA) → AS) (su : Addr → AS) : AS := fun D ρ Ω =>
  ab (fun ρ' x Ω' => x = (c, none) ∧ ∀ a, su a { D with nx := fun ρ2 Ω2 => D.nx (ρ2.set i none) Ω2, bk := fun ρ2 Ω2 => D.bk (ρ2.set i none) Ω2, ct := fun ρ2 Ω2 => D.ct (ρ2.set i none) Ω2 } (ρ'.set i (some (.r (.ref a)))) Ω') D ρ Ω
section
variable {X : Cx} {G : Gn} {x n : Str} {cls c : Value} {i : Nat} {body suite : List Stmt} {b₀ : Stmt} {np pos pos' : Pos} {ab : (Rho → XA) → AS} {su : Addr → AS}
theorem js_tryAs (hs : X.stack = X.env :: X.outer) (hf : X.env.frame = some X.env.locals) (hN : X.N.Nodup) (hi : X.N[i]? = some n) (hln : X.env.kindOf n = some .local) (hc : Names X x c) (hx : PySem.W.exmOne X.K cls c = some true)
    (hb : ∀ (G' : Gn) (Ξ : Rho → XA) (W : WX) (pn : List (Addr × Obj)) (xe : Value → Shared → Prop), (∀ a, G'.H0 a = none → G.H0 a = none) → XOk X G' (WE W) Ξ → L2N.Takes (X.tr pn xe) W → PassesOwn (model X.prog X.w) X.A X.env xe → JSs (X.tr pn xe) G' body (ab Ξ))
    (hsu : ∀ (a : Addr) (oe : Obj) (pn : List (Addr × Obj)), L2N.Zn cls none oe → (∃ vs, oe.data = .fields vs) → JSs (X.suite a ((a, oe) :: pn)) G (b₀ :: suite) (su a)) :
    JS X G (.Try body [.ExceptHandler (some (.Name x np)) (some n) (b₀ :: suite) pos'] [] [] pos) (aTry i cls ab su) := by
  refine ⟨_, L2N.ps_try_as (i := i) (Wout := fun _ _ _ _ => False)
    (tb := fun W D σ H => ∃ (G' : Gn) (Ξ : Rho → XA) (hg : ∀ a, G'.H0 a = none → G.H0 a = none) (hx : XOk X G' (WE W) Ξ), ∀ pn xe (tk : L2N.Takes (X.tr pn xe) W) (po : PassesOwn (model X.prog X.w) X.A X.env xe), Classical.choose (hb G' Ξ W pn xe hg hx tk po) D σ H)
    (ts := fun a cl d D σ H => cl = cls ∧ d = none ∧ ∀ oe pn (hz : L2N.Zn cls none oe) (hf : ∃ vs, oe.data = .fields vs), Classical.choose (hsu a oe pn hz hf) D σ H)
    hs hf hN hi hln hc noTakes (fun W pn xe tk po => ⟨fun pins s σ H D I h => ?_⟩) (fun a oe cl d pn hz hf => ⟨fun pins s σ H D I h => ?_⟩), ⟨fun {D ρ Ω} h {P F H σ D'} k o rp => ?_⟩⟩
  · obtain ⟨G', Ξ, hg, hx, h⟩ := h
    exact (Classical.choose_spec (hb G' Ξ W pn xe hg hx tk po)).1.run pins s σ H D I (h pn xe tk po)
  · obtain ⟨rfl, rfl, h⟩ := h
    exact (Classical.choose_spec (hsu a oe pn hz hf)).1.run pins s σ H D I (h oe pn hz hf)
  · have hg : ∀ a, H a = none → G.H0 a = none := fun a e => o.dm a e
    have hX : XOk X ⟨F, H, P⟩ (WE (wAs X.K c i (fun a cl d D σ H => cl = cls ∧ d = none ∧ ∀ oe pn (hz : L2N.Zn cls none oe) (hf : ∃ vs, oe.data = .fields vs), Classical.choose (hsu a oe pn hz hf) D σ H) (fun _ _ _ _ => False) D'))
        (fun ρ' x Ω' => x = (cls, none) ∧ ∀ a, su a { D with nx := fun ρ2 Ω2 => D.nx (ρ2.set i none) Ω2, bk := fun ρ2 Ω2 => D.bk (ρ2.set i none) Ω2, ct := fun ρ2 Ω2 => D.ct (ρ2.set i none) Ω2 } (ρ'.set i (some (.r (.ref a)))) Ω') := by
      intro σ1 ρ1 y Ω1 P1 F1 H1 cl d hy o1 rp1 rx
      obtain ⟨rfl, hy⟩ := hy
      have s1 : Same F F1 := o1.f0
      have o2 := o.leave o1
      have dn : d = none := by
        cases d with
        | none => rfl
        | some _ => exact rx.2.elim
      refine ⟨true, by rw [rx.1]; exact hx, fun _ a _ => ⟨rx.1, dn, fun oe pn hz hf => ?_⟩, fun z => by cases z⟩
      exact (Classical.choose_spec (hsu a oe pn hz hf)).2.go (hy a)
        ⟨fun q o' s' r => k.nx q o' (s1.trans s') (pr_set (R := RpS X.K _) (x := none) (y := none) trivial i r), fun q o' s' r => k.rt q o' (s1.trans s') r, fun q o' s' r => k.bk q o' (s1.trans s') (pr_set (R := RpS X.K _) (x := none) (y := none) trivial i r), fun q o' s' r => k.ct q o' (s1.trans s') (pr_set (R := RpS X.K _) (x := none) (y := none) trivial i r)⟩ o2
        (pr_set (R := RpS X.K _) (y := some (SV.r (.ref a))) ⟨V.ref a, rfl, rfl⟩ i rp1)
    exact ⟨⟨F, H, P⟩, _, hg, hX, fun pn xe tk po => (Classical.choose_spec (hb ⟨F, H, P⟩ _ _ pn xe hg hX tk po)).2.go h
      ⟨fun q o' s' r => k.nx q (o.leave o') s' r, fun q o' s' r => k.rt q (o.leave o') s' r, fun q o' s' r => k.bk q (o.leave o') s' r, fun q o' s' r => k.ct q (o.leave o') s' r⟩ o.enter rp⟩
end
/-! ### isinstance(e, C), e the exception in hand -/
def acIsE (a : Addr) (cv : V) (b : Bool) : AC := fun xs Ω Φ => match xs with
  | [.r (.ref a'), .r c] => a' = a ∧ c = cv ∧ Φ (.d (.bool b)) Ω
  | _ => False
section
variable {X : Cx} {G : Gn} {D a : Addr} {oe : Obj} {cv : V} {b : Bool} {cw : Value}
theorem jc_isE (hp : (a, oe) ∈ X.pn) (C : ExcC X.K D) (hz : L2N.Zn (.ref D) none oe) (hf : ∃ vs, oe.data = .fields vs) (hv : ∀ u, RelV cv u → u = cw) (hk : PySem.W.kitOne X.K (.ref D) cw = some b) : JC X G (.builtin "isinstance") (acIsE a cv b) := by
  refine ⟨fun xs H Q => xs = [.ref a, cv] ∧ Q (.bl b) H, fun pins s σ H xs us Q I r h => ?_, ⟨fun {svs Ω Φ} h {P F H vs Q} o r k => ?_⟩⟩
  · obtain ⟨rfl, q⟩ := h
    obtain ⟨u, w, rfl, ru, rw_⟩ : ∃ u w, us = [u, w] ∧ RelV (.ref a) u ∧ RelV cv w := by
      cases r with
      | cons h1 r =>
        cases r with
        | cons h2 r => cases r; exact ⟨_, _, rfl, h1, h2⟩
    obtain rfl : u = Value.ref a := ru
    obtain rfl := hv _ rw_
    have there := (I.pin (a, oe) (List.mem_append_left _ hp)).1
    obtain ⟨vs, hd⟩ := hf
    have J : PySem.W.InstAt s.heap a oe D none := by
      obtain ⟨c0, d0, t0, l0⟩ := oe
      obtain ⟨z1, z2, -⟩ := hz
      cases (show c0 = _ from z1)
      cases (show d0 = _ from z2)
      cases (show t0 = _ from hd)
      exact ⟨there, rfl, rfl, trivial⟩
    exact PySem.W.kia_one (PySem.W.handS_kitx_exc C.hg C.hk C.hs C.hd C.ha C.hn C.ht C.hm) I.kIn J hk (fun z => by cases z) fun tk => ⟨.bl b, H, I.kept (t' := tk) fun _ _ z => z, rfl, q⟩
  · unfold acIsE at h
    split at h
    · obtain ⟨rfl, rfl, h⟩ := h
      obtain ⟨v, w, rfl, r1, r2⟩ := pr2 r
      cases (show v = _ from r1)
      cases (show w = _ from r2)
      exact ⟨rfl, k h o (Same.refl F) (.bl _)⟩
    · exact h.elim
end
/-! ### a def that is called with the exception in hand -/
inductive IsC (a : Addr) (c : Bool) : Con where
  | mk {Ω : Om} {Φ : PhiE} {Ξ : XA} : Φ (.d (.bool c)) Ω → IsC a c [.r (.ref a)] Ω Φ Ξ
structure FnE (P : Program) (w : World) (K : Frag) (mg : Str → Option Value) (base : Heap) (D : Addr) (k : Nat) (f : Addr) (fd : FuncData) (ps : List Str) (c : Bool) : Prop where
  one : ps.length = 1
  go : ∀ (A : Around) (outer : List Env) (s : Shared) (H : Hp) (args : Args) (Q : VK) (E : XK) (p : Addr × Obj), L2H.RoomH k A → A.guards = some [] → L2H.Hot1 A p → L2H.PinOk outer H s p → L2N.Zn (.ref D) none p.2 → Env0 P w K mg base A outer s H → BindsTo s fd args (ps.zip [.ref p.1]) →
    spOf K (IsC p.1 c) [.ref p.1] H Q E → codeAny (model P w) A (.call (.ref f) args) (CR CX0 outer P w H s Q E) s
section
variable {P : Program} {w : World} {K : Frag} {mg : Str → Option Value} {base : Heap} {D : Addr} {k : Nat} {f : Addr} {fd : FuncData} {ps N : List Str} {c : Bool} {x qual : Str} {st : Stmt} {as : Addr → AS}
theorem fnE_of (Fu : Fun K x qual st f fd) (S : FnScope N ps (defScope st)) (h1 : ps.length = 1)
    (hb : ∀ (cdv : Value) (A : Around) (outer : List Env) (s : Shared) (H : Hp) (E : XK) (G : Gn) (p : Addr × Obj), A.guards = some [] → L2H.Hot1 A p → L2N.Zn (.ref D) none p.2 → L2H.RoomH k (A.deeper (envOfC qual (defScope st) s.heap.objs.size f cdv)) →
      JSs (L2H.cxH CX0 P w K mg base N qual (defScope st) f cdv A outer s H E p) G (defBody st) (as p.1))
    (hw : ∀ (a : Addr) (Ω : Om) (Φ : PhiE), Φ (.d (.bool c)) Ω → as a { nx := fun _ Ω => Φ (.d .none) Ω, rt := Φ } (startR N [.r (.ref a)]) Ω) : FnE P w K mg base D (k + 1) f fd ps c := by
  obtain ⟨oc, od, kV, doc, pm, an, cdv, ct, osl, rfl, lk, hcd⟩ := Fu.ex
  refine ⟨h1, fun A outer s H args Q E p hr hgd hot hpin hz e0 hbd hsp => ?_⟩
  have old := fun b o e => (e0.bs b o e).1
  have kin : K.In s.heap := e0.mod.kin.keeps old
  have nol : s.heap.NoLimit := e0.mod.nolimit.keeps old
  have kinds : ∀ y ∈ ps.zip [Value.ref p.1], (defScope st).names.lookup y.1 = some .local ∨ ((defScope st).names.lookup y.1 = some .cell ∧ ((cellsFrom (s.heap.objs.size + 1) (defScope st).names []).lookup y.1).isSome = true) := by
    rintro ⟨n, v⟩ hy
    exact (S.par n (List.of_mem_zip hy).1).elim .inl fun q => .inr ⟨q, PySem.W.cellsFrom_some _ _ _ (.inl q)⟩
  refine codeAny_call_function hr.depth (kin _ _ lk) rfl S.co S.gen rfl (PySem.W.codeRec_of kin hcd) (hbd _ _ _ _ (wpAny_newFunctionEnv_cells S.kind kinds fun env he s1 x => ?_))
  cases he
  refine ⟨nol.keeps x.toInCall.keep, codeAny_func ?_⟩
  obtain ⟨P0, F, Ω, svs, Φ, Ξ, o, r, h, k1, k2⟩ := hsp
  obtain ⟨hΦ⟩ := h
  obtain ⟨t, pt, sn⟩ := hb cdv A outer s H E ⟨F, H, P0⟩ p hgd hot hz (hr.deeper _)
  have rv : Vals [V.ref p.1] [Value.ref p.1] := .cons rfl .nil
  have I0 := L2H.inv_startH (CX := CX0) (P := P) (w := w) (mg := mg) (N := N) (E := E) (vs := [V.ref p.1]) S hpin e0 (by rw [h1]; rfl) rv x
  have q0 := sn.go (hw p.1 Ω Φ hΦ) (D' := { nx := fun _ H' => Q .non H', rt := Q }) ⟨fun z o' _ _ => k1 _ _ _ _ _ _ z o' Dq.non, fun z o' _ r' => k1 _ _ _ _ _ _ z o' r', fun z _ _ _ => z.elim, fun z _ _ _ => z.elim⟩ o (start_ok r)
  refine wpAny_mono (pt.run [] s1 _ H _ I0 q0) (fun fl s' hs => ?_) fun _ _ z => z
  cases fl with
  | ret u => obtain ⟨v, σ', H', J, rv, q⟩ := hs; exact ⟨v, H', J.os, J.bare, J.base, J.hok, rv, q⟩
  | next => obtain ⟨σ', H', J, q⟩ := hs; exact ⟨.non, H', J.os, J.bare, J.base, J.hok, rfl, q⟩
  | brk => obtain ⟨_, _, _, q⟩ := hs; exact q.elim
  | cont => obtain ⟨_, _, _, q⟩ := hs; exact q.elim
end
section
variable {X : Cx} {G : Gn} {D a : Addr} {oe : Obj} {k : Nat} {f : Addr} {fd : FuncData} {ps : List Str} {c : Bool} {x : Str} {e : Expr} {aa : AE} {p pos : Pos}
/-- f(e), e the exception that the suite holds -/
def aCallE (a : Addr) (c : Bool) (aa : AE) : AE := fun ρ Ω Φ => aa ρ Ω fun x Ω' => x = .r (.ref a) ∧ Φ (.d (.bool c)) Ω'
theorem je_callE (F : FnE X.prog X.w X.K X.mg X.base D k f fd ps c) (hr : L2H.RoomH k X.A) (hgd : X.A.guards = some []) (hot : L2H.Hot1 X.A (a, oe)) (hp : (a, oe) ∈ X.pn) (hz : L2N.Zn (.ref D) none oe) (hg : Gl X x) (hm : X.mg x = some (.ref f)) (hk : PySem.W.keepIn X.K (.ref f) = true)
    (hb : Binds X.K fd ps []) (ha : JE X G e aa) (hdb : (x == ("__debug__" : Str)) = false := by decide)
    (he : starEach [e] X.env = (false, eval e X.env) :: starEach [] X.env := by rfl) (hpl : (backTo pos (starEach [] X.env)).any (·.1) = false := by rfl) :
    JE X G (.Call (.Name x p) [e] [] pos) (aCallE a c aa) := by
  obtain ⟨t, h1, h2⟩ := ha
  refine ⟨fun σ H Q => t σ H fun v H1 => v = .ref a ∧ spOf X.K (IsC a c) [.ref a] H1 Q fun _ _ _ => False, ⟨fun pins s σ H Q I h => ?_⟩, ⟨fun {ρ Ω Φ} h {P F H σ Q} o rp k => ?_⟩⟩
  · refine wpAny_Call_Name_kw (ld_glob I hg hm (PySem.W.callWith_K (h₀ := X.base) I.ok.mod.kin hk ?_ he hpl) hdb)
    rw [he]
    refine Calls.spliced_cons (thn (h1.run pins s σ H _ I h) fun u s1 ⟨v, H1, I1, r, ev, q⟩ => ?_)
    refine Calls.spliced_nil ⟨I1.kIn, ?_⟩
    subst ev
    obtain rfl : u = Value.ref a := r
    have there := I1.pin (a, oe) (List.mem_append_left _ hp)
    have pin : L2H.PinOk X.stack H1 s1 (a, oe) := ⟨there.1, there.2.1, fun z => (List.mem_cons.mp (I1.stkSub a z)).elim there.2.2.1 there.2.2.2.1, there.2.2.2.2⟩
    refine wp_of_code (codeAny_mono (F.go X.A X.stack s1 H1 ⟨[.ref a], []⟩ Q _ (a, oe) hr hgd hot pin hz I1.env0 ?_ q) fun r s' hq => ?_)
    · have b := hb s1 [.ref a] I1.kIn (by rw [List.append_nil]; exact F.one.symm)
      rw [List.append_nil] at b
      exact b
    · match r, hq with
      | .error e, hq => exact hq.elim
      | .ok (.ret u), hq => exact I1.after hq
      | .ok .next, hq => exact hq
      | .ok .brk, hq => exact hq
      | .ok .cont, hq => exact hq
  · refine h2.go h o rp fun {v sv Ω1 F1 H1} q o1 s1 r1 => ?_
    obtain ⟨rfl, q⟩ := q
    cases (show v = _ from r1)
    exact ⟨rfl, _, F1, Ω1, _, Φ, fun _ _ => False, o1.enter, .cons (show Rp X.K F1 (V.ref a) (.r (.ref a)) from rfl) .nil, .mk q, fun v sv Ω' P' F' H' z o' r' => k z (o1.leave o') (s1.trans o'.f0) r', fun _ _ _ _ _ _ _ z => z.elim⟩
theorem hot_of {A : Around} {a : Addr} {oe : Obj} {cls : Value} {d : Option Addr} (hz : L2N.Zn cls d oe) (hf : ∃ vs, oe.data = .fields vs) (h : A.handled = some (.ref a)) : L2H.Hot1 A (a, oe) := by
  obtain ⟨vs, e⟩ := hf
  exact ⟨h, vs, e, hz.2.2 vs e⟩
end
/-! ### any(bs) with an exception in hand -/
section
variable {prog : Program} {w : World} {A : Around} {E : Value → Shared → Prop} {s : Shared}
theorem list_end_hot {it l x1 : Addr} {i : Nat} {items : Array Value} {Q : Option Value → Shared → Prop} (hot : HotX.HotAt A x1 s.heap) (ne : x1 ≠ it) (hit : s.heap.IsListIter it l i) (hl : s.heap.IsList l items) (hx : items[i]? = none)
    (k : ∀ h', (∀ b o, b ≠ it → s.heap.get? b = some o → h'.get? b = some o) → Q none { s with heap := h' }) : wpAny (model prog w) A (pyNext (.ref it)) Q E s := by
  obtain ⟨o, ho, _, hd⟩ := id hit
  obtain ⟨ol, hol, _, _, hdl⟩ := hl
  obtain ⟨hh, o1, vs1, g1, d1, c1⟩ := hot
  unfold pyNext
  refine wpAny_bind (wpAny_attempt (wpAny_callSpecial?_slot (name := Str.ofString "__next__") hit.typeIs slot_listiter_next (wpAny_call_entry slot_listiter_next hit.typeIs entry_listiter_next ?_ (args_listiter_next _))))
  show wpAny _ _ (field (.ref it) 0 >>= _) _ _ _
  refine wpAny_bind (wpAny_field ho hd (x := Value.ref l) rfl ?_)
  show wpAny _ _ (if (Value.ref l == Value.none) = true then _ else _) _ _ _
  rw [if_neg (by exact Bool.false_ne_true : ¬ ((Value.ref l == Value.none) = true))]
  show wpAny _ _ (field (.ref it) 1 >>= _) _ _ _
  refine wpAny_bind (wpAny_field ho hd (x := Value.int i 0) rfl ?_)
  show wpAny _ _ (seqItems? (.ref l) >>= _) _ _ _
  refine wpAny_bind (wpAny_seqItems hol hdl ?_)
  simp only [hx, Int.toNat_natCast]
  refine wpAny_bind (wpAny_rule (wpAny_bind (wpAny_setField ho hd (by simp) ?_)))
  show wpAny _ _ (newExc (.type "StopIteration") [] >>= _) _ _ (_ : Shared)
  refine wpAny_bind ?_
  simp only [newTuple, newExc]
  refine wpAny_bind (wpAny_newObj_type ?_ (by size_fits))
  refine wpAny_bind (m := firstArgMember _ _) (wpAny_of_eq (a := Value.none) (by first | rfl | (simp only [firstArgMember]; rfl)) (wpAny_newObj_type ?_ (by size_fits)))
  have g2 : (s.heap.update it (Obj.mapFields (·.setIfInBounds 0 Value.none))).get? x1 = some o1 := (Heap.get?_update_other _ _ (Ne.symm ne)).trans g1
  refine HotX.raiseNew_hot ⟨hh, o1, vs1, Heap.get?_push_of_some _ (Heap.get?_push_of_some _ g2), d1, c1⟩ (Nat.ne_of_lt (Heap.lt_size (Heap.get?_push_of_some _ g2))) (Heap.get?_push_size _ rfl) rfl (by first | (simp; done) | (simp; omega) | (simp only [Array.size_append]; simp; omega)) ?_
  refine wpAny_bind (wpAny_isInstance (T := "StopIteration") (b := true) ⟨_, Heap.get?_update_self _ (Heap.get?_push_size _ rfl) rfl, rfl⟩ isSubtype_stop (wpAny_pure (k _ fun b o hb e => ?_)))
  have g3 : (s.heap.update it (Obj.mapFields (·.setIfInBounds 0 Value.none))).get? b = some o := (Heap.get?_update_other _ _ (Ne.symm hb)).trans e
  rw [Heap.get?_update_other _ _ (Nat.ne_of_gt (Heap.lt_size (Heap.get?_push_of_some _ g3)))]
  exact Heap.get?_push_of_some _ (Heap.get?_push_of_some _ g3)
theorem walks_hot (I ax x1 : Addr) (h1 : ax ≠ I) (h2 : x1 ≠ I) (items : Array Value) : Walks prog w A I [I, ax, x1] [I] items.size (fun i v => items[i]? = some v) (fun i h => h.IsListIter I ax i ∧ h.IsList ax items ∧ HotX.HotAt A x1 h) where
  sub := fun b hb => by simp at hb; simp [hb]
  frame := fun i h h' st hk => ⟨st.1.at fun o e => hk I (by simp) o e, st.2.1.at fun o e => hk ax (by simp) o e, by
    obtain ⟨_, _, hh, o, vs, e, d, c⟩ := st
    exact ⟨hh, o, vs, hk x1 (by simp) o e, d, c⟩⟩
  item := fun i s Q E hi st hQ => by
    refine wpAny_pyNext_list_item st.1 st.2.1 (x := items[i]) (by simp [hi]) fun h' hit' hs' => ?_
    obtain ⟨_, _, hh, o, vs, e, d, c⟩ := st
    exact hQ _ h' s.toks (by simp [hi]) ⟨hit', (‹s.heap.IsList ax items›).extBut hs'.extBut h1, hh, o, vs, hs'.extBut x1 o h2 e, d, c⟩ fun b o hb e => hs'.extBut b o (fun z => hb (by simp [z])) e
  done := fun s Q E st hQ => list_end_hot st.2.2 h2 st.1 st.2.1 (by simp) fun h' he' => hQ h' s.toks fun b o hb e => he' b o (fun z => hb (by simp [z])) e
  self := fun _ _ _ _ st hQ => wpAny_pyIter_listiter st.1 hQ
end
section
variable {X : Cx} {G : Gn} {a : Addr} {oe : Obj}
theorem cr_anyH (hot : L2H.Hot1 X.A (a, oe)) (hp : (a, oe) ∈ X.pn) : CallR X (.builtin "any") (rAny X.K) := by
  intro pins s σ H vs us Q I r h
  obtain ⟨l, bs, rfl, hs, q⟩ := h
  obtain ⟨its, rv, hl, _⟩ := I.list hs
  rw [Vals.ref1 r]
  have hb := rv.bls
  have there := (I.pin (a, oe) (List.mem_append_left _ hp)).1
  obtain ⟨hh, fv, d, c⟩ := hot
  refine call_any_walk (iter_any hl.isList fun s₂ e2 st hne => ?_)
  subst e2
  have lt : a ≠ s.heap.objs.size := Nat.ne_of_lt (Heap.lt_size there)
  refine ⟨_, _, _, _, _, _, _, rfl, walks_hot (A := X.A.in1) _ l a hne lt its.toArray, ⟨st.1, st.2, hh, oe, fv, Heap.get?_push_of_some _ there, d, c⟩, truth_bools hb, fun h' tk hk => ⟨.bl _, H, I.kept fun b o eo => hk b o (fun z => ?_) (Heap.get?_push_of_some _ eo), ?_, q⟩⟩
  · cases List.mem_singleton.mp z
    exact absurd (Heap.lt_size eo) (Nat.lt_irrefl _)
  · show Value.bool _ = Value.bool _
    rw [← L2.any_range, hb, List.size_toArray, List.length_map]
theorem jc_anyH (hot : L2H.Hot1 X.A (a, oe)) (hp : (a, oe) ∈ X.pn) : JC X G (.builtin "any") (ac1 fAny) := by
  refine ⟨_, cr_anyH hot hp, ac1_ok fun {x Ω Φ} h {P F H v Q} o r k => ?_⟩
  obtain ⟨ns, h⟩ := h
  obtain ⟨l, vs, ds, rfl, hs, da, rfl, q⟩ := rdL_of_S h o r
  rw [dqa_bools da] at hs
  exact ⟨l, ns, rfl, hs, k q o (Same.refl F) (.bl _)⟩
end
end Z
namespace Z
open PySem PySem.Spec PyProof.Rows L2
theorem mok2 {G G' : Gn} {K : Frag} (hg : ∀ a, G'.H0 a = none → G.H0 a = none) : MOk ⟨G', K⟩ (some fun a => G.H0 a = none) := fun _ h a e => by cases h; exact hg a e
theorem xok_of {X : Cx} {G : Gn} {E : XK} {Ξ : XA} (hX : ∀ {x : XI} {Ω : Om} {P' F H : Hp} {cls : Value} {d : Option Addr}, Ξ x Ω → Ok ⟨G, X.K⟩ P' F H Ω → RpX X.K F H cls d x → E cls d H) : XOk X G (WE fun cls d _ H => E cls d H) (fun _ => Ξ) := fun h o _ r => hX h o r
theorem xokF {X : Cx} {G : Gn} : XOk X G (WE fun _ _ _ _ => False) xno := fun h => h.elim
theorem is_ref {a : Addr} : ∀ u, RelV (.ref a) u → u = Value.ref a := fun _ h => h
theorem is_ty {t : String} : ∀ u, RelV (.ty t) u → u = Value.type t := fun _ h => h
end Z
namespace Z
open PySem PySem.Spec PyProof.Rows L2
/-! ### a list of the def's own, read as data: from here on it never changes -/
def fzF (Fr : Addr → Prop) (k : PhiE) (x : SV) (Ω : Om) : Prop := match x with
  | .r (.ref p) => ∃ ds f, At Ω p (.lst ds) f ∧ Fr p ∧ ∃ Ω2, Cut Ω p Ω2 ∧ k (.d (.list ds)) Ω2
  | _ => False
def aFrz (Fr : Addr → Prop) (a : AE) : AE := fun ρ Ω Φ => a ρ Ω (fzF Fr Φ)
theorem je_frz {X : Cx} {G : Gn} {e : Expr} {aa : AE} (ha : JE X G e aa) : JE X G e (aFrz (fun p => G.H0 p = none) aa) := by
  obtain ⟨t, p1, q1⟩ := ha
  refine ⟨t, p1, ⟨fun {ρ Ω Φ} h {P F H σ Q} o rp k => q1.go h o rp fun {v sv Ω1 F1 H1} q o1 s1 r1 => ?_⟩⟩
  unfold fzF at q
  split at q
  · obtain ⟨ds, f, t, fr, Ω2, c, q⟩ := q
    cases (show v = _ from r1)
    obtain ⟨nF, _⟩ := o1.at_ t
    obtain ⟨vs, h1, h2⟩ := o1.lst t
    obtain ⟨c1, c2⟩ := c.addr o1.nd
    obtain ⟨o2, s2⟩ := o1.frz (c := .lst ds) h1 fr nF (o1.pd _ t.mem) c1 c2
    exact k q o2 (s1.trans s2) (Dq.lst upd_same (dqa_same s2 _ _ h2))
  · exact q.elim
end Z
/-! Z9: a < b < c, xs * n, xs[::-1], in; range(a, b, c), reversed, enumerate, zip as what is walked. -/
namespace Z
open PySem PySem.Spec PyProof.Rows L2
section
variable {X : Cx} {G : Gn} {e a b c : Expr} {aa ab ac : AE} {pos : Pos} {m : Mode} {op op' : CmpOp} {ar ar' : AR}
/-! ### chains -/
def aChain (ar ar' : AR) (a b c : AE) : AE := fun ρ Ω Φ => a ρ Ω fun x Ω1 => b ρ Ω1 fun y Ω2 => ar x y Ω2 fun z Ω3 => match z with
  | .d (.bool t) => br t (c ρ Ω3 fun w Ω4 => ar' y w Ω4 Φ) (Φ (.d (.bool false)) Ω3)
  | _ => False
theorem chain_ok {E : En} {ta tb tc : TE} {r r' : R2} (h1 : SnE E ta aa) (h2 : SnE E tb ab) (h3 : SnE E tc ac) (h4 : SnR E r ar) (h5 : SnR E r' ar') : SnE E (tChain r r' ta tb tc) (aChain ar ar' aa ab ac) := by
  refine ⟨fun {ρ Ω Φ} h {P F H σ Q} o rp k => h1.go h o rp fun {v1 x Ω1 F1 H1} q1 o1 s1 r1 => h2.go q1 o1 (rpe_same s1 rp) fun {v2 y Ω2 F2 H2} q2 o2 s2 r2 => h4.go q2 o2 (r1.same s2) r2 fun {v3 z Ω3 F3 H3} q3 o3 s3 r3 => ?_⟩
  have z3 := (s1.trans s2).trans s3
  dsimp only at q3
  split at q3
  · rename_i t
    replace q3 := br_out q3
    refine ⟨t, dqb r3, br_ite ?_⟩
    cases t
    · exact k q3 o3 z3 (.bl _)
    · exact h3.go q3 o3 (rpe_same z3 rp) fun q4 o4 s4 r4 => h5.go q4 o4 (r2.same (s3.trans s4)) r4 fun q5 o5 s5 r5 => k q5 o5 ((z3.trans s4).trans s5) r5
  · exact q3.elim
theorem je_chain (ho : JOp X G (compareOp op) ar) (ho' : JOp X G (compareOp op') ar') (ha : JE X G a aa) (hb : JE X G b ab) (hc : JE X G c ac) (hm : lastMarks [op, op'] [b, c] = false := by with_unfolding_all rfl) :
    JE X G (.Compare a [op, op'] [b, c] pos) (aChain ar ar' aa ab ac) := by
  obtain ⟨r, p1, q1⟩ := ho
  obtain ⟨r', p2, q2⟩ := ho'
  obtain ⟨_, p3, q3⟩ := ha
  obtain ⟨_, p4, q4⟩ := hb
  obtain ⟨_, p5, q5⟩ := hc
  exact ⟨_, pe_chain p1 p2 p3 p4 p5 hm, chain_ok q3 q4 q5 q1 q2⟩
theorem jt_chain (ho : JOp X G (compareOp op) ar) (ho' : JOp X G (compareOp op') ar') (ha : JE X G a aa) (hb : JE X G b ab) (hc : JE X G c ac) (hm : lastMarks [op, op'] [b, c] = false := by with_unfolding_all rfl) :
    JT X G (.Compare a [op, op'] [b, c] pos) (aB (aChain ar ar' aa ab ac)) := by
  obtain ⟨r, p1, q1⟩ := ho
  obtain ⟨r', p2, q2⟩ := ho'
  obtain ⟨_, p3, q3⟩ := ha
  obtain ⟨_, p4, q4⟩ := hb
  obtain ⟨_, p5, q5⟩ := hc
  refine ⟨_, pt_chain p1 p2 p3 p4 p5 hm, ⟨fun {ρ Ω Φ} h {P F H σ Q} o rp k => (chain_ok q3 q4 q5 q1 q2).go h o rp fun {v z Ω1 F1 H1} q o1 s1 r1 => ?_⟩⟩
  dsimp only at q
  split at q
  · exact ⟨_, dqb r1, k q o1 s1⟩
  · exact q.elim
/-! ### xs * n -/
def repD {α : Type} (xs : List α) (k : Int) : List α := (List.replicate k.toNat xs).flatten
theorem dqa_rep {K : Frag} {F : Hp} {vs : List V} {ds : List PyData} (h : DqAll K F vs ds) : ∀ n : Nat, DqAll K F (List.replicate n vs).flatten (List.replicate n ds).flatten
  | 0 => .nil
  | n + 1 => by
    rw [List.replicate_succ, List.replicate_succ, List.flatten_cons, List.flatten_cons]
    exact dqa_app h (dqa_rep h n)
def arMulA (m : Mode) : AR := fun x y Ω Φ => match x, y with
  | .d (.tuple ds), .d (.int k) => ds ≠ [] ∧ 2 ≤ k ∧ k ≤ 1000 ∧ ds.length ≤ 1000 ∧ Φ (.d (.tuple (repD ds k))) Ω
  | x, .d (.int k) => rdL x Ω fun ds => -(2 ^ 63) ≤ k ∧ k < 2 ^ 63 ∧ ds.length * k.toNat ≤ sizeLine ∧ newL m (repD ds k) Ω Φ
  | _, _ => False
theorem jo_mul (hm : MOk (enX X G) m) : JOp X G (binaryOp .Mult) (arMulA m) := by
  refine ⟨_, OpR.or op_repT op_rep, ⟨fun {x y Ω Φ} h {P F H vx vy Q} o r1 r2 k => ?_⟩⟩
  unfold arMulA at h
  split at h
  · obtain ⟨p, vs, rfl, hF, da⟩ := dqt r1
    cases dqi r2
    obtain ⟨h1, h2, h3, h4, h5⟩ := h
    refine Or.inl ⟨p, _, vs, rfl, rfl, sqt_same o.ex hF, fun z => h1 (by subst z; cases da; rfl), h2, h3, by rw [dqa_len da]; exact h4, fun q hq => ?_⟩
    obtain ⟨o1, s1⟩ := o.newF (o := .tup (List.replicate _ vs).flatten) hq
    exact k h5 o1 s1 (Dq.tup (Or.inl (Or.inl upd_same)) (dqa_same s1 _ _ (dqa_rep da _)))
  · rename_i k' _
    obtain ⟨p, vs, ds, rfl, hs, da, h1, h2, h3, h4⟩ := rdL_ok h o r1
    cases dqi r2
    refine Or.inr ⟨p, _, vs, rfl, rfl, hs, h1, h2, by rw [dqa_len da]; exact h3, fun q hq => newL_ok hm o (dqa_rep da _) h4 k hq⟩
  · exact h.elim
/-! ### xs[::-1] of a list -/
def aRevL (m : Mode) (a : AE) : AE := fun ρ Ω Φ => a ρ Ω fun x Ω' => rdS x Ω' fun ds => (match x with | .d (.tuple _) => False | _ => True) ∧ newL m ds.reverse Ω' Φ
theorem je_revL {k : Nat} {p1 p2 p3 : Pos} (hm : MOk (enX X G) m) (ha : JE X G e aa) : JE X G (.Subscript e (.Slice none none (some (.UnaryOp .USub (.Constant (.int 1) k p1) p2)) p3) pos) (aRevL m aa) := by
  obtain ⟨t, h1, h2⟩ := ha
  refine ⟨_, pe_revL h1, ⟨fun {ρ Ω Φ} h {P F H σ Q} o rp k => h2.go h o rp fun {v sv Ω1 F1 H1} q o1 s1 r1 => ?_⟩⟩
  obtain ⟨p, vs, ds, rfl, hs, da, q⟩ := rdL_of_S q o1 r1
  exact ⟨p, vs, rfl, hs, fun z hz => newL_ok hm o1 (dqa_rev da) q (fun q2 o2 s2 r2 => k q2 o2 (s1.trans s2) r2) hz⟩
end
/-! ### in -/
def flD : PyData → Bool
  | .none | .bool _ | .int _ | .str _ => true
  | _ => false
def eqD : PyData → PyData → Bool
  | .none, .none => true
  | .bool a, .bool b => a == b
  | .bool a, .int b => (if a then 1 else 0) == b
  | .int a, .bool b => a == (if b then 1 else 0)
  | .int a, .int b => a == b
  | .str a, .str b => a == b
  | _, _ => false
theorem fl_ok {K : Frag} {F : Hp} {v : V} {d : PyData} (h : Dq K F v d) (f : flD d = true) : flatV v = true := by
  cases h <;> first | rfl | cases f
theorem eq_ok {K : Frag} {F : Hp} {v w : V} {d e : PyData} (h : Dq K F v d) (h' : Dq K F w e) (f : flD d = true) (f' : flD e = true) : eqV v w = eqD d e := by
  cases h <;> cases h' <;> first | rfl | cases f | cases f'
theorem fls_ok {K : Frag} {F : Hp} : ∀ {vs : List V} {ds : List PyData}, DqAll K F vs ds → ds.all flD = true → vs.all flatV = true
  | _, _, .nil, _ => rfl
  | _, _, .cons r t, h => by
    rw [List.all_cons, Bool.and_eq_true] at h ⊢
    exact ⟨fl_ok r h.1, fls_ok t h.2⟩
theorem in_ok {K : Frag} {F : Hp} {v : V} {d : PyData} (r : Dq K F v d) (f : flD d = true) : ∀ {vs : List V} {ds : List PyData}, DqAll K F vs ds → ds.all flD = true → inV v vs = ds.any fun e => eqD e d
  | _, _, .nil, _ => rfl
  | _, _, .cons q t, h => by
    rw [List.all_cons, Bool.and_eq_true] at h
    show (eqV _ v || inV v _) = (eqD _ d || _)
    rw [eq_ok q r h.1 f, in_ok r f t h.2]
section
variable {X : Cx} {G : Gn}
def arInF (neg : Bool) : AR := fun x y Ω Φ => match x with
  | .d d => rdS y Ω fun ds => flD d = true ∧ ds.all flD = true ∧ Φ (.d (.bool (if neg then !(ds.any fun e => eqD e d) else ds.any fun e => eqD e d))) Ω
  | _ => False
abbrev arIn : AR := arInF false
abbrev arNotIn : AR := arInF true
theorem in_sn {K : Frag} {neg : Bool} {E : En} (hK : E.K = K) : SnR E (rIn K neg) (arInF neg) := by
  subst hK
  refine ⟨fun {x y Ω Φ} h {P F H vx vy Q} o r1 r2 k => ?_⟩
  unfold arInF at h
  split at h
  · obtain ⟨p, vs, ds, rfl, hs, da, f1, f2, h⟩ := rdS_ok h o r2
    refine ⟨p, vs, rfl, hs, fl_ok r1 f1, fls_ok da f2, ?_⟩
    rw [in_ok r1 f1 da f2]
    exact k h o (Same.refl F) (.bl _)
  · exact h.elim
theorem jo_in : JOp X G (compareOp .In) arIn := ⟨_, op_in_seq, in_sn rfl⟩
theorem jo_notin : JOp X G (compareOp .NotIn) arNotIn := ⟨_, op_notIn_seq, in_sn rfl⟩
end
/-! ### what is walked -/
section
variable {X : Cx} {G : Gn} {e e2 a b c tg : Expr} {aa ab : AE} {ta : AA} {pos : Pos}
/-- range(i, j, -1) -/
def rgB (lo : Int) (n : Nat) : List SV := (List.range n).map fun i => SV.d (.int (lo + (i : Nat) * -1))
theorem rgB_len {lo : Int} {n : Nat} : (rgB lo n).length = n := by unfold rgB; rw [List.length_map, List.length_range]
theorem rgB_get {lo : Int} {n i : Nat} {x : SV} (h : (rgB lo n)[i]? = some x) : x = .d (.int (lo + (i : Nat) * -1)) ∧ i < n := by
  have lt := (List.getElem?_eq_some_iff.mp h).1
  rw [rgB_len] at lt
  unfold rgB at h
  rw [List.getElem?_map, List.getElem?_range lt] at h
  cases h
  exact ⟨rfl, lt⟩
def aRng3 (t : AA) : AI := fun ρ Ω Φ => t ρ Ω fun xs Ω' => match xs with
  | [.d (.int i), .d (.int j), .d (.int c)] => c = -1 ∧ bd62 i ∧ bd62 j ∧ Φ (rgB i (i - j).toNat) kpT Ω'
  | _ => False
theorem itc_ok {E : En} {F0 : Hp} {lo : Int} {n : Nat} : ItOk E F0 (Itc lo (-1) n) (rgB lo n) kpT := by
  refine ⟨fun s o k hi => by rw [rgB_len] at hi; exact hi, fun {i P F H Ω x H' y} s o k yy e => ?_, fun s o k hi => by rw [rgB_len] at hi; exact hi⟩
  obtain ⟨rfl, rfl⟩ := yy
  obtain ⟨rfl, _⟩ := rgB_get e
  exact ⟨F, o, Same.refl F, .int _⟩
theorem ji_range3 {p : Pos} (hg : Gl X "range") (hm : X.mg "range" = none) (ha : JA X G [a, b, c] ta) (hs : starEach [a, b, c] X.env = (false, eval a X.env) :: starEach [b, c] X.env := by rfl) (hpl : (backTo pos (starEach [b, c] X.env)).any (·.1) = false := by rfl) :
    JI X G tg (.Call (.Name "range" p) [a, b, c] [] pos) (aRng3 ta) := by
  obtain ⟨t, h1, h2⟩ := ha
  refine ⟨_, pi_range3 hg hm h1 hs hpl, ⟨fun {ρ Ω Φ} h {P F H σ R} o rp k => h2.go h o rp fun {vs svs Ω1 F1 H1} q o1 s1 r1 => ?_⟩⟩
  split at q
  · obtain ⟨rfl, ⟨b1, b2⟩, ⟨b3, b4⟩, q⟩ := q
    cases r1 with
    | cons r r1 =>
      cases r1 with
      | cons r' r1 =>
        cases r1 with
        | cons r'' r1 =>
          cases r1
          cases dqi r
          cases dqi r'
          cases dqi r''
          exact ⟨_, _, _, _, rfl, RgC.neg b1 b2 b3 b4, k q o1 s1 itc_ok⟩
  · exact q.elim
/-- reversed(xs) of data -/
def aRevI (a : AE) : AI := fun ρ Ω Φ => a ρ Ω fun x Ω' => match x with
  | .d (.list ds) => Φ (ds.reverse.map SV.d) kpT Ω'
  | .d (.tuple ds) => Φ (ds.reverse.map SV.d) kpT Ω'
  | _ => False
theorem rev_at {α : Type} {xs : List α} {i : Nat} {y : α} (h : xs.reverse[i]? = some y) : xs[xs.length - 1 - i]? = some y ∧ i < xs.length := by
  have lt := (List.getElem?_eq_some_iff.mp h).1
  rw [List.length_reverse] at lt
  rw [List.getElem?_reverse lt] at h
  exact ⟨h, lt⟩
theorem ji_reversed {p : Pos} (hg : Gl X "reversed") (hm : X.mg "reversed" = none) (ha : JE X G e aa) (hs : starEach [e] X.env = (false, eval e X.env) :: starEach [] X.env := by rfl) : JI X G tg (.Call (.Name "reversed" p) [e] [] pos) (aRevI aa) := by
  obtain ⟨t, h1, h2⟩ := ha
  refine ⟨_, RT.pi_revA hg hm h1 hs, ⟨fun {ρ Ω Φ} h {P F H σ R} o rp k => h2.go h o rp fun {v sv Ω1 F1 H1} q o1 s1 r1 => ?_⟩⟩
  have fin : ∀ {vs : List V} {ds : List PyData}, DqAll X.K F1 vs ds → ∀ {i : Nat} {y : SV} {F' : Hp}, Same F1 F' → (ds.reverse.map SV.d)[i]? = some y → ∃ v, vs[vs.length - 1 - i]? = some v ∧ Rp X.K F' v y := by
    intro vs ds da i y F' s e
    rw [List.getElem?_map] at e
    cases ed : ds.reverse[i]? with
    | none => rw [ed] at e; cases e
    | some d =>
      rw [ed] at e
      cases e
      obtain ⟨g, _⟩ := rev_at ed
      obtain ⟨u, g1, g2⟩ := dqa_get (dqa_same s _ _ da) g
      rw [← dqa_len da] at g1
      exact ⟨u, g1, g2⟩
  dsimp only at q
  split at q
  · obtain ⟨p, vs, rfl, hF, da⟩ := dql r1
    refine ⟨p, vs, rfl, Or.inl ⟨SqL.of (o1.ex _ _ hF), k q o1 s1 ⟨fun {i P F H Ω} s o _ hi => ?_, fun {i P F H Ω x H' y} s o _ yy e => ?_, fun s o _ hi => ?_⟩⟩⟩
    · rw [List.length_map, List.length_reverse, ← dqa_len da] at hi
      exact ⟨hi, vs, _, SqL.of (o.ex _ _ (s _ _ hF)), List.getElem?_eq_getElem (by omega)⟩
    · obtain ⟨rfl, yy⟩ := yy
      obtain ⟨u, g1, g2⟩ := fin da s e
      have g3 := yy vs (SqL.of (o.ex _ _ (s _ _ hF)))
      rw [g1] at g3
      cases g3
      exact ⟨_, o, Same.refl _, g2⟩
    · rw [List.length_map, List.length_reverse, ← dqa_len da] at hi
      exact hi
  · obtain ⟨p, vs, rfl, hF, da⟩ := dqt r1
    refine ⟨p, vs, rfl, Or.inr ⟨sqt_same o1.ex hF, k q o1 s1 ⟨fun {i P F H Ω} s o _ hi => ?_, fun {i P F H Ω x H' y} s o _ yy e => ?_, fun s o _ hi => ?_⟩⟩⟩
    · rw [List.length_map, List.length_reverse, ← dqa_len da] at hi
      exact ⟨hi, vs, _, sqt_same o.ex (sqt_same s hF), List.getElem?_eq_getElem (by omega)⟩
    · obtain ⟨rfl, yy⟩ := yy
      obtain ⟨u, g1, g2⟩ := fin da s e
      have g3 := yy vs (sqt_same o.ex (sqt_same s hF))
      rw [g1] at g3
      cases g3
      exact ⟨_, o, Same.refl _, g2⟩
    · rw [List.length_map, List.length_reverse, ← dqa_len da] at hi
      exact hi
  · exact q.elim
/-- enumerate(xs) -/
def enD (ds : List PyData) : List SV := (List.range ds.length).map fun i => SV.d (.tuple [.int (i : Nat), ds.getD i .none])
theorem enD_len {ds : List PyData} : (enD ds).length = ds.length := by unfold enD; rw [List.length_map, List.length_range]
theorem enD_get {ds : List PyData} {i : Nat} {x : SV} (h : (enD ds)[i]? = some x) : ∃ d, ds[i]? = some d ∧ x = .d (.tuple [.int (i : Nat), d]) := by
  have lt := (List.getElem?_eq_some_iff.mp h).1
  rw [enD_len] at lt
  unfold enD at h
  rw [List.getElem?_map, List.getElem?_range lt] at h
  cases h
  exact ⟨ds[i], List.getElem?_eq_getElem lt, by show SV.d (.tuple [.int (i : Nat), ds.getD i .none]) = _; rw [List.getD_eq_getElem?_getD, List.getElem?_eq_getElem lt]; rfl⟩
theorem new_tup {E : En} {P F H : Hp} {Ω : Om} {T : Addr} {vs : List V} {ds : List PyData} (o : Ok E P F H Ω) (n : H T = none) (da : DqAll E.K F vs ds) : ∃ F', Ok E P F' (upd H T (.tup vs)) Ω ∧ Same F F' ∧ Rp E.K F' (.ref T) (.d (.tuple ds)) := by
  obtain ⟨o1, s1⟩ := o.newF (o := .tup vs) n
  exact ⟨_, o1, s1, Dq.tup (Or.inl (Or.inl upd_same)) (dqa_same s1 _ _ da)⟩
theorem ite_ok {E : En} {F0 : Hp} {p : Addr} {ds : List PyData} {Kp : Om → Prop}
    (h : ∀ {P F H : Hp} {Ω : Om}, Same F0 F → Ok E P F H Ω → Kp Ω → ∃ vs, SqL E.K H p vs ∧ DqAll E.K F vs ds) : ItOk E F0 (Ite E.K p) (enD ds) Kp := by
  refine ⟨fun s o k hi => ?_, fun s o k yy e => ?_, fun s o k hi => ?_⟩
  · obtain ⟨vs, h1, h2⟩ := h s o k
    rw [enD_len, ← dqa_len h2] at hi
    exact ⟨vs, _, h1, List.getElem?_eq_getElem hi⟩
  · obtain ⟨vs, h1, h2⟩ := h s o k
    obtain ⟨T, x, rfl, n, rfl, y2⟩ := yy
    obtain ⟨d, hd, rfl⟩ := enD_get e
    obtain ⟨u, g1, g2⟩ := dqa_get h2 hd
    have g3 := y2 vs h1
    rw [g1] at g3
    cases g3
    exact new_tup o n (.cons (.int _) (.cons g2 .nil))
  · obtain ⟨vs, h1, h2⟩ := h s o k
    rw [enD_len, ← dqa_len h2] at hi
    exact ⟨vs, h1, hi⟩
def aEnumerate (t : AA) : AI := fun ρ Ω Φ => t ρ Ω fun xs Ω' => match xs with
  | [.d (.list ds)] => Φ (enD ds) kpT Ω'
  | [.r (.ref p)] => ∃ ds f, At Ω' p (.lst ds) f ∧ Φ (enD ds) (kpAt p (.lst ds)) Ω'
  | _ => False
theorem ji_enumerate {p tpos : Pos} {elts : List Expr} {kk : Nat} (hg : Gl X "enumerate") (hm : X.mg "enumerate" = none) (ha : JA X G [e] ta) (hs : starEach [e] X.env = [(false, eval e X.env)] := by rfl) :
    JI X G (.Tuple elts kk tpos) (.Call (.Name "enumerate" p) [e] [] pos) (aEnumerate ta) := by
  obtain ⟨t, h1, h2⟩ := ha
  refine ⟨_, pi_enum hg hm h1 hs, ⟨fun {ρ Ω Φ} h {P F H σ R} o rp k => h2.go h o rp fun {vs svs Ω1 F1 H1} q o1 s1 r1 => ?_⟩⟩
  split at q
  · obtain ⟨v, rfl, r⟩ := pr1 r1
    obtain ⟨p, vs, rfl, hF, da⟩ := dql r
    exact ⟨p, vs, rfl, SqL.of (o1.ex _ _ hF), k q o1 s1 (ite_ok fun s o _ => ⟨vs, SqL.of (o.ex _ _ (s _ _ hF)), dqa_same s _ _ da⟩)⟩
  · obtain ⟨v, rfl, r⟩ := pr1 r1
    obtain ⟨ds, f, t, q⟩ := q
    cases (show v = _ from r)
    obtain ⟨vs, h3, h4⟩ := o1.lst t
    refine ⟨_, vs, rfl, SqL.of h3, k q o1 s1 (ite_ok fun s o kk => ?_)⟩
    obtain ⟨f', t'⟩ := kk
    obtain ⟨ws, h5, h6⟩ := o.lst t'
    exact ⟨ws, SqL.of h5, h6⟩
  · exact q.elim
/-- zip(xs, ys), both lists or both tuples -/
def zpD (ds es : List PyData) : List SV := (ds.zip es).map fun p => SV.d (.tuple [p.1, p.2])
theorem zpD_get {ds es : List PyData} {i : Nat} {x : SV} (h : (zpD ds es)[i]? = some x) : ∃ d e, ds[i]? = some d ∧ es[i]? = some e ∧ x = .d (.tuple [d, e]) := by
  unfold zpD at h
  rw [List.getElem?_map] at h
  cases z : (ds.zip es)[i]? with
  | none => rw [z] at h; cases h
  | some p =>
    rw [z] at h
    cases h
    have := List.getElem?_zip_eq_some.mp z
    exact ⟨p.1, p.2, this.1, this.2, rfl⟩
theorem zpD_len {ds es : List PyData} : (zpD ds es).length = min ds.length es.length := by unfold zpD; rw [List.length_map, List.length_zip]
def aZip (t : AA) : AI := fun ρ Ω Φ => t ρ Ω fun xs Ω' => match xs with
  | [.d (.list ds), .d (.list es)] => Φ (zpD ds es) kpT Ω'
  | [.d (.tuple ds), .d (.tuple es)] => Φ (zpD ds es) kpT Ω'
  | _ => False
theorem ji_zip {p tpos : Pos} {elts : List Expr} {kk : Nat} (hg : Gl X "zip") (hm : X.mg "zip" = none) (ha : JA X G [e, e2] ta) (hs : starEach [e, e2] X.env = (false, eval e X.env) :: starEach [e2] X.env := by rfl) (hpl : (backTo pos (starEach [e2] X.env)).any (·.1) = false := by rfl) :
    JI X G (.Tuple elts kk tpos) (.Call (.Name "zip" p) [e, e2] [] pos) (aZip ta) := by
  obtain ⟨t, h1, h2⟩ := ha
  refine ⟨_, RZ.pi_zipA hg hm h1 hs hpl, ⟨fun {ρ Ω Φ} h {P F H σ R} o rp k => h2.go h o rp fun {vs svs Ω1 F1 H1} q o1 s1 r1 => ?_⟩⟩
  split at q
  · obtain ⟨v, u, rfl, r, r'⟩ := pr2 r1
    obtain ⟨p, vs, rfl, hF, da⟩ := dql r
    obtain ⟨p', ws, rfl, hF', da'⟩ := dql r'
    refine ⟨p, p', vs, ws, rfl, Or.inl ⟨SqL.of (o1.ex _ _ hF), SqL.of (o1.ex _ _ hF'), k q o1 s1 ⟨fun {i P F H Ω} s o _ hi => ?_, fun {i P F H Ω x H' y} s o _ yy e => ?_, fun {i P F H Ω} s o _ hi => ?_⟩⟩⟩
    · rw [zpD_len, ← dqa_len da, ← dqa_len da'] at hi
      exact ⟨vs, ws, _, _, SqL.of (o.ex _ _ (s _ _ hF)), SqL.of (o.ex _ _ (s _ _ hF')), List.getElem?_eq_getElem (by omega), List.getElem?_eq_getElem (by omega)⟩
    · obtain ⟨T, x, y, rfl, n, rfl, y1, y2⟩ := yy
      obtain ⟨d, d', hd, hd', rfl⟩ := zpD_get e
      obtain ⟨u, g1, g2⟩ := dqa_get (dqa_same s _ _ da) hd
      obtain ⟨u', g1', g2'⟩ := dqa_get (dqa_same s _ _ da') hd'
      have g3 := y1 vs (SqL.of (o.ex _ _ (s _ _ hF)))
      have g3' := y2 ws (SqL.of (o.ex _ _ (s _ _ hF')))
      rw [g1] at g3
      rw [g1'] at g3'
      cases g3
      cases g3'
      exact new_tup o n (.cons g2 (.cons g2' .nil))
    · rw [zpD_len, ← dqa_len da, ← dqa_len da'] at hi
      exact ⟨vs, ws, SqL.of (o.ex _ _ (s _ _ hF)), SqL.of (o.ex _ _ (s _ _ hF')), by omega⟩
  · obtain ⟨v, u, rfl, r, r'⟩ := pr2 r1
    obtain ⟨p, vs, rfl, hF, da⟩ := dqt r
    obtain ⟨p', ws, rfl, hF', da'⟩ := dqt r'
    refine ⟨p, p', vs, ws, rfl, Or.inr ⟨sqt_same o1.ex hF, sqt_same o1.ex hF', k q o1 s1 ⟨fun {i P F H Ω} s o _ hi => ?_, fun {i P F H Ω x H' y} s o _ yy e => ?_, fun {i P F H Ω} s o _ hi => ?_⟩⟩⟩
    · rw [zpD_len, ← dqa_len da, ← dqa_len da'] at hi
      exact ⟨vs, ws, _, _, sqt_same o.ex (sqt_same s hF), sqt_same o.ex (sqt_same s hF'), List.getElem?_eq_getElem (by omega), List.getElem?_eq_getElem (by omega)⟩
    · obtain ⟨T, x, y, rfl, n, rfl, y1, y2⟩ := yy
      obtain ⟨d, d', hd, hd', rfl⟩ := zpD_get e
      obtain ⟨u, g1, g2⟩ := dqa_get (dqa_same s _ _ da) hd
      obtain ⟨u', g1', g2'⟩ := dqa_get (dqa_same s _ _ da') hd'
      have g3 := y1 vs (sqt_same o.ex (sqt_same s hF))
      have g3' := y2 ws (sqt_same o.ex (sqt_same s hF'))
      rw [g1] at g3
      rw [g1'] at g3'
      cases g3
      cases g3'
      exact new_tup o n (.cons g2 (.cons g2' .nil))
    · rw [zpD_len, ← dqa_len da, ← dqa_len da'] at hi
      exact ⟨vs, ws, sqt_same o.ex (sqt_same s hF), sqt_same o.ex (sqt_same s hF'), by omega⟩
  · exact q.elim
end
end Z
namespace Z
open PySem PySem.Spec PyProof.Rows L2
/-- f(e, ..), f a built-in that the module imported -/
theorem je_callGB {X : Cx} {G : Gn} {id : String} {ac : AC} {x : Str} {p pos : Pos} {e : Expr} {es : List Expr} {ta : AA} (hc : JC X G (.builtin id) ac) (hg : Gl X x) (hm : X.mg x = some (.builtin id)) (ha : JA X G (e :: es) ta) (hdb : (x == ("__debug__" : Str)) = false := by decide)
    (he : starEach (e :: es) X.env = (false, eval e X.env) :: starEach es X.env := by rfl) (hpl : (backTo pos (starEach es X.env)).any (·.1) = false := by rfl) : JE X G (.Call (.Name x p) (e :: es) [] pos) (aCB ac ta) := by
  obtain ⟨r, h1, h2⟩ := hc
  obtain ⟨t, h3, h4⟩ := ha
  refine ⟨tCB r t, ⟨fun pins s σ H Q I h => wpAny_Call_Name_kw (ld_glob I hg hm (PyProof.Rows.callWith_builtin1 (thn (h3.run pos pins s σ H _ I h) fun us s1 ⟨vs, H1, I1, r1, q1⟩ => h1 pins s1 σ H1 vs us Q I1 r1 q1) he hpl) hdb)⟩,
    ⟨fun {ρ Ω Φ} h {P F H σ Q} o rp k => h4.go h o rp fun q o1 s1 r1 => h2.go q o1 r1 fun q2 o2 s2 r2 => k q2 o2 (s1.trans s2) r2⟩⟩
end Z
namespace Z
open PySem PySem.Spec PyProof.Rows L2
/-- what a def that calls itself may lean on at depth n -/
def recC (c : Nat → Con) : Nat → Con
  | 0 => fun _ _ _ _ => False
  | n + 1 => c n
theorem fnG_no {P : Program} {w : World} {K : Frag} {mg : Str → Option Value} {base : Heap} {CX : CXT} {k : Nat} {f : Addr} {fd : FuncData} {ps : List Str} {c : Nat → Con} : FnG P w K mg base CX k f fd ps (spOf K (recC c 0)) :=
  ⟨fun _ _ _ _ ⟨_, _, _, _, _, _, _, _, h, _⟩ => h.elim, fun _ _ _ _ _ _ _ _ _ _ _ _ _ _ ⟨_, _, _, _, _, _, _, _, h, _⟩ => h.elim⟩
end Z
namespace Z
open PySem PySem.Spec PyProof.Rows L2
theorem js_setAt {X : Cx} {G : Gn} {e a b : Expr} {aa ab ac : AE} {pos spos : Pos} (h : ∀ {te ta tb : TE}, PE X e te → PE X a ta → PE X b tb → PS X (.Assign [.Subscript a b pos] e spos) (tAsg te (gSub ta tb rSetL))) (he : JE X G e aa) (ha : JE X G a ab) (hb : JE X G b ac) :
    JS X G (.Assign [.Subscript a b pos] e spos) (aSetIx aa ab ac) := js_setIx he ha hb (h := h)
end Z
/-! Zb: the bag of a law, as a pair of cells. -/
namespace Z
open PySem PySem.Spec PyProof.Rows L2
theorem At.app {Ω : Om} {a : Addr} {c : OC} {f : OC → Om} (t : At Ω a c f) : ∀ L : Om, At (L ++ Ω) a c (fun z => L ++ f z)
  | [] => t
  | p :: L => .there (At.app t L)
abbrev I (i : Int) : SV := .d (.int i)
abbrev T (ds : List PyData) : SV := .d (.tuple ds)
abbrev isD (is : List Int) : List PyData := is.map PyData.int
structure BagOk (n m : Int) (is : List Int) : Prop where
  n0 : 0 ≤ n
  m0 : 0 ≤ m
  m1 : m < 2147483647
  i0 : ∀ i ∈ is, 0 ≤ i
/-- the bag x: [cells, n, m] and its cells, behind L and before R -/
inductive Bag (x : SV) (L R : Om) : Om → Prop where
  | mk {b c : Addr} {n m : Int} {is : List Int} : x = .r (.ref b) → BagOk n m is → Bag x L R (L ++ (b, .lx [.r (.ref c), I n, I m]) :: (c, .lst (isD is)) :: R)
theorem Bag.push {x : SV} {L R Ω : Om} (h : Bag x L R Ω) (p : Addr × OC) : Bag x (p :: L) R (p :: Ω) := by
  obtain ⟨h1, h2⟩ := h
  exact .mk (L := p :: L) h1 h2
theorem Bag.pop {x : SV} {p : Addr × OC} {L R Ω : Om} (h : Bag x (p :: L) R Ω) : ∃ Ω2, Ω = p :: Ω2 ∧ Bag x L R Ω2 := by
  obtain ⟨h1, h2⟩ := h
  exact ⟨_, rfl, .mk h1 h2⟩
/-- _law_draw: anything below -/
inductive DrawC : Con where
  | mk {x : SV} {below : Int} {L R Ω : Om} {Φ : PhiE} {Ξ : XA} : Bag x L R Ω → 0 < below → below.natAbs.log2 < 9000 → (∀ r Ω', 0 ≤ r → r < below → Bag x L R Ω' → Φ (I r) Ω') → DrawC [x, I below] Ω Φ Ξ
theorem DrawC.ari : Ari DrawC 2 := by rintro _ _ _ _ ⟨_, _, _, _⟩; rfl
/-- _law_pick: any item of a list of data -/
inductive PickC : Con where
  | mk {x : SV} {ds : List PyData} {L R Ω : Om} {Φ : PhiE} {Ξ : XA} : Bag x L R Ω → ds ≠ [] → ds.length < 2 ^ 60 → (∀ d ∈ ds, ∀ Ω', Bag x L R Ω' → Φ (.d d) Ω') → PickC [x, .d (.list ds)] Ω Φ Ξ
theorem PickC.ari : Ari PickC 2 := by rintro _ _ _ _ ⟨_, _, _, _⟩; rfl
/-- _law_own_bag -/
inductive OwnC (k : Nat) : Con where
  | mk {ns : List Int} {Φ : PhiE} {Ξ : XA} : ScrOk k ns → (∀ x Ω, Bag x [] [] Ω → Φ x Ω) → OwnC k [.l (isD ns)] [] Φ Ξ
theorem OwnC.ari {k : Nat} : Ari (OwnC k) 1 := by rintro _ _ _ _ ⟨_, _⟩; rfl
/-- _law_great: anything below -/
inductive GreatC : Con where
  | mk {x : SV} {below : Int} {L R Ω : Om} {Φ : PhiE} {Ξ : XA} : Bag x L R Ω → 0 < below → below ≤ 10 ^ 60 → (∀ r Ω', 0 ≤ r → r < below → Bag x L R Ω' → Φ (I r) Ω') → GreatC [x, I below] Ω Φ Ξ
theorem GreatC.ari : Ari GreatC 2 := by rintro _ _ _ _ ⟨_, _, _, _⟩; rfl
end Z
/-! Zd: facts on data of ints: what can be told as text and compared. -/
namespace Z
open PySem PySem.Spec PyProof.Rows L2
theorem depthAll_isD : ∀ is : List Int, PyData.depthAll (isD is) ≤ 1
  | [] => by simp [isD, PyData.depthAll]
  | i :: r => by
    have h := depthAll_isD r
    simp only [isD, List.map_cons, PyData.depthAll, PyData.depth] at h ⊢
    omega
theorem depth_isD (is : List Int) : PyData.depth (.tuple (isD is)) ≤ 2 ∧ PyData.depth (.list (isD is)) ≤ 2 := by
  have h := depthAll_isD is
  simp only [PyData.depth]
  omega
theorem shaped_isD (is : List Int) : SeqAt.shaped (.tuple (isD is)) = true ∧ SeqAt.shaped (.list (isD is)) = true := by
  have h := depth_isD is
  have c := canLayAll_ints is
  unfold SeqAt.shaped
  simp only [PyData.canLay0, Bool.and_eq_true, decide_eq_true_eq]
  exact ⟨⟨c, by omega⟩, ⟨c, by omega⟩⟩
theorem showAll_isD : ∀ {is : List Int}, (∀ i ∈ is, i.natAbs.log2 < 1920) → PyData.showableAll (isD is) = true
  | [], _ => rfl
  | i :: r, h => by
    simp only [isD, List.map_cons, PyData.showableAll, PyData.showable, Bool.and_eq_true, decide_eq_true_eq]
    exact ⟨h i List.mem_cons_self, showAll_isD fun j hj => h j (List.mem_cons_of_mem _ hj)⟩
theorem noDict_isD : ∀ is : List Int, PyData.hasDictAll (isD is) = false
  | [] => rfl
  | i :: r => by
    simp only [isD, List.map_cons, PyData.hasDictAll, PyData.hasDict, Bool.false_or]
    exact noDict_isD r
theorem join_le {B : Nat} : ∀ {ts : List Str}, (∀ t ∈ ts, t.length ≤ B) → (Str.join ", " ts).length ≤ ts.length * (B + 2)
  | [], _ => Nat.zero_le _
  | [x], h => by
    have h1 := h x List.mem_cons_self
    show x.length ≤ 1 * (B + 2)
    omega
  | x :: y :: r, h => by
    have h1 := h x List.mem_cons_self
    have h2 := join_le (ts := y :: r) fun t ht => h t (List.mem_cons_of_mem _ ht)
    show (x ++ ", " ++ Str.join ", " (y :: r)).length ≤ _
    rw [strLen_append, strLen_append]
    have e : (Str.ofString ", ").length = 2 := by decide +kernel
    rw [e]
    simp only [List.length_cons] at h2 ⊢
    have e3 : (r.length + 1 + 1) * (B + 2) = (r.length + 1) * (B + 2) + (B + 2) := Nat.succ_mul _ _
    omega
theorem shown_isD : ∀ {is : List Int}, (∀ i ∈ is, i.natAbs.log2 < 1920) → (PyData.shownAll (isD is)).length = is.length ∧ ∀ t ∈ PyData.shownAll (isD is), t.length ≤ 1921
  | [], _ => ⟨rfl, fun _ h => by cases h⟩
  | i :: r, h => by
    obtain ⟨h1, h2⟩ := shown_isD (is := r) fun j hj => h j (List.mem_cons_of_mem _ hj)
    refine ⟨by simp only [isD, List.map_cons, PyData.shownAll, List.length_cons]; exact congrArg (· + 1) h1, fun t ht => ?_⟩
    simp only [isD, List.map_cons, PyData.shownAll, List.mem_cons] at ht
    rcases ht with rfl | ht
    · simp only [PyData.shown]; exact int_text_len_1921 (h i List.mem_cons_self)
    · exact h2 t ht
/-- what a law holds beside what is due -/
structure SameOk (d : PyData) : Prop where
  kind : (∃ i, d = .int i) ∨ (∃ ds, d = .tuple ds)
  sh : d.showable = true
  nd : d.hasDict = false
  dp : d.depth ≤ 60
  ln : d.shown.length ≤ sizeLine
  fm : SeqAt.shaped d = true
theorem SameOk.eq {d : PyData} (h : SameOk d) : PyData.eqv d d = true := SeqAt.eqv_refl d (SeqAt.canLay_of_shaped h.fm)
theorem log2_lt {n k : Nat} (h : n < 2 ^ k) (hk : 0 < k) : n.log2 < k := by
  rcases Nat.eq_zero_or_pos n with rfl | hn
  · simpa using hk
  · exact (Nat.log2_lt (by omega)).mpr h
theorem sameInt {i : Int} (h : i.natAbs < 2 ^ 1900) : SameOk (.int i) := by
  have h2 : i.natAbs.log2 < 1900 := log2_lt h (by decide)
  exact ⟨.inl ⟨_, rfl⟩, by simp only [PyData.showable, decide_eq_true_eq]; omega, rfl, by simp [PyData.depth], by
    have := int_text_len_1921 (i := i) (by omega)
    simp only [PyData.shown]
    have e : sizeLine = 16777216 := by decide
    omega, by unfold SeqAt.shaped; simp [PyData.canLay0, PyData.depth]⟩
theorem sameTup {is : List Int} (h : ∀ i ∈ is, i.natAbs < 2 ^ 1900) (hl : is.length ≤ 8000) : SameOk (.tuple (isD is)) := by
  have h2 : ∀ i ∈ is, i.natAbs.log2 < 1920 := fun i hi => by
    have := log2_lt (h i hi) (by decide)
    omega
  obtain ⟨a, b⟩ := shown_isD h2
  exact ⟨.inr ⟨_, rfl⟩, by simp only [PyData.showable]; exact showAll_isD h2, by simp only [PyData.hasDict]; exact noDict_isD is, by have := (depth_isD is).1; omega, by
    have e : sizeLine = 16777216 := by decide
    have j := join_le b
    simp only [PyData.shown, tupleText]
    rw [strLen_append, strLen_append]
    have e1 : (Str.ofString "(").length = 1 := by decide +kernel
    have e2 : (Str.ofString (if (PyData.shownAll (isD is)).length == 1 then ",)" else ")" : String)).length ≤ 2 := by split <;> decide +kernel
    rw [e1]
    rw [a] at j
    have : is.length * (1921 + 2) ≤ 8000 * (1921 + 2) := Nat.mul_le_mul_right _ hl
    omega, (shaped_isD is).1⟩
theorem eqvAll_isD : ∀ is js : List Int, PyData.eqvAll (isD is) (isD js) = decide (is = js)
  | [], [] => by simp [isD, PyData.eqvAll]
  | [], _ :: _ => by simp [isD, PyData.eqvAll]
  | _ :: _, [] => by simp [isD, PyData.eqvAll]
  | i :: r, j :: t => by
    have h := eqvAll_isD r t
    simp only [isD] at h
    simp only [isD, List.map_cons, PyData.eqvAll, PyData.eqv, h]
    by_cases e : i = j <;> by_cases e2 : r = t <;> simp [e, e2]
theorem eqv_nil (is : List Int) : PyData.eqv (.list (isD is)) (.list []) = decide (is = []) := by
  rw [PyData.eqv]
  exact eqvAll_isD is []
theorem shaped_nil : SeqAt.shaped (.list []) = true := (shaped_isD []).2
/-- _law_same: what is held beside itself -/
inductive SameC : Con where
  | mk {d : PyData} {Ω : Om} {Φ : PhiE} {Ξ : XA} : SameOk d → Φ (.d (.bool true)) Ω → SameC [.d d, .d d] Ω Φ Ξ
theorem SameC.ari : Ari SameC 2 := by rintro _ _ _ _ ⟨_, _⟩; rfl
/-! ### items -/
theorem erase_isD : ∀ (is : List Int) (k : Nat), (isD is).eraseIdx k = isD (is.eraseIdx k)
  | [], _ => rfl
  | _ :: _, 0 => rfl
  | i :: r, k + 1 => congrArg (PyData.int i :: ·) (erase_isD r k)
theorem app_isD (is js : List Int) : isD is ++ isD js = isD (is ++ js) := (List.map_append).symm
theorem dataOf_map : ∀ ds : List PyData, dataOf (ds.map SV.d) = some ds
  | [] => rfl
  | d :: r => by
    show (match dataOf (r.map SV.d) with | some ds => some (d :: ds) | none => none) = _
    rw [dataOf_map r]
theorem newX_d {m : Mode} {ds : List PyData} {Ω : Om} {Φ : PhiE} (h : newL m ds Ω Φ) : newX m (ds.map SV.d) Ω Φ := by
  cases m with
  | none =>
    show (match dataOf (ds.map SV.d) with | some ds => Φ (.d (.list ds)) Ω | none => False)
    rw [dataOf_map]
    exact h
  | some Fr =>
    intro a fa
    have e : mkL (ds.map SV.d) = .lst ds := by unfold mkL; rw [dataOf_map]
    rw [e]
    exact h a fa
theorem cutD_isD (is : List Int) (lo hi : Option Int) : cutD (isD is) lo hi = isD (cutD is lo hi) := by
  unfold cutD
  rw [isD, List.length_map, isD, List.map_take, List.map_drop]
theorem cutD_len {α : Type} (xs : List α) (lo hi : Option Int) : (cutD xs lo hi).length ≤ xs.length := by
  unfold cutD
  rw [List.length_take, List.length_drop]
  omega
theorem get_mapD {ds : List PyData} {i : Nat} {x : SV} (h : (ds.map SV.d)[i]? = some x) : ∃ d, ds[i]? = some d ∧ x = .d d := by
  rw [List.getElem?_map] at h
  cases e : ds[i]? with
  | none => rw [e] at h; cases h
  | some d => rw [e] at h; cases h; exact ⟨d, rfl, rfl⟩
theorem get_isD {is : List Int} {i : Nat} {x : SV} (h : ((isD is).map SV.d)[i]? = some x) : ∃ z, is[i]? = some z ∧ x = I z := by
  obtain ⟨d, h1, rfl⟩ := get_mapD h
  rw [isD, List.getElem?_map] at h1
  cases e : is[i]? with
  | none => rw [e] at h1; cases h1
  | some z => rw [e] at h1; cases h1; exact ⟨z, rfl, rfl⟩
theorem nat_bd {i : Int} {k : Nat} (h1 : -(2 ^ k) < i) (h2 : i < 2 ^ k) : i.natAbs < 2 ^ k := by
  have e : ((2 ^ k : Nat) : Int) = 2 ^ k := by simp
  omega
theorem cmul {i j : Int} (h1 : -(2 ^ 240) < i) (h2 : i < 2 ^ 240) (h3 : -(2 ^ 240) < j) (h4 : j < 2 ^ 240) : CMulX i j := mulx_ok (nat_bd h1 h2) (nat_bd h3 h4) (by decide)
theorem cdiv {i j : Int} (h1 : 0 < j) (h2 : j < 2 ^ 240) : CDivW i j := ⟨h1, by
  have := log2_lt (nat_bd (k := 240) (by omega) h2) (by decide)
  omega⟩
theorem bel {b : Int} (h0 : 0 < b) (h1 : b < 2 ^ 240) : b.natAbs.log2 < 9000 := (cdiv (i := 0) h0 h1).2
theorem atI_i {α : Type} {xs : List α} {i : Int} {a : α} (h0 : 0 ≤ i) (h : xs[i.toNat]? = some a) : atI xs i = some a := by
  have := atI_nat h
  rwa [Int.toNat_of_nonneg h0] at this
theorem atI_end {α : Type} {xs : List α} {a : α} (h : xs.getLast? = some a) : atI xs (-1) = some a := by
  obtain ⟨ys, rfl⟩ := List.getLast?_eq_some_iff.mp h
  exact atI_last ys a
end Z
/-! Zx: joins (a wish of one's own between two parts), tests that are settled, cuts of lists. -/
namespace Z
open PySem PySem.Spec PyProof.Rows L2
theorem br_d1 {p : Prop} [Decidable p] {A B : Prop} (h : p) (a : A) : br (decide p) A B := ⟨fun _ => a, fun e => absurd h (of_decide_eq_false e)⟩
theorem br_d0 {p : Prop} [Decidable p] {A B : Prop} (h : ¬p) (b : B) : br (decide p) A B := ⟨fun e => absurd (of_decide_eq_true e) h, fun _ => b⟩
theorem cut_to {α : Type} {xs : List α} {a : Int} (h0 : 0 ≤ a) : Z.cutD xs none (some a) = xs.take a.toNat := by
  unfold Z.cutD
  rw [HT.sIx_none, show (some a : Option Int) = some ((a.toNat : Nat) : Int) by rw [Int.toNat_of_nonneg h0], HT.sIx_nat, Nat.sub_zero, List.drop_zero]
  rcases Nat.le_total a.toNat xs.length with z | z
  · rw [Nat.min_eq_left z]
  · rw [Nat.min_eq_right z, List.take_of_length_le (Nat.le_refl _), List.take_of_length_le z]
theorem cut_from {α : Type} {xs : List α} {a : Int} (h0 : 0 ≤ a) : Z.cutD xs (some a) none = xs.drop a.toNat := by
  unfold Z.cutD
  rw [HT.sIx_none, show (some a : Option Int) = some ((a.toNat : Nat) : Int) by rw [Int.toNat_of_nonneg h0], HT.sIx_nat]
  rcases Nat.le_total a.toNat xs.length with z | z
  · rw [Nat.min_eq_left z, List.take_of_length_le (by rw [List.length_drop]; omega)]
  · rw [Nat.min_eq_right z, Nat.sub_self, List.take_zero, List.drop_of_length_le z]
theorem cut_to_isD {is : List Int} {a : Int} (h0 : 0 ≤ a) : Z.cutD (isD is) none (some a) = isD (is.take a.toNat) := by rw [cutD_isD, cut_to h0]
theorem cut_from_isD {is : List Int} {a : Int} (h0 : 0 ≤ a) : Z.cutD (isD is) (some a) none = isD (is.drop a.toNat) := by rw [cutD_isD, cut_from h0]
theorem len_isD (is : List Int) : (isD is).length = is.length := List.length_map ..
theorem get_isD' {is : List Int} {i : Nat} {x : PyData} (h : (isD is)[i]? = some x) : ∃ z, is[i]? = some z ∧ x = .int z := by
  rw [isD, List.getElem?_map] at h
  cases e : is[i]? with
  | none => rw [e] at h; cases h
  | some z => rw [e] at h; cases h; exact ⟨z, rfl, rfl⟩
theorem at_isD {is : List Int} {i : Int} {z : Int} (h0 : 0 ≤ i) (h : is[i.toNat]? = some z) : atI (isD is) i = some (.int z) := atI_i h0 (by rw [isD, List.getElem?_map, h]; rfl)
theorem last_isD {is : List Int} {z : Int} (h : is.getLast? = some z) : atI (isD is) (-1) = some (.int z) := atI_end (by rw [isD, List.getLast?_map, h]; rfl)
/-! ### joins -/
def aSeqE (s t : AS) : AS := fun D ρ Ω => ∃ M : Rho → Om → Prop, s { D with nx := M } ρ Ω ∧ ∀ ρ' Ω', M ρ' Ω' → t D ρ' Ω'
def aJoin (a : AE) : AE := fun ρ Ω Φ => ∃ M : PhiE, a ρ Ω M ∧ ∀ y Ω', M y Ω' → Φ y Ω'
def aJoinT (a : AT) : AT := fun ρ Ω Φ => ∃ M : Bool → Om → Prop, a ρ Ω M ∧ ∀ y Ω', M y Ω' → Φ y Ω'
section
variable {X : Cx} {G : Gn} {e : Expr} {aa : AE} {at_ : AT} {st : Stmt} {rest : List Stmt} {s t : AS}
theorem jss_cut (h1 : JS X G st s) (h2 : JSs X G rest t) : JSs X G (st :: rest) (aSeqE s t) := by
  obtain ⟨ts, p1, q1⟩ := h1
  obtain ⟨tu, p2, q2⟩ := h2
  exact ⟨_, pss_cons p1 p2, ⟨fun {D ρ Ω} ⟨M, h, h'⟩ {P F H σ D'} k o rp => q1.go h (D' := { D' with nx := tu D' }) ⟨fun q o z rp => q2.go (h' _ _ q) (k.up z) o rp, k.rt, k.bk, k.ct⟩ o rp⟩⟩
theorem je_join (h : JE X G e aa) : JE X G e (aJoin aa) := by
  obtain ⟨te, p, q⟩ := h
  exact ⟨te, p, ⟨fun {ρ Ω Φ} ⟨M, h, h'⟩ {P F H σ Q} o rp k => q.go h o rp fun {v sv Ω' F' H'} z o z2 r => k (h' _ _ z) o z2 r⟩⟩
theorem jt_join (h : JT X G e at_) : JT X G e (aJoinT at_) := by
  obtain ⟨te, p, q⟩ := h
  exact ⟨te, p, ⟨fun {ρ Ω Φ} ⟨M, h, h'⟩ {P F H σ Q} o rp k => q.go h o rp fun {b Ω' F' H'} z o z2 => k (h' _ _ z) o z2⟩⟩
end
end Z
/-! Zy: isinstance of an exception in hand and a tuple of classes; a pick out of a list or a tuple. -/
namespace Z
open PySem PySem.Spec PyProof.Rows L2
/-! ### isinstance(e, (C, ..)), e the exception in hand -/
def PAC (X : Cx) (es : List Expr) (vs : List V) : Prop := ∃ te, PA X es te ∧ ∀ σ H Q, Q vs H → te σ H Q
section
variable {X : Cx} {G : Gn} {e : Expr} {es : List Expr} {v : V} {vs : List V} {pos : Pos}
theorem pac_nil : PAC X [] [] := ⟨_, pa_nil, fun σ H Q h => h⟩
theorem pac_cons (h : PE X e (tC v)) (h2 : PAC X es vs) (hs : starEach (e :: es) X.env = (false, eval e X.env) :: starEach es X.env := by rfl) : PAC X (e :: es) (v :: vs) := by
  obtain ⟨te, p, q⟩ := h2
  exact ⟨_, pa_cons h p hs, fun σ H Q h => q _ _ _ h⟩
def rIsET (K : PySem.W.Frag) (D a : Addr) (b : Bool) : List V → Hp → VK → Prop := fun xs H Q => ∃ (tp : Addr) (cs : List V) (us : List Value), xs = [.ref a, .ref tp] ∧ H tp = some (.tup cs) ∧ Paired ClsV cs us ∧ PySem.W.kitAny K (.ref D) us = some b ∧ Q (.bl b) H
variable {D a : Addr} {oe : Obj} {b : Bool}
theorem cr_isET (hp : (a, oe) ∈ X.pn) (C : ExcC X.K D) (hz : L2N.Zn (.ref D) none oe) (hf : ∃ vs, oe.data = .fields vs) : CallR X (.builtin "isinstance") (rIsET X.K D a b) := by
  intro pins s σ H xs us Q I r h
  obtain ⟨tp, cs, ws, rfl, hT, hc, hk, q⟩ := h
  obtain ⟨u1, u2, rfl, r1, r2⟩ := vals2 r
  cases (show u1 = Value.ref a from r1)
  cases (show u2 = Value.ref tp from r2)
  obtain ⟨_, its, rv, o, h1, h2, n, h3⟩ := (show ObjOk X.prog X.w H s.heap tp (.tup cs) from I.hok tp _ hT)
  have e3 := ClsV.all hc rv
  subst e3
  obtain ⟨oc, od, dt, sl⟩ := o
  simp only at h2 h3
  subst h2 h3
  have there := (I.pin (a, oe) (List.mem_append_left _ hp)).1
  obtain ⟨vs, hd⟩ := hf
  have J : PySem.W.InstAt s.heap a oe D none := by
    obtain ⟨c0, d0, t0, l0⟩ := oe
    obtain ⟨z1, z2, -⟩ := hz
    cases (show c0 = _ from z1)
    cases (show d0 = _ from z2)
    cases (show t0 = _ from hd)
    exact ⟨there, rfl, rfl, trivial⟩
  exact PySem.W.kia_tup (PySem.W.handS_kitx_exc C.hg C.hk C.hs C.hd C.ha C.hn C.ht C.hm) I.kIn J h1 hk (fun z => by cases z) fun tk => ⟨.bl b, H, I.kept (t' := tk) fun _ _ z => z, rfl, q⟩
def aIsET (a : Addr) (b : Bool) (aa : AE) : AE := fun ρ Ω Φ => aa ρ Ω fun x Ω' => x = .r (.ref a) ∧ Φ (.d (.bool b)) Ω'
theorem je_isET {aa : AE} {us : List Value} {p p2 : Pos} {x1} (hp : (a, oe) ∈ X.pn) (C : ExcC X.K D) (hz : L2N.Zn (.ref D) none oe) (hf : ∃ vs, oe.data = .fields vs) (hg : Gl X "isinstance") (hm : X.mg "isinstance" = none) (ha : JE X G e aa)
    (hes : PAC X es vs) (hl : vs.length ≤ sizeLine) (hc : Paired ClsV vs us) (hk : PySem.W.kitAny X.K (.ref D) us = some b)
    (hs1 : starEach [e, .Tuple es x1 p2] X.env = (false, eval e X.env) :: starEach [.Tuple es x1 p2] X.env := by rfl) (hs2 : starEach [.Tuple es x1 p2] X.env = (false, eval (.Tuple es x1 p2) X.env) :: starEach [] X.env := by rfl)
    (hpl : (backTo pos (starEach [.Tuple es x1 p2] X.env)).any (·.1) = false := by rfl) : JE X G (.Call (.Name "isinstance" p) [e, .Tuple es x1 p2] [] pos) (aIsET a b aa) := by
  obtain ⟨te, h1, h2⟩ := ha
  obtain ⟨tt, h3, h4⟩ := hes
  refine ⟨_, pe_callB (cr_isET (b := b) hp C hz hf) hg hm (by decide +kernel) (pa_cons h1 (pa_cons (pe_tup h3) pa_nil hs2) hs1) (by decide) (by decide) hs1 hpl, ⟨fun {ρ Ω Φ} h {P F H σ Q} o rp k => ?_⟩⟩
  refine h2.go h o rp fun {v sv Ω1 F1 H1} q o1 s1 r1 => ?_
  obtain ⟨rfl, q⟩ := q
  cases (show v = _ from r1)
  refine h4 _ _ _ ⟨hl, fun t ht => ?_⟩
  obtain ⟨o2, -⟩ := (⟨o1.newO (o := .tup vs) (c := .raw (.tup vs)) ht rfl, trivial⟩ : _ ∧ True)
  exact ⟨t, _, _, rfl, upd_same, hc, hk, k q (o2.sub (List.sublist_cons_self ..)) s1 (.bl _)⟩
end
/-! ### a pick out of a list or a tuple -/
inductive Pick2 : Con where
  | lst {x : SV} {ds : List PyData} {L R Ω : Om} {Φ : PhiE} {Ξ : XA} : Bag x L R Ω → ds ≠ [] → ds.length < 2 ^ 60 → (∀ d ∈ ds, ∀ Ω', Bag x L R Ω' → Φ (.d d) Ω') → Pick2 [x, .d (.list ds)] Ω Φ Ξ
  | tup {x : SV} {ds : List PyData} {L R Ω : Om} {Φ : PhiE} {Ξ : XA} : Bag x L R Ω → ds ≠ [] → ds.length < 2 ^ 60 → (∀ d ∈ ds, ∀ Ω', Bag x L R Ω' → Φ (.d d) Ω') → Pick2 [x, .d (.tuple ds)] Ω Φ Ξ
theorem Pick2.ari : Ari Pick2 2 := by rintro _ _ _ _ (⟨_, _, _, _⟩ | ⟨_, _, _, _⟩) <;> rfl
end Z
/-! Zv: data that can be told as text and compared, by its parts; least terms. -/
namespace Z
open PySem PySem.Spec PyProof.Rows L2
/-- k: the depth, L: the length of its text -/
structure Rep (k L : Nat) (d : PyData) : Prop where
  sh : d.showable = true
  nd : d.hasDict = false
  dp : d.depth ≤ k
  ln : d.shown.length ≤ L
  cl : d.canLay0 = true
theorem Rep.mono {k L k' L' : Nat} {d : PyData} (h : Rep k L d) (h1 : k ≤ k') (h2 : L ≤ L') : Rep k' L' d := ⟨h.sh, h.nd, Nat.le_trans h.dp h1, Nat.le_trans h.ln h2, h.cl⟩
theorem Rep.shaped {k L : Nat} {d : PyData} (h : Rep k L d) (hk : k ≤ 64) : SeqAt.shaped d = true := by
  unfold SeqAt.shaped
  rw [h.cl, Bool.true_and, decide_eq_true_eq]
  exact Nat.le_trans h.dp hk
theorem Rep.eq {k L : Nat} {d : PyData} (h : Rep k L d) (hk : k ≤ 64) : PyData.eqv d d = true := SeqAt.eqv_refl d (SeqAt.canLay_of_shaped (h.shaped hk))
theorem Rep.repr {k L : Nat} {d : PyData} (h : Rep k L d) (hk : k ≤ 60) (hL : L ≤ 16777216) : d.showable = true ∧ d.hasDict = false ∧ d.depth ≤ 60 ∧ d.shown.length ≤ sizeLine := by
  have e : sizeLine = 16777216 := by decide
  exact ⟨h.sh, h.nd, Nat.le_trans h.dp hk, Nat.le_trans h.ln (by omega)⟩
theorem rep_int {i : Int} (h : i.natAbs < 2 ^ 1900) : Rep 0 2000 (.int i) := by
  have h2 : i.natAbs.log2 < 1900 := log2_lt h (by decide)
  exact ⟨by simp only [PyData.showable, decide_eq_true_eq]; omega, rfl, by simp [PyData.depth], by
    have := int_text_len_1921 (i := i) (by omega)
    simp only [PyData.shown]
    omega, rfl⟩
theorem rep_i {i : Int} (h0 : -(2 ^ 240) < i) (h : i < 2 ^ 240) : Rep 0 2000 (.int i) := rep_int (Nat.lt_of_lt_of_le (nat_bd h0 h) (by decide +kernel))
theorem rep_none : Rep 0 2000 .none := ⟨rfl, rfl, by simp [PyData.depth], by simp only [PyData.shown]; decide +kernel, rfl⟩
theorem rep_bool {b : Bool} : Rep 0 2000 (.bool b) := ⟨rfl, rfl, by simp [PyData.depth], by cases b <;> (simp only [PyData.shown]; decide +kernel), rfl⟩
theorem rep_str {x : Str} (h : (reprText x).length ≤ 2000) (h2 : PySem.PyData.strOk x = true) : Rep 0 2000 (.str x) := ⟨rfl, rfl, by simp [PyData.depth], by simp only [PyData.shown]; exact h, by simp only [PyData.canLay0]; exact h2⟩
theorem rep_all {k L : Nat} : ∀ {ds : List PyData}, (∀ d ∈ ds, Rep k L d) → PyData.showableAll ds = true ∧ PyData.hasDictAll ds = false ∧ PyData.depthAll ds ≤ k ∧ ((PyData.shownAll ds).length = ds.length ∧ ∀ t ∈ PyData.shownAll ds, t.length ≤ L) ∧ PyData.canLayAll0 ds = true
  | [], _ => ⟨rfl, rfl, by simp [PyData.depthAll], ⟨rfl, fun _ h => by cases h⟩, rfl⟩
  | d :: r, h => by
    obtain ⟨a, b, c, ⟨e, f⟩, g⟩ := rep_all (ds := r) fun x hx => h x (List.mem_cons_of_mem _ hx)
    have hd := h d List.mem_cons_self
    refine ⟨?_, ?_, ?_, ⟨?_, ?_⟩, ?_⟩
    · simp only [PyData.showableAll, hd.sh, a, Bool.and_self]
    · simp only [PyData.hasDictAll, hd.nd, b, Bool.or_self]
    · simp only [PyData.depthAll]
      have := hd.dp
      omega
    · simp only [PyData.shownAll, List.length_cons, e]
    · intro t ht
      simp only [PyData.shownAll, List.mem_cons] at ht
      rcases ht with rfl | ht
      · exact hd.ln
      · exact f t ht
    · simp only [PyData.canLayAll0, hd.cl, g, Bool.and_self]
theorem textFrom_le {B : Nat} : ∀ (ts : List Str) (k : Nat) (acc : Str), (∀ t ∈ ts, t.length ≤ B) → (textFrom k acc ts).length ≤ acc.length + ts.length * (B + 2)
  | [], k, acc, _ => by
    show acc.length ≤ _
    omega
  | t :: r, k, acc, h => by
    have h1 := h t List.mem_cons_self
    have ih := fun k acc => textFrom_le r k acc fun x hx => h x (List.mem_cons_of_mem _ hx)
    have e : (Str.ofString ", ").length = 2 := by decide +kernel
    show (textFrom (k + 1) _ r).length ≤ _
    refine Nat.le_trans (ih _ _) ?_
    rw [List.length_cons, Nat.succ_mul]
    have e0 : (Str.ofString "").length = 0 := by decide +kernel
    split
    · rw [strLen_append, strLen_append, e]
      omega
    · rw [strLen_append, strLen_append, e0]
      omega
theorem rep_tup {k L n : Nat} {ds : List PyData} (h : ∀ d ∈ ds, Rep k L d) (hn : ds.length ≤ n) : Rep (k + 1) (n * (L + 2) + 4) (.tuple ds) := by
  obtain ⟨a, b, c, ⟨e, f⟩, g⟩ := rep_all h
  refine ⟨by simp only [PyData.showable, a], by simp only [PyData.hasDict, b], by simp only [PyData.depth]; omega, ?_, by simp only [PyData.canLay0, g]⟩
  have j := join_le f
  simp only [PyData.shown, tupleText]
  rw [strLen_append, strLen_append]
  have e1 : (Str.ofString "(").length = 1 := by decide +kernel
  have e2 : (Str.ofString (if (PyData.shownAll ds).length == 1 then ",)" else ")" : String)).length ≤ 2 := by split <;> decide +kernel
  rw [e1]
  rw [e] at j
  have : ds.length * (L + 2) ≤ n * (L + 2) := Nat.mul_le_mul_right _ hn
  omega
theorem rep_lst {k L n : Nat} {ds : List PyData} (h : ∀ d ∈ ds, Rep k L d) (hn : ds.length ≤ n) : Rep (k + 1) (n * (L + 2) + 4) (.list ds) := by
  obtain ⟨a, b, c, ⟨e, f⟩, g⟩ := rep_all h
  refine ⟨by simp only [PyData.showable, a], by simp only [PyData.hasDict, b], by simp only [PyData.depth]; omega, ?_, by simp only [PyData.canLay0, g]⟩
  have j := textFrom_le (PyData.shownAll ds) 0 "[" f
  simp only [PyData.shown, listText]
  rw [strLen_append]
  have e1 : (Str.ofString "[").length = 1 := by decide +kernel
  have e2 : (Str.ofString "]").length = 1 := by decide +kernel
  rw [e1, e] at j
  rw [e2]
  have : ds.length * (L + 2) ≤ n * (L + 2) := Nat.mul_le_mul_right _ hn
  omega
/-! ### pairs of ints -/
abbrev prd (p : Int × Int) : PyData := .tuple [.int p.1, .int p.2]
abbrev prD (l : List (Int × Int)) : List PyData := l.map prd
theorem get_prD {l : List (Int × Int)} {i : Nat} {x : SV} (h : ((prD l).map SV.d)[i]? = some x) : ∃ p, l[i]? = some p ∧ x = .d (prd p) := by
  obtain ⟨d, h1, rfl⟩ := get_mapD h
  rw [prD, List.getElem?_map] at h1
  cases e : l[i]? with
  | none => rw [e] at h1; cases h1
  | some p => rw [e] at h1; cases h1; exact ⟨p, rfl, rfl⟩
theorem eqvAll_prD : ∀ l m : List (Int × Int), PyData.eqvAll (prD l) (prD m) = decide (l = m)
  | [], [] => by simp [prD, PyData.eqvAll]
  | [], _ :: _ => by simp [prD, PyData.eqvAll]
  | _ :: _, [] => by simp [prD, PyData.eqvAll]
  | (a, b) :: r, (c, d) :: t => by
    have h := eqvAll_prD r t
    simp only [prD] at h
    simp only [prD, List.map_cons, PyData.eqvAll, PyData.eqv, h, prd]
    by_cases e : a = c <;> by_cases e2 : b = d <;> by_cases e3 : r = t <;> simp [e, e2, e3]
theorem eqv_prd (p q : Int × Int) : PyData.eqv (prd p) (prd q) = decide (p = q) := by
  obtain ⟨a, b⟩ := p
  obtain ⟨c, d⟩ := q
  simp only [prd, PyData.eqv, PyData.eqvAll]
  by_cases e : a = c <;> by_cases e2 : b = d <;> simp [e, e2]
theorem canLayAll_prD : ∀ l : List (Int × Int), PyData.canLayAll0 (prD l) = true
  | [] => rfl
  | _ :: r => by
    have h := canLayAll_prD r
    simp only [prD] at h
    simp only [prD, List.map_cons, PyData.canLayAll0, PyData.canLay0, h, Bool.and_self]
theorem depthAll_prD : ∀ l : List (Int × Int), PyData.depthAll (prD l) ≤ 2
  | [] => by simp [prD, PyData.depthAll]
  | _ :: r => by
    have h := depthAll_prD r
    simp only [prD] at h
    simp only [prD, List.map_cons, PyData.depthAll, PyData.depth, prd]
    omega
theorem shaped_prD (l : List (Int × Int)) : SeqAt.shaped (.tuple (prD l)) = true ∧ SeqAt.shaped (.list (prD l)) = true := by
  have h := depthAll_prD l
  have c := canLayAll_prD l
  unfold SeqAt.shaped
  simp only [PyData.canLay0, PyData.depth, Bool.and_eq_true]
  have h2 : PyData.depthAll (prD l) + 1 ≤ 64 := by omega
  exact ⟨⟨c, decide_eq_true h2⟩, ⟨c, decide_eq_true h2⟩⟩
theorem eqv_prD (l m : List (Int × Int)) : PyData.eqv (.tuple (prD l)) (.tuple (prD m)) = decide (l = m) := by
  rw [PyData.eqv]
  exact eqvAll_prD l m
theorem shaped_prd (p : Int × Int) : SeqAt.shaped (prd p) = true := (shaped_isD [p.1, p.2]).1
/-- a comprehension of bools -/
theorem newX_bools {m : Mode} {bs : List Bool} {Ω : Om} {Φ : PhiE} (h : newL m (bs.map PyData.bool) Ω Φ) : newX m (bs.map fun b => SV.d (.bool b)) Ω Φ := by
  have e : (bs.map fun b => SV.d (.bool b)) = (bs.map PyData.bool).map SV.d := by rw [List.map_map]; rfl
  rw [e]
  exact newX_d h
theorem fAll_of {bs : List Bool} {Ω : Om} {Φ : PhiE} (h : Φ (.d (.bool (bs.all id))) Ω) : fAll (.d (.list (bs.map PyData.bool))) Ω Φ := ⟨bs, trivial, rfl, h⟩
theorem fAny_of {bs : List Bool} {Ω : Om} {Φ : PhiE} (h : Φ (.d (.bool (bs.any id))) Ω) : fAny (.d (.list (bs.map PyData.bool))) Ω Φ := ⟨bs, trivial, rfl, h⟩
/-! ### least terms -/
abbrev g2 (a b : Int) : Int := ((Nat.gcd a.natAbs b.natAbs : Nat) : Int)
def least (a b : Int) : Int × Int := (a / g2 a b, b / g2 a b)
theorem g2_pos {a b : Int} (h : 0 < b) : 0 < g2 a b := by
  have := Nat.gcd_pos_of_pos_right a.natAbs (show 0 < b.natAbs by omega)
  show (0 : Int) < ((_ : Nat) : Int)
  omega
theorem g2_le {a b : Int} (h : 0 < b) : g2 a b ≤ b := by
  have := Nat.le_of_dvd (show 0 < b.natAbs by omega) (Nat.gcd_dvd_right a.natAbs b.natAbs)
  show ((_ : Nat) : Int) ≤ b
  omega
theorem least_mul {a b : Int} (h : 0 < b) : g2 a b * (least a b).1 = a ∧ g2 a b * (least a b).2 = b :=
  ⟨Int.mul_ediv_cancel' (Int.gcd_dvd_left a b), Int.mul_ediv_cancel' (Int.gcd_dvd_right a b)⟩
theorem least_rng {a b : Int} (h0 : 0 ≤ a) (h : 0 < b) : 0 ≤ (least a b).1 ∧ (least a b).1 ≤ a ∧ 1 ≤ (least a b).2 ∧ (least a b).2 ≤ b ∧ (0 < a → 1 ≤ (least a b).1) := by
  obtain ⟨e1, e2⟩ := least_mul (a := a) h
  have g := g2_pos (a := a) h
  have r1 : 0 ≤ (least a b).1 := Int.ediv_nonneg h0 (Int.le_of_lt g)
  have r2 : 0 ≤ (least a b).2 := Int.ediv_nonneg (Int.le_of_lt h) (Int.le_of_lt g)
  have r3 : 1 ≤ (least a b).2 := by
    rcases Int.lt_or_eq_of_le r2 with z | z
    · omega
    · rw [← z, Int.mul_zero] at e2; omega
  refine ⟨r1, Int.ediv_le_self _ h0, r3, Int.ediv_le_self _ (Int.le_of_lt h), fun p => ?_⟩
  rcases Int.lt_or_eq_of_le r1 with z | z
  · omega
  · rw [← z, Int.mul_zero] at e1; omega
theorem least_co {a b : Int} (h : 0 < b) : Nat.gcd (least a b).1.natAbs (least a b).2.natAbs = 1 := by
  obtain ⟨e1, e2⟩ := least_mul (a := a) h
  have g := g2_pos (a := a) h
  have n1 : a.natAbs = Nat.gcd a.natAbs b.natAbs * (least a b).1.natAbs := by
    have := congrArg Int.natAbs e1
    rw [Int.natAbs_mul] at this
    exact this.symm
  have n2 : b.natAbs = Nat.gcd a.natAbs b.natAbs * (least a b).2.natAbs := by
    have := congrArg Int.natAbs e2
    rw [Int.natAbs_mul] at this
    exact this.symm
  have hg : 0 < Nat.gcd a.natAbs b.natAbs := by
    have : (0 : Int) < ((Nat.gcd a.natAbs b.natAbs : Nat) : Int) := g
    omega
  have e : Nat.gcd a.natAbs b.natAbs = Nat.gcd a.natAbs b.natAbs * Nat.gcd (least a b).1.natAbs (least a b).2.natAbs := by
    rw [← Nat.gcd_mul_left, ← n1, ← n2]
  have e3 : Nat.gcd a.natAbs b.natAbs * Nat.gcd (least a b).1.natAbs (least a b).2.natAbs = Nat.gcd a.natAbs b.natAbs * 1 := by omega
  exact Nat.eq_of_mul_eq_mul_left hg e3
theorem least_cross {a b : Int} (h : 0 < b) : (least a b).1 * b = a * (least a b).2 := by
  obtain ⟨e1, e2⟩ := least_mul (a := a) h
  have : (least a b).1 * (g2 a b * (least a b).2) = (g2 a b * (least a b).1) * (least a b).2 := by rw [Int.mul_left_comm, Int.mul_assoc]
  rwa [e1, e2] at this
/-- two fractions of least terms that are worth the same -/
theorem co_uniq {p q r s : Int} (hq : 0 < q) (hs : 0 < s) (hp : 0 ≤ p) (hr : 0 ≤ r) (c1 : Nat.gcd p.natAbs q.natAbs = 1) (c2 : Nat.gcd r.natAbs s.natAbs = 1) (e : p * s = r * q) : p = r ∧ q = s := by
  have n : p.natAbs * s.natAbs = r.natAbs * q.natAbs := by
    have := congrArg Int.natAbs e
    rwa [Int.natAbs_mul, Int.natAbs_mul] at this
  have d1 : q.natAbs ∣ s.natAbs := (Nat.Coprime.symm c1).dvd_of_dvd_mul_left (n ▸ Nat.dvd_mul_left ..)
  have d2 : s.natAbs ∣ q.natAbs := (Nat.Coprime.symm c2).dvd_of_dvd_mul_left (n ▸ Nat.dvd_mul_left ..)
  have eq : q.natAbs = s.natAbs := Nat.dvd_antisymm d1 d2
  have eq' : q = s := by omega
  refine ⟨?_, eq'⟩
  rw [eq'] at e
  exact Int.eq_of_mul_eq_mul_right (by omega) e
theorem least_eq {a b c d : Int} (h0 : 0 ≤ a) (h1 : 0 < b) (h2 : 0 ≤ c) (h3 : 0 < d) (e : a * d = c * b) : least a b = least c d := by
  have r1 := least_rng h0 h1
  have r2 := least_rng h2 h3
  obtain ⟨a1, a2⟩ := least_mul (a := a) h1
  obtain ⟨b1, b2⟩ := least_mul (a := c) h3
  have g1 := g2_pos (a := a) h1
  have g3 := g2_pos (a := c) h3
  have key : (least a b).1 * (least c d).2 = (least c d).1 * (least a b).2 := by
    have k : (g2 a b * g2 c d) * ((least a b).1 * (least c d).2) = (g2 a b * g2 c d) * ((least c d).1 * (least a b).2) := by
      have x1 : (g2 a b * g2 c d) * ((least a b).1 * (least c d).2) = (g2 a b * (least a b).1) * (g2 c d * (least c d).2) := by
        rw [Int.mul_assoc, Int.mul_assoc, Int.mul_left_comm (g2 c d)]
      have x2 : (g2 a b * g2 c d) * ((least c d).1 * (least a b).2) = (g2 c d * (least c d).1) * (g2 a b * (least a b).2) := by
        rw [Int.mul_comm (g2 a b) (g2 c d), Int.mul_assoc, Int.mul_assoc, Int.mul_left_comm (g2 a b)]
      rw [x1, x2, a1, a2, b1, b2]
      exact e
    exact Int.eq_of_mul_eq_mul_left (by have := Int.mul_pos g1 g3; omega) k
  have := co_uniq (by omega) (by omega) r1.1 r2.1 (least_co h1) (least_co h3) key
  exact Prod.ext this.1 this.2
theorem least_cancel {a b c d : Int} (h1 : 0 < b) (h3 : 0 < d) (e : least a b = least c d) : a * d = c * b := by
  have x := least_cross (a := a) h1
  have y := least_cross (a := c) h3
  rw [e] at x
  have q : 0 < (least c d).2 := by
    obtain ⟨b1, b2⟩ := least_mul (a := c) h3
    have g3 := g2_pos (a := c) h3
    rcases Int.lt_trichotomy (least c d).2 0 with z | z | z
    · have := Int.mul_neg_of_pos_of_neg g3 z; omega
    · rw [z, Int.mul_zero] at b2; omega
    · exact z
  -- x : P * b = a * Q, y : P * d = c * Q
  have k : (a * d) * (least c d).2 = (c * b) * (least c d).2 := by
    rw [Int.mul_assoc, Int.mul_comm d, ← Int.mul_assoc, ← x, Int.mul_assoc, Int.mul_comm b d, ← Int.mul_assoc, y, Int.mul_assoc, Int.mul_comm _ b, ← Int.mul_assoc]
  exact Int.eq_of_mul_eq_mul_right (by omega) k
theorem least_self {a b : Int} (h0 : 0 ≤ a) (h : 0 < b) (c : Nat.gcd a.natAbs b.natAbs = 1) : least a b = (a, b) := by
  have r := least_rng h0 h
  have := co_uniq (by omega) h r.1 h0 (least_co h) c (least_cross h)
  exact Prod.ext this.1 this.2
end Z
/-! Zu: comprehensions that stop a reading, and the common kinds of them. -/
namespace Z
open PySem PySem.Spec PyProof.Rows L2
/-- the turns of a comprehension: turn x Ω Y N: from the item x on, Y with what is put down, N if nothing is -/
structure LcS (m : Mode) (xs : List SV) (Kp : Om → Prop) (Ω1 : Om) (turn : SV → Om → (SV → Om → Prop) → (Om → Prop) → Prop) (Φ : PhiE) : Prop where
  ln : xs.length ≤ 1000000
  ex : ∃ W : Nat → List SV → Om → Prop, W 0 [] Ω1 ∧ (∀ i acc Ω, W i acc Ω → Kp Ω ∧ acc.length ≤ i) ∧
    (∀ i x acc Ω, xs[i]? = some x → W i acc Ω → turn x Ω (fun y Ω3 => W (i + 1) (acc ++ [y]) Ω3) (fun Ω2 => W (i + 1) acc Ω2)) ∧
    ∀ acc Ω, W xs.length acc Ω → newX m acc Ω Φ
def aLc2 (m : Mode) (ai : AI) (g : AG) (tt : AT) (te : AE) (vs : List Nat) : AE := fun ρ Ω Φ => ai ρ Ω fun xs Kp Ω1 => LcS m xs Kp Ω1 (fun x Ω Y N => g x (wipR ρ vs) fun ρ' => tt ρ' Ω fun b Ω2 => br b (te ρ' Ω2 Y) (N Ω2)) Φ
theorem aLc2_eq {m : Mode} {ai : AI} {g : AG} {tt : AT} {te : AE} {vs : List Nat} : aLc m ai g tt te vs = aLc2 m ai g tt te vs := by
  funext ρ Ω Φ
  unfold aLc aLc2
  congr 1
  funext xs Kp Ω1
  exact propext ⟨fun ⟨h1, h2⟩ => ⟨h1, h2⟩, fun ⟨h1, h2⟩ => ⟨h1, h2⟩⟩
theorem lc2 {X : Cx} {G : Gn} {e : Expr} {m : Mode} {ai : AI} {g : AG} {tt : AT} {te : AE} {vs : List Nat} (h : JE X G e (aLc m ai g tt te vs)) : JE X G e (aLc2 m ai g tt te vs) := aLc2_eq ▸ h
theorem lc2s {X : Cx} {G : Gn} {s : Stmt} {m : Mode} {ai : AI} {g g' : AG} {tt : AT} {te : AE} {vs : List Nat} (h : JS X G s (aAsg (aLc m ai g tt te vs) g')) : JS X G s (aAsg (aLc2 m ai g tt te vs) g') := aLc2_eq ▸ h
section
variable {m : Mode} {xs : List SV} {Kp : Om → Prop} {Ω1 : Om} {turn : SV → Om → (SV → Om → Prop) → (Om → Prop) → Prop} {Φ : PhiE}
/-- each item tells one value, that the place tells -/
theorem lc_at (f : Nat → PyData) (J : Om → Prop) (hl : xs.length ≤ 1000000) (j0 : J Ω1) (kp : ∀ Ω, J Ω → Kp Ω)
    (t : ∀ i x Ω (Y : SV → Om → Prop) (N : Om → Prop), xs[i]? = some x → J Ω → (∀ Ω', J Ω' → Y (.d (f i)) Ω') → turn x Ω Y N)
    (fin : ∀ Ω, J Ω → newL m ((List.range xs.length).map f) Ω Φ) : LcS m xs Kp Ω1 turn Φ := by
  refine ⟨hl, fun i acc Ω => acc = ((List.range i).map f).map SV.d ∧ J Ω, ⟨rfl, j0⟩, fun i acc Ω ⟨h1, h2⟩ => ⟨kp _ h2, by rw [h1, List.length_map, List.length_map, List.length_range]; exact Nat.le_refl _⟩, ?_, ?_⟩
  · rintro i x acc Ω e ⟨rfl, j⟩
    refine t i x Ω _ _ e j fun Ω' j' => ⟨?_, j'⟩
    rw [List.range_succ, List.map_append, List.map_append]
    rfl
  · rintro acc Ω ⟨rfl, j⟩
    exact newX_d (fin Ω j)
/-- .. that the item tells -/
theorem lc_map {ds : List PyData} (f : PyData → PyData) (J : Om → Prop) (hl : ds.length ≤ 1000000) (j0 : J Ω1) (kp : ∀ Ω, J Ω → Kp Ω)
    (t : ∀ d Ω (Y : SV → Om → Prop) (N : Om → Prop), d ∈ ds → J Ω → (∀ Ω', J Ω' → Y (.d (f d)) Ω') → turn (.d d) Ω Y N)
    (fin : ∀ Ω, J Ω → newL m (ds.map f) Ω Φ) : LcS m (ds.map SV.d) Kp Ω1 turn Φ := by
  refine lc_at (fun i => f (ds.getD i .none)) J (by rw [List.length_map]; exact hl) j0 kp (fun i x Ω Y N e j k => ?_) fun Ω j => ?_
  · obtain ⟨d, h1, rfl⟩ := get_mapD e
    refine t d Ω Y N (List.mem_of_getElem? h1) j fun Ω' j' => ?_
    have := k Ω' j'
    rw [List.getD_eq_getElem?_getD, h1] at this
    exact this
  · have e : (List.range (ds.map SV.d).length).map (fun i => f (ds.getD i .none)) = ds.map f := by
      refine List.ext_getElem? fun i => ?_
      rw [List.length_map, List.getElem?_map, List.getElem?_map]
      by_cases z : i < ds.length
      · rw [List.getElem?_eq_getElem (by rw [List.length_range]; exact z), List.getElem_range, List.getElem?_eq_getElem z]
        simp [List.getD_eq_getElem?_getD, z]
      · rw [List.getElem?_eq_none (by rw [List.length_range]; omega), List.getElem?_eq_none (by omega)]
        rfl
    rw [e]
    exact fin Ω j
/-- .. ints of ints -/
theorem lc_ints {is : List Int} (f : Int → Int) (J : Om → Prop) (hl : is.length ≤ 1000000) (j0 : J Ω1) (kp : ∀ Ω, J Ω → Kp Ω)
    (t : ∀ i Ω (Y : SV → Om → Prop) (N : Om → Prop), i ∈ is → J Ω → (∀ Ω', J Ω' → Y (I (f i)) Ω') → turn (I i) Ω Y N)
    (fin : ∀ Ω, J Ω → newL m (isD (is.map f)) Ω Φ) : LcS m ((isD is).map SV.d) Kp Ω1 turn Φ := by
  refine lc_map (fun d => match d with | .int i => .int (f i) | d => d) J (by rw [len_isD]; exact hl) j0 kp (fun d Ω Y N hd j k => ?_) fun Ω j => ?_
  · obtain ⟨i, hi, rfl⟩ := List.mem_map.mp hd
    exact t i Ω Y N hi j k
  · have := fin Ω j
    rw [isD, List.map_map] at this
    rw [isD, List.map_map]
    exact this
/-- .. bools of data -/
theorem lc_bools {ds : List PyData} (f : PyData → Bool) (J : Om → Prop) (hl : ds.length ≤ 1000000) (j0 : J Ω1) (kp : ∀ Ω, J Ω → Kp Ω)
    (t : ∀ d Ω (Y : SV → Om → Prop) (N : Om → Prop), d ∈ ds → J Ω → (∀ Ω', J Ω' → Y (.d (.bool (f d))) Ω') → turn (.d d) Ω Y N)
    (fin : ∀ Ω, J Ω → newL m ((ds.map f).map PyData.bool) Ω Φ) : LcS m (ds.map SV.d) Kp Ω1 turn Φ :=
  lc_map (fun d => .bool (f d)) J hl j0 kp t fun Ω j => by
    have := fin Ω j
    rw [List.map_map] at this
    exact this
/-- .. any value that fits its place -/
theorem lc_rel (P : Nat → PyData → Prop) (J : Om → Prop) (hl : xs.length ≤ 1000000) (j0 : J Ω1) (kp : ∀ Ω, J Ω → Kp Ω)
    (t : ∀ i x Ω (Y : SV → Om → Prop) (N : Om → Prop), xs[i]? = some x → J Ω → (∀ d Ω', P i d → J Ω' → Y (.d d) Ω') → turn x Ω Y N)
    (fin : ∀ ds Ω, ds.length = xs.length → (∀ i d, ds[i]? = some d → P i d) → J Ω → newL m ds Ω Φ) : LcS m xs Kp Ω1 turn Φ := by
  refine ⟨hl, fun i acc Ω => ∃ ds : List PyData, acc = ds.map SV.d ∧ ds.length = i ∧ (∀ i d, ds[i]? = some d → P i d) ∧ J Ω, ⟨[], rfl, rfl, fun i d h => by simp at h, j0⟩, fun i acc Ω ⟨ds, h1, h2, h3, h4⟩ => ⟨kp _ h4, by rw [h1, List.length_map, h2]; exact Nat.le_refl _⟩, ?_, ?_⟩
  · rintro i x acc Ω e ⟨ds, rfl, hn, hP, j⟩
    refine t i x Ω _ _ e j fun d Ω' p j' => ⟨ds ++ [d], by rw [List.map_append]; rfl, by rw [List.length_append, hn]; rfl, fun a b h => ?_, j'⟩
    rw [List.getElem?_append] at h
    split at h
    · exact hP a b h
    · have : a = i := by
        rcases Nat.lt_or_ge i a with z | z
        · rw [List.getElem?_eq_none (by rw [List.length_singleton]; omega)] at h; cases h
        · omega
      subst this
      rw [hn, Nat.sub_self] at h
      cases h
      exact p
  · rintro acc Ω ⟨ds, rfl, hn, hP, j⟩
    exact newX_d (fin ds Ω hn hP j)
/-- .. ints, each of which fits its place -/
theorem lc_relI (P : Nat → Int → Prop) (J : Om → Prop) (hl : xs.length ≤ 1000000) (j0 : J Ω1) (kp : ∀ Ω, J Ω → Kp Ω)
    (t : ∀ i x Ω (Y : SV → Om → Prop) (N : Om → Prop), xs[i]? = some x → J Ω → (∀ d Ω', P i d → J Ω' → Y (I d) Ω') → turn x Ω Y N)
    (fin : ∀ is Ω, is.length = xs.length → (∀ i d, is[i]? = some d → P i d) → J Ω → newL m (isD is) Ω Φ) : LcS m xs Kp Ω1 turn Φ := by
  refine lc_rel (fun i d => ∃ z, d = .int z ∧ P i z) J hl j0 kp (fun i x Ω Y N e j k => t i x Ω Y N e j fun d Ω' p j' => k _ _ ⟨d, rfl, p⟩ j') fun ds Ω hn hP j => ?_
  have ex : ∃ is : List Int, ds = isD is := by
    clear hn
    induction ds with
    | nil => exact ⟨[], rfl⟩
    | cons d r ih =>
      obtain ⟨z, rfl, -⟩ := hP 0 d rfl
      have : ∃ is : List Int, r = isD is := by
        clear ih
        have h : ∀ d ∈ r, ∃ z : Int, d = .int z := fun d hd => by
          obtain ⟨i, hi, rfl⟩ := List.mem_iff_getElem.mp hd
          obtain ⟨z, h, -⟩ := hP (i + 1) r[i] (by rw [List.getElem?_cons_succ]; exact List.getElem?_eq_getElem hi)
          exact ⟨z, h⟩
        clear hP
        induction r with
        | nil => exact ⟨[], rfl⟩
        | cons e r ih =>
          obtain ⟨z, rfl⟩ := h e List.mem_cons_self
          obtain ⟨is, rfl⟩ := ih fun d hd => h d (List.mem_cons_of_mem _ hd)
          exact ⟨z :: is, rfl⟩
      obtain ⟨is, rfl⟩ := this
      exact ⟨z :: is, rfl⟩
  obtain ⟨is, rfl⟩ := ex
  refine fin is Ω (by rw [← hn, len_isD]) (fun i d h => ?_) j
  obtain ⟨z, e, p⟩ := hP i (.int d) (by rw [isD, List.getElem?_map, h]; rfl)
  cases e
  exact p
/-- those items for which p holds -/
theorem lc_filter {ds : List PyData} (p : PyData → Bool) (J : Om → Prop) (hl : ds.length ≤ 1000000) (j0 : J Ω1) (kp : ∀ Ω, J Ω → Kp Ω)
    (t : ∀ d Ω (Y : SV → Om → Prop) (N : Om → Prop), d ∈ ds → J Ω → (p d = true → ∀ Ω', J Ω' → Y (.d d) Ω') → (p d = false → ∀ Ω', J Ω' → N Ω') → turn (.d d) Ω Y N)
    (fin : ∀ Ω, J Ω → newL m (ds.filter p) Ω Φ) : LcS m (ds.map SV.d) Kp Ω1 turn Φ := by
  refine ⟨by rw [List.length_map]; exact hl, fun i acc Ω => acc = ((ds.take i).filter p).map SV.d ∧ J Ω, ⟨rfl, j0⟩, fun i acc Ω ⟨h1, h2⟩ => ⟨kp _ h2, ?_⟩, ?_, ?_⟩
  · rw [h1, List.length_map]
    refine Nat.le_trans (List.length_filter_le ..) ?_
    rw [List.length_take]
    omega
  · rintro i x acc Ω e ⟨rfl, j⟩
    obtain ⟨d, h1, rfl⟩ := get_mapD e
    refine t d Ω _ _ (List.mem_of_getElem? h1) j (fun hp Ω' j' => ⟨?_, j'⟩) fun hp Ω' j' => ⟨?_, j'⟩
    · rw [List.take_add_one, h1, List.filter_append, List.map_append]
      simp [hp]
    · rw [List.take_add_one, h1, List.filter_append, List.map_append]
      simp [hp]
  · rintro acc Ω ⟨rfl, j⟩
    rw [List.length_map, List.take_length]
    exact newX_d (fin Ω j)
end
end Z
/-! Zk: dicts of ints and texts as cells of a def's own: {..}, d[k], d[k] = x, k in d. -/
namespace Z
open PySem PySem.Spec PyProof.Rows L2
abbrev Ent := Key × SV
def valS (kvs : List Ent) (k : Key) : Option SV := (kvs.find? fun p => decide (p.1 = k)).map (·.2)
def putS (kvs : List Ent) (k : Key) (x : SV) : List Ent := if (kvs.any fun p => decide (p.1 = k)) = true then kvs.map (fun p => if p.1 = k then (p.1, x) else p) else kvs ++ [(k, x)]
def mergeS (kvs more : List Ent) : List Ent := more.foldl (fun acc p => putS acc p.1 p.2) kvs
abbrev RpD (K : Frag) (F : Hp) : List (Key × V) → List Ent → Prop := Paired fun p q => p.1 = q.1 ∧ Rp K F p.2 q.2
section
variable {K : Frag} {F : Hp}
theorem rpd_any {k : Key} : ∀ {ws : List (Key × V)} {kvs : List Ent}, RpD K F ws kvs → (ws.any fun p => decide (p.1 = k)) = (kvs.any fun p => decide (p.1 = k))
  | _, _, .nil => rfl
  | _, _, .cons r t => by rw [List.any_cons, List.any_cons, r.1, rpd_any t]
theorem rpd_val {k : Key} : ∀ {ws : List (Key × V)} {kvs : List Ent}, RpD K F ws kvs → (valS kvs k = none ∧ valV ws k = none) ∨ ∃ v x, valS kvs k = some x ∧ valV ws k = some v ∧ Rp K F v x
  | _, _, .nil => .inl ⟨rfl, rfl⟩
  | p :: ws, q :: kvs, .cons r t => by
    by_cases e : p.1 = k
    · refine .inr ⟨p.2, q.2, ?_, valV_pos e, r.2⟩
      have e2 : q.1 = k := r.1 ▸ e
      simp [valS, List.find?_cons, e2]
    · have e2 : ¬ q.1 = k := r.1 ▸ e
      have h : valS (q :: kvs) k = valS kvs k := by simp [valS, List.find?_cons, e2]
      rw [h, valV_neg e]
      exact rpd_val t
theorem rpd_map {k : Key} {v : V} {x : SV} (rv : Rp K F v x) : ∀ {ws : List (Key × V)} {kvs : List Ent}, RpD K F ws kvs → RpD K F (ws.map fun kv => if kv.1 = k then (kv.1, v) else kv) (kvs.map fun p => if p.1 = k then (p.1, x) else p)
  | _, _, .nil => .nil
  | p :: ws, q :: kvs, .cons r t => by
    refine .cons ?_ (rpd_map rv t)
    dsimp only
    by_cases e : p.1 = k
    · rw [if_pos e, if_pos (r.1 ▸ e)]
      exact ⟨r.1, rv⟩
    · rw [if_neg e, if_neg (r.1 ▸ e)]
      exact r
theorem rpd_put {k : Key} {v : V} {x : SV} {ws : List (Key × V)} {kvs : List Ent} (r : RpD K F ws kvs) (rv : Rp K F v x) : RpD K F (putK ws k v) (putS kvs k x) := by
  unfold putK putS
  rw [rpd_any r]
  split
  · exact rpd_map rv r
  · exact pr_app r (.cons ⟨rfl, rv⟩ .nil)
theorem rpd_merge : ∀ {ms : List (Key × V)} {more : List Ent} {ws : List (Key × V)} {kvs : List Ent}, RpD K F ms more → RpD K F ws kvs → RpD K F (mergeK ws ms) (mergeS kvs more)
  | _, _, _, _, .nil, r => r
  | p :: ms, q :: more, ws, kvs, .cons h t, r => by
    show RpD K F (mergeK (putK ws p.1 p.2) ms) (mergeS (putS kvs q.1 q.2) more)
    refine rpd_merge t ?_
    rw [← h.1]
    exact rpd_put r h.2
theorem rpd_same {F' : Hp} (e : Same F F') {ws : List (Key × V)} {kvs : List Ent} (r : RpD K F ws kvs) : RpD K F' ws kvs := Paired.mapP r fun _ _ q => ⟨q.1, q.2.same e⟩
end
/-- a key -/
def keyOf : SV → Option Key
  | .d (.int i) => some (.inl i)
  | .d (.str s) => some (.inr s)
  | _ => none
theorem keyOf_ok {K : Frag} {F : Hp} {y : SV} {v : V} {k : Key} (h : keyOf y = some k) (r : Rp K F v y) : v = kV k := by
  unfold keyOf at h
  split at h
  · cases h; exact dqi r
  · cases h; exact dqs r
  · cases h
section
variable {X : Cx} {G : Gn} {e a b : Expr} {aa ab ac : AE} {pos : Pos}
/-- d[k] -/
def arDix : AR := fun x y Ω Φ => match x with
  | .r (.ref p) => ∃ kvs f k v, At Ω p (.dk kvs) f ∧ keyOf y = some k ∧ valS kvs k = some v ∧ Φ v Ω
  | _ => False
theorem je_dget (hu : X.A.units + 64 < cLine) (ha : JE X G a aa) (hb : JE X G b ab) (hs : NoSl b) : JE X G (.Subscript a b pos) (aBin arDix aa ab) := by
  obtain ⟨ta, p1, q1⟩ := ha
  obtain ⟨tb, p2, q2⟩ := hb
  refine ⟨_, pe_dget (by omega) p1 p2 hs, ⟨fun {ρ Ω Φ} h {P F H σ Q} o rp k => q1.go h o rp fun {v sv Ω1 F1 H1} z1 o1 s1 r1 => q2.go z1 o1 (rpe_same s1 rp) fun {v2 sv2 Ω2 F2 H2} z2 o2 s2 r2 => ?_⟩⟩
  unfold arDix at z2
  split at z2
  · obtain ⟨kvs, f, kk, w, t, e1, e2, z⟩ := z2
    cases (show v = _ from r1)
    obtain ⟨ws, h1, h2⟩ := o2.dk t
    obtain rfl := keyOf_ok e1 r2
    rcases rpd_val (k := kk) h2 with ⟨n, -⟩ | ⟨u, x, x1, x2, x3⟩
    · rw [n] at e2; cases e2
    · rw [x1] at e2
      cases e2
      exact ⟨_, u, rfl, x2 ▸ DGet.k h1, k z o2 (s1.trans s2) x3⟩
  · exact z2.elim
/-- k in d, k not in d -/
def arDinF (neg : Bool) : AR := fun y x Ω Φ => match x with
  | .r (.ref p) => ∃ kvs f k, At Ω p (.dk kvs) f ∧ keyOf y = some k ∧ Φ (.d (.bool (neg != (valS kvs k).isSome))) Ω
  | _ => False
theorem din_ok {E : En} {P F H : Hp} {Ω : Om} {neg : Bool} {x y : SV} {vx vy : V} {Φ : PhiE} (z : arDinF neg y x Ω Φ) (o : Ok E P F H Ω) (rx : Rp E.K F vx x) (ry : Rp E.K F vy y) : ∃ p ov, vx = .ref p ∧ DGet H p vy ov ∧ Φ (.d (.bool (neg != ov.isSome))) Ω := by
  unfold arDinF at z
  split at z
  · obtain ⟨kvs, f, kk, t, e1, z⟩ := z
    cases (show vx = _ from rx)
    obtain ⟨ws, h1, h2⟩ := o.dk t
    obtain rfl := keyOf_ok e1 ry
    refine ⟨_, _, rfl, DGet.k h1, ?_⟩
    rcases rpd_val (k := kk) h2 with ⟨n1, n2⟩ | ⟨u, x, x1, x2, x3⟩
    · rw [n2]; rw [n1] at z; exact z
    · rw [x2]; rw [x1] at z; exact z
  · exact z.elim
theorem je_din (hu : X.A.units + 64 < cLine) (hb : JE X G b ab) (ha : JE X G a aa) (hmk : behindInMarks .In a = false := by rfl) : JE X G (.Compare b [.In] [a] pos) (aBin (arDinF false) ab aa) := by
  obtain ⟨ta, p1, q1⟩ := ha
  obtain ⟨tb, p2, q2⟩ := hb
  refine ⟨_, pe_cmp (pc_din (by omega) p2 p1) hmk, ⟨fun {ρ Ω Φ} h {P F H σ Q} o rp k => q2.go h o rp fun {v sv Ω1 F1 H1} z1 o1 s1 r1 => q1.go z1 o1 (rpe_same s1 rp) fun {v2 sv2 Ω2 F2 H2} z2 o2 s2 r2 => ?_⟩⟩
  obtain ⟨p, ov, rfl, g, z⟩ := din_ok z2 o2 r2 (r1.same s2)
  exact ⟨p, ov, rfl, g, k z o2 (s1.trans s2) (by cases ov <;> exact .bl _)⟩
theorem je_dnotin (hu : X.A.units + 64 < cLine) (hb : JE X G b ab) (ha : JE X G a aa) (hmk : behindInMarks .NotIn a = false := by rfl) : JE X G (.Compare b [.NotIn] [a] pos) (aBin (arDinF true) ab aa) := by
  obtain ⟨ta, p1, q1⟩ := ha
  obtain ⟨tb, p2, q2⟩ := hb
  refine ⟨_, pe_cmp (pc_dnotin (by omega) p2 p1) hmk, ⟨fun {ρ Ω Φ} h {P F H σ Q} o rp k => q2.go h o rp fun {v sv Ω1 F1 H1} z1 o1 s1 r1 => q1.go z1 o1 (rpe_same s1 rp) fun {v2 sv2 Ω2 F2 H2} z2 o2 s2 r2 => ?_⟩⟩
  obtain ⟨p, ov, rfl, g, z⟩ := din_ok z2 o2 r2 (r1.same s2)
  exact ⟨p, ov, rfl, g, k z o2 (s1.trans s2) (by cases ov <;> exact .bl _)⟩
theorem jt_din (hu : X.A.units + 64 < cLine) (hb : JE X G b ab) (ha : JE X G a aa) (hmk : behindInMarks .In a = false := by rfl) : JT X G (.Compare b [.In] [a] pos) (aB (aBin (arDinF false) ab aa)) := by
  obtain ⟨ta, p1, q1⟩ := ha
  obtain ⟨tb, p2, q2⟩ := hb
  refine ⟨_, pt_cmp (pc_din (by omega) p2 p1) hmk, ⟨fun {ρ Ω Φ} h {P F H σ Q} o rp k => q2.go h o rp fun {v sv Ω1 F1 H1} z1 o1 s1 r1 => q1.go z1 o1 (rpe_same s1 rp) fun {v2 sv2 Ω2 F2 H2} z2 o2 s2 r2 => ?_⟩⟩
  obtain ⟨p, ov, rfl, g, z⟩ := din_ok z2 o2 r2 (r1.same s2)
  exact ⟨p, ov, rfl, g, _, rfl, by cases ov <;> exact k z o2 (s1.trans s2)⟩
theorem jt_dnotin (hu : X.A.units + 64 < cLine) (hb : JE X G b ab) (ha : JE X G a aa) (hmk : behindInMarks .NotIn a = false := by rfl) : JT X G (.Compare b [.NotIn] [a] pos) (aB (aBin (arDinF true) ab aa)) := by
  obtain ⟨ta, p1, q1⟩ := ha
  obtain ⟨tb, p2, q2⟩ := hb
  refine ⟨_, pt_cmp (pc_dnotin (by omega) p2 p1) hmk, ⟨fun {ρ Ω Φ} h {P F H σ Q} o rp k => q2.go h o rp fun {v sv Ω1 F1 H1} z1 o1 s1 r1 => q1.go z1 o1 (rpe_same s1 rp) fun {v2 sv2 Ω2 F2 H2} z2 o2 s2 r2 => ?_⟩⟩
  obtain ⟨p, ov, rfl, g, z⟩ := din_ok z2 o2 r2 (r1.same s2)
  exact ⟨p, ov, rfl, g, _, rfl, by cases ov <;> exact k z o2 (s1.trans s2)⟩
/-- d[k] = x -/
def aDPut (a o i : AE) : AS := fun D ρ Ω => a ρ Ω fun x Ω1 => o ρ Ω1 fun l Ω2 => i ρ Ω2 fun y Ω3 => match l with
  | .r (.ref p) => ∃ kvs f k, At Ω3 p (.dk kvs) f ∧ keyOf y = some k ∧ kvs.length < sizeLine ∧ D.nx ρ (f (.dk (putS kvs k x)))
  | _ => False
theorem js_dput {spos : Pos} (hu : X.A.units + 64 < cLine) (he : JE X G e aa) (ha : JE X G a ab) (hb : JE X G b ac) (hs : swapsWith e (some (.Subscript a b pos)) spos.line X.env = pure false := by rfl) : JS X G (.Assign [.Subscript a b pos] e spos) (aDPut aa ab ac) := by
  obtain ⟨te, p1, q1⟩ := he
  obtain ⟨ta, p2, q2⟩ := ha
  obtain ⟨tb, p3, q3⟩ := hb
  refine ⟨_, ps_dput (by omega) p2 p3 p1 hs, ⟨fun {D ρ Ω} h {P F H σ D'} k o rp => q1.go h o rp fun {v sv Ω1 F1 H1} z1 o1 s1 r1 => q2.go z1 o1 (rpe_same s1 rp) fun {v2 sv2 Ω2 F2 H2} z2 o2 s2 r2 => q3.go z2 o2 (rpe_same (s1.trans s2) rp) fun {v3 sv3 Ω3 F3 H3} z3 o3 s3 r3 => ?_⟩⟩
  have k3 := (s1.trans s2).trans s3
  have r1' := (r1.same s2).same s3
  dsimp only at z3
  split at z3
  · obtain ⟨kvs, f, kk, t, e1, e2, z⟩ := z3
    cases (show v2 = _ from r2)
    obtain ⟨ws, h1, h2⟩ := o3.dk t
    obtain rfl := keyOf_ok e1 r3
    exact ⟨_, _, rfl, DPut.k h1 (by rw [h2.length]; exact e2), k.nx z (o3.put t (rpd_put h2 r1')) k3 (rpe_same k3 rp)⟩
  · exact z3.elim
/-- i & 1 -/
def arAnd : AR := fun x y Ω Φ => match x, y with
  | .d (.int i), .d (.int j) => j = 1 ∧ Φ (.d (.int (i % 2))) Ω
  | _, _ => False
theorem jo_and : JOp X G (binaryOp .BitAnd) arAnd := by
  refine ⟨_, op_andM, ⟨fun {x y Ω Φ} h {P F H vx vy Q} o r1 r2 k => ?_⟩⟩
  unfold arAnd at h
  split at h
  · obtain ⟨rfl, h⟩ := h
    cases dqi r1
    cases dqi r2
    exact ⟨_, 1, rfl, rfl, k h o (Same.refl F) (.int _)⟩
  · exact h.elim
/-! ### displays -/
def aPrs : List (Key × AE) → Rho → Om → (List Ent → Om → Prop) → Prop
  | [], _, Ω, Φ => Φ [] Ω
  | (k, a) :: r, ρ, Ω, Φ => a ρ Ω fun x Ω1 => aPrs r ρ Ω1 fun kvs Ω2 => Φ ((k, x) :: kvs) Ω2
structure SnP (E : En) (trs : List (TE × TE)) (ps : List (Key × AE)) : Prop where
  go : ∀ {ρ : Rho} {Ω : Om} {Φ : List Ent → Om → Prop}, aPrs ps ρ Ω Φ → ∀ {P F H : Hp} {σ : L2.St} {Q : List (V × V) → Hp → Prop}, Ok E P F H Ω → RpE E.K F σ ρ →
    (∀ {ws : List (Key × V)} {kvs : List Ent} {Ω' : Om} {F' H' : Hp}, Φ kvs Ω' → Ok E P F' H' Ω' → Same F F' → RpD E.K F' ws kvs → Q (ws.map fun kv => (kV kv.1, kv.2)) H') → tPairs trs σ H Q
def JP (X : Cx) (G : Gn) (ks : List (Option Expr)) (vs : List Expr) (ps : List (Key × AE)) : Prop := ∃ trs, PPs X pos ks vs trs ∧ SnP (enX X G) trs ps
theorem jp_nil : JP (pos := pos) X G [] [] [] := ⟨_, pps_nil, ⟨fun {ρ Ω Φ} h {P F H σ Q} o rp k => k (ws := []) h o (Same.refl F) .nil⟩⟩
theorem jp_cons {kx : Expr} {ks : List (Option Expr)} {vs : List Expr} {ps : List (Key × AE)} {k : Key} (hk : PE X kx (tC (kV k))) (ha : JE X G e aa) (hr : JP (pos := pos) X G ks vs ps) : JP (pos := pos) X G (some kx :: ks) (e :: vs) ((k, aa) :: ps) := by
  obtain ⟨ta, p1, q1⟩ := ha
  obtain ⟨trs, p2, q2⟩ := hr
  refine ⟨_, pps_cons hk p1 p2, ⟨fun {ρ Ω Φ} h {P F H σ Q} o rp kk => ?_⟩⟩
  refine q1.go h o rp fun {v sv Ω1 F1 H1} z1 o1 s1 r1 => q2.go z1 o1 (rpe_same s1 rp) fun {ws kvs Ω2 F2 H2} z2 o2 s2 r2 => ?_
  exact kk (ws := (k, v) :: ws) z2 o2 (s1.trans s2) (.cons ⟨rfl, r1.same s2⟩ r2)
def aDisp (Fr : Addr → Prop) (ps : List (Key × AE)) : AE := fun ρ Ω Φ => aPrs ps ρ Ω fun kvs Ω' => kvs.length ≤ 15 ∧ ∀ p, Fr p → Φ (.r (.ref p)) ((p, .dk (mergeS [] kvs)) :: Ω')
theorem je_disp {ks : List (Option Expr)} {vs : List Expr} {ps : List (Key × AE)} {Fr : Addr → Prop} (hm : MOk (enX X G) (some Fr)) (h : JP (pos := pos) X G ks vs ps) (h1 : ks.all (·.isSome) = true) (h2 : ks.length = vs.length) (h3 : ks ≠ []) (h4 : ks.length ≤ 15) : JE X G (.Dict ks vs pos) (aDisp Fr ps) := by
  obtain ⟨trs, p1, q1⟩ := h
  refine ⟨_, pe_disp p1 h1 h2 h3 h4, ⟨fun {ρ Ω Φ} h {P F H σ Q} o rp k => fun p hp => ?_⟩⟩
  have nP : P p = none := o.pf.free hp
  have nF : F p = none := o.ex.free hp
  have n0 : (enX X G).H0 p = none := o.dm p hp
  have nP0 : (enX X G).P0 p = none := o.p0.free nP
  refine q1.go h (o.guard (o := .dK []) hp) rp fun {ws kvs Ω' F' H'} z o' s r => ?_
  refine ⟨o'.pf p _ upd_same, ws, rfl, by rw [r.length]; exact z.1, ?_⟩
  have nF' : F' p = none := o'.pF p (by rw [upd_same]; exact fun z => by cases z)
  have o2 := o'.poke (o' := .dK (mergeK [] ws)) nP0 nF' nP
  have o3 := o2.adopt (c := .dk (mergeS [] kvs)) o.p0 nP (rpd_merge r .nil)
  exact k (z.2 p (hm _ rfl p n0)) o3 s rfl
/-- {}, a new one -/
def aDNew (Fr : Addr → Prop) : AE := fun _ Ω Φ => ∀ p, Fr p → Φ (.r (.ref p)) ((p, .dk []) :: Ω)
theorem je_dnew {Fr : Addr → Prop} (hm : MOk (enX X G) (some Fr)) : JE X G (.Dict [] [] pos) (aDNew Fr) :=
  ⟨_, pe_dnewK, ⟨fun {ρ Ω Φ} h {P F H σ Q} o rp k => fun p hp => k (h p (hm _ rfl p (o.dm p hp))) (o.newO (c := .dk []) hp .nil) (Same.refl F) rfl⟩⟩
end
end Z
/-! Zt: x[::-1] of a tuple or a list. -/
namespace Z
open PySem PySem.Spec PyProof.Rows L2 HT
section
variable {prog : Program} {w : World} {A : Around} {E : Value → Shared → Prop} {s : Shared}
theorem sliceApplied_rev {sl : Addr} {t : Tok} {n : Nat} {Q : Int × Int × Nat → Shared → Prop} (hs : s.heap.IsSliceOf sl .none .none (.int (-1) t))
    (h : Q ((n : Int) - 1, -1, n) s) : wpAny (model prog w) A (Builtin.Slice.sliceApplied (.ref sl) (pure (n : Int))) Q E s := by
  obtain ⟨os, hos, hcs, hds⟩ := id hs
  unfold Builtin.Slice.sliceApplied Builtin.Slice.sliceFields
  refine wpAny_bind (wpAny_bind (wpAny_field hos hds (x := .none) rfl (wpAny_bind (wpAny_field hos hds (x := .none) rfl (wpAny_bind (wpAny_field hos hds (x := .int (-1) t) rfl (wpAny_pure ?_)))))))
  refine wpAny_bind (slicePart_int ?_)
  show wpAny _ _ (if ((-1 : Int) == 0) = true then _ else _) _ _ s
  rw [if_neg (by decide)]
  refine wpAny_bind (slicePart_none (wpAny_bind (slicePart_none (wpAny_bind (wpAny_pure ?_)))))
  show wpAny _ _ (match Builtin.Slice.sliceAdjust none none (-1) (n : Int) with | (lo, hi) => pure (lo, (-1 : Int), Builtin.Slice.slicePlaces lo hi (-1))) _ _ s
  have e1 : Builtin.Slice.sliceAdjust none none (-1) (n : Int) = ((n : Int) - 1, -1) := rfl
  rw [e1]
  have e2 : Builtin.Slice.slicePlaces ((n : Int) - 1) (-1) (-1) = n := by
    unfold Builtin.Slice.slicePlaces
    have h1 : ¬ ((-1 : Int) > 0) := by omega
    rw [if_neg h1, show (- -1 : Int) = 1 by decide, Int.ediv_one]
    split <;> omega
  show wpAny _ _ (pure ((n : Int) - 1, (-1 : Int), Builtin.Slice.slicePlaces ((n : Int) - 1) (-1) (-1))) _ _ s
  rw [e2]
  exact wpAny_pure h
theorem pick_rev (xs : Array Value) : ((List.range xs.size).filterMap fun (m : Nat) => xs[(((xs.size : Nat) : Int) - 1 + (m : Int) * -1).toNat]?).toArray = xs.toList.reverse.toArray := by
  have e : (List.range xs.size).filterMap (fun (m : Nat) => xs[(((xs.size : Nat) : Int) - 1 + (m : Int) * -1).toNat]?) = ((List.range xs.size).map fun k => xs.size - 1 - k).filterMap (xs[·]?) := by
    rw [List.filterMap_map]
    have g : ∀ l : List Nat, (∀ m ∈ l, m < xs.size) → l.filterMap (fun (m : Nat) => xs[(((xs.size : Nat) : Int) - 1 + (m : Int) * -1).toNat]?) = l.filterMap ((fun x => xs[x]?) ∘ fun k => xs.size - 1 - k) := by
      intro l
      induction l with
      | nil => intro _; rfl
      | cons m r ih =>
        intro h
        have := h m List.mem_cons_self
        have e : (((xs.size : Nat) : Int) - 1 + (m : Int) * -1).toNat = xs.size - 1 - m := by omega
        rw [List.filterMap_cons, List.filterMap_cons, ih fun x hx => h x (List.mem_cons_of_mem _ hx), e]
        rfl
    exact g _ fun m hm => List.mem_range.mp hm
  rw [e, PySem.W.krv_range, List.filterMap_reverse, PySem.W.krv_all]
theorem getItem_tuple_rev {t sl : Addr} {items : Array Value} {tk : Tok} {Q : Value → Shared → Prop} (ht : IsTup s.heap t items) (hs : s.heap.IsSliceOf sl .none .none (.int (-1) tk))
    (h : Q (.ref s.heap.objs.size) { s with heap := s.heap.push { cls := .type "tuple", data := .seq items.toList.reverse.toArray } })
    (hsz : items.size ≤ sizeLine) : wpAny (model prog w) A (getItem (.ref t) (.ref sl)) Q E s := by
  have htake : sizeOk (.seq items.toList.reverse.toArray) := by
    show items.toList.reverse.toArray.size ≤ sizeLine
    rw [List.size_toArray, List.length_reverse, Array.length_toList]
    omega
  obtain ⟨os, hos, hcs, hds⟩ := id hs
  have hTs : s.TypeIs (.ref sl) "slice" := ⟨os, hos, hcs⟩
  unfold getItem
  try with_reducible refine wpAny_holding ?_
  first | refine wpAny_bind (wpAny_pure ?_) | skip
  refine wpAny_bind (wpAny_sequenceKey ht.typeIs (by decide) ?_)
  refine wpAny_bind (wpAny_callSpecial?_slot (name := Str.ofString "__getitem__") ht.typeIs PyProof.Rows.slot_tuple_getitem
    (wpAny_call_entry PyProof.Rows.slot_tuple_getitem ht.typeIs entry_tuple_getitem ?_ (args_tuple_getitem _ _)))
  show wpAny _ _ (Builtin.Tuple.tupleItemsOf (.ref t) >>= _) _ _ s
  refine wpAny_bind (tupleItemsOf_ ht ?_)
  refine wpAny_bind (wpAny_typeOf hTs ?_)
  rw [if_pos (by decide)]
  refine wpAny_bind (sliceApplied_rev hs ?_)
  have hno : ¬ ((((items.size : Nat) : Int) - 1 == 0 && (-1 : Int) == 1 && items.size == items.size) = true) := by
    intro q
    rw [Bool.and_eq_true, Bool.and_eq_true] at q
    have q1 : (-1 : Int) = 1 := eq_of_beq q.1.2
    omega
  show wpAny _ _ (if (((items.size : Nat) : Int) - 1 == 0 && (-1 : Int) == 1 && items.size == items.size) = true then _ else _) _ _ s
  rw [if_neg hno, pick_rev]
  first
    | exact wpAny_bind (m := Builtin.Tuple.tupleExact _) (wpAny_newObj_type (wpAny_pure ⟨_, rfl, wpAny_pure h⟩) htake)
    | exact wpAny_bind (m := Builtin.Tuple.tupleExact _) (wpAny_newObj_type (wpAny_bind (wpAny_pure (wpAny_pure ⟨_, rfl, wpAny_pure h⟩))) htake)
    | exact wpAny_bind (wpAny_bind (m := Builtin.Tuple.tupleExact _) (wpAny_newObj_type (wpAny_pure (wpAny_pure ⟨_, rfl, wpAny_pure h⟩)) htake))
    | exact wpAny_bind (wpAny_bind (m := Builtin.Tuple.tupleExact _) (wpAny_newObj_type (wpAny_pure ⟨_, rfl, wpAny_pure h⟩) htake))
end
def tRev2 (K : PySem.W.Frag) (te : TE) : TE := fun σ H Q => te σ H fun x H1 =>
  (∃ a xs, x = .ref a ∧ SqL K H1 a xs ∧ ∀ p, H1 p = none → Q (.ref p) (upd H1 p (.lst xs.reverse))) ∨ ∃ a xs, x = .ref a ∧ SqT K H1 a xs ∧ ∀ p, H1 p = none → Q (.ref p) (upd H1 p (.tup xs.reverse))
theorem pe_rev2 {X : Cx} {e : Expr} {te : TE} {k : Nat} {p1 p2 p3 pos : Pos} (he : PE X e te) : PE X (.Subscript e (.Slice none none (some (.UnaryOp .USub (.Constant (.int 1) k p1) p2)) p3) pos) (tRev2 X.K te) := by
  refine ⟨fun pins s σ H Q I h => ?_⟩
  refine Subscript_ (thn (he.run pins s σ H _ I h) fun v s1 ⟨x, H1, I1, r1, q1⟩ => ?_)
  have hst : PO X (some (.UnaryOp .USub (.Constant (.int 1) k p1) p2)) (tPart (tUn (rU fun i => .int (-i)) (tC (.int 1)))) := po_some (pe_un un_neg pe_int)
  refine wpAny_Slice (thn (po_none.run pins s1 σ H1 (fun o H2 => o = none ∧ H2 = H1) I1 ⟨rfl, rfl⟩) fun vl s2 ⟨l, H2, I2, pl, el, e2⟩ => ?_)
  subst el e2
  refine thn (po_none.run pins s2 σ H2 (fun o H3 => o = none ∧ H3 = H2) I2 ⟨rfl, rfl⟩) fun vu s3 ⟨u, H3, I3, pu, eu, e3⟩ => ?_
  subst eu e3
  refine thn (hst.run pins s3 σ H3 (fun o H4 => o = some (-1) ∧ H4 = H3) I3 ⟨1, rfl, -1, rfl, rfl, rfl⟩) fun vs s4 ⟨o, H4, I4, ps, eo, e4⟩ => ?_
  subst eo e4
  have I5 : Inv X pins σ H4 { s4 with heap := s4.heap.push { cls := .type "slice", data := .fields #[vl, vu, vs] } } := I4.kept (t' := s4.toks) fun b ob q => Heap.get?_push_of_some _ q
  rcases q1 with ⟨a, xs, ex, hx, q⟩ | ⟨a, xs, ex, hx, q⟩
  · subst ex
    cases r1
    obtain ⟨its, r, ht, hz⟩ := I5.list hx
    have hlen := r.length
    show wpAny (model X.prog X.w) X.A (subscriptTail e (.Slice none none (some (.UnaryOp .USub (.Constant (.int 1) k p1) p2)) p3) (.ref a) (.ref s4.heap.objs.size)) (EP X pins σ Q) X.xe { s4 with heap := s4.heap.push { cls := .type "slice", data := .fields #[vl, vu, vs] } }
    refine tail_any (ops := [.ref a, .ref s4.heap.objs.size]) ht.isList.typeIs (PySem.slot_list_getitem.lookup) ?_ (by with_unfolding_all rfl)
    refine wpAny_getItem_list_slice ht.isList (Heap.IsSliceOf.new _ vl vu vs) pl pu ps (by decide) ?_ (by rw [List.size_toArray]; omega)
    rw [PySem.W.krv_pick]
    refine ⟨.ref _, _, I5.laid (t' := s4.toks) (o := .lst xs.reverse) (fun b ob q => Heap.get?_push_of_some _ q) (Nat.le_refl _) ?_, rfl, q _ (I5.hok.fresh (Nat.le_refl _))⟩
    exact ⟨by rw [List.length_reverse]; exact hz, _, 0, r.reverse, Heap.get?_push_size _ rfl⟩
  · subst ex
    cases r1
    cases pl
    cases pu
    obtain ⟨tk, rfl⟩ : ∃ tk, vs = .int (-1) tk := by cases ps with | int i t => exact ⟨_, rfl⟩
    obtain ⟨its, r, ht, hz⟩ := I5.tuple hx
    have hlen := r.length
    show wpAny (model X.prog X.w) X.A (subscriptTail e (.Slice none none (some (.UnaryOp .USub (.Constant (.int 1) k p1) p2)) p3) (.ref a) (.ref s4.heap.objs.size)) (EP X pins σ Q) X.xe { s4 with heap := s4.heap.push { cls := .type "slice", data := .fields #[.none, .none, .int (-1) tk] } }
    refine tail_any (ops := [.ref a, .ref s4.heap.objs.size]) ht.typeIs PyProof.Rows.slot_tuple_getitem.lookup ?_ (by with_unfolding_all rfl)
    refine getItem_tuple_rev ht (Heap.IsSliceOf.new _ _ _ _) ?_ (by rw [List.size_toArray]; omega)
    refine ⟨.ref _, _, I5.laid (t' := s4.toks) (o := .tup xs.reverse) (fun b ob q => Heap.get?_push_of_some _ q) (Nat.le_refl _) ?_, rfl, q _ (I5.hok.fresh (Nat.le_refl _))⟩
    exact ⟨by rw [List.length_reverse]; exact hz, _, r.reverse, _, Heap.get?_push_size _ rfl, rfl, 0, rfl⟩
def aRev2 (m : Mode) (a : AE) : AE := fun ρ Ω Φ => a ρ Ω fun x Ω' => match x with
  | .d (.tuple ds) => Φ (.d (.tuple ds.reverse)) Ω'
  | x => rdL x Ω' fun ds => newL m ds.reverse Ω' Φ
theorem je_rev2 {X : Cx} {G : Gn} {e : Expr} {aa : AE} {m : Mode} {k : Nat} {p1 p2 p3 pos : Pos} (hm : MOk (enX X G) m) (ha : JE X G e aa) : JE X G (.Subscript e (.Slice none none (some (.UnaryOp .USub (.Constant (.int 1) k p1) p2)) p3) pos) (aRev2 m aa) := by
  obtain ⟨t, h1, h2⟩ := ha
  refine ⟨_, pe_rev2 h1, ⟨fun {ρ Ω Φ} h {P F H σ Q} o rp k => h2.go h o rp fun {v sv Ω1 F1 H1} q o1 s1 r1 => ?_⟩⟩
  dsimp only at q
  split at q
  · obtain ⟨a, vs, rfl, hs, da⟩ := dqt r1
    refine .inr ⟨a, vs, rfl, sqt_same o1.ex hs, fun p hp => ?_⟩
    obtain ⟨o2, s2⟩ := o1.newF (o := .tup vs.reverse) hp
    exact k q o2 (s1.trans s2) (Dq.tup (SqT.of upd_same) (dqa_same s2 _ _ (dqa_rev da)))
  · obtain ⟨p, vs, ds, rfl, hs, da, q⟩ := rdL_ok q o1 r1
    exact .inl ⟨p, vs, rfl, SqL.of hs, fun z hz => newL_ok hm o1 (dqa_rev da) q (fun q2 o2 s2 r2 => k q2 o2 (s1.trans s2) r2) hz⟩
end Z
namespace Z
open PySem PySem.Spec PyProof.Rows L2
/-! ### a factor that is small -/
abbrev arMulC : AR := arI CMul fun i j => .int (i * j)
theorem jo_mulC {X : Cx} {G : Gn} : JOp X G (binaryOp .Mult) arMulC := ⟨_, op_mul, arI_ok fun _ _ _ => .int _⟩
/-! ### the deck of a law: a dict of a list and two numbers -/
def dkv (g m t : SV) : List Ent := [(.inr "great", g), (.inr "mixed", m), (.inr "turns", t)]
theorem kgm : ((.inr "great" : Key) = .inr "mixed") = False := by simp only [eq_iff_iff, iff_false]; decide +kernel
theorem kgt : ((.inr "great" : Key) = .inr "turns") = False := by simp only [eq_iff_iff, iff_false]; decide +kernel
theorem kmg : ((.inr "mixed" : Key) = .inr "great") = False := by simp only [eq_iff_iff, iff_false]; decide +kernel
theorem kmt : ((.inr "mixed" : Key) = .inr "turns") = False := by simp only [eq_iff_iff, iff_false]; decide +kernel
theorem ktg : ((.inr "turns" : Key) = .inr "great") = False := by simp only [eq_iff_iff, iff_false]; decide +kernel
theorem ktm : ((.inr "turns" : Key) = .inr "mixed") = False := by simp only [eq_iff_iff, iff_false]; decide +kernel
theorem dkv_g {g m t : SV} : valS (dkv g m t) (.inr "great") = some g := by unfold valS dkv; rw [List.find?_cons]; simp
theorem dkv_m {g m t : SV} : valS (dkv g m t) (.inr "mixed") = some m := by unfold valS dkv; rw [List.find?_cons, List.find?_cons]; simp only [kgm, decide_false, decide_true, Option.map_some]
theorem dkv_t {g m t : SV} : valS (dkv g m t) (.inr "turns") = some t := by unfold valS dkv; rw [List.find?_cons, List.find?_cons, List.find?_cons]; simp only [kgt, kmt, decide_false, decide_true, Option.map_some]
theorem dkv_pm {g m t x : SV} : putS (dkv g m t) (.inr "mixed") x = dkv g x t := by
  unfold putS dkv
  simp only [List.any_cons, List.map_cons, List.map_nil, kgm, ktm, decide_false, decide_true, Bool.false_or, Bool.true_or, if_true, if_false]
theorem dkv_pt {g m t x : SV} : putS (dkv g m t) (.inr "turns") x = dkv g m x := by
  unfold putS dkv
  simp only [List.any_cons, List.map_cons, List.map_nil, kgt, kmt, decide_false, decide_true, Bool.false_or, Bool.true_or, if_true, if_false]
theorem dkv_new {g m t : SV} : mergeS [] [(.inr "great", g), (.inr "mixed", m), (.inr "turns", t)] = dkv g m t := by
  unfold mergeS dkv putS
  simp only [List.foldl_cons, List.foldl_nil, List.any_nil, List.any_cons, List.nil_append, List.cons_append, kgm, kgt, kmt, decide_false, Bool.or_false, Bool.false_eq_true, if_false]
structure DeckOk (m t : Int) (is : List Int) : Prop where
  m0 : 0 ≤ m
  m1 : m < 4294967291
  t0 : 0 ≤ t
  i0 : ∀ i ∈ is, 0 ≤ i
  ln : is.length ≤ 63
inductive Deck (x : SV) (L R : Om) : Om → Prop where
  | mk {b c : Addr} {m t : Int} {is : List Int} : x = .r (.ref b) → DeckOk m t is → Deck x L R (L ++ (b, .dk (dkv (.r (.ref c)) (I m) (I t))) :: (c, .lst (isD is)) :: R)
theorem Deck.push {x : SV} {L R Ω : Om} (h : Deck x L R Ω) (p : Addr × OC) : Deck x (p :: L) R (p :: Ω) := by
  obtain ⟨h1, h2⟩ := h
  exact .mk (L := p :: L) h1 h2
theorem Deck.pop {x : SV} {p : Addr × OC} {L R Ω : Om} (h : Deck x (p :: L) R Ω) : ∃ Ω2, Ω = p :: Ω2 ∧ Deck x L R Ω2 := by
  obtain ⟨h1, h2⟩ := h
  exact ⟨_, rfl, .mk h1 h2⟩
inductive DDrawC : Con where
  | mk {x : SV} {below : Int} {L R Ω : Om} {Φ : PhiE} {Ξ : XA} : Deck x L R Ω → 0 < below → below < 2 ^ 240 → (∀ r Ω', 0 ≤ r → r < below → Deck x L R Ω' → Φ (I r) Ω') → DDrawC [x, I below] Ω Φ Ξ
theorem DDrawC.ari : Ari DDrawC 2 := by rintro _ _ _ _ ⟨_, _, _, _⟩; rfl
inductive DPickC : Con where
  | mk {x : SV} {ds : List PyData} {L R Ω : Om} {Φ : PhiE} {Ξ : XA} : Deck x L R Ω → ds ≠ [] → ds.length < 2 ^ 60 → (∀ d ∈ ds, ∀ Ω', Deck x L R Ω' → Φ (.d d) Ω') → DPickC [x, .d (.list ds)] Ω Φ Ξ
theorem DPickC.ari : Ari DPickC 2 := by rintro _ _ _ _ ⟨_, _, _, _⟩; rfl
inductive DeckC (k : Nat) : Con where
  | mk {ns : List Int} {Φ : PhiE} {Ξ : XA} : ScrOk k ns → (∀ x Ω, Deck x [] [] Ω → Φ x Ω) → DeckC k [.l (isD ns)] [] Φ Ξ
theorem DeckC.ari {k : Nat} : Ari (DeckC k) 1 := by rintro _ _ _ _ ⟨_, _⟩; rfl
end Z
namespace Z
theorem len_repD {α : Type} (xs : List α) (k : Int) : (repD xs k).length = k.toNat * xs.length := by
  unfold repD
  rw [List.length_flatten, List.map_replicate, List.sum_replicate_nat]
end Z
namespace KK
open PySem PySem.Spec PyProof.Rows L2 Z
structure Cls where
  BaseError : Addr
  Unfit : Addr
end KK
/-! M77: the plain law of mirrored numbers. -/
namespace KK
open PySem PySem.Spec PyProof.Rows L2 Z
/-! ### figures and values -/
def figF (b : Nat) : Nat → Nat → List Nat
  | 0, _ => []
  | f + 1, n => if n = 0 then [] else n % b :: figF b f (n / b)
def fig (b n : Nat) : List Nat := figF b n n
def val (b : Nat) : List Nat → Nat
  | [] => 0
  | d :: r => d + b * val b r
theorem div_lt' {b n : Nat} (hb : 2 ≤ b) (hn : 0 < n) : n / b < n := Nat.div_lt_self hn (by omega)
theorem figF_more {b : Nat} (hb : 2 ≤ b) : ∀ (f n : Nat), n ≤ f → figF b f n = fig b n
  | 0, n, h => by
    obtain rfl : n = 0 := by omega
    rfl
  | f + 1, n, h => by
    unfold fig
    match n, h with
    | 0, _ => rfl
    | n + 1, h =>
      show (if n + 1 = 0 then [] else _) = if n + 1 = 0 then [] else _
      rw [if_neg (by omega), if_neg (by omega)]
      have l := div_lt' (b := b) (n := n + 1) hb (by omega)
      rw [figF_more hb f _ (by omega), figF_more hb n _ (by omega)]
theorem fig_zero {b : Nat} : fig b 0 = [] := rfl
theorem fig_pos {b n : Nat} (hb : 2 ≤ b) (hn : 0 < n) : fig b n = n % b :: fig b (n / b) := by
  obtain ⟨m, rfl⟩ : ∃ m, n = m + 1 := ⟨n - 1, by omega⟩
  show (if m + 1 = 0 then [] else (m + 1) % b :: figF b m ((m + 1) / b)) = _
  rw [if_neg (by omega)]
  have l := div_lt' (b := b) (n := m + 1) hb (by omega)
  rw [figF_more hb m _ (by omega)]
theorem val_fig {b : Nat} (hb : 2 ≤ b) : ∀ (f n : Nat), n ≤ f → val b (fig b n) = n
  | 0, n, h => by
    obtain rfl : n = 0 := by omega
    rfl
  | f + 1, n, h => by
    rcases Nat.eq_zero_or_pos n with rfl | p
    · rfl
    · rw [fig_pos hb p]
      show n % b + b * val b (fig b (n / b)) = n
      have l := div_lt' hb p
      rw [val_fig hb f _ (by omega)]
      exact Nat.mod_add_div n b
theorem fig_lt {b : Nat} (hb : 2 ≤ b) : ∀ (f n : Nat), n ≤ f → ∀ d ∈ fig b n, d < b
  | 0, n, h => by
    obtain rfl : n = 0 := by omega
    intro d hd
    cases hd
  | f + 1, n, h => by
    rcases Nat.eq_zero_or_pos n with rfl | p
    · intro d hd
      cases hd
    · rw [fig_pos hb p]
      intro d hd
      have l := div_lt' hb p
      rcases List.mem_cons.mp hd with rfl | hd
      · exact Nat.mod_lt _ (by omega)
      · exact fig_lt hb f _ (by omega) d hd
theorem fig_ne {b n : Nat} (hb : 2 ≤ b) (hn : 0 < n) : fig b n ≠ [] := by
  rw [fig_pos hb hn]
  exact List.cons_ne_nil _ _
/-- the top figure is not nought -/
theorem fig_top {b : Nat} (hb : 2 ≤ b) : ∀ (f n : Nat), n ≤ f → ∀ d, (fig b n).getLast? = some d → d ≠ 0
  | 0, n, h => by
    obtain rfl : n = 0 := by omega
    intro d hd
    cases hd
  | f + 1, n, h => by
    rcases Nat.eq_zero_or_pos n with rfl | p
    · intro d hd
      cases hd
    · rw [fig_pos hb p]
      intro d hd
      have l := div_lt' hb p
      rcases Nat.eq_zero_or_pos (n / b) with z | q
      · rw [z] at hd
        have e : d = n % b := by cases hd; rfl
        have := Nat.mod_add_div n b
        rw [z] at this
        omega
      · have ne := fig_ne hb q
        rw [List.getLast?_cons_of_ne_nil ne] at hd
        exact fig_top hb f _ (by omega) d hd
theorem fig_val {b : Nat} (hb : 2 ≤ b) : ∀ w : List Nat, (∀ d ∈ w, d < b) → (∀ d, w.getLast? = some d → d ≠ 0) → fig b (val b w) = w
  | [], _, _ => rfl
  | d :: r, h1, h2 => by
    have hd := h1 d List.mem_cons_self
    have ih := fig_val hb r (fun e he => h1 e (List.mem_cons_of_mem _ he)) fun e he => h2 e (by
      cases r with
      | nil => cases he
      | cons a t => rw [List.getLast?_cons_of_ne_nil (List.cons_ne_nil _ _)]; exact he)
    have pos : 0 < val b (d :: r) := by
      show 0 < d + b * val b r
      rcases Nat.eq_zero_or_pos d with z | z
      · cases r with
        | nil => exact absurd z (h2 d rfl)
        | cons a t =>
          rcases Nat.eq_zero_or_pos (val b (a :: t)) with y | y
          · rw [y] at ih
            cases ih
          · have := Nat.mul_pos (show 0 < b by omega) y
            omega
      · omega
    rw [fig_pos hb pos]
    have e1 : val b (d :: r) % b = d := by
      show (d + b * val b r) % b = d
      rw [Nat.add_mul_mod_self_left, Nat.mod_eq_of_lt hd]
    have e2 : val b (d :: r) / b = val b r := by
      show (d + b * val b r) / b = _
      rw [Nat.add_mul_div_left _ _ (by omega), Nat.div_eq_of_lt hd, Nat.zero_add]
    rw [e1, e2, ih]
theorem val_app {b : Nat} : ∀ u v : List Nat, val b (u ++ v) = val b u + b ^ u.length * val b v
  | [], v => by simp [val]
  | d :: r, v => by
    show d + b * val b (r ++ v) = d + b * val b r + b ^ (r.length + 1) * val b v
    rw [val_app r v, Nat.mul_add, Nat.pow_succ, Nat.mul_comm (b ^ r.length) b, Nat.mul_assoc]
    omega
theorem val_lt {b : Nat} (hb : 1 ≤ b) : ∀ w : List Nat, (∀ d ∈ w, d < b) → val b w < b ^ w.length
  | [], _ => by simp [val]
  | d :: r, h => by
    have hd := h d List.mem_cons_self
    have ih := val_lt hb r fun e he => h e (List.mem_cons_of_mem _ he)
    show d + b * val b r < b ^ (r.length + 1)
    rw [Nat.pow_succ, Nat.mul_comm _ b]
    have := Nat.mul_le_mul_left b (show val b r + 1 ≤ b ^ r.length by omega)
    rw [Nat.mul_add, Nat.mul_one] at this
    omega
theorem fig_bnd {b n : Nat} (hb : 2 ≤ b) (hn : 0 < n) : b ^ ((fig b n).length - 1) ≤ n ∧ n < b ^ (fig b n).length := by
  have h2 := val_lt (b := b) (by omega) _ (fig_lt hb n n (Nat.le_refl _))
  rw [val_fig hb n n (Nat.le_refl _)] at h2
  refine ⟨?_, h2⟩
  have ne := fig_ne hb hn
  have sp : fig b n = (fig b n).dropLast ++ [(fig b n).getLast ne] := (List.dropLast_concat_getLast ne).symm
  have top := fig_top hb n n (Nat.le_refl _) _ (List.getLast?_eq_some_getLast ne)
  have v := val_fig hb n n (Nat.le_refl _)
  rw [sp, val_app, List.length_dropLast] at v
  have e : val b [(fig b n).getLast ne] = (fig b n).getLast ne := by simp [val]
  rw [e] at v
  have := Nat.mul_le_mul_left (b ^ ((fig b n).length - 1)) (show 1 ≤ (fig b n).getLast ne by omega)
  omega
theorem fig_len {b n k : Nat} (hb : 2 ≤ b) (hn : n < 2 ^ k) : (fig b n).length ≤ k := by
  rcases Nat.eq_zero_or_pos n with rfl | p
  · rw [fig_zero]; exact Nat.zero_le _
  · have h := (fig_bnd hb p).1
    have h2 : 2 ^ ((fig b n).length - 1) ≤ b ^ ((fig b n).length - 1) := Nat.pow_le_pow_left hb _
    have h3 : 2 ^ ((fig b n).length - 1) < 2 ^ k := by omega
    have := (Nat.pow_lt_pow_iff_right (show 1 < 2 by decide)).mp h3
    omega
/-! ### turned about -/
def turn (b n : Nat) : Nat := val b (fig b n).reverse
def tlF (b : Nat) : Nat → Nat → Nat → Nat
  | 0, _, acc => acc
  | f + 1, n, acc => if n = 0 then acc else tlF b f (n / b) (acc * b + n % b)
theorem tlF_eq {b : Nat} (hb : 2 ≤ b) : ∀ (f n acc : Nat), n ≤ f → tlF b f n acc = acc * b ^ (fig b n).length + turn b n
  | 0, n, acc, h => by
    obtain rfl : n = 0 := by omega
    simp [tlF, fig_zero, turn, val]
  | f + 1, n, acc, h => by
    unfold tlF
    rcases Nat.eq_zero_or_pos n with rfl | p
    · simp [fig_zero, turn, val]
    · rw [if_neg (by omega)]
      have l := div_lt' hb p
      rw [tlF_eq hb f _ _ (by omega)]
      unfold turn
      rw [fig_pos hb p, List.reverse_cons, val_app, List.length_reverse, List.length_cons, Nat.add_mul, Nat.pow_succ]
      have e : val b [n % b] = n % b := by simp [val]
      rw [e, Nat.mul_assoc, Nat.mul_comm b (b ^ _), Nat.mul_comm (b ^ (fig b (n / b)).length) (n % b)]
      omega
theorem turn_tl {b n f : Nat} (hb : 2 ≤ b) (hf : n ≤ f) : turn b n = tlF b f n 0 := by rw [tlF_eq hb f n 0 hf]; simp
theorem turn_lt {b n : Nat} (hb : 2 ≤ b) (hn : 0 < n) : turn b n < b * n := by
  have h := val_lt (b := b) (by omega) (fig b n).reverse fun d hd => fig_lt hb n n (Nat.le_refl _) d (List.mem_reverse.mp hd)
  rw [List.length_reverse] at h
  have k := (fig_bnd hb hn).1
  have ne : 0 < (fig b n).length := List.length_pos_iff.mpr (fig_ne hb hn)
  have e : b ^ (fig b n).length = b * b ^ ((fig b n).length - 1) := by
    rw [Nat.mul_comm, ← Nat.pow_succ]
    congr 1
    omega
  have := Nat.mul_le_mul_left b k
  unfold turn
  omega
theorem turn_zero {b : Nat} : turn b 0 = 0 := rfl
theorem val_rev_fig {b n : Nat} (hb : 2 ≤ b) (h : n % b ≠ 0) : fig b (turn b n) = (fig b n).reverse := by
  have p : 0 < n := by
    rcases Nat.eq_zero_or_pos n with rfl | p
    · exact absurd (Nat.zero_mod b) h
    · exact p
  refine fig_val hb _ (fun d hd => fig_lt hb n n (Nat.le_refl _) d (List.mem_reverse.mp hd)) fun d hd => ?_
  rw [List.getLast?_reverse, fig_pos hb p] at hd
  cases hd
  exact h
/-- turned about twice -/
theorem turn_turn {b n : Nat} (hb : 2 ≤ b) : turn b (turn b n) = n ↔ (n = 0 ∨ n % b ≠ 0) := by
  constructor
  · intro e
    rcases Nat.eq_zero_or_pos n with z | p
    · exact .inl z
    · refine .inr fun z => ?_
      -- the last figure of what is turned about is the top one
      have last : ∀ m, 0 < m → turn b m % b ≠ 0 := by
        intro m hm
        unfold turn
        have ne := fig_ne hb hm
        have top := fig_top hb m m (Nat.le_refl _) _ (List.getLast?_eq_some_getLast ne)
        have lt := fig_lt hb m m (Nat.le_refl _) _ (List.getLast_mem ne)
        have sp : (fig b m).reverse = (fig b m).getLast ne :: (fig b m).dropLast.reverse := by
          conv => lhs; rw [(List.dropLast_concat_getLast ne).symm]
          rw [List.reverse_append]
          rfl
        rw [sp]
        show ((fig b m).getLast ne + b * _) % b ≠ 0
        rw [Nat.add_mul_mod_self_left, Nat.mod_eq_of_lt lt]
        exact top
      rcases Nat.eq_zero_or_pos (turn b n) with y | y
      · rw [y, turn_zero] at e
        omega
      · have := last _ y
        rw [e] at this
        exact this z
  · rintro (rfl | h)
    · rfl
    · unfold turn
      have := val_rev_fig hb h
      unfold turn at this
      rw [this, List.reverse_reverse, val_fig hb n n (Nat.le_refl _)]
/-- the walk -/
def wk (b : Nat) : Nat → Nat → List Nat
  | 0, n => [n]
  | s + 1, n => if turn b n = n then [n] else n :: wk b s (n + turn b n)
/-! ### mirrored numbers in their order -/
def cnt (b s : Nat) : Nat := if s = 0 then 1 else (b - 1) * b ^ ((s - 1) / 2)
def ahead (b : Nat) : Nat → Nat
  | 0 => 0
  | s + 1 => ahead b s + cnt b s
def lowd (b s h : Nat) : List Nat := if s % 2 = 0 then fig b h else (fig b h).drop 1
def pal (b s h : Nat) : Nat := val b ((fig b h).reverse ++ lowd b s h)
def palS (b s l : Nat) : Nat := if s = 0 then 0 else pal b s (b ^ ((s - 1) / 2) + l)
def szF (b : Nat) : Nat → Nat → Nat → Nat × Nat
  | 0, s, l => (s, l)
  | f + 1, s, l => if l < cnt b s then (s, l) else szF b f (s + 1) (l - cnt b s)
def atV (b p : Nat) : Nat := palS b (szF b p 0 p).1 (szF b p 0 p).2
theorem cnt_pos {b s : Nat} (hb : 2 ≤ b) : 1 ≤ cnt b s := by
  unfold cnt
  split
  · exact Nat.le_refl _
  · exact Nat.mul_pos (by omega) (Nat.pow_pos (by omega))
theorem szF_ok {b : Nat} (hb : 2 ≤ b) : ∀ (f s l : Nat), l ≤ f → (szF b f s l).2 < cnt b (szF b f s l).1 ∧ ahead b (szF b f s l).1 + (szF b f s l).2 = ahead b s + l ∧ s ≤ (szF b f s l).1
  | 0, s, l, h => by
    obtain rfl : l = 0 := by omega
    exact ⟨cnt_pos hb, rfl, Nat.le_refl _⟩
  | f + 1, s, l, h => by
    unfold szF
    have c := cnt_pos (s := s) hb
    by_cases z : l < cnt b s
    · rw [if_pos z]
      exact ⟨z, rfl, Nat.le_refl _⟩
    · rw [if_neg z]
      obtain ⟨h1, h2, h3⟩ := szF_ok hb f (s + 1) (l - cnt b s) (by omega)
      refine ⟨h1, ?_, by omega⟩
      rw [h2]
      show ahead b s + cnt b s + (l - cnt b s) = _
      omega
theorem ahead_mono {b : Nat} (hb : 2 ≤ b) {s t : Nat} (h : s ≤ t) : ahead b s ≤ ahead b t := by
  induction h with
  | refl => exact Nat.le_refl _
  | @step t _ ih => exact Nat.le_trans ih (Nat.le_add_right ..)
theorem at_uniq {b : Nat} (hb : 2 ≤ b) {s l t k : Nat} (h1 : l < cnt b s) (h2 : k < cnt b t) (e : ahead b s + l = ahead b t + k) : s = t ∧ l = k := by
  rcases Nat.lt_trichotomy s t with z | z | z
  · have := ahead_mono hb (show s + 1 ≤ t from z)
    have : ahead b (s + 1) = ahead b s + cnt b s := rfl
    omega
  · subst z
    exact ⟨rfl, by omega⟩
  · have := ahead_mono hb (show t + 1 ≤ s from z)
    have : ahead b (t + 1) = ahead b t + cnt b t := rfl
    omega
theorem atV_of {b : Nat} (hb : 2 ≤ b) {s l p : Nat} (h : l < cnt b s) (e : ahead b s + l = p) : atV b p = palS b s l := by
  obtain ⟨h1, h2, -⟩ := szF_ok hb p 0 p (Nat.le_refl _)
  have : ahead b 0 = 0 := rfl
  obtain ⟨a, c⟩ := at_uniq hb h1 h (by omega)
  unfold atV
  rw [a, c]
/-- a half of k figures -/
structure Half (b s h : Nat) : Prop where
  s0 : 1 ≤ s
  lo : b ^ ((s - 1) / 2) ≤ h
  hi : h < b ^ ((s - 1) / 2 + 1)
theorem half_of {b s l : Nat} (hb : 2 ≤ b) (hs : 1 ≤ s) (h : l < cnt b s) : Half b s (b ^ ((s - 1) / 2) + l) := by
  refine ⟨hs, Nat.le_add_right .., ?_⟩
  unfold cnt at h
  rw [if_neg (by omega)] at h
  rw [Nat.pow_succ, Nat.mul_comm]
  have e : b * b ^ ((s - 1) / 2) = b ^ ((s - 1) / 2) + (b - 1) * b ^ ((s - 1) / 2) := by
    conv => lhs; rw [show b = 1 + (b - 1) by omega]
    rw [Nat.add_mul, Nat.one_mul]
    rw [show 1 + (b - 1) = b by omega]
  omega
theorem Half.pos {b s h : Nat} (hb : 2 ≤ b) (H : Half b s h) : 0 < h := Nat.lt_of_lt_of_le (Nat.pow_pos (by omega)) H.lo
theorem Half.len {b s h : Nat} (hb : 2 ≤ b) (H : Half b s h) : (fig b h).length = (s - 1) / 2 + 1 := by
  have k := fig_bnd hb (H.pos hb)
  have h1 : b ^ ((fig b h).length - 1) < b ^ ((s - 1) / 2 + 1) := Nat.lt_of_le_of_lt k.1 H.hi
  have h2 : b ^ ((s - 1) / 2) < b ^ (fig b h).length := Nat.lt_of_le_of_lt H.lo k.2
  have h1 := (Nat.pow_lt_pow_iff_right (show 1 < b by omega)).mp h1
  have h2 := (Nat.pow_lt_pow_iff_right (show 1 < b by omega)).mp h2
  omega
theorem Half.low {b s h : Nat} (hb : 2 ≤ b) (H : Half b s h) : (lowd b s h).length = s / 2 := by
  unfold lowd
  have := H.len hb
  have := H.s0
  split
  · omega
  · rw [List.length_drop]
    omega
theorem lowd_lt {b s h : Nat} (hb : 2 ≤ b) : ∀ d ∈ lowd b s h, d < b := by
  unfold lowd
  split
  · exact fig_lt hb h h (Nat.le_refl _)
  · intro d hd
    exact fig_lt hb h h (Nat.le_refl _) d (List.mem_of_mem_drop hd)
/-- what is put down: the low half turned about, and the half -/
theorem pal_word {b s h : Nat} (hb : 2 ≤ b) (H : Half b s h) : (fig b h).reverse ++ lowd b s h = (lowd b s h).reverse ++ fig b h := by
  unfold lowd
  split
  · rfl
  · rw [fig_pos hb (H.pos hb)]
    simp
theorem pal_eq {b s h : Nat} (hb : 2 ≤ b) (H : Half b s h) : pal b s h = val b (lowd b s h).reverse + b ^ (s / 2) * h := by
  unfold pal
  rw [pal_word hb H, val_app, List.length_reverse, H.low hb, val_fig hb h h (Nat.le_refl _)]
theorem pal_low {b s h : Nat} (hb : 2 ≤ b) (H : Half b s h) : val b (lowd b s h).reverse < b ^ (s / 2) := by
  have := val_lt (b := b) (by omega) (lowd b s h).reverse fun d hd => lowd_lt hb d (List.mem_reverse.mp hd)
  rwa [List.length_reverse, H.low hb] at this
theorem pal_fig {b s h : Nat} (hb : 2 ≤ b) (H : Half b s h) : fig b (pal b s h) = (lowd b s h).reverse ++ fig b h := by
  unfold pal
  rw [pal_word hb H]
  refine fig_val hb _ (fun d hd => ?_) fun d hd => ?_
  · rcases List.mem_append.mp hd with hd | hd
    · exact lowd_lt hb d (List.mem_reverse.mp hd)
    · exact fig_lt hb h h (Nat.le_refl _) d hd
  · rw [List.getLast?_append, List.getLast?_eq_some_getLast (fig_ne hb (H.pos hb)), Option.some_or, ← List.getLast?_eq_some_getLast (fig_ne hb (H.pos hb))] at hd
    exact fig_top hb h h (Nat.le_refl _) d hd
theorem pal_len {b s h : Nat} (hb : 2 ≤ b) (H : Half b s h) : (fig b (pal b s h)).length = s := by
  rw [pal_fig hb H, List.length_append, List.length_reverse, H.low hb, H.len hb]
  have := H.s0
  omega
theorem pal_turn {b s h : Nat} (hb : 2 ≤ b) (H : Half b s h) : turn b (pal b s h) = pal b s h := by
  unfold turn
  rw [pal_fig hb H, List.reverse_append, List.reverse_reverse]
  rfl
theorem pal_half {b s h : Nat} (hb : 2 ≤ b) (H : Half b s h) : pal b s h / b ^ (s / 2) = h := by
  have p : 0 < b ^ (s / 2) := Nat.pow_pos (by omega)
  rw [pal_eq hb H, Nat.add_mul_div_left _ _ p, Nat.div_eq_of_lt (pal_low hb H), Nat.zero_add]
theorem val_drop {b : Nat} (hb : 2 ≤ b) : ∀ (k : Nat) (w : List Nat), (∀ d ∈ w, d < b) → val b (w.drop k) = val b w / b ^ k
  | 0, w, _ => by simp
  | k + 1, [], _ => by simp [val]
  | k + 1, d :: r, h => by
    rw [List.drop_succ_cons, val_drop hb k r fun e he => h e (List.mem_cons_of_mem _ he), Nat.pow_succ, Nat.mul_comm _ b, ← Nat.div_div_eq_div_mul]
    congr 1
    show _ = (d + b * val b r) / b
    rw [Nat.add_mul_div_left _ _ (by omega), Nat.div_eq_of_lt (h d List.mem_cons_self), Nat.zero_add]
/-- the place of a mirrored number -/
def plc (b n : Nat) : Nat := if n = 0 then 0 else ahead b (fig b n).length + val b ((fig b n).drop ((fig b n).length / 2)) - b ^ (((fig b n).length - 1) / 2)
theorem plc_at {b p : Nat} (hb : 2 ≤ b) : plc b (atV b p) = p ∧ turn b (atV b p) = atV b p := by
  obtain ⟨h1, h2, -⟩ := szF_ok hb p 0 p (Nat.le_refl _)
  unfold atV
  generalize szF b p 0 p = r at *
  obtain ⟨s, l⟩ := r
  dsimp only at *
  have a0 : ahead b 0 = 0 := rfl
  unfold palS
  by_cases z : s = 0
  · subst z
    rw [if_pos rfl]
    refine ⟨?_, turn_zero⟩
    unfold plc
    rw [if_pos rfl]
    unfold cnt at h1
    rw [if_pos rfl] at h1
    omega
  · rw [if_neg z]
    have H := half_of hb (show 1 ≤ s by omega) h1
    refine ⟨?_, pal_turn hb H⟩
    have np : pal b s (b ^ ((s - 1) / 2) + l) ≠ 0 := by
      intro e
      have := pal_len hb H
      rw [e, fig_zero] at this
      have : (0 : Nat) = s := this
      omega
    unfold plc
    rw [if_neg np, pal_len hb H, val_drop hb _ _ (fig_lt hb _ _ (Nat.le_refl _)), val_fig hb _ _ (Nat.le_refl _), pal_half hb H]
    omega
/-- they grow -/
theorem at_grow {b p : Nat} (hb : 2 ≤ b) : atV b p < atV b (p + 1) := by
  obtain ⟨h1, h2, -⟩ := szF_ok hb p 0 p (Nat.le_refl _)
  have a0 : ahead b 0 = 0 := rfl
  have e1 : atV b p = palS b (szF b p 0 p).1 (szF b p 0 p).2 := rfl
  rw [e1]
  generalize szF b p 0 p = r at *
  obtain ⟨s, l⟩ := r
  dsimp only at *
  by_cases z : l + 1 < cnt b s
  · rw [atV_of hb z (by omega)]
    unfold palS
    by_cases y : s = 0
    · subst y
      unfold cnt at z
      rw [if_pos rfl] at z
      omega
    · rw [if_neg y, if_neg y]
      have H1 := half_of hb (show 1 ≤ s by omega) h1
      have H2 := half_of hb (show 1 ≤ s by omega) z
      rw [pal_eq hb H1, pal_eq hb H2]
      have lo := pal_low hb H1
      rw [← Nat.add_assoc, Nat.mul_add (b ^ (s / 2)) _ 1, Nat.mul_one]
      omega
  · have c := cnt_pos (s := s + 1) hb
    have ea : ahead b (s + 1) = ahead b s + cnt b s := rfl
    rw [atV_of (s := s + 1) (l := 0) hb c (by omega)]
    unfold palS
    rw [if_neg (show s + 1 ≠ 0 by omega)]
    have H2 := half_of (s := s + 1) (l := 0) hb (by omega) c
    have p2 : 0 < pal b (s + 1) (b ^ ((s + 1 - 1) / 2) + 0) := by
      have := pal_len hb H2
      rcases Nat.eq_zero_or_pos (pal b (s + 1) (b ^ ((s + 1 - 1) / 2) + 0)) with e | e
      · rw [e, fig_zero] at this
        have : (0 : Nat) = s + 1 := this
        omega
      · exact e
    by_cases y : s = 0
    · rw [if_pos y]
      exact p2
    · rw [if_neg y]
      have H1 := half_of hb (show 1 ≤ s by omega) h1
      have p1 : 0 < pal b s (b ^ ((s - 1) / 2) + l) := by
        have := pal_len hb H1
        rcases Nat.eq_zero_or_pos (pal b s (b ^ ((s - 1) / 2) + l)) with e | e
        · rw [e, fig_zero] at this
          have : (0 : Nat) = s := this
          omega
        · exact e
      have k1 := (fig_bnd hb p1).2
      have k2 : b ^ s ≤ pal b (s + 1) (b ^ ((s + 1 - 1) / 2) + 0) := by
        have := (fig_bnd hb p2).1
        rw [pal_len hb H2] at this
        exact this
      rw [pal_len hb H1] at k1
      omega
/-- how great they are -/
theorem at_bnd {b p : Nat} (hb : 2 ≤ b) (hb2 : b ≤ 1000) (hp : p < 2 ^ 101) : atV b p < 2 ^ 239 ∧ (szF b p 0 p).1 ≤ 210 := by
  obtain ⟨h1, h2, -⟩ := szF_ok hb p 0 p (Nat.le_refl _)
  have a0 : ahead b 0 = 0 := rfl
  unfold atV
  generalize szF b p 0 p = r at *
  obtain ⟨s, l⟩ := r
  dsimp only at *
  unfold palS
  by_cases z : s = 0
  · rw [if_pos z]
    exact ⟨Nat.pow_pos (by decide), by omega⟩
  · rw [if_neg z]
    have H := half_of hb (show 1 ≤ s by omega) h1
    have np : 0 < pal b s (b ^ ((s - 1) / 2) + l) := by
      have := pal_len hb H
      rcases Nat.eq_zero_or_pos (pal b s (b ^ ((s - 1) / 2) + l)) with e | e
      · rw [e, fig_zero] at this
        have : (0 : Nat) = s := this
        omega
      · exact e
    have k1 := (fig_bnd hb np).2
    rw [pal_len hb H] at k1
    -- b to the power of (s - 2) / 2 is at most p
    have low : b ^ ((s - 2) / 2) ≤ 2 ^ 101 := by
      by_cases y : s = 1
      · subst y
        exact Nat.pow_pos (by decide)
      · have ea : ahead b s = ahead b (s - 1) + cnt b (s - 1) := by
          conv => lhs; rw [show s = (s - 1) + 1 by omega]
          rfl
        have ec : cnt b (s - 1) = (b - 1) * b ^ ((s - 2) / 2) := by
          unfold cnt
          rw [if_neg (by omega), show s - 1 - 1 = s - 2 by omega]
        have := Nat.mul_le_mul_right (b ^ ((s - 2) / 2)) (show 1 ≤ b - 1 by omega)
        omega
    have up : b ^ s ≤ 2 ^ 232 := by
      have e1 : b ^ s ≤ b ^ ((s - 2) / 2) * b ^ ((s - 2) / 2) * b ^ 3 := by
        rw [← Nat.pow_add, ← Nat.pow_add]
        exact Nat.pow_le_pow_right (by omega) (by omega)
      have e2 : b ^ ((s - 2) / 2) * b ^ ((s - 2) / 2) ≤ 2 ^ 101 * 2 ^ 101 := Nat.mul_le_mul low low
      have e3 : b ^ 3 ≤ 1000 ^ 3 := Nat.pow_le_pow_left hb2 3
      have e4 := Nat.mul_le_mul e2 e3
      have e5 : 2 ^ 101 * 2 ^ 101 * 1000 ^ 3 ≤ 2 ^ 232 := by decide
      omega
    refine ⟨Nat.lt_of_lt_of_le k1 (Nat.le_trans up (by decide)), ?_⟩
    have l2 : 2 ^ ((s - 2) / 2) ≤ 2 ^ 101 := Nat.le_trans (Nat.pow_le_pow_left hb _) low
    have := (Nat.pow_le_pow_iff_right (show 1 < 2 by decide)).mp l2
    omega
/-! ### the small ones -/
def smalls (b n : Nat) : List Nat := (List.range n).filter fun x => decide (turn b x = x)
def smT (b n : Nat) : List Nat := (List.range n).filter fun x => decide (tlF b x x 0 = x)
theorem smalls_T {b : Nat} (hb : 2 ≤ b) (n : Nat) : smalls b n = smT b n := by
  unfold smalls smT
  refine List.filter_congr fun x _ => ?_
  rw [turn_tl hb (Nat.le_refl x)]
theorem sm_all : ∀ b ∈ [2, 3, 10], smT b 201 = (List.range (smT b 201).length).map (atV b) := by decide +kernel
theorem range_pre {n m : Nat} (h : n ≤ m) : List.range n = (List.range m).take n := by
  refine List.ext_getElem? fun i => ?_
  rw [List.getElem?_take]
  by_cases z : i < n
  · rw [if_pos z, List.getElem?_range z, List.getElem?_range (by omega)]
  · rw [if_neg z, List.getElem?_eq_none (by rw [List.length_range]; omega)]
theorem smalls_at {b n : Nat} (hb : b ∈ [2, 3, 10]) (hn : n ≤ 201) : smalls b n = (List.range (smalls b n).length).map (atV b) := by
  have b2 : 2 ≤ b := by
    simp at hb
    omega
  have all := sm_all b hb
  rw [← smalls_T b2] at all
  have sp : smalls b 201 = smalls b n ++ ((List.range 201).drop n).filter fun x => decide (turn b x = x) := by
    unfold smalls
    rw [← List.filter_append, range_pre hn, List.take_append_drop]
  have tk : smalls b n = (smalls b 201).take (smalls b n).length := by
    rw [sp, List.take_left]
  have le : (smalls b n).length ≤ (smalls b 201).length := by rw [sp, List.length_append]; omega
  conv => lhs; rw [tk, all]
  rw [← List.map_take, ← range_pre le]
/-! ### never mirrored -/
def nevW (n : Nat) : List Nat := List.replicate n 0 ++ [1, 0] ++ List.replicate n 1 ++ [0, 1]
def nev (n : Nat) : Nat := val 2 (nevW n)
def wkT (b : Nat) : Nat → Nat → List Nat
  | 0, n => [n]
  | s + 1, n => if tlF b n n 0 = n then [n] else n :: wkT b s (n + tlF b n n 0)
theorem wk_T {b : Nat} (hb : 2 ≤ b) : ∀ s n : Nat, wk b s n = wkT b s n
  | 0, _ => rfl
  | s + 1, n => by
    unfold wk wkT
    rw [turn_tl hb (Nat.le_refl n), wk_T hb s]
theorem nev_all : ∀ n : Nat, n < 65 → 2 ≤ n → (wkT 2 4 (nev n)).length = 5 ∧ (wkT 2 4 (nev n)).getLast? = some (nev (n + 1)) := by decide +kernel
theorem long_all : (wkT 2 200 22).length = 201 := by decide +kernel
end KK
/-! C77: what the defs of k77 keep. -/
namespace KK
open PySem PySem.Spec PyProof.Rows L2 Z
structure Bk (b : Int) : Prop where
  b0 : 2 ≤ b
  b1 : b ≤ 1000
abbrev natD (w : List Nat) : List PyData := isD (w.map fun d => ((d : Nat) : Int))
abbrev tuI (b n : Int) : Int := ((turn b.toNat n.toNat : Nat) : Int)
abbrev wkI (b n s : Int) : List PyData := natD (wk b.toNat s.toNat n.toNat)
abbrev atI' (b p : Int) : Int := ((atV b.toNat p.toNat : Nat) : Int)
abbrev plI (b n : Int) : Int := ((plc b.toNat n.toNat : Nat) : Int)
inductive c_value_in : Con where
  | tup {w : List Nat} {b : Int} {Ω : Om} {Φ : PhiE} {Ξ : XA} : Bk b → (∀ d ∈ w, d < b.toNat) → w.length ≤ 10000 → Φ (I ((val b.toNat w : Nat) : Int)) Ω → c_value_in [T (natD w), I b] Ω Φ Ξ
inductive c_figures : Con where
  | mk {n b : Int} {Ω : Om} {Φ : PhiE} {Ξ : XA} : Bk b → 0 ≤ n → n < 2 ^ 2000 → Φ (T (natD (fig b.toNat n.toNat))) Ω → c_figures [I n, I b] Ω Φ Ξ
inductive c_raised : Con where
  | mk {b k : Int} {Ω : Om} {Φ : PhiE} {Ξ : XA} : Bk b → 0 ≤ k → k ≤ 1000 → Φ (I (b ^ k.toNat)) Ω → c_raised [I b, I k] Ω Φ Ξ
abbrev c_l_power : Con := c_raised
inductive c_turned_number : Con where
  | mk {b n : Int} {Ω : Om} {Φ : PhiE} {Ξ : XA} : Bk b → 0 ≤ n → n < 2 ^ 2000 → Φ (I (tuI b n)) Ω → c_turned_number [I b, I n] Ω Φ Ξ
abbrev c_l_turned : Con := c_turned_number
inductive c_is_mirrored : Con where
  | mk {b n : Int} {Ω : Om} {Φ : PhiE} {Ξ : XA} : Bk b → 0 ≤ n → n < 2 ^ 2000 → Φ (.d (.bool (decide (tuI b n = n)))) Ω → c_is_mirrored [I b, I n] Ω Φ Ξ
inductive c_turned_walk : Con where
  | mk {b n s : Int} {Ω : Om} {Φ : PhiE} {Ξ : XA} : Bk b → 0 ≤ n → 0 ≤ s → s ≤ 200 → n * (b + 1) ^ s.toNat < 2 ^ 2000 → Φ (T (wkI b n s)) Ω → c_turned_walk [I b, I n, I s] Ω Φ Ξ
abbrev c_l_walk : Con := c_turned_walk
inductive c_never_number : Con where
  | mk {n : Int} {Ω : Om} {Φ : PhiE} {Ξ : XA} : 2 ≤ n → n ≤ 65 → Φ (I ((nev n.toNat : Nat) : Int)) Ω → c_never_number [I n] Ω Φ Ξ
abbrev c_l_never : Con := c_never_number
inductive c_mirrored_count : Con where
  | mk {b s : Int} {Ω : Om} {Φ : PhiE} {Ξ : XA} : Bk b → 0 ≤ s → s ≤ 2000 → Φ (I ((cnt b.toNat s.toNat : Nat) : Int)) Ω → c_mirrored_count [I b, I s] Ω Φ Ξ
inductive c_mirrored_of_half : Con where
  | mk {b s h : Int} {Ω : Om} {Φ : PhiE} {Ξ : XA} : Bk b → Half b.toNat s.toNat h.toNat → 0 ≤ s → 0 ≤ h → h < 2 ^ 2000 → Φ (I ((pal b.toNat s.toNat h.toNat : Nat) : Int)) Ω → c_mirrored_of_half [I b, I s, I h] Ω Φ Ξ
inductive c_mirrored_at : Con where
  | mk {b p : Int} {Ω : Om} {Φ : PhiE} {Ξ : XA} : Bk b → 0 ≤ p → p < 2 ^ 101 → Φ (I (atI' b p)) Ω → c_mirrored_at [I b, I p] Ω Φ Ξ
abbrev c_l_at : Con := c_mirrored_at
inductive c_mirrored_place (Cl : Cls) : Con where
  | mk {b n : Int} {Ω : Om} {Φ : PhiE} {Ξ : XA} : Bk b → 0 ≤ n → n < 2 ^ 300 → (tuI b n = n → Φ (I (plI b n)) Ω) → (tuI b n ≠ n → Ξ (.ref Cl.Unfit, none) Ω) → c_mirrored_place Cl [I b, I n] Ω Φ Ξ
abbrev c_l_deck : Con := DeckC 63
abbrev c_l_draw : Con := DDrawC
abbrev c_l_pick : Con := DPickC
inductive c_l_number : Con where
  | mk {x : SV} {L R Ω : Om} {Φ : PhiE} {Ξ : XA} : Deck x L R Ω → (∀ n Ω', 0 ≤ n → n ≤ 10 ^ 30 → Deck x L R Ω' → Φ (I n) Ω') → c_l_number [x] Ω Φ Ξ
inductive c_l_mirror : Con where
  | mk {b s h : Int} {Ω : Om} {Φ : PhiE} {Ξ : XA} : Bk b → Half b.toNat s.toNat h.toNat → 0 ≤ s → 0 ≤ h → s ≤ 1000 → h < 2 ^ 2000 → Φ (I ((pal b.toNat s.toNat h.toNat : Nat) : Int)) Ω → c_l_mirror [I b, I h, I s] Ω Φ Ξ
inductive c_l_heard : Con where
  | mk {b n : Int} {t : Bool} {Ω : Om} {Φ : PhiE} {Ξ : XA} : Bk b → 0 ≤ n → n < 2 ^ 300 → (tuI b n = n → Φ (.d (.list [.str "told", .int (plI b n)])) Ω) → (tuI b n ≠ n → Φ (.d (.list [.str "unfit", .bool true])) Ω) → c_l_heard [I b, I n, .d (.bool t)] Ω Φ Ξ
abbrev c_law : Con := LawC 63
theorem ari_value_in : Ari c_value_in 2 := by rintro _ _ _ _ ⟨_, _⟩; rfl
theorem ari_figures : Ari c_figures 2 := by rintro _ _ _ _ ⟨_, _⟩; rfl
theorem ari_raised : Ari c_raised 2 := by rintro _ _ _ _ ⟨_, _⟩; rfl
theorem ari_l_power : Ari c_l_power 2 := ari_raised
theorem ari_turned_number : Ari c_turned_number 2 := by rintro _ _ _ _ ⟨_, _⟩; rfl
theorem ari_l_turned : Ari c_l_turned 2 := ari_turned_number
theorem ari_is_mirrored : Ari c_is_mirrored 2 := by rintro _ _ _ _ ⟨_, _⟩; rfl
theorem ari_turned_walk : Ari c_turned_walk 3 := by rintro _ _ _ _ ⟨_, _⟩; rfl
theorem ari_l_walk : Ari c_l_walk 3 := ari_turned_walk
theorem ari_never_number : Ari c_never_number 1 := by rintro _ _ _ _ ⟨_, _⟩; rfl
theorem ari_l_never : Ari c_l_never 1 := ari_never_number
theorem ari_mirrored_count : Ari c_mirrored_count 2 := by rintro _ _ _ _ ⟨_, _⟩; rfl
theorem ari_mirrored_of_half : Ari c_mirrored_of_half 3 := by rintro _ _ _ _ ⟨_, _⟩; rfl
theorem ari_mirrored_at : Ari c_mirrored_at 2 := by rintro _ _ _ _ ⟨_, _⟩; rfl
theorem ari_l_at : Ari c_l_at 2 := ari_mirrored_at
theorem ari_mirrored_place (Cl : Cls) : Ari (c_mirrored_place Cl) 2 := by rintro _ _ _ _ ⟨_, _⟩; rfl
theorem ari_l_deck : Ari c_l_deck 1 := DeckC.ari
theorem ari_l_draw : Ari c_l_draw 2 := DDrawC.ari
theorem ari_l_pick : Ari c_l_pick 2 := DPickC.ari
theorem ari_l_number : Ari c_l_number 1 := by rintro _ _ _ _ ⟨_, _⟩; rfl
theorem ari_l_mirror : Ari c_l_mirror 3 := by rintro _ _ _ _ ⟨_, _⟩; rfl
theorem ari_l_heard : Ari c_l_heard 3 := by rintro _ _ _ _ ⟨_, _⟩; rfl
theorem ari_law : Ari c_law 1 := LawC.ari
end KK
namespace KK
open PySem PySem.Spec PyProof.Rows L2 Z
def topS (i : Nat) : Stmt := PySem.Challenge.pw_manybases_k77_whole_main_mirrored_number.main.body.getD i (.Pass ⟨0, 0, 0, 0⟩)
abbrev s_value_in : Stmt := topS 4
abbrev N_value_in : List Str := ["word", "b", "found", "figure"]
theorem sc_value_in : FnScope N_value_in ["word", "b"] (defScope s_value_in) := ⟨rfl, rfl, rfl, by decide +kernel, rfl, by decide +kernel, by decide +kernel⟩
abbrev s_figures : Stmt := topS 5
abbrev N_figures : List Str := ["number", "b", "found"]
theorem sc_figures : FnScope N_figures ["number", "b"] (defScope s_figures) := ⟨rfl, rfl, rfl, by decide +kernel, rfl, by decide +kernel, by decide +kernel⟩
abbrev s_raised : Stmt := topS 7
abbrev N_raised : List Str := ["number", "power", "found", "turn"]
theorem sc_raised : FnScope N_raised ["number", "power"] (defScope s_raised) := ⟨rfl, rfl, rfl, by decide +kernel, rfl, by decide +kernel, by decide +kernel⟩
abbrev s_turned_number : Stmt := topS 9
abbrev N_turned_number : List Str := ["b", "number"]
theorem sc_turned_number : FnScope N_turned_number ["b", "number"] (defScope s_turned_number) := ⟨rfl, rfl, rfl, by decide +kernel, rfl, by decide +kernel, by decide +kernel⟩
abbrev s_is_mirrored : Stmt := topS 10
abbrev N_is_mirrored : List Str := ["b", "number"]
theorem sc_is_mirrored : FnScope N_is_mirrored ["b", "number"] (defScope s_is_mirrored) := ⟨rfl, rfl, rfl, by decide +kernel, rfl, by decide +kernel, by decide +kernel⟩
abbrev s_turned_walk : Stmt := topS 11
abbrev N_turned_walk : List Str := ["b", "number", "steps", "found"]
theorem sc_turned_walk : FnScope N_turned_walk ["b", "number", "steps"] (defScope s_turned_walk) := ⟨rfl, rfl, rfl, by decide +kernel, rfl, by decide +kernel, by decide +kernel⟩
abbrev s_never_number : Stmt := topS 12
abbrev N_never_number : List Str := ["n"]
theorem sc_never_number : FnScope N_never_number ["n"] (defScope s_never_number) := ⟨rfl, rfl, rfl, by decide +kernel, rfl, by decide +kernel, by decide +kernel⟩
abbrev s_mirrored_count : Stmt := topS 13
abbrev N_mirrored_count : List Str := ["b", "size"]
theorem sc_mirrored_count : FnScope N_mirrored_count ["b", "size"] (defScope s_mirrored_count) := ⟨rfl, rfl, rfl, by decide +kernel, rfl, by decide +kernel, by decide +kernel⟩
abbrev s_mirrored_of_half : Stmt := topS 14
abbrev N_mirrored_of_half : List Str := ["b", "size", "half", "word"]
theorem sc_mirrored_of_half : FnScope N_mirrored_of_half ["b", "size", "half"] (defScope s_mirrored_of_half) := ⟨rfl, rfl, rfl, by decide +kernel, rfl, by decide +kernel, by decide +kernel⟩
abbrev s_mirrored_at : Stmt := topS 15
abbrev N_mirrored_at : List Str := ["b", "place", "size", "left"]
theorem sc_mirrored_at : FnScope N_mirrored_at ["b", "place"] (defScope s_mirrored_at) := ⟨rfl, rfl, rfl, by decide +kernel, rfl, by decide +kernel, by decide +kernel⟩
abbrev s_mirrored_place : Stmt := topS 16
abbrev N_mirrored_place : List Str := ["b", "number", "word", "size", "ahead", "own"]
theorem sc_mirrored_place : FnScope N_mirrored_place ["b", "number"] (defScope s_mirrored_place) := ⟨rfl, rfl, rfl, by decide +kernel, rfl, by decide +kernel, by decide +kernel⟩
abbrev s_l_deck : Stmt := topS 18
abbrev N_l_deck : List Str := ["script", "deck", "cell", "own"]
theorem sc_l_deck : FnScope N_l_deck ["script"] (defScope s_l_deck) := ⟨rfl, rfl, rfl, by decide +kernel, rfl, by decide +kernel, by decide +kernel⟩
abbrev s_l_draw : Stmt := topS 19
abbrev N_l_draw : List Str := ["deck", "many", "great", "number"]
theorem sc_l_draw : FnScope N_l_draw ["deck", "many"] (defScope s_l_draw) := ⟨rfl, rfl, rfl, by decide +kernel, rfl, by decide +kernel, by decide +kernel⟩
abbrev s_l_pick : Stmt := topS 20
abbrev N_l_pick : List Str := ["deck", "row"]
theorem sc_l_pick : FnScope N_l_pick ["deck", "row"] (defScope s_l_pick) := ⟨rfl, rfl, rfl, by decide +kernel, rfl, by decide +kernel, by decide +kernel⟩
abbrev s_l_number : Stmt := topS 21
abbrev N_l_number : List Str := ["deck", "way", "some"]
theorem sc_l_number : FnScope N_l_number ["deck"] (defScope s_l_number) := ⟨rfl, rfl, rfl, by decide +kernel, rfl, by decide +kernel, by decide +kernel⟩
abbrev s_l_turned : Stmt := topS 22
abbrev N_l_turned : List Str := ["b", "number", "found"]
theorem sc_l_turned : FnScope N_l_turned ["b", "number"] (defScope s_l_turned) := ⟨rfl, rfl, rfl, by decide +kernel, rfl, by decide +kernel, by decide +kernel⟩
abbrev s_l_walk : Stmt := topS 23
abbrev N_l_walk : List Str := ["b", "number", "steps", "found", "turn", "other"]
theorem sc_l_walk : FnScope N_l_walk ["b", "number", "steps"] (defScope s_l_walk) := ⟨rfl, rfl, rfl, by decide +kernel, rfl, by decide +kernel, by decide +kernel⟩
abbrev s_l_never : Stmt := topS 24
abbrev N_l_never : List Str := ["n", "found", "figure"]
theorem sc_l_never : FnScope N_l_never ["n"] (defScope s_l_never) := ⟨rfl, rfl, rfl, by decide +kernel, rfl, by decide +kernel, by decide +kernel⟩
abbrev s_l_power : Stmt := topS 25
abbrev N_l_power : List Str := ["b", "often", "found", "turn"]
theorem sc_l_power : FnScope N_l_power ["b", "often"] (defScope s_l_power) := ⟨rfl, rfl, rfl, by decide +kernel, rfl, by decide +kernel, by decide +kernel⟩
abbrev s_l_mirror : Stmt := topS 26
abbrev N_l_mirror : List Str := ["b", "half", "size", "found", "low", "turn"]
theorem sc_l_mirror : FnScope N_l_mirror ["b", "half", "size"] (defScope s_l_mirror) := ⟨rfl, rfl, rfl, by decide +kernel, rfl, by decide +kernel, by decide +kernel⟩
abbrev s_l_at : Stmt := topS 27
abbrev N_l_at : List Str := ["b", "place", "left", "size", "power"]
theorem sc_l_at : FnScope N_l_at ["b", "place"] (defScope s_l_at) := ⟨rfl, rfl, rfl, by decide +kernel, rfl, by decide +kernel, by decide +kernel⟩
abbrev s_l_heard : Stmt := topS 28
abbrev N_l_heard : List Str := ["b", "number", "is_named", "slip"]
theorem sc_l_heard : FnScope N_l_heard ["b", "number", "is_named"] (defScope s_l_heard) := ⟨rfl, rfl, rfl, by decide +kernel, rfl, by decide +kernel, by decide +kernel⟩
abbrev s_law : Stmt := topS 29
abbrev N_law : List Str := ["script", "deck", "turn", "b", "number", "other", "told", "steps", "due", "place", "mirrored", "own", "size", "many", "n", "row", "far", "some"]
theorem sc_law : FnScope N_law ["script"] (defScope s_law) := ⟨rfl, rfl, rfl, by decide +kernel, rfl, by decide +kernel, by decide +kernel⟩
structure Top (K : PySem.W.Frag) (mg : Str → Option Value) where
  cl : Cls
  g_BaseError : mg "BaseError" = some (.ref cl.BaseError)
  g_Unfit : mg "Unfit" = some (.ref cl.Unfit)
  xi_Unfit : PySem.W.excIn K cl.Unfit [.type "ValueError", .type "Exception", .type "BaseException", .type "object"] "ValueError.__new__" = true
  kp_Unfit : PySem.W.keepIn K (.ref cl.Unfit) = true
  be_Unfit : PySem.W.subIn K (.ref cl.Unfit) (.type "BaseException") = some true
  ty_Unfit : PySem.W.typeIn K (.ref cl.Unfit) = some (.type "type")
  ec_Unfit : ExcC K cl.Unfit
  ex_Unfit_Unfit : PySem.W.exmOne K (.ref cl.Unfit) (.ref cl.Unfit) = some true
  is_Unfit_BaseError : PySem.W.kitOne K (.ref cl.Unfit) (.ref cl.BaseError) = some true
  f_value_in : Addr
  fd_value_in : FuncData
  F_value_in : Fun K "value_in" "value_in" s_value_in f_value_in fd_value_in
  m_value_in : mg "value_in" = some (.ref f_value_in)
  f_figures : Addr
  fd_figures : FuncData
  F_figures : Fun K "figures" "figures" s_figures f_figures fd_figures
  m_figures : mg "figures" = some (.ref f_figures)
  f_raised : Addr
  fd_raised : FuncData
  F_raised : Fun K "raised" "raised" s_raised f_raised fd_raised
  m_raised : mg "raised" = some (.ref f_raised)
  f_turned_number : Addr
  fd_turned_number : FuncData
  F_turned_number : Fun K "turned_number" "turned_number" s_turned_number f_turned_number fd_turned_number
  m_turned_number : mg "turned_number" = some (.ref f_turned_number)
  f_is_mirrored : Addr
  fd_is_mirrored : FuncData
  F_is_mirrored : Fun K "is_mirrored" "is_mirrored" s_is_mirrored f_is_mirrored fd_is_mirrored
  m_is_mirrored : mg "is_mirrored" = some (.ref f_is_mirrored)
  f_turned_walk : Addr
  fd_turned_walk : FuncData
  F_turned_walk : Fun K "turned_walk" "turned_walk" s_turned_walk f_turned_walk fd_turned_walk
  m_turned_walk : mg "turned_walk" = some (.ref f_turned_walk)
  f_never_number : Addr
  fd_never_number : FuncData
  F_never_number : Fun K "never_number" "never_number" s_never_number f_never_number fd_never_number
  m_never_number : mg "never_number" = some (.ref f_never_number)
  f_mirrored_count : Addr
  fd_mirrored_count : FuncData
  F_mirrored_count : Fun K "mirrored_count" "mirrored_count" s_mirrored_count f_mirrored_count fd_mirrored_count
  m_mirrored_count : mg "mirrored_count" = some (.ref f_mirrored_count)
  f_mirrored_of_half : Addr
  fd_mirrored_of_half : FuncData
  F_mirrored_of_half : Fun K "mirrored_of_half" "mirrored_of_half" s_mirrored_of_half f_mirrored_of_half fd_mirrored_of_half
  m_mirrored_of_half : mg "mirrored_of_half" = some (.ref f_mirrored_of_half)
  f_mirrored_at : Addr
  fd_mirrored_at : FuncData
  F_mirrored_at : Fun K "mirrored_at" "mirrored_at" s_mirrored_at f_mirrored_at fd_mirrored_at
  m_mirrored_at : mg "mirrored_at" = some (.ref f_mirrored_at)
  f_mirrored_place : Addr
  fd_mirrored_place : FuncData
  F_mirrored_place : Fun K "mirrored_place" "mirrored_place" s_mirrored_place f_mirrored_place fd_mirrored_place
  m_mirrored_place : mg "mirrored_place" = some (.ref f_mirrored_place)
  f_l_deck : Addr
  fd_l_deck : FuncData
  F_l_deck : Fun K "_law_deck" "_law_deck" s_l_deck f_l_deck fd_l_deck
  m_l_deck : mg "_law_deck" = some (.ref f_l_deck)
  f_l_draw : Addr
  fd_l_draw : FuncData
  F_l_draw : Fun K "_law_draw" "_law_draw" s_l_draw f_l_draw fd_l_draw
  m_l_draw : mg "_law_draw" = some (.ref f_l_draw)
  f_l_pick : Addr
  fd_l_pick : FuncData
  F_l_pick : Fun K "_law_pick" "_law_pick" s_l_pick f_l_pick fd_l_pick
  m_l_pick : mg "_law_pick" = some (.ref f_l_pick)
  f_l_number : Addr
  fd_l_number : FuncData
  F_l_number : Fun K "_law_number" "_law_number" s_l_number f_l_number fd_l_number
  m_l_number : mg "_law_number" = some (.ref f_l_number)
  f_l_turned : Addr
  fd_l_turned : FuncData
  F_l_turned : Fun K "_law_turned" "_law_turned" s_l_turned f_l_turned fd_l_turned
  m_l_turned : mg "_law_turned" = some (.ref f_l_turned)
  f_l_walk : Addr
  fd_l_walk : FuncData
  F_l_walk : Fun K "_law_walk" "_law_walk" s_l_walk f_l_walk fd_l_walk
  m_l_walk : mg "_law_walk" = some (.ref f_l_walk)
  f_l_never : Addr
  fd_l_never : FuncData
  F_l_never : Fun K "_law_never" "_law_never" s_l_never f_l_never fd_l_never
  m_l_never : mg "_law_never" = some (.ref f_l_never)
  f_l_power : Addr
  fd_l_power : FuncData
  F_l_power : Fun K "_law_power" "_law_power" s_l_power f_l_power fd_l_power
  m_l_power : mg "_law_power" = some (.ref f_l_power)
  f_l_mirror : Addr
  fd_l_mirror : FuncData
  F_l_mirror : Fun K "_law_mirror" "_law_mirror" s_l_mirror f_l_mirror fd_l_mirror
  m_l_mirror : mg "_law_mirror" = some (.ref f_l_mirror)
  f_l_at : Addr
  fd_l_at : FuncData
  F_l_at : Fun K "_law_at" "_law_at" s_l_at f_l_at fd_l_at
  m_l_at : mg "_law_at" = some (.ref f_l_at)
  f_l_heard : Addr
  fd_l_heard : FuncData
  F_l_heard : Fun K "_law_heard" "_law_heard" s_l_heard f_l_heard fd_l_heard
  m_l_heard : mg "_law_heard" = some (.ref f_l_heard)
  f_law : Addr
  fd_law : FuncData
  F_law : Fun K "law" "law" s_law f_law fd_law
  m_law : mg "law" = some (.ref f_law)
  n_abs : mg "abs" = none
  n_int : mg "int" = none
  n_isinstance : mg "isinstance" = none
  n_len : mg "len" = none
  n_range : mg "range" = none
  n_repr : mg "repr" = none
  n_sum : mg "sum" = none
  n_tuple : mg "tuple" = none
section
variable {K : PySem.W.Frag} {mg : Str → Option Value}
theorem b_value_in (T : Top K mg) : Binds K T.fd_value_in ["word", "b"] [] := T.F_value_in.binds (ps := ["word", "b"]) fun _ _ _ _ _ _ us hl => match us, hl with | [_, _], _ => rfl
theorem b_figures (T : Top K mg) : Binds K T.fd_figures ["number", "b"] [] := T.F_figures.binds (ps := ["number", "b"]) fun _ _ _ _ _ _ us hl => match us, hl with | [_, _], _ => rfl
theorem b_raised (T : Top K mg) : Binds K T.fd_raised ["number", "power"] [] := T.F_raised.binds (ps := ["number", "power"]) fun _ _ _ _ _ _ us hl => match us, hl with | [_, _], _ => rfl
theorem b_turned_number (T : Top K mg) : Binds K T.fd_turned_number ["b", "number"] [] := T.F_turned_number.binds (ps := ["b", "number"]) fun _ _ _ _ _ _ us hl => match us, hl with | [_, _], _ => rfl
theorem b_is_mirrored (T : Top K mg) : Binds K T.fd_is_mirrored ["b", "number"] [] := T.F_is_mirrored.binds (ps := ["b", "number"]) fun _ _ _ _ _ _ us hl => match us, hl with | [_, _], _ => rfl
theorem b_turned_walk (T : Top K mg) : Binds K T.fd_turned_walk ["b", "number", "steps"] [] := T.F_turned_walk.binds (ps := ["b", "number", "steps"]) fun _ _ _ _ _ _ us hl => match us, hl with | [_, _, _], _ => rfl
theorem b_never_number (T : Top K mg) : Binds K T.fd_never_number ["n"] [] := T.F_never_number.binds (ps := ["n"]) fun _ _ _ _ _ _ us hl => match us, hl with | [_], _ => rfl
theorem b_mirrored_count (T : Top K mg) : Binds K T.fd_mirrored_count ["b", "size"] [] := T.F_mirrored_count.binds (ps := ["b", "size"]) fun _ _ _ _ _ _ us hl => match us, hl with | [_, _], _ => rfl
theorem b_mirrored_of_half (T : Top K mg) : Binds K T.fd_mirrored_of_half ["b", "size", "half"] [] := T.F_mirrored_of_half.binds (ps := ["b", "size", "half"]) fun _ _ _ _ _ _ us hl => match us, hl with | [_, _, _], _ => rfl
theorem b_mirrored_at (T : Top K mg) : Binds K T.fd_mirrored_at ["b", "place"] [] := T.F_mirrored_at.binds (ps := ["b", "place"]) fun _ _ _ _ _ _ us hl => match us, hl with | [_, _], _ => rfl
theorem b_mirrored_place (T : Top K mg) : Binds K T.fd_mirrored_place ["b", "number"] [] := T.F_mirrored_place.binds (ps := ["b", "number"]) fun _ _ _ _ _ _ us hl => match us, hl with | [_, _], _ => rfl
theorem b_l_deck (T : Top K mg) : Binds K T.fd_l_deck ["script"] [] := T.F_l_deck.binds (ps := ["script"]) fun _ _ _ _ _ _ us hl => match us, hl with | [_], _ => rfl
theorem b_l_draw (T : Top K mg) : Binds K T.fd_l_draw ["deck", "many"] [] := T.F_l_draw.binds (ps := ["deck", "many"]) fun _ _ _ _ _ _ us hl => match us, hl with | [_, _], _ => rfl
theorem b_l_pick (T : Top K mg) : Binds K T.fd_l_pick ["deck", "row"] [] := T.F_l_pick.binds (ps := ["deck", "row"]) fun _ _ _ _ _ _ us hl => match us, hl with | [_, _], _ => rfl
theorem b_l_number (T : Top K mg) : Binds K T.fd_l_number ["deck"] [] := T.F_l_number.binds (ps := ["deck"]) fun _ _ _ _ _ _ us hl => match us, hl with | [_], _ => rfl
theorem b_l_turned (T : Top K mg) : Binds K T.fd_l_turned ["b", "number"] [] := T.F_l_turned.binds (ps := ["b", "number"]) fun _ _ _ _ _ _ us hl => match us, hl with | [_, _], _ => rfl
theorem b_l_walk (T : Top K mg) : Binds K T.fd_l_walk ["b", "number", "steps"] [] := T.F_l_walk.binds (ps := ["b", "number", "steps"]) fun _ _ _ _ _ _ us hl => match us, hl with | [_, _, _], _ => rfl
theorem b_l_never (T : Top K mg) : Binds K T.fd_l_never ["n"] [] := T.F_l_never.binds (ps := ["n"]) fun _ _ _ _ _ _ us hl => match us, hl with | [_], _ => rfl
theorem b_l_power (T : Top K mg) : Binds K T.fd_l_power ["b", "often"] [] := T.F_l_power.binds (ps := ["b", "often"]) fun _ _ _ _ _ _ us hl => match us, hl with | [_, _], _ => rfl
theorem b_l_mirror (T : Top K mg) : Binds K T.fd_l_mirror ["b", "half", "size"] [] := T.F_l_mirror.binds (ps := ["b", "half", "size"]) fun _ _ _ _ _ _ us hl => match us, hl with | [_, _, _], _ => rfl
theorem b_l_at (T : Top K mg) : Binds K T.fd_l_at ["b", "place"] [] := T.F_l_at.binds (ps := ["b", "place"]) fun _ _ _ _ _ _ us hl => match us, hl with | [_, _], _ => rfl
theorem b_l_heard (T : Top K mg) : Binds K T.fd_l_heard ["b", "number", "is_named"] [] := T.F_l_heard.binds (ps := ["b", "number", "is_named"]) fun _ _ _ _ _ _ us hl => match us, hl with | [_, _, _], _ => rfl
theorem b_law (T : Top K mg) : Binds K T.fd_law ["script"] [] := T.F_law.binds (ps := ["script"]) fun _ _ _ _ _ _ us hl => match us, hl with | [_], _ => rfl
end
def a_value_in (Cl : Cls) (Fr : Addr → Prop) : AS :=
    (aSeq (aAsg (aC (.d (.int 0))) (gN 2))
    (aSeq (aFor (aIt (aRev2 none (aVar 0))) (gN 3) (aAsg (aBin (arAdd none) (aBin arMul (aVar 2) (aVar 1)) (aVar 3)) (gN 2)))
    (aRet (aVar 2))))
def a_figures (Cl : Cls) (Fr : Addr → Prop) : AS :=
    (aSeq (aAsg (aLst (some Fr) aNil) (gN 2))
    (aSeq (aWhile (aB (aBin arGt (aVar 0) (aC (.d (.int 0))))) (aSeq (aExp (aMl amAppend (aVar 2) (aCons (aBin arMod (aVar 0) (aVar 1)) aNil)))
    (aAsg (aBin arDiv (aVar 0) (aVar 1)) (gN 0))))
    (aRetD (aCB acTupOf (aCons (aVar 2) aNil)))))
def a_raised (Cl : Cls) (Fr : Addr → Prop) : AS :=
    (aSeq (aAsg (aC (.d (.int 1))) (gN 2))
    (aSeq (aFor (aRng1 (aCons (aVar 1) aNil)) (gN 3) (aAsg (aBin arMul (aVar 2) (aVar 0)) (gN 2)))
    (aRet (aVar 2))))
def a_turned_number (Cl : Cls) (Fr : Addr → Prop) : AS :=
    (aRet (aCall c_value_in xno (aCons (aRev2 none (aCall c_figures xno (aCons (aVar 1) (aCons (aVar 0) aNil)))) (aCons (aVar 0) aNil))))
def a_is_mirrored (Cl : Cls) (Fr : Addr → Prop) : AS :=
    (aRet (aBin arEq (aCall c_turned_number xno (aCons (aVar 0) (aCons (aVar 1) aNil))) (aVar 1)))
def a_turned_walk (Cl : Cls) (Fr : Addr → Prop) : AS :=
    (aSeq (aAsg (aLst (some Fr) (aCons (aVar 1) aNil)) (gN 3))
    (aSeq (aWhile (aAnd (aB (aBin arLe (aCB acLen (aCons (aVar 3) aNil)) (aVar 2))) (aNot (aTru (aCall c_is_mirrored xno (aCons (aVar 0) (aCons (aBin arIx (aVar 3) (aUn arNeg (aC (.d (.int 1))))) aNil)))))) (aExp (aMl amAppend (aVar 3) (aCons (aBin (arAdd none) (aBin arIx (aVar 3) (aUn arNeg (aC (.d (.int 1))))) (aCall c_turned_number xno (aCons (aVar 0) (aCons (aBin arIx (aVar 3) (aUn arNeg (aC (.d (.int 1))))) aNil)))) aNil))))
    (aRetD (aCB acTupOf (aCons (aVar 3) aNil)))))
def a_never_number (Cl : Cls) (Fr : Addr → Prop) : AS :=
    (aRet (aCall c_value_in xno (aCons (aBin (arAdd none) (aBin (arAdd none) (aBin (arAdd none) (aBin (arMulA none) (aTup (aCons (aC (.d (.int 0))) aNil)) (aVar 0)) (aTup (aCons (aC (.d (.int 1))) (aCons (aC (.d (.int 0))) aNil)))) (aBin (arMulA none) (aTup (aCons (aC (.d (.int 1))) aNil)) (aVar 0))) (aTup (aCons (aC (.d (.int 0))) (aCons (aC (.d (.int 1))) aNil)))) (aCons (aC (.d (.int 2))) aNil))))
def a_mirrored_count (Cl : Cls) (Fr : Addr → Prop) : AS :=
    (aRet (aIfE (aB (aBin arGt (aVar 1) (aC (.d (.int 0))))) (aBin arMul (aBin arSub (aVar 0) (aC (.d (.int 1)))) (aCall c_raised xno (aCons (aVar 0) (aCons (aBin arDiv (aBin arSub (aVar 1) (aC (.d (.int 1)))) (aC (.d (.int 2)))) aNil)))) (aC (.d (.int 1)))))
def a_mirrored_of_half (Cl : Cls) (Fr : Addr → Prop) : AS :=
    (aSeq (aAsg (aCall c_figures xno (aCons (aVar 2) (aCons (aVar 0) aNil))) (gN 3))
    (aRet (aCall c_value_in xno (aCons (aIfE (aB (aBin arEq (aBin arAnd (aVar 1) (aC (.d (.int 1)))) (aC (.d (.int 0))))) (aBin (arAdd none) (aRev2 none (aVar 3)) (aVar 3)) (aBin (arAdd none) (aRev2 none (aVar 3)) (aSl none (aVar 3) (aPart (aC (.d (.int 1)))) aNoP))) (aCons (aVar 0) aNil)))))
def a_mirrored_at (Cl : Cls) (Fr : Addr → Prop) : AS :=
    (aSeq (aPar2 2 3 (aCons (aC (.d (.int 0))) (aCons (aVar 1) aNil)))
    (aSeq (aWhile (aB (aBin arGe (aVar 3) (aCall c_mirrored_count xno (aCons (aVar 0) (aCons (aVar 2) aNil))))) (aSeq (aAsg (aBin arSub (aVar 3) (aCall c_mirrored_count xno (aCons (aVar 0) (aCons (aVar 2) aNil)))) (gN 3))
    (aAsg (aBin (arAdd none) (aVar 2) (aC (.d (.int 1)))) (gN 2))))
    (aSeq (aIf (aB (aBin arEq (aVar 2) (aC (.d (.int 0))))) (aRet (aC (.d (.int 0)))) aNx)
    (aRet (aCall c_mirrored_of_half xno (aCons (aVar 0) (aCons (aVar 2) (aCons (aBin (arAdd none) (aCall c_raised xno (aCons (aVar 0) (aCons (aBin arDiv (aBin arSub (aVar 2) (aC (.d (.int 1)))) (aC (.d (.int 2)))) aNil))) (aVar 3)) aNil))))))))
def a_mirrored_place (Cl : Cls) (Fr : Addr → Prop) (Ξ : XA) : AS :=
    (aSeq (aIf (aNot (aTru (aCall c_is_mirrored xno (aCons (aVar 0) (aCons (aVar 1) aNil))))) (aRaise (fun _ => Ξ) (.ref Cl.Unfit)) aNx)
    (aSeq (aAsg (aCall c_figures xno (aCons (aVar 1) (aCons (aVar 0) aNil))) (gN 2))
    (aSeq (aAsg (aCB acLen (aCons (aVar 2) aNil)) (gN 3))
    (aSeq (aIf (aB (aBin arEq (aVar 3) (aC (.d (.int 0))))) (aRet (aC (.d (.int 0)))) aNx)
    (aSeq (aAsg (aCB (ac1 fSum) (aCons (aLc2 none (aRng1 (aCons (aVar 3) aNil)) (gN 5) aYes (aCall c_mirrored_count xno (aCons (aVar 0) (aCons (aVar 5) aNil))) [5]) aNil)) (gN 4))
    (aRet (aBin arSub (aBin (arAdd none) (aVar 4) (aCall c_value_in xno (aCons (aSl none (aVar 2) (aPart (aBin arDiv (aVar 3) (aC (.d (.int 2))))) aNoP) (aCons (aVar 0) aNil)))) (aCall c_raised xno (aCons (aVar 0) (aCons (aBin arDiv (aBin arSub (aVar 3) (aC (.d (.int 1)))) (aC (.d (.int 2)))) aNil))))))))))
def a_l_deck (Cl : Cls) (Fr : Addr → Prop) : AS :=
    (aSeq (aAsg (aDisp Fr (((.inr "great"), (aLst (some Fr) aNil)) :: (((.inr "mixed"), (aBin (arAdd none) (aC (.d (.int 1752277))) (aCB acLen (aCons (aSl none (aVar 0) aNoP (aPart (aC (.d (.int 63))))) aNil)))) :: (((.inr "turns"), (aC (.d (.int 0)))) :: [])))) (gN 1))
    (aSeq (aFor (aIt (aSl none (aVar 0) aNoP (aPart (aC (.d (.int 63)))))) (gN 2) (aSeq (aAsg (aBin (arAdd none) (aBin arMulC (aC (.d (.int 2))) (aCB acAbs (aCons (aVar 2) aNil))) (aCB acInt (aCons (aBin arLt (aVar 2) (aC (.d (.int 0)))) aNil))) (gN 3))
    (aSeq (aIf (aB (aBin arGe (aVar 3) (aBin arPow (aC (.d (.int 10))) (aC (.d (.int 16)))))) (aExp (aMl amAppend (aBin arDix (aVar 1) (aC (.d (.str "great")))) (aCons (aVar 3) aNil))) aNx)
    (aDPut (aBin arMod (aCB acInt (aCons (aBin (arAdd none) (aBin (arAdd none) (aBin arMulC (aBin arDix (aVar 1) (aC (.d (.str "mixed")))) (aC (.d (.int 69621)))) (aVar 3)) (aC (.d (.int 29)))) aNil)) (aC (.d (.int 4294967291)))) (aVar 1) (aC (.d (.str "mixed")))))))
    (aRet (aVar 1))))
def a_l_draw (Cl : Cls) (Fr : Addr → Prop) : AS :=
    (aSeq (aIf (aB (aBin arLt (aVar 1) (aC (.d (.int 2))))) (aRet (aC (.d (.int 0)))) aNx)
    (aSeq (aIf (aB (aBin arNe (aBin arDix (aVar 0) (aC (.d (.str "great")))) (aLst none aNil))) (aSeq (aAsg (aMl0 amPop (aBin arDix (aVar 0) (aC (.d (.str "great"))))) (gN 2))
    (aSeq (aIf (aB (aBin arGe (aVar 2) (aVar 1))) (aExp (aMl amAppend (aBin arDix (aVar 0) (aC (.d (.str "great")))) (aCons (aBin arDiv (aVar 2) (aVar 1)) aNil))) aNx)
    (aRet (aBin arMod (aCB acInt (aCons (aVar 2) aNil)) (aVar 1))))) aNx)
    (aSeq (aDPut (aBin (arAdd none) (aBin arDix (aVar 0) (aC (.d (.str "turns")))) (aC (.d (.int 1)))) (aVar 0) (aC (.d (.str "turns"))))
    (aSeq (aAsg (aBin arMod (aCB acInt (aCons (aBin (arAdd none) (aBin arDix (aVar 0) (aC (.d (.str "mixed")))) (aBin arMulC (aC (.d (.int 2654435761))) (aBin arDix (aVar 0) (aC (.d (.str "turns")))))) aNil)) (aC (.d (.int 4294967279)))) (gN 3))
    (aSeq (aAsg (aBin arMod (aCB acInt (aCons (aBin (arAdd none) (aBin (arAdd none) (aBin arMul (aVar 3) (aVar 3)) (aBin arMulC (aC (.d (.int 40692))) (aBin arDix (aVar 0) (aC (.d (.str "turns")))))) (aC (.d (.int 23)))) aNil)) (aC (.d (.int 4294967231)))) (gN 3))
    (aSeq (aAsg (aBin arMod (aCB acInt (aCons (aBin (arAdd none) (aBin arMul (aVar 3) (aVar 3)) (aBin arMulC (aBin arDix (aVar 0) (aC (.d (.str "mixed")))) (aC (.d (.int 11))))) aNil)) (aC (.d (.int 4294967197)))) (gN 3))
    (aRet (aBin arMod (aCB acInt (aCons (aBin arDiv (aVar 3) (aC (.d (.int 64)))) aNil)) (aVar 1)))))))))
def a_l_pick (Cl : Cls) (Fr : Addr → Prop) : AS :=
    (aRet (aBin arIx (aVar 1) (aCall c_l_draw xno (aCons (aVar 0) (aCons (aCB acLen (aCons (aVar 1) aNil)) aNil)))))
def a_l_number (Cl : Cls) (Fr : Addr → Prop) : AS :=
    (aSeq (aAsg (aCall c_l_draw xno (aCons (aVar 0) (aCons (aC (.d (.int 6))) aNil))) (gN 1))
    (aSeq (aIf (aB (aBin arLt (aVar 1) (aC (.d (.int 3))))) (aRet (aCall c_l_draw xno (aCons (aVar 0) (aCons (aC (.d (.int 60))) aNil)))) aNx)
    (aSeq (aIf (aB (aBin arLt (aVar 1) (aC (.d (.int 5))))) (aRet (aCall c_l_draw xno (aCons (aVar 0) (aCons (aC (.d (.int 100000))) aNil)))) aNx)
    (aSeq (aAsg (aLst none (aCons (aBin arPow (aC (.d (.int 10))) (aC (.d (.int 30)))) (aCons (aCall c_l_draw xno (aCons (aVar 0) (aCons (aBin arPow (aC (.d (.int 10))) (aC (.d (.int 30)))) aNil))) (aCons (aBin arSub (aBin arPow (aC (.d (.int 10))) (aC (.d (.int 30)))) (aCall c_l_draw xno (aCons (aVar 0) (aCons (aC (.d (.int 90))) aNil)))) (aCons (aCall c_l_draw xno (aCons (aVar 0) (aCons (aBin arPow (aC (.d (.int 10))) (aC (.d (.int 15)))) aNil))) aNil))))) (gN 2))
    (aRet (aCall c_l_pick xno (aCons (aVar 0) (aCons (aVar 2) aNil))))))))
def a_l_turned (Cl : Cls) (Fr : Addr → Prop) : AS :=
    (aSeq (aAsg (aC (.d (.int 0))) (gN 2))
    (aSeq (aWhile (aB (aBin arGt (aVar 1) (aC (.d (.int 0))))) (aSeq (aAsg (aBin (arAdd none) (aBin arMul (aVar 2) (aVar 0)) (aBin arMod (aCB acInt (aCons (aVar 1) aNil)) (aVar 0))) (gN 2))
    (aAsg (aBin arDiv (aVar 1) (aVar 0)) (gN 1))))
    (aRet (aVar 2))))
def a_l_walk (Cl : Cls) (Fr : Addr → Prop) : AS :=
    (aSeq (aAsg (aLst (some Fr) (aCons (aVar 1) aNil)) (gN 3))
    (aSeq (aFor (aRng1 (aCons (aVar 2) aNil)) (gN 4) (aSeq (aAsg (aCall c_l_turned xno (aCons (aVar 0) (aCons (aBin arIx (aVar 3) (aUn arNeg (aC (.d (.int 1))))) aNil))) (gN 5))
    (aSeq (aIf (aB (aBin arEq (aVar 5) (aBin arIx (aVar 3) (aUn arNeg (aC (.d (.int 1))))))) (aRetD (aCB acTupOf (aCons (aVar 3) aNil))) aNx)
    (aExp (aMl amAppend (aVar 3) (aCons (aBin (arAdd none) (aBin arIx (aVar 3) (aUn arNeg (aC (.d (.int 1))))) (aVar 5)) aNil))))))
    (aRetD (aCB acTupOf (aCons (aVar 3) aNil)))))
def a_l_never (Cl : Cls) (Fr : Addr → Prop) : AS :=
    (aSeq (aAsg (aC (.d (.int 0))) (gN 1))
    (aSeq (aFor (aIt (aBin (arAdd none) (aBin (arAdd none) (aBin (arAdd none) (aLst none (aCons (aC (.d (.int 1))) (aCons (aC (.d (.int 0))) aNil))) (aBin (arMulA none) (aLst none (aCons (aC (.d (.int 1))) aNil)) (aVar 0))) (aLst none (aCons (aC (.d (.int 0))) (aCons (aC (.d (.int 1))) aNil)))) (aBin (arMulA none) (aLst none (aCons (aC (.d (.int 0))) aNil)) (aVar 0)))) (gN 2) (aAsg (aBin (arAdd none) (aBin arMulC (aC (.d (.int 2))) (aVar 1)) (aVar 2)) (gN 1)))
    (aRet (aVar 1))))
def a_l_power (Cl : Cls) (Fr : Addr → Prop) : AS :=
    (aSeq (aAsg (aC (.d (.int 1))) (gN 2))
    (aSeq (aFor (aRng1 (aCons (aVar 1) aNil)) (gN 3) (aAsg (aBin arMul (aVar 2) (aVar 0)) (gN 2)))
    (aRet (aVar 2))))
def a_l_mirror (Cl : Cls) (Fr : Addr → Prop) : AS :=
    (aSeq (aPar2 3 4 (aCons (aVar 1) (aCons (aJoin (aIfE (aB (aBin arEq (aBin arMod (aCB acInt (aCons (aVar 2) aNil)) (aC (.d (.int 2)))) (aC (.d (.int 1))))) (aBin arDiv (aVar 1) (aVar 0)) (aVar 1))) aNil)))
    (aSeq (aFor (aRng1 (aCons (aBin arDiv (aVar 2) (aC (.d (.int 2)))) aNil)) (gN 5) (aSeq (aAsg (aBin (arAdd none) (aBin arMul (aVar 3) (aVar 0)) (aBin arMod (aCB acInt (aCons (aVar 4) aNil)) (aVar 0))) (gN 3))
    (aAsg (aBin arDiv (aVar 4) (aVar 0)) (gN 4))))
    (aRet (aVar 3))))
def a_l_at (Cl : Cls) (Fr : Addr → Prop) : AS :=
    (aSeq (aIf (aB (aBin arEq (aVar 1) (aC (.d (.int 0))))) (aRet (aC (.d (.int 0)))) aNx)
    (aSeq (aPar3 2 3 4 (aCons (aBin arSub (aVar 1) (aC (.d (.int 1)))) (aCons (aC (.d (.int 1))) (aCons (aC (.d (.int 1))) aNil))))
    (aSeq (aWhile (aB (aBin arGe (aVar 2) (aBin arMul (aBin arSub (aVar 0) (aC (.d (.int 1)))) (aVar 4)))) (aSeq (aPar2 2 3 (aCons (aBin arSub (aVar 2) (aBin arMul (aBin arSub (aVar 0) (aC (.d (.int 1)))) (aVar 4))) (aCons (aBin (arAdd none) (aVar 3) (aC (.d (.int 1)))) aNil)))
    (aAsg (aJoin (aIfE (aB (aBin arEq (aBin arMod (aCB acInt (aCons (aVar 3) aNil)) (aC (.d (.int 2)))) (aC (.d (.int 1))))) (aBin arMul (aVar 4) (aVar 0)) (aVar 4))) (gN 4))))
    (aRet (aCall c_l_mirror xno (aCons (aVar 0) (aCons (aBin (arAdd none) (aVar 4) (aVar 2)) (aCons (aVar 3) aNil))))))))
def a_l_heard (Cl : Cls) (Fr : Addr → Prop) : AS :=
    (aTry 3 (.ref Cl.Unfit) (fun Ξ1 => (aRet (aLst none (aCons (aC (.d (.str "told"))) (aCons (aIfE (aTru (aVar 2)) (aCallK (c_mirrored_place Cl) Ξ1 0 2 [1, 0] aNil (aCons (aVar 1) (aCons (aVar 0) aNil))) (aCall (c_mirrored_place Cl) Ξ1 (aCons (aVar 0) (aCons (aVar 1) aNil)))) aNil))))) (fun e1 => (aRet (aLst none (aCons (aC (.d (.str "unfit"))) (aCons (aCB (acIsE e1 (.ref Cl.BaseError) true) (aCons (aVar 3) (aCons (aC (.r (.ref Cl.BaseError))) aNil))) aNil))))))
def b_law_0 (Cl : Cls) (Fr : Addr → Prop) : AS :=
    (aSeq (aAsg (aTup (aCons (aCall c_l_pick xno (aCons (aVar 1) (aCons (aLst none (aCons (aC (.d (.int 2))) (aCons (aC (.d (.int 3))) (aCons (aC (.d (.int 10))) aNil)))) aNil))) (aCons (aCall c_l_draw xno (aCons (aVar 1) (aCons (aC (.d (.int 200))) aNil))) aNil))) (gT 2 (gs1 (gN 3) (gs1 (gN 16) gs0))))
    (aSeq (aAsg (aLc2 none (aRng1 (aCons (aBin (arAdd none) (aVar 16) (aC (.d (.int 1)))) aNil)) (gN 11) (aB (aBin arEq (aCall c_l_turned xno (aCons (aVar 3) (aCons (aVar 11) aNil))) (aVar 11))) (aVar 11) [11]) (gN 17))
    (aSeq (aIf (aB (aBin arNe (aLc2 none (aRng1 (aCons (aCB acLen (aCons (aVar 17) aNil)) aNil)) (gN 9) aYes (aCall c_mirrored_at xno (aCons (aVar 3) (aCons (aVar 9) aNil))) [9]) (aVar 17))) (aRet (aC (.d (.bool false)))) aNx)
    (aRet (aAndV (aBin arEq (aCall c_l_heard xno (aCons (aVar 3) (aCons (aBin arIx (aVar 17) (aUn arNeg (aC (.d (.int 1))))) (aCons (aC (.d (.bool false))) aNil)))) (aLst none (aCons (aC (.d (.str "told"))) (aCons (aBin arSub (aCB acLen (aCons (aVar 17) aNil)) (aC (.d (.int 1)))) aNil)))) (aBin arEq (aCB acLen (aCons (aCall c_turned_walk xno (aCons (aC (.d (.int 2))) (aCons (aC (.d (.int 22))) (aCons (aC (.d (.int 200))) aNil)))) aNil)) (aC (.d (.int 201)))))))))
def b_law_1 (Cl : Cls) (Fr : Addr → Prop) : AS :=
    (aSeq (aAsg (aCall c_l_pick xno (aCons (aVar 1) (aCons (aLst none (aCons (aBin (arAdd none) (aC (.d (.int 2))) (aCall c_l_draw xno (aCons (aVar 1) (aCons (aC (.d (.int 5))) aNil)))) (aCons (aBin (arAdd none) (aC (.d (.int 2))) (aCall c_l_draw xno (aCons (aVar 1) (aCons (aC (.d (.int 63))) aNil)))) (aCons (aC (.d (.int 64))) aNil)))) aNil))) (gN 14))
    (aSeq (aAsg (aCall c_l_never xno (aCons (aVar 14) aNil)) (gN 8))
    (aSeq (aIf (aB (aBin arNe (aCB (ac1 fRepr) (aCons (aLst none (aCons (aCall c_never_number xno (aCons (aVar 14) aNil)) (aCons (aCallK c_never_number xno 0 1 [0] aNil (aCons (aVar 14) aNil)) aNil))) aNil)) (aCB (ac1 fRepr) (aCons (aLst none (aCons (aVar 8) (aCons (aVar 8) aNil))) aNil)))) (aRet (aC (.d (.bool false)))) aNx)
    (aSeq (aAsg (aCall c_l_walk xno (aCons (aC (.d (.int 2))) (aCons (aVar 8) (aCons (aC (.d (.int 4))) aNil)))) (gN 15))
    (aSeqE (aIf (aOr (aB (aBin arNe (aCB acLen (aCons (aVar 15) aNil)) (aC (.d (.int 5))))) (aOr (aB (aBin arNe (aBin arIx (aVar 15) (aUn arNeg (aC (.d (.int 1))))) (aCall c_l_never xno (aCons (aBin (arAdd none) (aVar 14) (aC (.d (.int 1)))) aNil)))) (aAnd (aB (aBin arLt (aVar 14) (aC (.d (.int 45))))) (aB (aBin arNe (aCall c_turned_walk xno (aCons (aC (.d (.int 2))) (aCons (aVar 8) (aCons (aC (.d (.int 4))) aNil)))) (aVar 15)))))) (aRet (aC (.d (.bool false)))) aNx)
    (b_law_0 Cl Fr))))))
def b_law_2 (Cl : Cls) (Fr : Addr → Prop) : AS :=
    (aSeq (aAsg (aCall c_l_draw xno (aCons (aVar 1) (aCons (aC (.d (.int 65))) aNil))) (gN 12))
    (aSeq (aAsg (aJoin (aIfE (aB (aBin arGt (aVar 12) (aC (.d (.int 0))))) (aBin arMul (aBin arSub (aVar 3) (aC (.d (.int 1)))) (aCall c_l_power xno (aCons (aVar 3) (aCons (aBin arDiv (aBin arSub (aVar 12) (aC (.d (.int 1)))) (aC (.d (.int 2)))) aNil)))) (aC (.d (.int 1))))) (gN 13))
    (aIf (aB (aBin arNe (aCB (ac1 fRepr) (aCons (aLst none (aCons (aCall c_mirrored_count xno (aCons (aVar 3) (aCons (aVar 12) aNil))) (aCons (aCallK c_mirrored_count xno 0 2 [1, 0] aNil (aCons (aVar 12) (aCons (aVar 3) aNil))) aNil))) aNil)) (aCB (ac1 fRepr) (aCons (aLst none (aCons (aVar 13) (aCons (aVar 13) aNil))) aNil)))) (aRet (aC (.d (.bool false)))) aNx)))
def b_law_3 (Cl : Cls) (Fr : Addr → Prop) : AS :=
    (aSeq (aAsg (aJoin (aIfE (aB (aBin arEq (aVar 11) (aVar 10))) (aLst none (aCons (aC (.d (.str "told"))) (aCons (aVar 9) aNil))) (aLst none (aCons (aC (.d (.str "unfit"))) (aCons (aC (.d (.bool true))) aNil))))) (gN 8))
    (aSeq (aIf (aAnd (aB (aBin arNe (aVar 11) (aVar 10))) (aB (aBin arEq (aVar 5) (aVar 4)))) (aAsg (aC (.d .none)) (gN 8)) aNx)
    (aIf (aAnd (aB (aBin arIsNot (aVar 8) (aC (.d .none)))) (aB (aBin arNe (aCB (ac1 fRepr) (aCons (aLst none (aCons (aCall c_l_heard xno (aCons (aVar 3) (aCons (aVar 11) (aCons (aC (.d (.bool false))) aNil)))) (aCons (aCall c_l_heard xno (aCons (aVar 3) (aCons (aVar 11) (aCons (aC (.d (.bool true))) aNil)))) aNil))) aNil)) (aCB (ac1 fRepr) (aCons (aLst none (aCons (aVar 8) (aCons (aVar 8) aNil))) aNil))))) (aRet (aC (.d (.bool false)))) aNx)))
def b_law_4 (Cl : Cls) (Fr : Addr → Prop) : AS :=
    (aSeq (aFor (aIt (aTup (aCons (aVar 10) (aCons (aVar 4) aNil)))) (gN 11) (b_law_3 Cl Fr))
    (b_law_2 Cl Fr))
def b_law_5 (Cl : Cls) (Fr : Addr → Prop) : AS :=
    (aSeq (aAsg (aCall c_l_pick xno (aCons (aVar 1) (aCons (aLst none (aCons (aC (.d (.int 0))) (aCons (aC (.d (.int 1))) (aCons (aC (.d (.int 4))) (aCons (aC (.d (.int 9))) (aCons (aC (.d (.int 14))) aNil)))))) aNil))) (gN 7))
    (aSeq (aAsg (aCall c_l_walk xno (aCons (aVar 3) (aCons (aVar 4) (aCons (aVar 7) aNil)))) (gN 8))
    (aSeq (aIf (aB (aBin arNe (aCB (ac1 fRepr) (aCons (aLst none (aCons (aCall c_turned_walk xno (aCons (aVar 3) (aCons (aVar 4) (aCons (aVar 7) aNil)))) (aCons (aCallK c_turned_walk xno 0 3 [2, 1, 0] aNil (aCons (aVar 7) (aCons (aVar 4) (aCons (aVar 3) aNil)))) aNil))) aNil)) (aCB (ac1 fRepr) (aCons (aLst none (aCons (aVar 8) (aCons (aVar 8) aNil))) aNil)))) (aRet (aC (.d (.bool false)))) aNx)
    (aSeq (aAsg (aCall c_l_pick xno (aCons (aVar 1) (aCons (aLst none (aCons (aCall c_l_draw xno (aCons (aVar 1) (aCons (aC (.d (.int 30))) aNil))) (aCons (aCall c_l_number xno (aCons (aVar 1) aNil)) (aCons (aCall c_l_draw xno (aCons (aVar 1) (aCons (aBin arPow (aC (.d (.int 10))) (aC (.d (.int 9)))) aNil))) aNil)))) aNil))) (gN 9))
    (aSeq (aAsg (aCall c_l_at xno (aCons (aVar 3) (aCons (aVar 9) aNil))) (gN 10))
    (aSeq (aIf (aB (aBin arNe (aCB (ac1 fRepr) (aCons (aLst none (aCons (aCall c_mirrored_at xno (aCons (aVar 3) (aCons (aVar 9) aNil))) (aCons (aCallK c_mirrored_at xno 0 2 [1, 0] aNil (aCons (aVar 9) (aCons (aVar 3) aNil))) aNil))) aNil)) (aCB (ac1 fRepr) (aCons (aLst none (aCons (aVar 10) (aCons (aVar 10) aNil))) aNil)))) (aRet (aC (.d (.bool false)))) aNx)
    (aSeqE (aIf (aAnd (aNot (aB (aBin arGt (aCall c_mirrored_at xno (aCons (aVar 3) (aCons (aIfE (aB (aBin arLt (aVar 9) (aBin arPow (aC (.d (.int 10))) (aC (.d (.int 30)))))) (aBin (arAdd none) (aVar 9) (aC (.d (.int 1)))) (aVar 9)) aNil))) (aVar 10)))) (aB (aBin arLt (aVar 9) (aBin arPow (aC (.d (.int 10))) (aC (.d (.int 30))))))) (aRet (aC (.d (.bool false)))) aNx)
    (b_law_4 Cl Fr))))))))
def b_law_6 (Cl : Cls) (Fr : Addr → Prop) : AS :=
    (aSeq (aAsg (aTup (aCons (aCall c_l_pick xno (aCons (aVar 1) (aCons (aLst none (aCons (aC (.d (.int 2))) (aCons (aC (.d (.int 2))) (aCons (aC (.d (.int 3))) (aCons (aC (.d (.int 10))) (aCons (aC (.d (.int 10))) (aCons (aC (.d (.int 16))) (aCons (aC (.d (.int 999))) (aCons (aC (.d (.int 1000))) aNil))))))))) aNil))) (aCons (aCall c_l_number xno (aCons (aVar 1) aNil)) aNil))) (gT 2 (gs1 (gN 3) (gs1 (gN 4) gs0))))
    (aSeq (aAsg (aCall c_l_turned xno (aCons (aVar 3) (aCons (aVar 4) aNil))) (gN 5))
    (aSeq (aAsg (aLst none (aCons (aCall c_turned_number xno (aCons (aVar 3) (aCons (aVar 4) aNil))) (aCons (aCallK c_turned_number xno 0 2 [1, 0] aNil (aCons (aVar 4) (aCons (aVar 3) aNil))) (aCons (aCall c_is_mirrored xno (aCons (aVar 3) (aCons (aVar 4) aNil))) aNil)))) (gN 6))
    (aSeq (aIf (aB (aBin arNe (aCB (ac1 fRepr) (aCons (aBin (arAdd none) (aVar 6) (aLst none (aCons (aCallK c_is_mirrored xno 0 2 [1, 0] aNil (aCons (aVar 4) (aCons (aVar 3) aNil))) aNil))) aNil)) (aCB (ac1 fRepr) (aCons (aLst none (aCons (aVar 5) (aCons (aVar 5) (aCons (aBin arEq (aVar 5) (aVar 4)) (aCons (aBin arEq (aVar 5) (aVar 4)) aNil))))) aNil)))) (aRet (aC (.d (.bool false)))) aNx)
    (aSeqE (aIf (aB (aBin arNe (aBin arEq (aCall c_turned_number xno (aCons (aVar 3) (aCons (aVar 5) aNil))) (aVar 4)) (aOrV (aBin arEq (aVar 4) (aC (.d (.int 0)))) (aBin arNe (aBin arMod (aCB acInt (aCons (aVar 4) aNil)) (aVar 3)) (aC (.d (.int 0))))))) (aRet (aC (.d (.bool false)))) aNx)
    (b_law_5 Cl Fr))))))
def a_law (Cl : Cls) (Fr : Addr → Prop) : AS :=
    (aSeq (aAsg (aCall c_l_deck xno (aCons (aVar 0) aNil)) (gN 1))
    (aSeq (aFor (aRng1 (aCons (aC (.d (.int 3))) aNil)) (gN 2) (b_law_6 Cl Fr))
    (b_law_1 Cl Fr)))
section
local macro_rules | `(tactic| walk_at "z1") => `(tactic| ((try dsimp only); first | done | exact True.intro | rfl | omega | exact Nat.le_of_ble_eq_true rfl | (exact ⟨by omega, by omega⟩) | (exact cmul (by omega) (by omega) (by omega) (by omega)) | (exact cdiv (by omega) (by omega)) | (exact Or.inl ⟨by omega, by omega⟩) | (exact Or.inr ⟨by omega, by omega⟩) | decide | assumption | (simp only [List.length_map, List.length_range, List.length_append, List.length_cons, List.length_nil, List.length_replicate, len_repD]; omega)))
local macro_rules | `(tactic| walk_at "zs") => `(tactic| ((conv => whnf); first | with_reducible refine br_T ?_ | with_reducible refine br_F ?_ | with_reducible refine br_d1 rfl ?_ | with_reducible refine br_n ?_ | ((with_reducible refine br_d1 ?_ ?_); (focus omega)) | ((with_reducible refine br_d0 ?_ ?_); (focus omega)) | ((fail_if_success with_reducible refine br_d ?_ ?_); refine br_T ?_) | ((fail_if_success with_reducible refine br_d ?_ ?_); refine br_F ?_) | refine And.intro (by walk_at "z1") ?_ | refine ⟨⟨_, _, .here, trivial⟩, ?_⟩ | refine ⟨_, _, .here, ?_⟩ | refine ⟨_, true, rfl, rfl, ?_⟩ | refine ⟨_, false, rfl, rfl, ?_⟩ | refine ⟨_, (by rfl : atI _ _ = some _), ?_⟩))
theorem w_l_pick (Cl : Cls) (Fr : Addr → Prop) (svs : List SV) (Ω : Om) (Φ : PhiE) (Ξ : XA) (h : c_l_pick svs Ω Φ Ξ) :
    a_l_pick Cl Fr { nx := fun _ Ω => Φ (.d .none) Ω, rt := Φ } (startR N_l_pick svs) Ω := by
  obtain ⟨hB, ne, ln, k⟩ := h
  rename_i x ds L R
  ((repeat walk_at "zs"); (try conv => whnf))
  refine .mk hB ?_ ?_ fun r Ω' r0 r1 hB' => ?_
  · have := List.length_pos_iff.mpr ne
    omega
  · omega
  · have lt : r.toNat < ds.length := by omega
    conv => whnf
    exact ⟨_, atI_i r0 (List.getElem?_eq_getElem lt), k _ (List.getElem_mem lt) _ hB'⟩
theorem w_l_draw (Cl : Cls) (Fr : Addr → Prop) (svs : List SV) (Ω : Om) (Φ : PhiE) (Ξ : XA) (h : c_l_draw svs Ω Φ Ξ) :
    a_l_draw Cl Fr { nx := fun _ Ω => Φ (.d .none) Ω, rt := Φ } (startR N_l_draw svs) Ω := by
  obtain ⟨hB, b0, b1, k⟩ := h
  obtain ⟨hx, ok⟩ := hB
  rename_i x below L R b c m t is
  subst hx
  obtain ⟨m0, m1, t0, i0, ln⟩ := id ok
  have A1 := At.app (At.here (a := b) (c := .dk (dkv (.r (.ref c)) (I m) (I t))) (Ω := (c, .lst (isD is)) :: R)) L
  have A2 := At.app (At.there (p := (b, .dk (dkv (.r (.ref c)) (I m) (I t)))) (At.here (a := c) (c := .lst (isD is)) (Ω := R))) L
  have sz : sizeLine = 16777216 := by decide
  conv => whnf
  refine br_d (fun lt => ?_) fun ge => ?_
  · ((repeat walk_at "zs"); (try conv => whnf))
    exact k _ _ (by omega) b0 (.mk rfl ok)
  conv => whnf
  refine ⟨_, _, _, _, A1, rfl, dkv_g, ?_⟩
  ((repeat walk_at "zs"); (try conv => whnf))
  refine ⟨_, _, A2, ?_⟩
  conv => whnf
  refine ⟨(shaped_isD is).2, shaped_nil, ?_⟩
  conv => whnf
  rw [eqv_nil]
  refine br_n (br_d (fun e => ?_) fun ne => ?_)
  · ((repeat walk_at "zs"); (try conv => whnf))
    refine ⟨_, _, _, _, A1, rfl, dkv_t, ?_⟩
    ((repeat walk_at "zs"); (try conv => whnf))
    refine ⟨_, _, _, A1, rfl, by walk_at "z1", ?_⟩
    rw [dkv_pt]
    have A3 := At.app (At.here (a := b) (c := .dk (dkv (.r (.ref c)) (I m) (I (t + 1)))) (Ω := (c, .lst (isD is)) :: R)) L
    ((repeat walk_at "zs"); (try conv => whnf))
    refine ⟨_, _, _, _, A3, rfl, dkv_m, ?_⟩
    ((repeat walk_at "zs"); (try conv => whnf))
    refine ⟨_, _, _, _, A3, rfl, dkv_t, ?_⟩
    ((repeat walk_at "zs"); (try conv => whnf))
    refine ⟨_, _, _, _, A3, rfl, dkv_t, ?_⟩
    have z1 := Int.emod_nonneg (m + 2654435761 * (t + 1)) (show (4294967279 : Int) ≠ 0 by decide)
    have z2 := Int.emod_lt_of_pos (m + 2654435761 * (t + 1)) (show (0 : Int) < 4294967279 by decide)
    generalize (m + 2654435761 * (t + 1)) % 4294967279 = n1 at *
    ((repeat walk_at "zs"); (try conv => whnf))
    have z3 := Int.emod_nonneg (n1 * n1 + 40692 * (t + 1) + 23) (show (4294967231 : Int) ≠ 0 by decide)
    have z4 := Int.emod_lt_of_pos (n1 * n1 + 40692 * (t + 1) + 23) (show (0 : Int) < 4294967231 by decide)
    generalize (n1 * n1 + 40692 * (t + 1) + 23) % 4294967231 = n2 at *
    ((repeat walk_at "zs"); (try conv => whnf))
    refine ⟨_, _, _, _, A3, rfl, dkv_m, ?_⟩
    ((repeat walk_at "zs"); (try conv => whnf))
    exact k _ _ (Int.emod_nonneg _ (by omega)) (Int.emod_lt_of_pos _ b0) (.mk rfl ⟨m0, m1, by omega, i0, ln⟩)
  · obtain ⟨js, i, rfl⟩ : ∃ js i, is = js ++ [i] := ⟨is.dropLast, is.getLast ne, (List.dropLast_concat_getLast ne).symm⟩
    have e9 : (isD (js ++ [i])).dropLast = isD js := by simp [isD]
    have ip := i0 i (by simp)
    have jl : js.length ≤ 62 := by
      rw [List.length_append] at ln
      have : [i].length = 1 := rfl
      omega
    have A4 := At.app (At.here (a := b) (c := .dk (dkv (.r (.ref c)) (I m) (I t))) (Ω := (c, .lst (isD js)) :: R)) L
    have A5 := At.app (At.there (p := (b, .dk (dkv (.r (.ref c)) (I m) (I t)))) (At.here (a := c) (c := .lst (isD js)) (Ω := R))) L
    ((repeat walk_at "zs"); (try conv => whnf))
    refine ⟨_, _, _, _, A1, rfl, dkv_g, ?_⟩
    conv => whnf
    refine ⟨⟨_, _, A2, trivial⟩, ?_⟩
    conv => whnf
    refine ⟨_, _, A2, .int i, by simp [isD], ?_⟩
    conv => whnf
    rw [e9]
    refine br_d (fun ge2 => ?_) fun lt2 => ?_
    · ((repeat walk_at "zs"); (try conv => whnf))
      refine ⟨_, _, _, _, A4, rfl, dkv_g, ?_⟩
      conv => whnf
      refine ⟨⟨_, _, A5, trivial⟩, ?_⟩
      ((repeat walk_at "zs"); (try conv => whnf))
      refine ⟨_, _, A5, ?_⟩
      refine ⟨by rw [len_isD]; omega, ?_⟩
      ((repeat walk_at "zs"); (try conv => whnf))
      have e10 : isD js ++ [PyData.int (i / below)] = isD (js ++ [i / below]) := app_isD js [i / below]
      dsimp only
      rw [e10]
      exact k _ _ (Int.emod_nonneg _ (by omega)) (Int.emod_lt_of_pos _ b0) (.mk rfl ⟨m0, m1, t0, fun z hz => by
        rcases List.mem_append.mp hz with hz | hz
        · exact i0 z (by simp [hz])
        · obtain rfl := List.mem_singleton.mp hz
          exact Int.ediv_nonneg ip (by omega), by rw [List.length_append]; show js.length + 1 ≤ 63; omega⟩)
    · ((repeat walk_at "zs"); (try conv => whnf))
      exact k _ _ (Int.emod_nonneg _ (by omega)) (Int.emod_lt_of_pos _ b0) (.mk rfl ⟨m0, m1, t0, fun z hz => i0 z (by simp [hz]), by omega⟩)
theorem w_l_deck (Cl : Cls) (Fr : Addr → Prop) (svs : List SV) (Ω : Om) (Φ : PhiE) (Ξ : XA) (h : c_l_deck svs Ω Φ Ξ) :
    a_l_deck Cl Fr { nx := fun _ Ω => Φ (.d .none) Ω, rt := Φ } (startR N_l_deck svs) Ω := by
  obtain ⟨ok, k⟩ := h
  rename_i ns
  have cl := Nat.le_trans (cutD_len ns none (some 63)) ok.1
  have sz : sizeLine = 16777216 := by decide
  have l63 : (cutD (isD ns) none (some 63)).length ≤ 63 := by rw [cutD_isD, len_isD]; exact cl
  ((repeat walk_at "zs"); (try conv => whnf))
  intro c fc
  ((repeat walk_at "zs"); (try conv => whnf))
  intro b fb
  rw [dkv_new]
  ((repeat walk_at "zs"); (try conv => whnf))
  refine ⟨fun j ρ Ω' => ∃ (r2 r3 : Option SV) (mx : Int) (is : List Int), ρ = [some (.l (isD ns)), some (.r (.ref b)), r2, r3] ∧ Ω' = (b, .dk (dkv (.r (.ref c)) (I mx) (I 0))) :: (c, .lst (isD is)) :: [] ∧ DeckOk mx 0 is ∧ is.length ≤ j, ⟨none, none, _, [], rfl, rfl, ⟨by omega, by omega, Int.le_refl 0, fun _ h => by simp at h, by decide⟩, Nat.le_refl _⟩, fun _ _ _ _ => trivial, ?_, ?_⟩
  · rintro j y ρ Ω e ⟨r2, r3, mx, is, rfl, rfl, dk, lj⟩
    obtain ⟨m0, m1, -, i0, ln⟩ := id dk
    rw [cutD_isD] at e
    obtain ⟨z, hz, rfl⟩ := get_isD e
    have jlt : j < 63 := by
      have := (List.getElem?_eq_some_iff.mp hz).1
      omega
    have A1 : At ((b, .dk (dkv (.r (.ref c)) (I mx) (I 0))) :: (c, .lst (isD is)) :: ([] : Om)) b (.dk (dkv (.r (.ref c)) (I mx) (I 0))) _ := At.here
    have A2 : At ((b, .dk (dkv (.r (.ref c)) (I mx) (I 0))) :: (c, .lst (isD is)) :: ([] : Om)) c (.lst (isD is)) _ := At.there At.here
    have oz : ∃ o : Int, 2 * (if z < 0 then -z else z) + (if decide (z < 0) = true then 1 else 0) = o ∧ 0 ≤ o := by
      split <;> split <;> exact ⟨_, rfl, by omega⟩
    obtain ⟨o, eo, o0⟩ := oz
    ((repeat walk_at "zs"); (try conv => whnf))
    dsimp only
    rw [eo]
    refine br_d (fun ge => ?_) fun lt => ?_
    · ((repeat walk_at "zs"); (try conv => whnf))
      refine ⟨_, _, _, _, A1, rfl, dkv_g, ?_⟩
      conv => whnf
      refine ⟨⟨_, _, A2, trivial⟩, ?_⟩
      ((repeat walk_at "zs"); (try conv => whnf))
      refine ⟨_, _, A2, ?_⟩
      refine ⟨by rw [len_isD]; omega, ?_⟩
      have e10 : isD is ++ [PyData.int o] = isD (is ++ [o]) := app_isD is [o]
      rw [e10]
      have A3 : At ((b, .dk (dkv (.r (.ref c)) (I mx) (I 0))) :: (c, .lst (isD (is ++ [o]))) :: ([] : Om)) b (.dk (dkv (.r (.ref c)) (I mx) (I 0))) _ := At.here
      ((repeat walk_at "zs"); (try conv => whnf))
      refine ⟨_, _, _, _, A3, rfl, dkv_m, ?_⟩
      ((repeat walk_at "zs"); (try conv => whnf))
      refine ⟨_, _, _, A3, rfl, by walk_at "z1", ?_⟩
      rw [dkv_pm]
      refine ⟨_, _, _, is ++ [o], rfl, rfl, ⟨Int.emod_nonneg _ (by decide), Int.emod_lt_of_pos _ (by decide), Int.le_refl 0, fun w hw => ?_, ?_⟩, ?_⟩
      · rcases List.mem_append.mp hw with hw | hw
        · exact i0 w hw
        · obtain rfl := List.mem_singleton.mp hw
          exact o0
      · rw [List.length_append]; show is.length + 1 ≤ 63; omega
      · rw [List.length_append]; show is.length + 1 ≤ j + 1; omega
    · ((repeat walk_at "zs"); (try conv => whnf))
      refine ⟨_, _, _, _, A1, rfl, dkv_m, ?_⟩
      ((repeat walk_at "zs"); (try conv => whnf))
      refine ⟨_, _, _, A1, rfl, by walk_at "z1", ?_⟩
      rw [dkv_pm]
      exact ⟨_, _, _, is, rfl, rfl, ⟨Int.emod_nonneg _ (by decide), Int.emod_lt_of_pos _ (by decide), Int.le_refl 0, i0, ln⟩, by omega⟩
  · rintro ρ Ω ⟨r2, r3, mx, is, rfl, rfl, dk, lj⟩
    ((repeat walk_at "zs"); (try conv => whnf))
    exact k _ _ (.mk (L := []) rfl dk)
theorem w_l_number (Cl : Cls) (Fr : Addr → Prop) (svs : List SV) (Ω : Om) (Φ : PhiE) (Ξ : XA) (h : c_l_number svs Ω Φ Ξ) :
    a_l_number Cl Fr { nx := fun _ Ω => Φ (.d .none) Ω, rt := Φ } (startR N_l_number svs) Ω := by
  obtain ⟨hB, k⟩ := h
  rename_i x L R
  have t30 : (10 : Int) ^ (30 : Int).toNat = 10 ^ 30 := rfl
  have t15 : (10 : Int) ^ (15 : Int).toNat = 10 ^ 15 := rfl
  ((repeat walk_at "zs"); (try conv => whnf))
  refine .mk hB (by decide) (by decide) fun w Ω w0 w1 hB => ?_
  ((repeat walk_at "zs"); (try conv => whnf))
  refine br_d (fun _ => ?_) fun _ => ?_
  · ((repeat walk_at "zs"); (try conv => whnf))
    refine .mk hB (by decide) (by decide) fun r Ω r0 r1 hB => ?_
    exact k _ _ r0 (by omega) hB
  ((repeat walk_at "zs"); (try conv => whnf))
  refine br_d (fun _ => ?_) fun _ => ?_
  · ((repeat walk_at "zs"); (try conv => whnf))
    refine .mk hB (by decide) (by decide) fun r Ω r0 r1 hB => ?_
    exact k _ _ r0 (by omega) hB
  ((repeat walk_at "zs"); (try conv => whnf))
  dsimp only
  rw [t30]
  refine .mk hB (by decide) (by decide) fun r Ω r0 r1 hB => ?_
  ((repeat walk_at "zs"); (try conv => whnf))
  refine .mk hB (by decide) (by decide) fun q Ω q0 q1 hB => ?_
  ((repeat walk_at "zs"); (try conv => whnf))
  dsimp only
  rw [t15]
  refine .mk hB (by decide) (by decide) fun s Ω s0 s1 hB => ?_
  ((repeat walk_at "zs"); (try conv => whnf))
  refine .mk hB (by simp) (by simp) fun d hd Ω hB => ?_
  obtain ⟨c, rfl, c0, c1⟩ : ∃ c : Int, d = .int c ∧ 0 ≤ c ∧ c ≤ 10 ^ 30 := by
    repeat (rcases List.mem_cons.mp hd with rfl | hd; (exact ⟨_, rfl, by omega⟩))
    exact absurd hd List.not_mem_nil
  exact k _ _ c0 c1 hB
end
section
local macro_rules | `(tactic| walk_at "z1") => `(tactic| ((try dsimp only); first | done | exact True.intro | rfl | omega | exact Nat.le_of_ble_eq_true rfl | (exact ⟨by omega, by omega⟩) | (exact cmul (by omega) (by omega) (by omega) (by omega)) | (exact cdiv (by omega) (by omega)) | (exact Or.inl ⟨by omega, by omega⟩) | (exact Or.inr ⟨by omega, by omega⟩) | decide | assumption | (simp only [List.length_map, List.length_range, List.length_append, List.length_cons, List.length_nil, List.length_replicate, len_repD]; omega)))
local macro_rules | `(tactic| walk_at "zs") => `(tactic| ((conv => whnf); first | with_reducible refine br_T ?_ | with_reducible refine br_F ?_ | with_reducible refine br_d1 rfl ?_ | with_reducible refine br_n ?_ | ((with_reducible refine br_d1 ?_ ?_); (focus omega)) | ((with_reducible refine br_d0 ?_ ?_); (focus omega)) | ((fail_if_success with_reducible refine br_d ?_ ?_); refine br_T ?_) | ((fail_if_success with_reducible refine br_d ?_ ?_); refine br_F ?_) | refine And.intro (by walk_at "z1") ?_ | refine ⟨⟨_, _, .here, trivial⟩, ?_⟩ | refine ⟨_, _, .here, ?_⟩ | refine ⟨_, true, rfl, rfl, ?_⟩ | refine ⟨_, false, rfl, rfl, ?_⟩ | refine ⟨_, (by rfl : atI _ _ = some _), ?_⟩))
theorem natD_rev (w : List Nat) : (natD w).reverse = natD w.reverse := by
  show (List.map _ (List.map _ w)).reverse = List.map _ (List.map _ w.reverse)
  rw [List.map_reverse, List.map_reverse]
theorem natD_app (u v : List Nat) : natD u ++ natD v = natD (u ++ v) := by rw [natD, natD, natD, app_isD, List.map_append]
theorem natD_len (w : List Nat) : (natD w).length = w.length := by rw [natD, len_isD, List.length_map]
theorem get_natD {w : List Nat} {i : Nat} {x : SV} (h : ((natD w).map SV.d)[i]? = some x) : ∃ d : Nat, w[i]? = some d ∧ x = I d := by
  obtain ⟨z, h1, rfl⟩ := get_isD h
  rw [List.getElem?_map] at h1
  cases e : w[i]? with
  | none => rw [e] at h1; cases h1
  | some d => rw [e] at h1; cases h1; exact ⟨d, rfl, rfl⟩
theorem last_natD {w : List Nat} {x : Nat} : atI (natD (w ++ [x])) (-1) = some (.int x) := last_isD (by simp)
theorem val_foldl {b : Nat} : ∀ w : List Nat, w.reverse.foldl (fun a d => a * b + d) 0 = val b w
  | [] => rfl
  | d :: r => by
    rw [List.reverse_cons, List.foldl_append, val_foldl r]
    show val b r * b + d = d + b * val b r
    rw [Nat.mul_comm]
    omega
theorem foldl_lt {b : Nat} (hb : 1 ≤ b) : ∀ (w : List Nat), (∀ d ∈ w, d < b) → w.foldl (fun a d => a * b + d) 0 < b ^ w.length := by
  intro w h
  have := val_foldl (b := b) w.reverse
  rw [List.reverse_reverse] at this
  rw [this]
  have := val_lt hb w.reverse fun d hd => h d (List.mem_reverse.mp hd)
  rwa [List.length_reverse] at this
theorem pow10 {B : Nat} (h : B ≤ 1000) (j : Nat) : B ^ j ≤ 2 ^ (10 * j) := by
  rw [Nat.pow_mul]
  exact Nat.pow_le_pow_left (by omega) j
theorem cmN {i j a b : Nat} (h1 : i < 2 ^ a) (h2 : j < 2 ^ b) (h : a + b ≤ 134217728) : CMulX (i : Int) (j : Int) := mulx_ok (a := a) (b := b) (by rw [Int.natAbs_natCast]; exact h1) (by rw [Int.natAbs_natCast]; exact h2) h
theorem lt_n {i : Int} {k : Nat} (h0 : 0 ≤ i) (h : i < 2 ^ k) : i.toNat < 2 ^ k := by
  have e : ((2 ^ k : Nat) : Int) = 2 ^ k := by simp
  omega
theorem lt_i {n k : Nat} (h : n < 2 ^ k) : (n : Int) < 2 ^ k := by
  have e : ((2 ^ k : Nat) : Int) = 2 ^ k := by simp
  omega
theorem Bk.nat {b : Int} (h : Bk b) : ∃ B : Nat, b = B ∧ 2 ≤ B ∧ B ≤ 1000 := by
  obtain ⟨B, rfl⟩ := Int.eq_ofNat_of_zero_le (show 0 ≤ b by have := h.b0; omega)
  exact ⟨B, rfl, by have := h.b0; omega, by have := h.b1; omega⟩
theorem w_value_in (Cl : Cls) (Fr : Addr → Prop) (svs : List SV) (Ω : Om) (Φ : PhiE) (Ξ : XA) (h : c_value_in svs Ω Φ Ξ) :
    a_value_in Cl Fr { nx := fun _ Ω => Φ (.d .none) Ω, rt := Φ } (startR N_value_in svs) Ω := by
  obtain ⟨bk, dl, ln, k⟩ := h
  rename_i w b
  obtain ⟨B, rfl, B0, B1⟩ := bk.nat
  rw [Int.toNat_natCast] at dl k
  conv => whnf
  rw [natD_rev]
  refine ⟨fun j ρ Ω' => ∃ r3 : Option SV, ρ = [some (T (natD w)), some (I B), some (I (((w.reverse.take j).foldl (fun a d => a * B + d) 0 : Nat) : Int)), r3] ∧ Ω' = Ω, ⟨none, rfl, rfl⟩, fun _ _ _ _ => trivial, ?_, ?_⟩
  · rintro j y ρ Ω e ⟨r3, rfl, rfl⟩
    obtain ⟨d, hd, rfl⟩ := get_natD e
    have jl := (List.getElem?_eq_some_iff.mp hd).1
    rw [List.length_reverse] at jl
    have lt := foldl_lt (b := B) (by omega) (w.reverse.take j) fun d hd => dl d (List.mem_reverse.mp (List.mem_of_mem_take hd))
    have lt2 : (w.reverse.take j).foldl (fun a d => a * B + d) 0 < 2 ^ (10 * 10000) := by
      refine Nat.lt_of_lt_of_le lt (Nat.le_trans (pow10 B1 _) (Nat.pow_le_pow_right (by decide) ?_))
      rw [List.length_take]
      omega
    have ek : (w.reverse.take (j + 1)).foldl (fun a d => a * B + d) 0 = (w.reverse.take j).foldl (fun a d => a * B + d) 0 * B + d := by
      rw [List.take_add_one, hd, List.foldl_append]
      rfl
    conv => whnf
    refine ⟨cmN (b := 10) lt2 (by omega) (by decide), ?_⟩
    conv => whnf
    refine ⟨some (I d), ?_, rfl⟩
    rw [ek]
    rfl
  · rintro ρ Ω ⟨r3, rfl, rfl⟩
    conv => whnf
    rw [List.length_map, natD_len, List.take_length, val_foldl]
    exact k
theorem w_figures (Cl : Cls) (Fr : Addr → Prop) (svs : List SV) (Ω : Om) (Φ : PhiE) (Ξ : XA) (h : c_figures svs Ω Φ Ξ) :
    a_figures Cl Fr { nx := fun _ Ω => Φ (.d .none) Ω, rt := Φ } (startR N_figures svs) Ω := by
  obtain ⟨bk, n0, n1, k⟩ := h
  rename_i n b
  obtain ⟨B, rfl, B0, B1⟩ := bk.nat
  have fl := fig_len (b := B) B0 (lt_n n0 n1)
  obtain ⟨N, rfl⟩ := Int.eq_ofNat_of_zero_le n0
  rw [Int.toNat_natCast, Int.toNat_natCast] at k
  rw [Int.toNat_natCast] at fl
  have sz : sizeLine = 16777216 := by decide
  ((repeat walk_at "zs"); (try conv => whnf))
  intro c fc
  ((repeat walk_at "zs"); (try conv => whnf))
  refine ⟨fun m ρ Ω' => ∃ (x : Nat) (pre : List Nat), ρ = [some (I x), some (I B), some (.r (.ref c))] ∧ Ω' = (c, .lst (natD pre)) :: Ω ∧ m = x ∧ fig B N = pre ++ fig B x, ⟨_, N, [], rfl, rfl, rfl, rfl⟩, ?_⟩
  rintro m ρ _ ⟨x, pre, rfl, rfl, hm, e⟩
  have pl : pre.length ≤ 2000 := by
    have := congrArg List.length e
    rw [List.length_append] at this
    omega
  conv => whnf
  refine br_d (fun gt => ?_) fun le => ?_
  · have xp : 0 < x := by
      have : (0 : Int) < x := gt
      omega
    rw [fig_pos B0 xp] at e
    have ll : (natD pre).length < sizeLine := by rw [natD_len]; omega
    ((repeat walk_at "zs"); (try conv => whnf))
    refine ⟨x / B, by rw [hm]; exact div_lt' B0 xp, x / B, pre ++ [x % B], by rw [Int.natCast_ediv]; rfl, ?_, rfl, by rw [e]; simp⟩
    rw [← natD_app]
    rfl
  · have xp : x = 0 := by
      have : ¬ (0 : Int) < x := le
      omega
    subst xp
    rw [fig_zero, List.append_nil] at e
    rw [e] at k
    ((repeat walk_at "zs"); (try conv => whnf))
    exact ⟨_, .cons _ (.refl _), k⟩
theorem w_raised (Cl : Cls) (Fr : Addr → Prop) (svs : List SV) (Ω : Om) (Φ : PhiE) (Ξ : XA) (h : c_raised svs Ω Φ Ξ) :
    a_raised Cl Fr { nx := fun _ Ω => Φ (.d .none) Ω, rt := Φ } (startR N_raised svs) Ω := by
  obtain ⟨bk, k0, k1, k⟩ := h
  rename_i b K
  obtain ⟨B, rfl, B0, B1⟩ := bk.nat
  ((repeat walk_at "zs"); (try conv => whnf))
  refine ⟨fun j ρ Ω' => ∃ r3, ρ = [some (I B), some (I K), some (I ((B : Int) ^ j)), r3] ∧ Ω' = Ω, ⟨none, by rw [Int.pow_zero]; rfl, rfl⟩, fun _ _ _ _ => trivial, ?_, ?_⟩
  · rintro j x ρ Ω e ⟨r3, rfl, rfl⟩
    obtain ⟨rfl, lt⟩ := rgS_get e
    have cm : CMulX ((B : Int) ^ j) B := by
      have : (B : Int) ^ j = ((B ^ j : Nat) : Int) := by simp
      rw [this]
      exact cmN (a := 10 * j + 1) (b := 10) (Nat.lt_of_le_of_lt (pow10 B1 j) (Nat.pow_lt_pow_right (by decide) (by omega))) (by omega) (by omega)
    ((repeat walk_at "zs"); (try conv => whnf))
    exact ⟨_, by rw [Int.pow_succ]; rfl, rfl⟩
  · rintro ρ Ω ⟨r3, rfl, rfl⟩
    conv => whnf
    rw [rgS_len]
    exact k
theorem w_l_power (Cl : Cls) (Fr : Addr → Prop) (svs : List SV) (Ω : Om) (Φ : PhiE) (Ξ : XA) (h : c_l_power svs Ω Φ Ξ) :
    a_l_power Cl Fr { nx := fun _ Ω => Φ (.d .none) Ω, rt := Φ } (startR N_l_power svs) Ω := by
  obtain ⟨bk, k0, k1, k⟩ := h
  rename_i b K
  obtain ⟨B, rfl, B0, B1⟩ := bk.nat
  ((repeat walk_at "zs"); (try conv => whnf))
  refine ⟨fun j ρ Ω' => ∃ r3, ρ = [some (I B), some (I K), some (I ((B : Int) ^ j)), r3] ∧ Ω' = Ω, ⟨none, by rw [Int.pow_zero]; rfl, rfl⟩, fun _ _ _ _ => trivial, ?_, ?_⟩
  · rintro j x ρ Ω e ⟨r3, rfl, rfl⟩
    obtain ⟨rfl, lt⟩ := rgS_get e
    have cm : CMulX ((B : Int) ^ j) B := by
      have : (B : Int) ^ j = ((B ^ j : Nat) : Int) := by simp
      rw [this]
      exact cmN (a := 10 * j + 1) (b := 10) (Nat.lt_of_le_of_lt (pow10 B1 j) (Nat.pow_lt_pow_right (by decide) (by omega))) (by omega) (by omega)
    ((repeat walk_at "zs"); (try conv => whnf))
    exact ⟨_, by rw [Int.pow_succ]; rfl, rfl⟩
  · rintro ρ Ω ⟨r3, rfl, rfl⟩
    conv => whnf
    rw [rgS_len]
    exact k
theorem w_turned_number (Cl : Cls) (Fr : Addr → Prop) (svs : List SV) (Ω : Om) (Φ : PhiE) (Ξ : XA) (h : c_turned_number svs Ω Φ Ξ) :
    a_turned_number Cl Fr { nx := fun _ Ω => Φ (.d .none) Ω, rt := Φ } (startR N_turned_number svs) Ω := by
  obtain ⟨bk, n0, n1, k⟩ := h
  rename_i b n
  have b0 := bk.b0
  have fl := fig_len (b := b.toNat) (by omega) (lt_n n0 n1)
  conv => whnf
  refine .mk bk n0 n1 ?_
  conv => whnf
  rw [natD_rev]
  refine .tup bk (fun d hd => fig_lt (by omega) _ _ (Nat.le_refl _) d (List.mem_reverse.mp hd)) (by rw [List.length_reverse]; omega) ?_
  exact k
theorem w_is_mirrored (Cl : Cls) (Fr : Addr → Prop) (svs : List SV) (Ω : Om) (Φ : PhiE) (Ξ : XA) (h : c_is_mirrored svs Ω Φ Ξ) :
    a_is_mirrored Cl Fr { nx := fun _ Ω => Φ (.d .none) Ω, rt := Φ } (startR N_is_mirrored svs) Ω := by
  obtain ⟨bk, n0, n1, k⟩ := h
  rename_i b n
  conv => whnf
  refine .mk bk n0 n1 ?_
  ((repeat walk_at "zs"); (try conv => whnf))
  exact k
theorem w_l_turned (Cl : Cls) (Fr : Addr → Prop) (svs : List SV) (Ω : Om) (Φ : PhiE) (Ξ : XA) (h : c_l_turned svs Ω Φ Ξ) :
    a_l_turned Cl Fr { nx := fun _ Ω => Φ (.d .none) Ω, rt := Φ } (startR N_l_turned svs) Ω := by
  obtain ⟨bk, n0, n1, k⟩ := h
  rename_i b n
  obtain ⟨B, rfl, B0, B1⟩ := bk.nat
  have nl := lt_n n0 n1
  obtain ⟨N, rfl⟩ := Int.eq_ofNat_of_zero_le n0
  unfold tuI at k
  rw [Int.toNat_natCast, Int.toNat_natCast] at k
  rw [Int.toNat_natCast] at nl
  have tb : turn B N < 2 ^ 2010 := by
    rcases Nat.eq_zero_or_pos N with rfl | p
    · rw [turn_zero]
      exact Nat.pow_pos (by decide)
    · have h1 := turn_lt B0 p
      have h2 : B * N < 2 ^ 10 * 2 ^ 2000 := Nat.mul_lt_mul'' (by omega) nl
      rw [← Nat.pow_add] at h2
      exact Nat.lt_trans h1 h2
  ((repeat walk_at "zs"); (try conv => whnf))
  refine ⟨fun m ρ Ω' => ∃ x acc : Nat, ρ = [some (I B), some (I x), some (I acc)] ∧ Ω' = Ω ∧ m = x ∧ tlF B x x acc = turn B N, ⟨_, N, 0, rfl, rfl, rfl, (turn_tl B0 (Nat.le_refl N)).symm⟩, ?_⟩
  rintro m ρ _ ⟨x, acc, rfl, rfl, hm, e⟩
  have al : acc < 2 ^ 2010 := by
    have h := tlF_eq B0 x x acc (Nat.le_refl x)
    have h2 := Nat.mul_le_mul_left acc (show 1 ≤ B ^ (fig B x).length from Nat.pow_pos (by omega))
    omega
  conv => whnf
  refine br_d (fun gt => ?_) fun le => ?_
  · have xp : 0 < x := by
      have : (0 : Int) < x := gt
      omega
    have cm : CMulX (acc : Int) (B : Int) := cmN (b := 10) al (by omega) (by decide)
    ((repeat walk_at "zs"); (try conv => whnf))
    have l := div_lt' B0 xp
    refine ⟨x / B, by rw [hm]; exact l, x / B, acc * B + x % B, by rw [Int.natCast_ediv, Int.natCast_add, Int.natCast_mul, Int.natCast_emod]; rfl, rfl, rfl, ?_⟩
    rw [← e]
    obtain ⟨y, rfl⟩ : ∃ y, x = y + 1 := ⟨x - 1, by omega⟩
    rw [show tlF B (y + 1) (y + 1) acc = tlF B y ((y + 1) / B) (acc * B + (y + 1) % B) from if_neg (by omega)]
    rw [tlF_eq B0 _ _ _ (Nat.le_refl _), tlF_eq B0 y _ _ (by omega)]
  · have xp : x = 0 := by
      have : ¬ (0 : Int) < x := le
      omega
    subst xp
    have e' : acc = turn B N := e
    ((repeat walk_at "zs"); (try conv => whnf))
    rw [e']
    exact k
end
section
local macro_rules | `(tactic| walk_at "z1") => `(tactic| ((try dsimp only); first | done | exact True.intro | rfl | omega | exact Nat.le_of_ble_eq_true rfl | (exact ⟨by omega, by omega⟩) | (exact cmul (by omega) (by omega) (by omega) (by omega)) | (exact cdiv (by omega) (by omega)) | (exact Or.inl ⟨by omega, by omega⟩) | (exact Or.inr ⟨by omega, by omega⟩) | decide | assumption | (simp only [List.length_map, List.length_range, List.length_append, List.length_cons, List.length_nil, List.length_replicate, len_repD]; omega)))
local macro_rules | `(tactic| walk_at "zs") => `(tactic| ((conv => whnf); first | with_reducible refine br_T ?_ | with_reducible refine br_F ?_ | with_reducible refine br_d1 rfl ?_ | with_reducible refine br_n ?_ | ((with_reducible refine br_d1 ?_ ?_); (focus omega)) | ((with_reducible refine br_d0 ?_ ?_); (focus omega)) | ((fail_if_success with_reducible refine br_d ?_ ?_); refine br_T ?_) | ((fail_if_success with_reducible refine br_d ?_ ?_); refine br_F ?_) | refine And.intro (by walk_at "z1") ?_ | refine ⟨⟨_, _, .here, trivial⟩, ?_⟩ | refine ⟨_, _, .here, ?_⟩ | refine ⟨_, true, rfl, rfl, ?_⟩ | refine ⟨_, false, rfl, rfl, ?_⟩ | refine ⟨_, (by rfl : atI _ _ = some _), ?_⟩))
theorem turn_le {b n : Nat} (hb : 2 ≤ b) : turn b n ≤ b * n := by
  rcases Nat.eq_zero_or_pos n with rfl | p
  · exact Nat.le_refl _
  · exact Nat.le_of_lt (turn_lt hb p)
theorem grow_bd {b x s : Nat} (hb : 2 ≤ b) : (x + turn b x) * (b + 1) ^ s ≤ x * (b + 1) ^ (s + 1) := by
  have h := turn_le (n := x) hb
  have e : x * (b + 1) = x + b * x := by rw [Nat.mul_add, Nat.mul_one, Nat.mul_comm x b]; omega
  rw [Nat.pow_succ, Nat.mul_comm ((b + 1) ^ s), ← Nat.mul_assoc, e]
  exact Nat.mul_le_mul_right _ (by omega)
theorem grow_one {b x s : Nat} : x ≤ x * (b + 1) ^ s := by
  have := Nat.mul_le_mul_left x (show 1 ≤ (b + 1) ^ s from Nat.pow_pos (by omega))
  omega
theorem wk_len {b : Nat} : ∀ s n : Nat, (wk b s n).length ≤ s + 1
  | 0, _ => Nat.le_refl _
  | s + 1, n => by
    unfold wk
    split
    · simp
    · have := wk_len (b := b) s (n + turn b n)
      simp only [List.length_cons]
      omega
theorem w_turned_walk (Cl : Cls) (Fr : Addr → Prop) (svs : List SV) (Ω : Om) (Φ : PhiE) (Ξ : XA) (h : c_turned_walk svs Ω Φ Ξ) :
    a_turned_walk Cl Fr { nx := fun _ Ω => Φ (.d .none) Ω, rt := Φ } (startR N_turned_walk svs) Ω := by
  obtain ⟨bk, n0, s0, s1, bd, k⟩ := h
  rename_i b n s
  obtain ⟨B, rfl, B0, B1⟩ := bk.nat
  obtain ⟨N, rfl⟩ := Int.eq_ofNat_of_zero_le n0
  obtain ⟨S, rfl⟩ := Int.eq_ofNat_of_zero_le s0
  unfold wkI at k
  rw [Int.toNat_natCast, Int.toNat_natCast, Int.toNat_natCast] at k
  rw [Int.toNat_natCast] at bd
  have bd' : N * (B + 1) ^ S < 2 ^ 2000 := by
    have e : ((N * (B + 1) ^ S : Nat) : Int) = (N : Int) * ((B : Int) + 1) ^ S := by simp
    have := lt_n (i := ((N * (B + 1) ^ S : Nat) : Int)) (by omega) (by rw [e]; exact bd)
    rwa [Int.toNat_natCast] at this
  have sz : sizeLine = 16777216 := by decide
  ((repeat walk_at "zs"); (try conv => whnf))
  intro c fc
  ((repeat walk_at "zs"); (try conv => whnf))
  refine ⟨fun m ρ Ω' => ∃ (x : Nat) (pre : List Nat), ρ = [some (I B), some (I N), some (I S), some (.r (.ref c))] ∧ Ω' = (c, .lst (natD (pre ++ [x]))) :: Ω ∧ m = S - pre.length ∧ pre.length ≤ S ∧ wk B S N = pre ++ wk B (S - pre.length) x ∧ x * (B + 1) ^ (S - pre.length) < 2 ^ 2000, ⟨_, N, [], rfl, rfl, rfl, Nat.zero_le _, rfl, bd'⟩, ?_⟩
  rintro m ρ _ ⟨x, pre, rfl, rfl, hm, pS, e, xb⟩
  have xl : (x : Int) < 2 ^ 2000 := lt_i (Nat.lt_of_le_of_lt grow_one xb)
  have ll : (natD (pre ++ [x])).length = pre.length + 1 := by rw [natD_len, List.length_append]; rfl
  have at1 := last_natD (w := pre) (x := x)
  ((repeat walk_at "zs"); (try conv => whnf))
  rw [ll]
  refine br_d (fun le => ?_) fun gt => ?_
  · have le' : pre.length + 1 ≤ S := by
      have : ((pre.length + 1 : Nat) : Int) ≤ (S : Int) := le
      omega
    obtain ⟨t, ht⟩ : ∃ t, S - pre.length = t + 1 := ⟨S - pre.length - 1, by omega⟩
    rw [ht] at e xb
    have gb := Nat.lt_of_le_of_lt (grow_bd (b := B) (x := x) (s := t) B0) xb
    ((repeat walk_at "zs"); (try conv => whnf))
    refine ⟨_, at1, ?_⟩
    ((repeat walk_at "zs"); (try conv => whnf))
    refine .mk bk (by omega) xl ?_
    ((repeat walk_at "zs"); (try conv => whnf))
    refine br_d (fun h => ?_) fun h => ?_
    · have h' : turn B x = x := by
        have : ((turn ((B : Int)).toNat ((x : Int)).toNat : Nat) : Int) = x := h
        rw [Int.toNat_natCast, Int.toNat_natCast] at this
        omega
      rw [show wk B (t + 1) x = [x] from if_pos h'] at e
      rw [e] at k
      ((repeat walk_at "zs"); (try conv => whnf))
      exact ⟨_, .cons _ (.refl _), k⟩
    · have h' : turn B x ≠ x := fun z => h (by
        show ((turn ((B : Int)).toNat ((x : Int)).toNat : Nat) : Int) = x
        rw [Int.toNat_natCast, Int.toNat_natCast, z])
      rw [show wk B (t + 1) x = x :: wk B t (x + turn B x) from if_neg h'] at e
      ((repeat walk_at "zs"); (try conv => whnf))
      refine ⟨_, at1, ?_⟩
      ((repeat walk_at "zs"); (try conv => whnf))
      refine ⟨_, at1, ?_⟩
      ((repeat walk_at "zs"); (try conv => whnf))
      refine .mk bk (by omega) xl ?_
      ((repeat walk_at "zs"); (try conv => whnf))
      have lt2 : S - (pre ++ [x]).length = t := by rw [List.length_append]; show S - (pre.length + 1) = t; omega
      refine ⟨S - (pre ++ [x]).length, by rw [hm, lt2]; omega, x + turn B x, pre ++ [x], rfl, ?_, rfl, by rw [List.length_append]; exact le', ?_, ?_⟩
      · rw [← natD_app (pre ++ [x])]
        rfl
      · rw [lt2, e, List.append_assoc]
        rfl
      · rw [lt2]
        exact gb
  · have eq : S = pre.length := by
      have : ¬ ((pre.length + 1 : Nat) : Int) ≤ (S : Int) := gt
      omega
    rw [show S - pre.length = 0 by omega] at e
    have e' : wk B S N = pre ++ [x] := e
    rw [e'] at k
    ((repeat walk_at "zs"); (try conv => whnf))
    exact ⟨_, .cons _ (.refl _), k⟩
theorem w_l_walk (Cl : Cls) (Fr : Addr → Prop) (svs : List SV) (Ω : Om) (Φ : PhiE) (Ξ : XA) (h : c_l_walk svs Ω Φ Ξ) :
    a_l_walk Cl Fr { nx := fun _ Ω => Φ (.d .none) Ω, rt := Φ } (startR N_l_walk svs) Ω := by
  obtain ⟨bk, n0, s0, s1, bd, k⟩ := h
  rename_i b n s
  obtain ⟨B, rfl, B0, B1⟩ := bk.nat
  obtain ⟨N, rfl⟩ := Int.eq_ofNat_of_zero_le n0
  obtain ⟨S, rfl⟩ := Int.eq_ofNat_of_zero_le s0
  unfold wkI at k
  rw [Int.toNat_natCast, Int.toNat_natCast, Int.toNat_natCast] at k
  rw [Int.toNat_natCast] at bd
  have bd' : N * (B + 1) ^ S < 2 ^ 2000 := by
    have e : ((N * (B + 1) ^ S : Nat) : Int) = (N : Int) * ((B : Int) + 1) ^ S := by simp
    have := lt_n (i := ((N * (B + 1) ^ S : Nat) : Int)) (by omega) (by rw [e]; exact bd)
    rwa [Int.toNat_natCast] at this
  have sz : sizeLine = 16777216 := by decide
  ((repeat walk_at "zs"); (try conv => whnf))
  intro c fc
  ((repeat walk_at "zs"); (try conv => whnf))
  refine ⟨fun j ρ Ω' => ∃ (x : Nat) (pre : List Nat) (r4 r5 : Option SV), ρ = [some (I B), some (I N), some (I S), some (.r (.ref c)), r4, r5] ∧ Ω' = (c, .lst (natD (pre ++ [x]))) :: Ω ∧ pre.length = j ∧ j ≤ S ∧ wk B S N = pre ++ wk B (S - j) x ∧ x * (B + 1) ^ (S - j) < 2 ^ 2000, ⟨N, [], none, none, rfl, rfl, rfl, Nat.zero_le _, rfl, bd'⟩, fun _ _ _ _ => trivial, ?_, ?_⟩
  · rintro j y ρ _ e ⟨x, pre, r4, r5, rfl, rfl, pj, jS, e2, xb⟩
    obtain ⟨rfl, lt⟩ := rgS_get e
    have xl : (x : Int) < 2 ^ 2000 := lt_i (Nat.lt_of_le_of_lt grow_one xb)
    have ll : (natD (pre ++ [x])).length = pre.length + 1 := by rw [natD_len, List.length_append]; rfl
    have at1 := last_natD (w := pre) (x := x)
    obtain ⟨t, ht⟩ : ∃ t, S - j = t + 1 := ⟨S - j - 1, by omega⟩
    rw [ht] at e2 xb
    have gb := Nat.lt_of_le_of_lt (grow_bd (b := B) (x := x) (s := t) B0) xb
    ((repeat walk_at "zs"); (try conv => whnf))
    refine ⟨_, at1, ?_⟩
    ((repeat walk_at "zs"); (try conv => whnf))
    refine .mk bk (by omega) xl ?_
    ((repeat walk_at "zs"); (try conv => whnf))
    refine ⟨_, at1, ?_⟩
    ((repeat walk_at "zs"); (try conv => whnf))
    refine br_d (fun h => ?_) fun h => ?_
    · have h' : turn B x = x := by
        have : ((turn ((B : Int)).toNat ((x : Int)).toNat : Nat) : Int) = x := h
        rw [Int.toNat_natCast, Int.toNat_natCast] at this
        omega
      rw [show wk B (t + 1) x = [x] from if_pos h'] at e2
      rw [e2] at k
      ((repeat walk_at "zs"); (try conv => whnf))
      exact ⟨_, .cons _ (.refl _), k⟩
    · have h' : turn B x ≠ x := fun z => h (by
        show ((turn ((B : Int)).toNat ((x : Int)).toNat : Nat) : Int) = x
        rw [Int.toNat_natCast, Int.toNat_natCast, z])
      rw [show wk B (t + 1) x = x :: wk B t (x + turn B x) from if_neg h'] at e2
      ((repeat walk_at "zs"); (try conv => whnf))
      refine ⟨_, at1, ?_⟩
      ((repeat walk_at "zs"); (try conv => whnf))
      have lt2 : S - (j + 1) = t := by omega
      refine ⟨x + turn B x, pre ++ [x], some (I (0 + (j : Int))), some (I (tuI B x)), rfl, ?_, by rw [List.length_append, pj]; rfl, by omega, ?_, ?_⟩
      · rw [← natD_app (pre ++ [x])]
        rfl
      · rw [lt2, e2, List.append_assoc]
        rfl
      · rw [lt2]
        exact gb
  · rintro ρ _ ⟨x, pre, r4, r5, rfl, rfl, pj, jS, e2, xb⟩
    rw [rgS_len] at e2
    rw [show S - ((S : Int)).toNat = 0 by omega] at e2
    have e' : wk B S N = pre ++ [x] := e2
    rw [e'] at k
    ((repeat walk_at "zs"); (try conv => whnf))
    exact ⟨_, .cons _ (.refl _), k⟩
theorem rep1 {d : PyData} (n : Nat) : repD [d] (n : Int) = List.replicate n d := by
  unfold repD
  rw [Int.toNat_natCast]
  induction n with
  | zero => rfl
  | succ n ih => rw [List.replicate_succ, List.flatten_cons, ih]; rfl
theorem natD_rep (n d : Nat) : natD (List.replicate n d) = List.replicate n (.int (d : Nat)) := by
  show List.map _ (List.map _ _) = _
  rw [List.map_replicate, List.map_replicate]
theorem w_never_number (Cl : Cls) (Fr : Addr → Prop) (svs : List SV) (Ω : Om) (Φ : PhiE) (Ξ : XA) (h : c_never_number svs Ω Φ Ξ) :
    a_never_number Cl Fr { nx := fun _ Ω => Φ (.d .none) Ω, rt := Φ } (startR N_never_number svs) Ω := by
  obtain ⟨n0, n1, k⟩ := h
  rename_i n
  obtain ⟨N, rfl⟩ := Int.eq_ofNat_of_zero_le (show 0 ≤ n by omega)
  rw [Int.toNat_natCast] at k
  have sz : sizeLine = 16777216 := by decide
  have e : List.replicate N (PyData.int 0) ++ [.int 1, .int 0] ++ List.replicate N (.int 1) ++ [.int 0, .int 1] = natD (nevW N) := by
    unfold nevW
    rw [← natD_app, ← natD_app, ← natD_app, natD_rep, natD_rep]
    rfl
  ((repeat walk_at "zs"); (try conv => whnf))
  rw [rep1, rep1, e]
  refine .tup ⟨by decide, by decide⟩ (fun d hd => ?_) ?_ ?_
  · unfold nevW at hd
    simp at hd
    show d < 2
    omega
  · unfold nevW
    simp
    omega
  · exact k
theorem w_l_never (Cl : Cls) (Fr : Addr → Prop) (svs : List SV) (Ω : Om) (Φ : PhiE) (Ξ : XA) (h : c_l_never svs Ω Φ Ξ) :
    a_l_never Cl Fr { nx := fun _ Ω => Φ (.d .none) Ω, rt := Φ } (startR N_l_never svs) Ω := by
  obtain ⟨n0, n1, k⟩ := h
  rename_i n
  obtain ⟨N, rfl⟩ := Int.eq_ofNat_of_zero_le (show 0 ≤ n by omega)
  rw [Int.toNat_natCast] at k
  have sz : sizeLine = 16777216 := by decide
  have e : [PyData.int 1, .int 0] ++ List.replicate N (PyData.int 1) ++ [.int 0, .int 1] ++ List.replicate N (.int 0) = natD (nevW N).reverse := by
    unfold nevW
    rw [List.reverse_append, List.reverse_append, List.reverse_append, List.reverse_replicate, List.reverse_replicate, ← natD_app, ← natD_app, ← natD_app, natD_rep, natD_rep]
    simp [natD, isD]
  ((repeat walk_at "zs"); (try conv => whnf))
  rw [rep1, rep1, e]
  refine ⟨fun j ρ Ω' => ∃ r2 : Option SV, ρ = [some (I N), some (I ((((nevW N).reverse.take j).foldl (fun a d => a * 2 + d) 0 : Nat) : Int)), r2] ∧ Ω' = Ω, ⟨none, rfl, rfl⟩, fun _ _ _ _ => trivial, ?_, ?_⟩
  · rintro j y ρ Ω e ⟨r2, rfl, rfl⟩
    obtain ⟨d, hd, rfl⟩ := get_natD e
    have ek : ((nevW N).reverse.take (j + 1)).foldl (fun a d => a * 2 + d) 0 = 2 * ((nevW N).reverse.take j).foldl (fun a d => a * 2 + d) 0 + d := by
      rw [List.take_add_one, hd, List.foldl_append, Nat.mul_comm 2]
      rfl
    ((repeat walk_at "zs"); (try conv => whnf))
    refine ⟨some (I d), ?_, rfl⟩
    rw [ek]
    rfl
  · rintro ρ Ω ⟨r2, rfl, rfl⟩
    conv => whnf
    rw [List.length_map, natD_len, List.take_length, val_foldl]
    exact k
theorem w_mirrored_count (Cl : Cls) (Fr : Addr → Prop) (svs : List SV) (Ω : Om) (Φ : PhiE) (Ξ : XA) (h : c_mirrored_count svs Ω Φ Ξ) :
    a_mirrored_count Cl Fr { nx := fun _ Ω => Φ (.d .none) Ω, rt := Φ } (startR N_mirrored_count svs) Ω := by
  obtain ⟨bk, s0, s1, k⟩ := h
  rename_i b s
  obtain ⟨B, rfl, B0, B1⟩ := bk.nat
  obtain ⟨S, rfl⟩ := Int.eq_ofNat_of_zero_le s0
  rw [Int.toNat_natCast, Int.toNat_natCast] at k
  conv => whnf
  refine br_d (fun gt => ?_) fun le => ?_
  · have S0 : S ≠ 0 := by
      have : (0 : Int) < S := gt
      omega
    unfold cnt at k
    rw [if_neg S0] at k
    ((repeat walk_at "zs"); (try conv => whnf))
    refine .mk bk (by omega) (by omega) ?_
    have en : (((S : Int) - 1) / 2).toNat = (S - 1) / 2 := by omega
    dsimp only
    rw [en]
    have e1 : (B : Int) ^ ((S - 1) / 2) = ((B ^ ((S - 1) / 2) : Nat) : Int) := by simp
    rw [e1]
    have cm : CMulX ((B : Int) - 1) ((B ^ ((S - 1) / 2) : Nat) : Int) := by
      rw [show (B : Int) - 1 = ((B - 1 : Nat) : Int) by omega]
      exact cmN (a := 10) (b := 10 * 1000 + 1) (by omega) (Nat.lt_of_le_of_lt (pow10 B1 _) (Nat.pow_lt_pow_right (by decide) (by omega))) (by decide)
    ((repeat walk_at "zs"); (try conv => whnf))
    have e2 : ((B : Int) - 1) * ((B ^ ((S - 1) / 2) : Nat) : Int) = (((B - 1) * B ^ ((S - 1) / 2) : Nat) : Int) := by
      rw [Int.natCast_mul, show (B : Int) - 1 = ((B - 1 : Nat) : Int) by omega]
    dsimp only
    rw [e2]
    exact k
  · have S0 : S = 0 := by
      have : ¬ (0 : Int) < S := le
      omega
    subst S0
    exact k
end
section
local macro_rules | `(tactic| walk_at "z1") => `(tactic| ((try dsimp only); first | done | exact True.intro | rfl | omega | exact Nat.le_of_ble_eq_true rfl | (exact ⟨by omega, by omega⟩) | (exact cmul (by omega) (by omega) (by omega) (by omega)) | (exact cdiv (by omega) (by omega)) | (exact Or.inl ⟨by omega, by omega⟩) | (exact Or.inr ⟨by omega, by omega⟩) | decide | assumption | (simp only [List.length_map, List.length_range, List.length_append, List.length_cons, List.length_nil, List.length_replicate, len_repD]; omega)))
local macro_rules | `(tactic| walk_at "zs") => `(tactic| ((conv => whnf); first | with_reducible refine br_T ?_ | with_reducible refine br_F ?_ | with_reducible refine br_d1 rfl ?_ | with_reducible refine br_n ?_ | ((with_reducible refine br_d1 ?_ ?_); (focus omega)) | ((with_reducible refine br_d0 ?_ ?_); (focus omega)) | ((fail_if_success with_reducible refine br_d ?_ ?_); refine br_T ?_) | ((fail_if_success with_reducible refine br_d ?_ ?_); refine br_F ?_) | refine And.intro (by walk_at "z1") ?_ | refine ⟨⟨_, _, .here, trivial⟩, ?_⟩ | refine ⟨_, _, .here, ?_⟩ | refine ⟨_, true, rfl, rfl, ?_⟩ | refine ⟨_, false, rfl, rfl, ?_⟩ | refine ⟨_, (by rfl : atI _ _ = some _), ?_⟩))
theorem s_bnd {b s p : Nat} (hb : 2 ≤ b) (hb2 : b ≤ 1000) (hp : p < 2 ^ 101) (h : ahead b s ≤ p) : s ≤ 210 := by
  obtain ⟨h1, h2, -⟩ := szF_ok hb p 0 p (Nat.le_refl _)
  have k := (at_bnd hb hb2 hp).2
  have a0 : ahead b 0 = 0 := rfl
  generalize szF b p 0 p = r at *
  obtain ⟨s', l⟩ := r
  dsimp only at *
  rcases Nat.lt_or_ge s' s with z | z
  · have := ahead_mono hb (show s' + 1 ≤ s from z)
    have : ahead b (s' + 1) = ahead b s' + cnt b s' := rfl
    omega
  · omega
theorem half_bd {b s h : Nat} (hb : b ≤ 1000) (hs : s ≤ 210) (H : Half b s h) : h < 2 ^ 1100 :=
  Nat.lt_of_lt_of_le H.hi (Nat.le_trans (pow10 hb _) (Nat.pow_le_pow_right (by decide) (by omega)))
theorem w_mirrored_of_half (Cl : Cls) (Fr : Addr → Prop) (svs : List SV) (Ω : Om) (Φ : PhiE) (Ξ : XA) (h : c_mirrored_of_half svs Ω Φ Ξ) :
    a_mirrored_of_half Cl Fr { nx := fun _ Ω => Φ (.d .none) Ω, rt := Φ } (startR N_mirrored_of_half svs) Ω := by
  obtain ⟨bk, H, s0, h0, h1, k⟩ := h
  rename_i b s h
  obtain ⟨B, rfl, B0, B1⟩ := bk.nat
  obtain ⟨S, rfl⟩ := Int.eq_ofNat_of_zero_le s0
  have fl := fig_len (b := B) B0 (lt_n h0 h1)
  obtain ⟨N, rfl⟩ := Int.eq_ofNat_of_zero_le h0
  rw [Int.toNat_natCast] at fl
  unfold pal lowd at k
  simp only [Int.toNat_natCast] at H k
  have dl : ∀ d ∈ fig B N, d < B := fig_lt B0 N N (Nat.le_refl _)
  have sz : sizeLine = 16777216 := by decide
  conv => whnf
  refine .mk bk h0 h1 ?_
  simp only [Int.toNat_natCast]
  have l1 : (natD (fig B N)).length ≤ 2000 := by rw [natD_len]; exact fl
  have l2 : (natD (fig B N)).reverse.length ≤ 2000 := by rw [List.length_reverse]; exact l1
  ((repeat walk_at "zs"); (try conv => whnf))
  refine br_d (fun h => ?_) fun h => ?_
  · have h' : S % 2 = 0 := by
      have : (S : Int) % 2 = 0 := h
      omega
    rw [if_pos h'] at k
    ((repeat walk_at "zs"); (try conv => whnf))
    rw [natD_rev, natD_app]
    refine .tup bk (fun d hd => ?_) (by rw [List.length_append, List.length_reverse]; omega) k
    rw [Int.toNat_natCast]
    rcases List.mem_append.mp hd with hd | hd
    · exact dl d (List.mem_reverse.mp hd)
    · exact dl d hd
  · have h' : ¬ S % 2 = 0 := fun z => h (by show (S : Int) % 2 = 0; omega)
    rw [if_neg h'] at k
    have ec : cutD (natD (fig B N)) (some 1) none = natD ((fig B N).drop 1) := by
      rw [cut_from_isD (by decide), ← List.map_drop]
      rfl
    have l3 : (natD ((fig B N).drop 1)).length ≤ 2000 := by rw [natD_len, List.length_drop]; omega
    ((repeat walk_at "zs"); (try conv => whnf))
    rw [ec]
    refine ⟨by omega, ?_⟩
    ((repeat walk_at "zs"); (try conv => whnf))
    rw [natD_rev, natD_app]
    refine .tup bk (fun d hd => ?_) (by rw [List.length_append, List.length_reverse, List.length_drop]; omega) k
    rw [Int.toNat_natCast]
    rcases List.mem_append.mp hd with hd | hd
    · exact dl d (List.mem_reverse.mp hd)
    · exact dl d (List.mem_of_mem_drop hd)
theorem w_mirrored_at (Cl : Cls) (Fr : Addr → Prop) (svs : List SV) (Ω : Om) (Φ : PhiE) (Ξ : XA) (h : c_mirrored_at svs Ω Φ Ξ) :
    a_mirrored_at Cl Fr { nx := fun _ Ω => Φ (.d .none) Ω, rt := Φ } (startR N_mirrored_at svs) Ω := by
  obtain ⟨bk, p0, p1, k⟩ := h
  rename_i b p
  obtain ⟨B, rfl, B0, B1⟩ := bk.nat
  have pl := lt_n p0 p1
  obtain ⟨P, rfl⟩ := Int.eq_ofNat_of_zero_le p0
  rw [Int.toNat_natCast] at pl
  unfold atI' at k
  rw [Int.toNat_natCast, Int.toNat_natCast] at k
  ((repeat walk_at "zs"); (try conv => whnf))
  refine ⟨fun m ρ Ω' => ∃ s l : Nat, ρ = [some (I B), some (I P), some (I s), some (I l)] ∧ Ω' = Ω ∧ m = l ∧ ahead B s + l = P, ⟨_, 0, P, rfl, rfl, rfl, Nat.zero_add _⟩, ?_⟩
  rintro m ρ Ω ⟨s, l, rfl, rfl, hm, e⟩
  have sb := s_bnd (s := s) B0 B1 pl (by omega)
  have cp := cnt_pos (s := s) B0
  ((repeat walk_at "zs"); (try conv => whnf))
  refine .mk bk (by omega) (by omega) ?_
  simp only [Int.toNat_natCast]
  ((repeat walk_at "zs"); (try conv => whnf))
  refine br_d (fun ge => ?_) fun lt => ?_
  · have ge' : cnt B s ≤ l := by
      have : ((cnt B s : Nat) : Int) ≤ l := ge
      omega
    ((repeat walk_at "zs"); (try conv => whnf))
    refine .mk bk (by omega) (by omega) ?_
    simp only [Int.toNat_natCast]
    ((repeat walk_at "zs"); (try conv => whnf))
    refine ⟨l - cnt B s, by omega, s + 1, l - cnt B s, ?_, rfl, rfl, ?_⟩
    · rw [Int.natCast_sub ge']
      rfl
    · show ahead B s + cnt B s + (l - cnt B s) = P
      omega
  · have lt' : l < cnt B s := by
      have : ¬ ((cnt B s : Nat) : Int) ≤ l := lt
      omega
    rw [atV_of B0 lt' e] at k
    unfold palS at k
    ((repeat walk_at "zs"); (try conv => whnf))
    refine br_d (fun z => ?_) fun z => ?_
    · have z' : s = 0 := by
        have : (s : Int) = 0 := z
        omega
      rw [if_pos z'] at k
      ((repeat walk_at "zs"); (try conv => whnf))
      exact k
    · have z' : ¬ s = 0 := fun y => z (by show (s : Int) = 0; omega)
      rw [if_neg z'] at k
      have H := half_of B0 (show 1 ≤ s by omega) lt'
      have hb := half_bd B1 sb H
      ((repeat walk_at "zs"); (try conv => whnf))
      refine .mk bk (by omega) (by omega) ?_
      have en : (((s : Int) - 1) / 2).toNat = (s - 1) / 2 := by omega
      dsimp only
      rw [en]
      have e1 : (B : Int) ^ ((s - 1) / 2) = ((B ^ ((s - 1) / 2) : Nat) : Int) := by simp
      rw [e1]
      ((repeat walk_at "zs"); (try conv => whnf))
      have e2 : (((B ^ ((s - 1) / 2) : Nat) : Int) + (l : Int)).toNat = B ^ ((s - 1) / 2) + l := by omega
      refine .mk bk (by rw [e2, Int.toNat_natCast, Int.toNat_natCast]; exact H) (by omega) (by omega) ?_ ?_
      · have := lt_i hb
        refine Int.lt_trans (b := 2 ^ 1100) ?_ (by decide +kernel)
        rw [Int.natCast_add] at this
        exact this
      · rw [e2, Int.toNat_natCast, Int.toNat_natCast]
        exact k
theorem w_l_at (Cl : Cls) (Fr : Addr → Prop) (svs : List SV) (Ω : Om) (Φ : PhiE) (Ξ : XA) (h : c_l_at svs Ω Φ Ξ) :
    a_l_at Cl Fr { nx := fun _ Ω => Φ (.d .none) Ω, rt := Φ } (startR N_l_at svs) Ω := by
  obtain ⟨bk, p0, p1, k⟩ := h
  rename_i b p
  obtain ⟨B, rfl, B0, B1⟩ := bk.nat
  have pl := lt_n p0 p1
  obtain ⟨P, rfl⟩ := Int.eq_ofNat_of_zero_le p0
  rw [Int.toNat_natCast] at pl
  unfold atI' at k
  rw [Int.toNat_natCast, Int.toNat_natCast] at k
  ((repeat walk_at "zs"); (try conv => whnf))
  refine br_d (fun z => ?_) fun z => ?_
  · have z' : P = 0 := by
      have : (P : Int) = 0 := z
      omega
    subst z'
    have e : atV B 0 = palS B 0 0 := atV_of (p := 0) B0 (by unfold cnt; rw [if_pos rfl]; decide) rfl
    rw [e] at k
    ((repeat walk_at "zs"); (try conv => whnf))
    exact k
  have z' : P ≠ 0 := fun y => z (by show (P : Int) = 0; omega)
  ((repeat walk_at "zs"); (try conv => whnf))
  refine ⟨fun m ρ Ω' => ∃ s l : Nat, ρ = [some (I B), some (I P), some (I l), some (I s), some (I ((B ^ ((s - 1) / 2) : Nat) : Int))] ∧ Ω' = Ω ∧ m = l ∧ 1 ≤ s ∧ ahead B s + l = P, ⟨_, 1, P - 1, ?_, rfl, rfl, Nat.le_refl _, ?_⟩, ?_⟩
  · rw [Int.natCast_sub (by omega)]
    rfl
  · show 0 + cnt B 0 + (P - 1) = P
    have : cnt B 0 = 1 := rfl
    omega
  rintro m ρ Ω ⟨s, l, rfl, rfl, hm, s1, e⟩
  have sb := s_bnd (s := s) B0 B1 pl (by omega)
  have cp := cnt_pos (s := s) B0
  have pw : B ^ ((s - 1) / 2) < 2 ^ 2200 := Nat.lt_of_le_of_lt (pow10 B1 _) (Nat.pow_lt_pow_right (by decide) (by omega))
  have ec : ((B : Int) - 1) * ((B ^ ((s - 1) / 2) : Nat) : Int) = ((cnt B s : Nat) : Int) := by
    unfold cnt
    rw [if_neg (by omega), Int.natCast_mul, show (B : Int) - 1 = ((B - 1 : Nat) : Int) by omega]
  have cm : CMulX ((B : Int) - 1) ((B ^ ((s - 1) / 2) : Nat) : Int) := by
    rw [show (B : Int) - 1 = ((B - 1 : Nat) : Int) by omega]
    exact cmN (a := 10) (by omega) pw (by decide)
  have cm2 : CMulX ((B ^ ((s - 1) / 2) : Nat) : Int) (B : Int) := cmN (b := 10) pw (by omega) (by decide)
  ((repeat walk_at "zs"); (try conv => whnf))
  rw [ec]
  refine br_d (fun ge => ?_) fun lt => ?_
  · have ge' : cnt B s ≤ l := by
      have : ((cnt B s : Nat) : Int) ≤ l := ge
      omega
    ((repeat walk_at "zs"); (try conv => whnf))
    refine ⟨fun y Ω' => y = I ((B ^ ((s + 1 - 1) / 2) : Nat) : Int) ∧ Ω' = Ω, ?_, ?_⟩
    · ((repeat walk_at "zs"); (try conv => whnf))
      refine br_d (fun h => ?_) fun h => ?_
      · ((repeat walk_at "zs"); (try conv => whnf))
        refine ⟨?_, rfl⟩
        have h' : ((s : Int) + 1) % 2 = 1 := h
        have : B ^ ((s + 1 - 1) / 2) = B ^ ((s - 1) / 2) * B := by
          rw [← Nat.pow_succ]
          congr 1
          omega
        rw [this]
        rfl
      · ((repeat walk_at "zs"); (try conv => whnf))
        refine ⟨?_, rfl⟩
        have h' : ¬ ((s : Int) + 1) % 2 = 1 := h
        have : (s + 1 - 1) / 2 = (s - 1) / 2 := by omega
        rw [this]
    · rintro y Ω ⟨rfl, rfl⟩
      ((repeat walk_at "zs"); (try conv => whnf))
      refine ⟨l - cnt B s, by omega, s + 1, l - cnt B s, ?_, rfl, rfl, by omega, ?_⟩
      · rw [Int.natCast_sub ge', ← ec]
        rfl
      · show ahead B s + cnt B s + (l - cnt B s) = P
        omega
  · have lt' : l < cnt B s := by
      have : ¬ ((cnt B s : Nat) : Int) ≤ l := lt
      omega
    rw [atV_of B0 lt' e] at k
    unfold palS at k
    rw [if_neg (by omega)] at k
    have H := half_of B0 s1 lt'
    have hb := half_bd B1 sb H
    ((repeat walk_at "zs"); (try conv => whnf))
    have e2 : (((B ^ ((s - 1) / 2) : Nat) : Int) + (l : Int)).toNat = B ^ ((s - 1) / 2) + l := by omega
    refine .mk bk (by rw [e2, Int.toNat_natCast, Int.toNat_natCast]; exact H) (by omega) (by omega) (by omega) ?_ ?_
    · have := lt_i hb
      refine Int.lt_trans (b := 2 ^ 1100) ?_ (by decide +kernel)
      rw [Int.natCast_add] at this
      exact this
    · rw [e2, Int.toNat_natCast, Int.toNat_natCast]
      exact k
theorem w_l_mirror (Cl : Cls) (Fr : Addr → Prop) (svs : List SV) (Ω : Om) (Φ : PhiE) (Ξ : XA) (h : c_l_mirror svs Ω Φ Ξ) :
    a_l_mirror Cl Fr { nx := fun _ Ω => Φ (.d .none) Ω, rt := Φ } (startR N_l_mirror svs) Ω := by
  obtain ⟨bk, H, s0, h0, s1, h1, k⟩ := h
  rename_i b s h
  obtain ⟨B, rfl, B0, B1⟩ := bk.nat
  have hl := lt_n h0 h1
  obtain ⟨S, rfl⟩ := Int.eq_ofNat_of_zero_le s0
  obtain ⟨N, rfl⟩ := Int.eq_ofNat_of_zero_le h0
  simp only [Int.toNat_natCast] at H k hl
  rw [pal_eq B0 H] at k
  have wl := H.low B0
  have wd : ∀ d ∈ lowd B S N, d < B := lowd_lt B0
  have w0 : val B (lowd B S N) = if S % 2 = 0 then N else N / B := by
    unfold lowd
    split
    · exact val_fig B0 N N (Nat.le_refl _)
    · rw [val_drop B0 1 _ (fig_lt B0 N N (Nat.le_refl _)), val_fig B0 N N (Nat.le_refl _), Nat.pow_one]
  generalize lowd B S N = w at *
  ((repeat walk_at "zs"); (try conv => whnf))
  refine ⟨fun y Ω' => y = I ((val B w : Nat) : Int) ∧ Ω' = Ω, ?_, ?_⟩
  · ((repeat walk_at "zs"); (try conv => whnf))
    refine br_d (fun h => ?_) fun h => ?_
    · have h' : ¬ S % 2 = 0 := by
        have : (S : Int) % 2 = 1 := h
        omega
      rw [if_neg h'] at w0
      ((repeat walk_at "zs"); (try conv => whnf))
      refine ⟨?_, rfl⟩
      rw [w0]
      rfl
    · have h' : S % 2 = 0 := by
        have : ¬ (S : Int) % 2 = 1 := h
        omega
      rw [if_pos h'] at w0
      ((repeat walk_at "zs"); (try conv => whnf))
      refine ⟨?_, rfl⟩
      rw [w0]
  · rintro y Ω ⟨rfl, rfl⟩
    ((repeat walk_at "zs"); (try conv => whnf))
    refine ⟨fun j ρ Ω' => ∃ r5 : Option SV, ρ = [some (I B), some (I N), some (I S), some (I ((N * B ^ j + val B (w.take j).reverse : Nat) : Int)), some (I ((val B (w.drop j) : Nat) : Int)), r5] ∧ Ω' = Ω, ⟨none, by simp [val]; rfl, rfl⟩, fun _ _ _ _ => trivial, ?_, ?_⟩
    · rintro j y ρ Ω e ⟨r5, rfl, rfl⟩
      obtain ⟨rfl, lt⟩ := rgS_get e
      have jl : j < w.length := by omega
      have sp : w.drop j = w[j] :: w.drop (j + 1) := List.drop_eq_getElem_cons jl
      have dj := wd w[j] (List.getElem_mem jl)
      have v1 : val B (w.drop j) % B = w[j] := by
        rw [sp]
        show (w[j] + B * val B (w.drop (j + 1))) % B = _
        rw [Nat.add_mul_mod_self_left, Nat.mod_eq_of_lt dj]
      have v2 : val B (w.drop j) / B = val B (w.drop (j + 1)) := by
        rw [sp]
        show (w[j] + B * val B (w.drop (j + 1))) / B = _
        rw [Nat.add_mul_div_left _ _ (by omega), Nat.div_eq_of_lt dj, Nat.zero_add]
      have v3 : val B (w.take (j + 1)).reverse = w[j] + B * val B (w.take j).reverse := by
        rw [List.take_add_one, List.getElem?_eq_getElem jl, List.reverse_append]
        rfl
      have bd : N * B ^ j + val B (w.take j).reverse < 2 ^ 20000 := by
        have a1 : val B (w.take j).reverse < B ^ j := by
          have := val_lt (b := B) (by omega) (w.take j).reverse fun d hd => wd d (List.mem_of_mem_take (List.mem_reverse.mp hd))
          rw [List.length_reverse, List.length_take, Nat.min_eq_left (by omega)] at this
          exact this
        have a2 : (N + 1) * B ^ j ≤ 2 ^ 2000 * 2 ^ (10 * 1000) := Nat.mul_le_mul (by omega) (Nat.le_trans (pow10 B1 j) (Nat.pow_le_pow_right (by decide) (by omega)))
        rw [Nat.add_mul, Nat.one_mul, ← Nat.pow_add] at a2
        have a3 : 2 ^ (2000 + 10 * 1000) < 2 ^ 20000 := Nat.pow_lt_pow_right (by decide) (by decide)
        exact Nat.lt_of_lt_of_le (Nat.add_lt_add_left a1 _) (Nat.le_trans a2 (Nat.le_of_lt a3))
      have cm : CMulX ((N * B ^ j + val B (w.take j).reverse : Nat) : Int) (B : Int) := cmN (b := 10) bd (by omega) (by decide)
      have fe : (N * B ^ j + val B (w.take j).reverse) * B + val B (w.drop j) % B = N * B ^ (j + 1) + val B (w.take (j + 1)).reverse := by
        rw [v1, v3, Nat.add_mul, Nat.pow_succ, Nat.mul_assoc, Nat.mul_comm (val B _) B]
        omega
      ((repeat walk_at "zs"); (try conv => whnf))
      refine ⟨some (I (0 + (j : Int))), ?_, rfl⟩
      rw [← fe, ← v2]
      rfl
    · rintro ρ Ω ⟨r5, rfl, rfl⟩
      rw [rgS_len]
      have en : (((S : Nat) : Int) / 2).toNat = S / 2 := by omega
      have fin : N * B ^ (S / 2) + val B (w.take (S / 2)).reverse = val B w.reverse + B ^ (S / 2) * N := by
        rw [← wl, List.take_length, Nat.mul_comm]
        omega
      ((repeat walk_at "zs"); (try conv => whnf))
      rw [en, fin]
      exact k
theorem ahead_sum (b : Nat) : ∀ n : Nat, ((List.range n).map fun i => ((cnt b i : Nat) : Int)).sum = ((ahead b n : Nat) : Int)
  | 0 => rfl
  | n + 1 => by
    rw [List.range_succ, List.map_append, List.sum_append, ahead_sum b n]
    show ((ahead b n : Nat) : Int) + ([((cnt b n : Nat) : Int)]).sum = ((ahead b n + cnt b n : Nat) : Int)
    simp
theorem w_mirrored_place (Cl : Cls) (Fr : Addr → Prop) (svs : List SV) (Ω : Om) (Φ : PhiE) (Ξ : XA) (h : c_mirrored_place Cl svs Ω Φ Ξ) :
    a_mirrored_place Cl Fr Ξ { nx := fun _ Ω => Φ (.d .none) Ω, rt := Φ } (startR N_mirrored_place svs) Ω := by
  obtain ⟨bk, n0, n1, k1, k2⟩ := h
  rename_i b n
  obtain ⟨B, rfl, B0, B1⟩ := bk.nat
  have nl := lt_n n0 n1
  have fl := fig_len (b := B) B0 nl
  obtain ⟨N, rfl⟩ := Int.eq_ofNat_of_zero_le n0
  rw [Int.toNat_natCast] at nl fl
  have n2 : (N : Int) < 2 ^ 2000 := Int.lt_trans n1 (by decide +kernel)
  conv => whnf
  refine .mk bk n0 n2 ?_
  conv => whnf
  refine br_n (br_d (fun h => ?_) fun h => ?_)
  · have kk := k1 h
    unfold plI at kk
    rw [Int.toNat_natCast, Int.toNat_natCast] at kk
    ((repeat walk_at "zs"); (try conv => whnf))
    refine .mk bk n0 n2 ?_
    rw [Int.toNat_natCast, Int.toNat_natCast]
    have sz : sizeLine = 16777216 := by decide
    ((repeat walk_at "zs"); (try conv => whnf))
    rw [natD_len]
    refine br_d (fun z => ?_) fun z => ?_
    · have z' : (fig B N).length = 0 := by
        have : (((fig B N).length : Nat) : Int) = 0 := z
        omega
      have : N = 0 := by
        rcases Nat.eq_zero_or_pos N with y | y
        · exact y
        · exact absurd (List.length_eq_zero_iff.mp z') (fig_ne B0 y)
      subst this
      ((repeat walk_at "zs"); (try conv => whnf))
      exact kk
    · have np : 0 < N := by
        rcases Nat.eq_zero_or_pos N with y | y
        · subst y
          exact absurd rfl z
        · exact y
      unfold plc at kk
      rw [if_neg (by omega)] at kk
      have ln := natD_len (fig B N)
      have le1 := (fig_bnd B0 np).1
      have dl : ∀ d ∈ fig B N, d < B := fig_lt B0 N N (Nat.le_refl _)
      have vd := val_drop B0 ((fig B N).length / 2) _ dl
      rw [val_fig B0 N N (Nat.le_refl _)] at vd
      have pos : 0 < (fig B N).length := List.length_pos_iff.mpr (fig_ne B0 np)
      have ge : B ^ (((fig B N).length - 1) / 2) ≤ val B ((fig B N).drop ((fig B N).length / 2)) := by
        rw [vd]
        refine (Nat.le_div_iff_mul_le (Nat.pow_pos (by omega))).mpr ?_
        rw [← Nat.pow_add]
        exact Nat.le_trans (Nat.pow_le_pow_right (by omega) (by omega)) le1
      generalize ew : fig B N = w at *
      ((repeat walk_at "zs"); (try conv => whnf))
      refine lc_at (fun i => .int ((cnt B i : Nat) : Int)) (fun Ω' => Ω' = Ω) (by rw [rgS_len]; omega) rfl (fun _ _ => trivial) (fun i x Ω2 Y N e hj k3 => ?_) fun Ω2 e => ?_
      · subst hj
        obtain ⟨rfl, lt⟩ := rgS_get e
        ((repeat walk_at "zs"); (try conv => whnf))
        refine .mk bk (by omega) (by omega) ?_
        rw [show (0 + (i : Int)).toNat = i by omega, Int.toNat_natCast]
        exact k3 _ rfl
      · subst e
        ((repeat walk_at "zs"); (try conv => whnf))
        refine ⟨(List.range w.length).map fun i => ((cnt B i : Nat) : Int), trivial, ?_, ?_⟩
        · rw [rgS_len, Int.toNat_natCast, List.map_map]
          rfl
        rw [ahead_sum]
        have e2 : cutD (natD w) (some (((w.length : Nat) : Int) / 2)) none = natD (w.drop (w.length / 2)) := by
          rw [cut_from_isD (by omega), ← List.map_drop]
          congr 2
        ((repeat walk_at "zs"); (try conv => whnf))
        rw [e2]
        refine .tup bk (fun d hd => by rw [Int.toNat_natCast]; exact dl d (List.mem_of_mem_drop hd)) (by rw [List.length_drop]; omega) ?_
        rw [Int.toNat_natCast]
        ((repeat walk_at "zs"); (try conv => whnf))
        refine .mk bk (by omega) (by omega) ?_
        have en : ((((w.length : Nat) : Int) - 1) / 2).toNat = (w.length - 1) / 2 := by omega
        rw [en]
        ((repeat walk_at "zs"); (try conv => whnf))
        have e1 : (B : Int) ^ ((w.length - 1) / 2) = ((B ^ ((w.length - 1) / 2) : Nat) : Int) := by simp
        dsimp only
        rw [e1]
        have fe : ((ahead B w.length : Nat) : Int) + ((val B (w.drop (w.length / 2)) : Nat) : Int) - ((B ^ ((w.length - 1) / 2) : Nat) : Int) = ((ahead B w.length + val B (w.drop (w.length / 2)) - B ^ ((w.length - 1) / 2) : Nat) : Int) := by omega
        rw [fe]
        exact kk
  · ((repeat walk_at "zs"); (try conv => whnf))
    exact k2 h
theorem w_l_heard (Cl : Cls) (Fr : Addr → Prop) (svs : List SV) (Ω : Om) (Φ : PhiE) (Ξ : XA) (h : c_l_heard svs Ω Φ Ξ) :
    a_l_heard Cl Fr { nx := fun _ Ω => Φ (.d .none) Ω, rt := Φ } (startR N_l_heard svs) Ω := by
  obtain ⟨bk, n0, n1, k1, k2⟩ := h
  rename_i b n t
  ((repeat walk_at "zs"); (try conv => whnf))
  cases t
  · refine br_F ?_
    ((repeat walk_at "zs"); (try conv => whnf))
    refine .mk bk n0 n1 (fun h => ?_) fun h => ⟨rfl, fun a => ?_⟩
    · ((repeat walk_at "zs"); (try conv => whnf))
      exact k1 h
    · ((repeat walk_at "zs"); (try conv => whnf))
      exact k2 h
  · refine br_T ?_
    ((repeat walk_at "zs"); (try conv => whnf))
    refine .mk bk n0 n1 (fun h => ?_) fun h => ⟨rfl, fun a => ?_⟩
    · ((repeat walk_at "zs"); (try conv => whnf))
      exact k1 h
    · ((repeat walk_at "zs"); (try conv => whnf))
      exact k2 h
end
theorem rep_s1 {x : Str} (h : (reprText x).length ≤ 2000) (h2 : PySem.PyData.strOk x = true) : Rep 0 2000 (.str x) := rep_str h h2
theorem rep_told : Rep 0 2000 (.str "told") := rep_str (by decide +kernel) (by decide +kernel)
theorem rep_unfit : Rep 0 2000 (.str "unfit") := rep_str (by decide +kernel) (by decide +kernel)
theorem rep_nat {n : Nat} (h : n < 2 ^ 1900) : Rep 0 2000 (.int (n : Nat)) := rep_int (by rw [Int.natAbs_natCast]; exact h)
theorem rep_natD {w : List Nat} (h : ∀ d ∈ w, d < 2 ^ 1900) (hn : w.length ≤ 100) : Rep 1 (100 * 2002 + 4) (.tuple (natD w)) := by
  refine rep_tup (k := 0) (L := 2000) (fun d hd => ?_) (by rw [natD_len]; exact hn)
  obtain ⟨z, hz, rfl⟩ := List.mem_map.mp hd
  obtain ⟨y, hy, rfl⟩ := List.mem_map.mp hz
  exact rep_nat (h y hy)
theorem rep_l2 {k L : Nat} {d e : PyData} (h1 : Rep k L d) (h2 : Rep k L e) : Rep (k + 1) (2 * (L + 2) + 4) (.list [d, e]) :=
  rep_lst (fun x hx => by
    simp only [List.mem_cons, List.not_mem_nil, or_false] at hx
    rcases hx with rfl | rfl <;> assumption) (Nat.le_refl 2)
theorem wk_bd {b : Nat} (hb : 2 ≤ b) : ∀ s n : Nat, ∀ x ∈ wk b s n, x ≤ n * (b + 1) ^ s
  | 0, n => by
    intro x hx
    obtain rfl := List.mem_singleton.mp hx
    simp
  | s + 1, n => by
    intro x hx
    unfold wk at hx
    split at hx
    · obtain rfl := List.mem_singleton.mp hx
      exact grow_one
    · rcases List.mem_cons.mp hx with rfl | hx
      · exact grow_one
      · exact Nat.le_trans (wk_bd hb s _ x hx) (grow_bd hb)
theorem rgS_nat (n : Nat) : rgS 0 n = (natD (List.range n)).map SV.d := by
  unfold rgS natD isD
  rw [List.map_map, List.map_map]
  refine List.map_congr_left fun i _ => ?_
  show SV.d (.int (0 + (i : Int))) = SV.d (.int i)
  rw [Int.zero_add]
def isMir (b : Nat) : PyData → Bool
  | .int i => decide (((turn b i.toNat : Nat) : Int) = i)
  | _ => false
theorem filter_mir (b : Nat) : ∀ l : List Nat, (natD l).filter (isMir b) = natD (l.filter fun x => decide (turn b x = x))
  | [] => rfl
  | x :: r => by
    have ih := filter_mir b r
    show List.filter (isMir b) (.int (x : Int) :: natD r) = _
    have e : isMir b (.int (x : Int)) = decide (turn b x = x) := by
      show decide (((turn b ((x : Int)).toNat : Nat) : Int) = (x : Int)) = _
      rw [Int.toNat_natCast]
      by_cases z : turn b x = x
      · rw [decide_eq_true z, decide_eq_true (by omega)]
      · rw [decide_eq_false z, decide_eq_false (by omega)]
    by_cases z : turn b x = x
    · rw [List.filter_cons_of_pos (by rw [e]; exact decide_eq_true z), List.filter_cons_of_pos (by exact decide_eq_true z), ih]
      rfl
    · rw [List.filter_cons_of_neg (by rw [e]; simpa using z), List.filter_cons_of_neg (by simpa using z), ih]
theorem smalls_zero (b n : Nat) (h : 0 < n) : smalls b n ≠ [] := by
  have : 0 ∈ smalls b n := by
    unfold smalls
    rw [List.mem_filter]
    exact ⟨List.mem_range.mpr h, decide_eq_true turn_zero⟩
  exact List.ne_nil_of_mem this
theorem smalls_lt {b n x : Nat} (h : x ∈ smalls b n) : x < n := by
  unfold smalls at h
  exact List.mem_range.mp (List.mem_filter.mp h).1
theorem eqv_natT (u v : List Nat) : PyData.eqv (.tuple (natD u)) (.tuple (natD u)) = true := by
  rw [PyData.eqv]
  rw [eqvAll_isD]
  simp
theorem eqv_natL (u : List Nat) : PyData.eqv (.list (natD u)) (.list (natD u)) = true := by
  rw [PyData.eqv]
  rw [eqvAll_isD]
  simp
theorem nev_lt {n : Nat} (h : n ≤ 65) : nev n < 2 ^ 140 := by
  have := val_lt (b := 2) (by decide) (nevW n) fun d hd => by
    unfold nevW at hd
    simp at hd
    omega
  unfold nev
  refine Nat.lt_of_lt_of_le this (Nat.pow_le_pow_right (by decide) ?_)
  unfold nevW
  simp
  omega
section
local macro_rules | `(tactic| walk_at "z1") => `(tactic| ((try dsimp only); first | done | exact True.intro | rfl | omega | exact Nat.le_of_ble_eq_true rfl | (exact ⟨by omega, by omega⟩) | (exact cmul (by omega) (by omega) (by omega) (by omega)) | (exact cdiv (by omega) (by omega)) | (exact Or.inl ⟨by omega, by omega⟩) | (exact Or.inr ⟨by omega, by omega⟩) | decide | assumption | (simp only [List.length_map, List.length_range, List.length_append, List.length_cons, List.length_nil, List.length_replicate, len_repD]; omega)))
local macro_rules | `(tactic| walk_at "zs") => `(tactic| ((conv => whnf); first | with_reducible refine br_T ?_ | with_reducible refine br_F ?_ | with_reducible refine br_d1 rfl ?_ | with_reducible refine br_n ?_ | ((with_reducible refine br_d1 ?_ ?_); (focus omega)) | ((with_reducible refine br_d0 ?_ ?_); (focus omega)) | ((fail_if_success with_reducible refine br_d ?_ ?_); refine br_T ?_) | ((fail_if_success with_reducible refine br_d ?_ ?_); refine br_F ?_) | refine And.intro (by walk_at "z1") ?_ | refine ⟨⟨_, _, .here, trivial⟩, ?_⟩ | refine ⟨_, _, .here, ?_⟩ | refine ⟨_, true, rfl, rfl, ?_⟩ | refine ⟨_, false, rfl, rfl, ?_⟩ | refine ⟨_, (by rfl : atI _ _ = some _), ?_⟩))
abbrev rho77 (s x : SV) (r2 r3 r4 r5 r6 r7 r8 r9 r10 r11 r12 r13 : Option SV) : Rho := [some s, some x, r2, r3, r4, r5, r6, r7, r8, r9, r10, r11, r12, r13, none, none, none, none]
def Ends77 (s x : SV) (D : AEnds) : Prop := ∀ r2 r3 r4 r5 r6 r7 r8 r9 r10 r11 r12 r13 Ω, Deck x [] [] Ω → D.nx (rho77 s x r2 r3 r4 r5 r6 r7 r8 r9 r10 r11 r12 r13) Ω
theorem p_law_2 (Cl : Cls) (Fr : Addr → Prop) (D : AEnds) {s x : SV} {B : Nat} (bk : Bk B) (B0 : 2 ≤ B) (B1 : B ≤ 1000) (hD : Ends77 s x D) {r2 r4 r5 r6 r7 r8 r9 r10 r11 r12 r13 : Option SV} {Ω : Om} (hB : Deck x [] [] Ω) :
    b_law_2 Cl Fr D (rho77 s x r2 (some (I B)) r4 r5 r6 r7 r8 r9 r10 r11 r12 r13) Ω := by
  ((repeat walk_at "zs"); (try conv => whnf))
  refine .mk hB (by decide) (by decide) fun s2 Ω s20 s21 hB => ?_
  obtain ⟨S2, rfl⟩ := Int.eq_ofNat_of_zero_le s20
  have cl : cnt B S2 < 2 ^ 400 := by
    unfold cnt
    split
    · exact Nat.one_lt_two_pow (by decide)
    · have h1 : B ^ ((S2 - 1) / 2) < 2 ^ 390 := Nat.lt_of_le_of_lt (pow10 B1 _) (Nat.pow_lt_pow_right (by decide) (by omega))
      have h2 : (B - 1) * B ^ ((S2 - 1) / 2) < 2 ^ 10 * 2 ^ 390 := Nat.mul_lt_mul'' (by omega) h1
      rw [← Nat.pow_add] at h2
      exact h2
  have rc : Rep 0 2000 (.int ((cnt B S2 : Nat) : Int)) := rep_nat (Nat.lt_trans cl (by decide +kernel))
  obtain ⟨v1, v2, v3, v4⟩ := (rep_l2 rc rc).repr (by decide) (by decide)
  ((repeat walk_at "zs"); (try conv => whnf))
  refine ⟨fun y Ω' => y = I ((cnt B S2 : Nat) : Int) ∧ Ω' = Ω, ?_, ?_⟩
  · ((repeat walk_at "zs"); (try conv => whnf))
    refine br_d (fun gt => ?_) fun le => ?_
    · have S0 : S2 ≠ 0 := by
        have : (0 : Int) < S2 := gt
        omega
      ((repeat walk_at "zs"); (try conv => whnf))
      refine .mk bk (by omega) (by omega) ?_
      have en : (((S2 : Int) - 1) / 2).toNat = (S2 - 1) / 2 := by omega
      dsimp only
      rw [en]
      have e1 : (B : Int) ^ ((S2 - 1) / 2) = ((B ^ ((S2 - 1) / 2) : Nat) : Int) := by simp
      rw [e1]
      have cm : CMulX ((B : Int) - 1) ((B ^ ((S2 - 1) / 2) : Nat) : Int) := by
        rw [show (B : Int) - 1 = ((B - 1 : Nat) : Int) by omega]
        exact cmN (a := 10) (b := 10 * 1000 + 1) (by omega) (Nat.lt_of_le_of_lt (pow10 B1 _) (Nat.pow_lt_pow_right (by decide) (by omega))) (by decide)
      ((repeat walk_at "zs"); (try conv => whnf))
      refine ⟨?_, rfl⟩
      unfold cnt
      rw [if_neg S0, Int.natCast_mul, show ((B - 1 : Nat) : Int) = (B : Int) - 1 by omega]
    · have S0 : S2 = 0 := by
        have : ¬ (0 : Int) < S2 := le
        omega
      subst S0
      ((repeat walk_at "zs"); (try conv => whnf))
  · rintro y Ω ⟨rfl, rfl⟩
    ((repeat walk_at "zs"); (try conv => whnf))
    refine .mk bk (by omega) (by omega) ?_
    rw [Int.toNat_natCast, Int.toNat_natCast]
    ((repeat walk_at "zs"); (try conv => whnf))
    refine .mk bk (by omega) (by omega) ?_
    rw [Int.toNat_natCast, Int.toNat_natCast]
    ((repeat walk_at "zs"); (try conv => whnf))
    exact hD _ _ _ _ _ _ _ _ _ _ _ _ _ hB
theorem p_law_3 (Cl : Cls) (Fr : Addr → Prop) (D : AEnds) {s x : SV} {B N P o : Nat} (bk : Bk B) (B0 : 2 ≤ B) (B1 : B ≤ 1000) (tuN : tuI (B : Int) (N : Int) = ((turn B N : Nat) : Int)) (nbN : N < 2 ^ 101) (pbN : P < 2 ^ 101) (ho : o = atV B P ∨ o = N)
    {r2 r6 r7 r8 r12 r13 : Option SV} {Ω : Om} (hD : ∀ r6 r8 Ω, Deck x [] [] Ω → D.nx (rho77 s x r2 (some (I B)) (some (I N)) (some (I ((turn B N : Nat) : Int))) r6 r7 r8 (some (I P)) (some (I ((atV B P : Nat) : Int))) (some (I o)) r12 r13) Ω) (hB : Deck x [] [] Ω) :
    b_law_3 Cl Fr D (rho77 s x r2 (some (I B)) (some (I N)) (some (I ((turn B N : Nat) : Int))) r6 r7 r8 (some (I P)) (some (I ((atV B P : Nat) : Int))) (some (I o)) r12 r13) Ω := by
  have nb : (N : Int) < 2 ^ 101 := lt_i nbN
  have am := (at_bnd B0 B1 pbN).1
  have pa := plc_at (p := P) B0
  by_cases hoa : o = atV B P
  · subst hoa
    have tM : tuI (B : Int) ((atV B P : Nat) : Int) = ((atV B P : Nat) : Int) := by
      unfold tuI
      rw [Int.toNat_natCast, Int.toNat_natCast, pa.2]
    have pM : plI (B : Int) ((atV B P : Nat) : Int) = (P : Int) := by
      unfold plI
      rw [Int.toNat_natCast, Int.toNat_natCast, pa.1]
    have aml : ((atV B P : Nat) : Int) < 2 ^ 300 := Int.lt_trans (lt_i am) (by decide +kernel)
    have rp : Rep 0 2000 (.int ((P : Nat) : Int)) := rep_nat (Nat.lt_trans pbN (by decide +kernel))
    obtain ⟨v1, v2, v3, v4⟩ := (rep_l2 (rep_l2 rep_told rp) (rep_l2 rep_told rp)).repr (by decide) (by decide)
    generalize atV B P = M at *
    ((repeat walk_at "zs"); (try conv => whnf))
    refine ⟨fun y Ω' => y = .d (.list [.str "told", .int (P : Int)]) ∧ Ω' = Ω, ?_, ?_⟩
    · ((repeat walk_at "zs"); (try conv => whnf))
    · rintro y Ω ⟨rfl, rfl⟩
      ((repeat walk_at "zs"); (try conv => whnf))
      refine .mk bk (by omega) aml (fun _ => ?_) fun h => absurd tM h
      rw [pM]
      ((repeat walk_at "zs"); (try conv => whnf))
      refine .mk bk (by omega) aml (fun _ => ?_) fun h => absurd tM h
      rw [pM]
      ((repeat walk_at "zs"); (try conv => whnf))
      exact hD _ _ _ hB
  · have hoN : o = N := by
      rcases ho with h | h
      · exact absurd h hoa
      · exact h
    subst hoN
    have nl3 : (o : Int) < 2 ^ 300 := Int.lt_trans nb (by decide +kernel)
    obtain ⟨v1, v2, v3, v4⟩ := (rep_l2 (rep_l2 rep_unfit (rep_bool (b := true))) (rep_l2 rep_unfit (rep_bool (b := true)))).repr (by decide) (by decide)
    generalize atV B P = M at *
    ((repeat walk_at "zs"); (try conv => whnf))
    refine ⟨fun y Ω' => y = .d (.list [.str "unfit", .bool true]) ∧ Ω' = Ω, ?_, ?_⟩
    · ((repeat walk_at "zs"); (try conv => whnf))
    · rintro y Ω ⟨rfl, rfl⟩
      ((repeat walk_at "zs"); (try conv => whnf))
      refine br_d (fun h => ?_) fun h => ?_
      · ((repeat walk_at "zs"); (try conv => whnf))
        exact hD _ _ _ hB
      · have nM : tuI (B : Int) (o : Int) ≠ (o : Int) := by
          rw [tuN]
          exact h
        ((repeat walk_at "zs"); (try conv => whnf))
        refine .mk bk (by omega) nl3 (fun h => absurd h nM) fun _ => ?_
        ((repeat walk_at "zs"); (try conv => whnf))
        refine .mk bk (by omega) nl3 (fun h => absurd h nM) fun _ => ?_
        ((repeat walk_at "zs"); (try conv => whnf))
        exact hD _ _ _ hB
theorem p_law_4 (Cl : Cls) (Fr : Addr → Prop) (D : AEnds) {s x : SV} {B N P : Nat} (bk : Bk B) (B0 : 2 ≤ B) (B1 : B ≤ 1000) (tuN : tuI (B : Int) (N : Int) = ((turn B N : Nat) : Int)) (nbN : N < 2 ^ 101) (pbN : P < 2 ^ 101) (hD : Ends77 s x D)
    {r2 r6 r7 r8 r11 r12 r13 : Option SV} {Ω : Om} (hB : Deck x [] [] Ω) :
    b_law_4 Cl Fr D (rho77 s x r2 (some (I B)) (some (I N)) (some (I ((turn B N : Nat) : Int))) r6 r7 r8 (some (I P)) (some (I ((atV B P : Nat) : Int))) r11 r12 r13) Ω := by
  ((repeat walk_at "zs"); (try conv => whnf))
  refine ⟨fun j ρ Ω' => ∃ r6 r8 r11 : Option SV, ρ = rho77 s x r2 (some (I B)) (some (I N)) (some (I ((turn B N : Nat) : Int))) r6 r7 r8 (some (I P)) (some (I ((atV B P : Nat) : Int))) r11 r12 r13 ∧ Deck x [] [] Ω', ⟨_, _, _, rfl, hB⟩, fun _ _ _ _ => trivial, ?_, ?_⟩
  · rintro j2 y ρ Ω e ⟨r6, r8, r11, rfl, hB⟩
    obtain ⟨o, rfl, ho⟩ : ∃ o : Nat, y = I o ∧ (o = atV B P ∨ o = N) := by
      have := List.mem_of_getElem? e
      simp only [List.map_cons, List.map_nil, List.mem_cons, List.not_mem_nil, or_false] at this
      rcases this with rfl | rfl
      · exact ⟨_, rfl, .inl rfl⟩
      · exact ⟨_, rfl, .inr rfl⟩
    exact p_law_3 Cl Fr _ bk B0 B1 tuN nbN pbN ho (fun r6 r8 Ω hB => ⟨r6, r8, _, rfl, hB⟩) hB
  · rintro ρ Ω ⟨r6, r8, r11, rfl, hB⟩
    exact p_law_2 Cl Fr _ bk B0 B1 hD hB
theorem p_law_5 (Cl : Cls) (Fr : Addr → Prop) (D : AEnds) {s x : SV} {B N : Nat} (bk : Bk B) (B0 : 2 ≤ B) (B1 : B ≤ 1000) (tuN : tuI (B : Int) (N : Int) = ((turn B N : Nat) : Int)) (nbN : N < 2 ^ 101) (hD : Ends77 s x D)
    {r2 r6 r7 r8 r9 r10 r11 r12 r13 : Option SV} {Ω : Om} (hB : Deck x [] [] Ω) :
    b_law_5 Cl Fr D (rho77 s x r2 (some (I B)) (some (I N)) (some (I ((turn B N : Nat) : Int))) r6 r7 r8 r9 r10 r11 r12 r13) Ω := by
  have t9 : (10 : Int) ^ (9 : Int).toNat = 10 ^ 9 := rfl
  have n30 : (10 : Int) ^ 30 < 2 ^ 100 := by decide
  have n0 : (0 : Int) ≤ (N : Int) := by omega
  ((repeat walk_at "zs"); (try conv => whnf))
  refine .mk hB (by simp) (by simp) fun d hd Ω hB => ?_
  obtain ⟨s, rfl, s0, s1⟩ : ∃ s : Int, d = .int s ∧ 0 ≤ s ∧ s ≤ 14 := by
    repeat (rcases List.mem_cons.mp hd with rfl | hd; (exact ⟨_, rfl, by omega⟩))
    exact absurd hd List.not_mem_nil
  obtain ⟨S, rfl⟩ := Int.eq_ofNat_of_zero_le s0
  have bN : N * (B + 1) ^ S < 2 ^ 300 := by
    have h1 : (B + 1) ^ S ≤ (2 ^ 10) ^ S := Nat.pow_le_pow_left (by omega) S
    have h2 : (2 ^ 10) ^ S ≤ 2 ^ 140 := by rw [← Nat.pow_mul]; exact Nat.pow_le_pow_right (by decide) (by omega)
    have h3 : N * (B + 1) ^ S ≤ 2 ^ 101 * 2 ^ 140 := Nat.mul_le_mul (by omega) (Nat.le_trans h1 h2)
    exact Nat.lt_of_le_of_lt h3 (by decide +kernel)
  have bw : (N : Int) * ((B : Int) + 1) ^ ((S : Int)).toNat < 2 ^ 2000 := by
    have e : ((N * (B + 1) ^ S : Nat) : Int) = (N : Int) * ((B : Int) + 1) ^ S := by simp
    have := lt_i bN
    rw [Int.toNat_natCast, ← e]
    exact Int.lt_trans this (by decide +kernel)
  have ew : wkI (B : Int) (N : Int) (S : Int) = natD (wk B S N) := by
    unfold wkI
    rw [Int.toNat_natCast, Int.toNat_natCast, Int.toNat_natCast]
  have rw1 : Rep 1 (100 * 2002 + 4) (.tuple (natD (wk B S N))) := rep_natD (fun d hd => Nat.lt_of_le_of_lt (wk_bd B0 S N d hd) (Nat.lt_trans bN (by decide +kernel))) (Nat.le_trans (wk_len S N) (by omega))
  obtain ⟨q1, q2, q3, q4⟩ := (rep_l2 rw1 rw1).repr (by decide) (by decide)
  ((repeat walk_at "zs"); (try conv => whnf))
  refine .mk bk n0 s0 (by omega) bw ?_
  rw [ew]
  ((repeat walk_at "zs"); (try conv => whnf))
  refine .mk bk n0 s0 (by omega) bw ?_
  rw [ew]
  ((repeat walk_at "zs"); (try conv => whnf))
  refine .mk bk n0 s0 (by omega) bw ?_
  rw [ew]
  clear ew rw1
  ((repeat walk_at "zs"); (try conv => whnf))
  refine .mk hB (by decide) (by decide) fun a Ω a0 a1 hB => ?_
  ((repeat walk_at "zs"); (try conv => whnf))
  refine .mk hB fun c Ω c0 c1 hB => ?_
  ((repeat walk_at "zs"); (try conv => whnf))
  dsimp only
  rw [t9]
  refine .mk hB (by decide) (by decide) fun f Ω f0 f1 hB => ?_
  ((repeat walk_at "zs"); (try conv => whnf))
  refine .mk hB (by simp) (by simp) fun d hd Ω hB => ?_
  obtain ⟨p, rfl, p0, p1⟩ : ∃ p : Int, d = .int p ∧ 0 ≤ p ∧ p ≤ 10 ^ 30 := by
    repeat (rcases List.mem_cons.mp hd with rfl | hd; (exact ⟨_, rfl, by omega⟩))
    exact absurd hd List.not_mem_nil
  have pb : p < 2 ^ 101 := by omega
  obtain ⟨P, rfl⟩ := Int.eq_ofNat_of_zero_le p0
  have pbN : P < 2 ^ 101 := by
    have := lt_n p0 pb
    rwa [Int.toNat_natCast] at this
  have am := (at_bnd B0 B1 pbN).1
  have pa := plc_at (p := P) B0
  have eat : atI' (B : Int) (P : Int) = ((atV B P : Nat) : Int) := by unfold atI'; rw [Int.toNat_natCast, Int.toNat_natCast]
  have eat2 : atI' (B : Int) ((P : Int) + 1) = ((atV B (P + 1) : Nat) : Int) := by
    unfold atI'
    rw [Int.toNat_natCast, show ((P : Int) + 1).toNat = P + 1 by omega]
  have gr := at_grow (p := P) B0
  have ra : Rep 0 2000 (.int ((atV B P : Nat) : Int)) := rep_nat (Nat.lt_trans am (by decide +kernel))
  obtain ⟨u1, u2, u3, u4⟩ := (rep_l2 ra ra).repr (by decide) (by decide)
  ((repeat walk_at "zs"); (try conv => whnf))
  refine .mk bk p0 pb ?_
  rw [eat]
  ((repeat walk_at "zs"); (try conv => whnf))
  refine .mk bk p0 pb ?_
  rw [eat]
  ((repeat walk_at "zs"); (try conv => whnf))
  refine .mk bk p0 pb ?_
  rw [eat]
  ((repeat walk_at "zs"); (try conv => whnf))
  refine ⟨fun ρ' Ω' => ρ' = rho77 s x r2 (some (I B)) (some (I N)) (some (I ((turn B N : Nat) : Int))) r6 (some (I S)) (some (.d (.tuple (natD (wk B S N))))) (some (I P)) (some (I ((atV B P : Nat) : Int))) r11 r12 r13 ∧ Ω' = Ω, ?_, ?_⟩
  · ((repeat walk_at "zs"); (try conv => whnf))
    refine br_d (fun lp => ?_) fun gp => ?_
    · ((repeat walk_at "zs"); (try conv => whnf))
      refine .mk bk (by omega) (by omega) ?_
      rw [eat2]
      ((repeat walk_at "zs"); (try conv => whnf))
    · have gp' : ¬ (P : Int) < 10 ^ 30 := gp
      ((repeat walk_at "zs"); (try conv => whnf))
      refine .mk bk p0 pb ?_
      rw [eat]
      ((repeat walk_at "zs"); (try conv => whnf))
  · rintro ρ' Ω' ⟨rfl, rfl⟩
    exact p_law_4 Cl Fr _ bk B0 B1 tuN nbN pbN hD hB
theorem p_law_6 (Cl : Cls) (Fr : Addr → Prop) (D : AEnds) {s x : SV} (hD : Ends77 s x D) {r2 r3 r4 r5 r6 r7 r8 r9 r10 r11 r12 r13 : Option SV} {Ω : Om} (hB : Deck x [] [] Ω) :
    b_law_6 Cl Fr D (rho77 s x r2 r3 r4 r5 r6 r7 r8 r9 r10 r11 r12 r13) Ω := by
  ((repeat walk_at "zs"); (try conv => whnf))
  refine .mk hB (by simp) (by simp) fun d hd Ω hB => ?_
  obtain ⟨b, rfl, b0, b1⟩ : ∃ b : Int, d = .int b ∧ 2 ≤ b ∧ b ≤ 1000 := by
    repeat (rcases List.mem_cons.mp hd with rfl | hd; (exact ⟨_, rfl, by omega⟩))
    exact absurd hd List.not_mem_nil
  have bk : Bk b := ⟨b0, b1⟩
  ((repeat walk_at "zs"); (try conv => whnf))
  refine .mk hB fun n Ω n0 n1 hB => ?_
  have nb : n < 2 ^ 101 := by omega
  have nb2 : n < 2 ^ 2000 := Int.lt_trans nb (by decide +kernel)
  obtain ⟨B, rfl, B0, B1⟩ := bk.nat
  obtain ⟨N, rfl⟩ := Int.eq_ofNat_of_zero_le n0
  have nbN : N < 2 ^ 101 := by
    have := lt_n n0 nb
    rwa [Int.toNat_natCast] at this
  have tun : turn B N < 2 ^ 112 := by
    have h1 := turn_le (n := N) B0
    have h2 : B * N ≤ 1000 * N := Nat.mul_le_mul_right _ B1
    omega
  have tt := turn_turn (n := N) B0
  have tuN : tuI (B : Int) (N : Int) = ((turn B N : Nat) : Int) := by unfold tuI; rw [Int.toNat_natCast, Int.toNat_natCast]
  have tuT : tuI (B : Int) ((turn B N : Nat) : Int) = ((turn B (turn B N) : Nat) : Int) := by unfold tuI; rw [Int.toNat_natCast, Int.toNat_natCast]
  have tub : ((turn B N : Nat) : Int) < 2 ^ 2000 := Int.lt_trans (lt_i tun) (by decide +kernel)
  ((repeat walk_at "zs"); (try conv => whnf))
  refine .mk bk n0 nb2 ?_
  rw [tuN]
  ((repeat walk_at "zs"); (try conv => whnf))
  refine .mk bk n0 nb2 ?_
  rw [tuN]
  ((repeat walk_at "zs"); (try conv => whnf))
  refine .mk bk n0 nb2 ?_
  rw [tuN]
  ((repeat walk_at "zs"); (try conv => whnf))
  refine .mk bk n0 nb2 ?_
  rw [tuN]
  ((repeat walk_at "zs"); (try conv => whnf))
  refine .mk bk n0 nb2 ?_
  rw [tuN]
  have rl : Rep 1 (4 * 2002 + 4) (.list [PyData.int ((turn B N : Nat) : Int), .int ((turn B N : Nat) : Int), .bool (decide (((turn B N : Nat) : Int) = (N : Int))), .bool (decide (((turn B N : Nat) : Int) = (N : Int)))]) := by
    refine rep_lst (k := 0) (L := 2000) (n := 4) (fun d hd => ?_) (by simp)
    simp only [List.mem_cons, List.not_mem_nil, or_false] at hd
    rcases hd with rfl | rfl | rfl | rfl
    · exact rep_nat (Nat.lt_trans tun (by decide +kernel))
    · exact rep_nat (Nat.lt_trans tun (by decide +kernel))
    · exact rep_bool
    · exact rep_bool
  obtain ⟨q1, q2, q3, q4⟩ := rl.repr (by decide) (by decide)
  ((repeat walk_at "zs"); (try conv => whnf))
  refine ⟨fun ρ' Ω' => ρ' = rho77 s x r2 (some (I B)) (some (I N)) (some (I ((turn B N : Nat) : Int))) (some (.d (.list [PyData.int ((turn B N : Nat) : Int), .int ((turn B N : Nat) : Int), .bool (decide (((turn B N : Nat) : Int) = (N : Int)))]))) r7 r8 r9 r10 r11 r12 r13 ∧ Ω' = Ω, ?_, ?_⟩
  · have dd : (((turn B (turn B N) : Nat) : Int) = (N : Int)) ↔ (N = 0 ∨ N % B ≠ 0) := by
      rw [← tt]
      omega
    ((repeat walk_at "zs"); (try conv => whnf))
    refine .mk bk (by omega) tub ?_
    rw [tuT]
    ((repeat walk_at "zs"); (try conv => whnf))
    refine br_d (fun z => ?_) fun z => ?_
    · have z' : N = 0 := by
        have : (N : Int) = 0 := z
        omega
      ((repeat walk_at "zs"); (try conv => whnf))
      rw [decide_eq_true (dd.mpr (.inl z'))]
      ((repeat walk_at "zs"); (try conv => whnf))
    · have z' : ¬ N = 0 := fun y => z (by show (N : Int) = 0; omega)
      ((repeat walk_at "zs"); (try conv => whnf))
      have em : decide (((turn B (turn B N) : Nat) : Int) = (N : Int)) = !decide ((N : Int) % (B : Int) = 0) := by
        by_cases y : N % B = 0
        · rw [decide_eq_true (show (N : Int) % (B : Int) = 0 by rw [← Int.natCast_emod]; omega), decide_eq_false (fun w => by rcases dd.mp w with w | w; exact z' w; exact w y)]
          rfl
        · rw [decide_eq_false (show ¬ (N : Int) % (B : Int) = 0 by rw [← Int.natCast_emod]; omega), decide_eq_true (dd.mpr (.inr y))]
          rfl
      rw [em]
      ((repeat walk_at "zs"); (try conv => whnf))
  · rintro ρ' Ω' ⟨rfl, rfl⟩
    exact p_law_5 Cl Fr _ bk B0 B1 tuN nbN hD hB
theorem p_law_0 (Cl : Cls) (Fr : Addr → Prop) {Φ : PhiE} (k : ∀ Ω, Φ (.d (.bool true)) Ω) {s x : SV} {r2 r3 r4 r5 r6 r7 r8 r9 r10 r11 r12 r13 r14 r15 : Option SV} {Ω : Om} (hB : Deck x [] [] Ω) :
    b_law_0 Cl Fr { nx := fun _ Ω => Φ (.d .none) Ω, rt := Φ } [some s, some x, r2, r3, r4, r5, r6, r7, r8, r9, r10, r11, r12, r13, r14, r15, none, none] Ω := by
  ((repeat walk_at "zs"); (try conv => whnf))
  refine .mk hB (by simp) (by simp) fun d hd Ω hB => ?_
  obtain ⟨B, rfl, hb⟩ : ∃ B : Nat, d = .int (B : Nat) ∧ B ∈ [2, 3, 10] := by
    simp only [List.mem_cons, List.not_mem_nil, or_false] at hd
    rcases hd with rfl | rfl | rfl
    · exact ⟨2, rfl, by simp⟩
    · exact ⟨3, rfl, by simp⟩
    · exact ⟨10, rfl, by simp⟩
  have B0 : 2 ≤ B := by simp at hb; omega
  have B1 : B ≤ 1000 := by simp at hb; omega
  have bk : Bk (B : Int) := ⟨by omega, by omega⟩
  ((repeat walk_at "zs"); (try conv => whnf))
  refine .mk hB (by decide) (by decide) fun f Ω f0 f1 hB => ?_
  obtain ⟨F, rfl⟩ := Int.eq_ofNat_of_zero_le f0
  have sa := smalls_at hb (n := F + 1) (by omega)
  have sne := smalls_zero B (F + 1) (by omega)
  have slt : ∀ y ∈ smalls B (F + 1), y < 201 := fun y hy => by have := smalls_lt hy; omega
  have sln : (smalls B (F + 1)).length ≤ 201 := by
    unfold smalls
    refine Nat.le_trans (List.length_filter_le ..) ?_
    rw [List.length_range]
    omega
  have en : ((F : Int) + 1).toNat = F + 1 := by omega
  ((repeat walk_at "zs"); (try conv => whnf))
  rw [en, rgS_nat]
  refine lc_filter (isMir B) (fun Ω' => Ω' = Ω) (by rw [natD_len, List.length_range]; omega) rfl (fun _ _ => trivial) (fun d Ω2 Y N hd e k1 k2 => ?_) fun Ω2 e => ?_
  · subst e
    obtain ⟨z, hz, rfl⟩ := List.mem_map.mp hd
    obtain ⟨y, hy, rfl⟩ := List.mem_map.mp hz
    have yl := List.mem_range.mp hy
    have ei : isMir B (.int (y : Int)) = decide (tuI (B : Int) (y : Int) = (y : Int)) := by
      unfold tuI
      rw [Int.toNat_natCast]
      rfl
    ((repeat walk_at "zs"); (try conv => whnf))
    refine .mk bk (by omega) (Int.lt_trans (b := 2 ^ 20) (by omega) (by decide +kernel)) ?_
    ((repeat walk_at "zs"); (try conv => whnf))
    refine br_d (fun h => ?_) fun h => ?_
    · exact k1 (by rw [ei]; exact decide_eq_true h) _ rfl
    · exact k2 (by rw [ei]; exact decide_eq_false h) _ rfl
  · subst e
    rw [filter_mir]
    have es : List.filter (fun x => decide (turn B x = x)) (List.range (F + 1)) = smalls B (F + 1) := rfl
    rw [es]
    have eq := eqv_natL (smalls B (F + 1))
    have sh := (shaped_isD ((smalls B (F + 1)).map fun d => ((d : Nat) : Int))).2
    have ln := natD_len (smalls B (F + 1))
    generalize smalls B (F + 1) = S at *
    have lS : 1 ≤ S.length := List.length_pos_iff.mpr sne
    ((repeat walk_at "zs"); (try conv => whnf))
    rw [ln]
    refine lc_at (fun i => .int ((atV B i : Nat) : Int)) (fun Ω' => Ω' = Ω2) (by rw [rgS_len]; omega) rfl (fun _ _ => trivial) (fun i z Ω3 Y N e hj k1 => ?_) fun Ω3 e => ?_
    · subst hj
      obtain ⟨rfl, lt⟩ := rgS_get e
      ((repeat walk_at "zs"); (try conv => whnf))
      refine .mk bk (by omega) (by omega) ?_
      have ea : atI' (B : Int) (0 + (i : Int)) = ((atV B i : Nat) : Int) := by
        unfold atI'
        rw [Int.toNat_natCast, show (0 + (i : Int)).toNat = i by omega]
      rw [ea]
      exact k1 _ rfl
    · subst e
      have em : (List.range (rgS 0 ((S.length : Nat) : Int).toNat).length).map (fun i => PyData.int ((atV B i : Nat) : Int)) = natD S := by
        rw [rgS_len, Int.toNat_natCast]
        conv => rhs; rw [sa]
        show _ = List.map _ (List.map _ (List.map _ _))
        rw [List.map_map, List.map_map]
        rfl
      rw [em]
      ((repeat walk_at "zs"); (try conv => whnf))
      rw [eq]
      have pl := plc_at (p := S.length - 1) B0
      have gl : S.getLast? = some (atV B (S.length - 1)) := by
        conv => lhs; rw [sa]
        rw [List.getLast?_map, List.getLast?_range]
        rw [if_neg (by omega)]
        rfl
      have lt := slt _ (List.mem_of_getLast? gl)
      have atl : atI (natD S) (-1) = some (.int ((atV B (S.length - 1) : Nat) : Int)) := last_isD (by rw [List.getLast?_map, gl]; rfl)
      have tM : tuI (B : Int) ((atV B (S.length - 1) : Nat) : Int) = ((atV B (S.length - 1) : Nat) : Int) := by
        unfold tuI
        rw [Int.toNat_natCast, Int.toNat_natCast, pl.2]
      have pM : plI (B : Int) ((atV B (S.length - 1) : Nat) : Int) = ((S.length : Nat) : Int) - 1 := by
        unfold plI
        rw [Int.toNat_natCast, Int.toNat_natCast, pl.1]
        omega
      have rlt : Rep 1 (2 * 2002 + 4) (.list [.str "told", .int (((S.length : Nat) : Int) - 1)]) := rep_l2 rep_told (rep_i (by omega) (by omega))
      have shl := rlt.shaped (by decide)
      have eql := rlt.eq (by decide)
      generalize atV B (S.length - 1) = M at *
      ((repeat walk_at "zs"); (try conv => whnf))
      refine ⟨_, atl, ?_⟩
      ((repeat walk_at "zs"); (try conv => whnf))
      refine .mk bk (by omega) (Int.lt_trans (b := 2 ^ 20) (by omega) (by decide +kernel)) (fun _ => ?_) fun h => absurd tM h
      rw [pM]
      ((repeat walk_at "zs"); (try conv => whnf))
      rw [ln]
      refine br_of (fun _ => ?_) fun h => absurd (eql.symm.trans h) (by decide)
      have bk2 : Bk 2 := ⟨by decide, by decide⟩
      have ew : wkI 2 22 200 = natD (wk 2 200 22) := rfl
      have lw : (natD (wk 2 200 22)).length = 201 := by rw [natD_len, wk_T (by decide), long_all]
      ((repeat walk_at "zs"); (try conv => whnf))
      refine .mk bk2 (by decide) (by decide) (by decide) (by decide +kernel) ?_
      rw [ew]
      generalize natD (wk 2 200 22) = V at *
      ((repeat walk_at "zs"); (try conv => whnf))
      rw [lw]
      exact k _
theorem p_law_1 (Cl : Cls) (Fr : Addr → Prop) {Φ : PhiE} (k : ∀ Ω, Φ (.d (.bool true)) Ω) {s x : SV} {r2 r3 r4 r5 r6 r7 r8 r9 r10 r11 r12 r13 : Option SV} {Ω : Om} (hB : Deck x [] [] Ω) :
    b_law_1 Cl Fr { nx := fun _ Ω => Φ (.d .none) Ω, rt := Φ } (rho77 s x r2 r3 r4 r5 r6 r7 r8 r9 r10 r11 r12 r13) Ω := by
  ((repeat walk_at "zs"); (try conv => whnf))
  refine .mk hB (by decide) (by decide) fun a Ω a0 a1 hB => ?_
  ((repeat walk_at "zs"); (try conv => whnf))
  refine .mk hB (by decide) (by decide) fun c Ω c0 c1 hB => ?_
  ((repeat walk_at "zs"); (try conv => whnf))
  refine .mk hB (by simp) (by simp) fun d hd Ω hB => ?_
  obtain ⟨n, rfl, n0, n1⟩ : ∃ n : Int, d = .int n ∧ 2 ≤ n ∧ n ≤ 64 := by
    repeat (rcases List.mem_cons.mp hd with rfl | hd; (exact ⟨_, rfl, by omega⟩))
    exact absurd hd List.not_mem_nil
  obtain ⟨N, rfl⟩ := Int.eq_ofNat_of_zero_le (show 0 ≤ n by omega)
  have nv := nev_lt (n := N) (by omega)
  have al := nev_all N (by omega) (by omega)
  rw [← wk_T (by decide)] at al
  have bk2 : Bk 2 := ⟨by decide, by decide⟩
  have rv : Rep 0 2000 (.int ((nev N : Nat) : Int)) := rep_nat (Nat.lt_trans nv (by decide +kernel))
  obtain ⟨q1, q2, q3, q4⟩ := (rep_l2 rv rv).repr (by decide) (by decide)
  ((repeat walk_at "zs"); (try conv => whnf))
  refine .mk n0 (by omega) ?_
  rw [Int.toNat_natCast]
  ((repeat walk_at "zs"); (try conv => whnf))
  refine .mk n0 (by omega) ?_
  rw [Int.toNat_natCast]
  ((repeat walk_at "zs"); (try conv => whnf))
  refine .mk n0 (by omega) ?_
  rw [Int.toNat_natCast]
  have bw : ((nev N : Nat) : Int) * ((2 : Int) + 1) ^ (4 : Int).toNat < 2 ^ 2000 := by
    have e : ((2 : Int) + 1) ^ (4 : Int).toNat = 81 := by decide
    have := lt_i nv
    rw [e]
    refine Int.lt_trans (b := 2 ^ 147) ?_ (by decide +kernel)
    omega
  have ew : wkI 2 ((nev N : Nat) : Int) 4 = natD (wk 2 4 (nev N)) := by
    unfold wkI
    rw [Int.toNat_natCast]
    rfl
  have sh := shaped_isD ((wk 2 4 (nev N)).map fun d => ((d : Nat) : Int))
  have lw : (natD (wk 2 4 (nev N))).length = 5 := by rw [natD_len]; exact al.1
  have atl : atI (natD (wk 2 4 (nev N))) (-1) = some (.int ((nev (N + 1) : Nat) : Int)) := by
    refine last_isD ?_
    rw [List.getLast?_map, al.2]
    rfl
  ((repeat walk_at "zs"); (try conv => whnf))
  refine .mk bk2 (by omega) (by decide) (by decide) bw ?_
  rw [ew]
  generalize wk 2 4 (nev N) = rw_ at *
  ((repeat walk_at "zs"); (try conv => whnf))
  refine ⟨fun ρ' Ω' => ρ' = [some s, some x, r2, r3, r4, r5, r6, r7, some (I ((nev N : Nat) : Int)), r9, r10, r11, r12, r13, some (I N), some (T (natD rw_)), none, none] ∧ Ω' = Ω, ?_, ?_⟩
  · ((repeat walk_at "zs"); (try conv => whnf))
    refine ⟨_, atl, ?_⟩
    ((repeat walk_at "zs"); (try conv => whnf))
    refine .mk (by omega) (by omega) ?_
    have en : ((N : Int) + 1).toNat = N + 1 := by omega
    rw [en]
    have shw := (shaped_isD (rw_.map fun d => ((d : Nat) : Int))).1
    have eqw : PyData.eqv (.tuple (natD rw_)) (.tuple (natD rw_)) = true := eqv_natT rw_ []
    ((repeat walk_at "zs"); (try conv => whnf))
    refine br_d (fun lt => ?_) fun ge => ?_
    · ((repeat walk_at "zs"); (try conv => whnf))
      refine .mk bk2 (by omega) (by decide) (by decide) bw ?_
      rw [ew]
      ((repeat walk_at "zs"); (try conv => whnf))
      rw [eqw]
      ((repeat walk_at "zs"); (try conv => whnf))
    · ((repeat walk_at "zs"); (try conv => whnf))
  · rintro ρ' Ω' ⟨rfl, rfl⟩
    exact p_law_0 Cl Fr k hB
theorem w_law (Cl : Cls) (Fr : Addr → Prop) (svs : List SV) (Ω : Om) (Φ : PhiE) (Ξ : XA) (h : c_law svs Ω Φ Ξ) :
    a_law Cl Fr { nx := fun _ Ω => Φ (.d .none) Ω, rt := Φ } (startR N_law svs) Ω := by
  obtain ⟨ok, k⟩ := h
  rename_i ns
  conv => whnf
  refine .mk ok fun x Ω hB => ?_
  ((repeat walk_at "zs"); (try conv => whnf))
  refine ⟨fun j ρ Ω' => ∃ r2 r3 r4 r5 r6 r7 r8 r9 r10 r11 r12 r13 : Option SV, ρ = rho77 (.l (ns.map PyData.int)) x r2 r3 r4 r5 r6 r7 r8 r9 r10 r11 r12 r13 ∧ Deck x [] [] Ω', ⟨_, _, _, _, _, _, _, _, _, _, _, _, rfl, hB⟩, fun _ _ _ _ => trivial, ?_, ?_⟩
  · rintro j y ρ Ω e ⟨r2, r3, r4, r5, r6, r7, r8, r9, r10, r11, r12, r13, rfl, hB⟩
    refine p_law_6 Cl Fr _ ?_ hB
    intro r2 r3 r4 r5 r6 r7 r8 r9 r10 r11 r12 r13 Ω hB
    exact ⟨r2, r3, r4, r5, r6, r7, r8, r9, r10, r11, r12, r13, rfl, hB⟩
  · rintro ρ Ω ⟨r2, r3, r4, r5, r6, r7, r8, r9, r10, r11, r12, r13, rfl, hB⟩
    exact p_law_1 Cl Fr k hB
end
theorem d_value_in {P : Program} {w : World} {K : PySem.W.Frag} {mg : Str → Option Value} {base : Heap} {f : Addr} {cdv : Value} {A : Around} {outer : List Env} {s : Shared} {H : Hp} {E : XK} {G : Gn} (T : Top K mg) (hgd : A.guards = some [])
    (hr : Room 0 (A.deeper (envOfC "value_in" (defScope s_value_in) s.heap.objs.size f cdv))) :
    JSs (cxOf CX0 P w K mg base N_value_in "value_in" (defScope s_value_in) f cdv A outer s H E).nox G (defBody s_value_in) (a_value_in T.cl fun p => G.H0 p = none) :=
    (jss_cons (js_set (i := 2) sc_value_in.nd rfl (Or.inl rfl) je_int)
    (jss_cons (js_for PassesOwn.never rfl (ji_of (je_rev2 mok0 (je_var (pv 0)))) (jg_name (i := 3) sc_value_in.nd rfl (Or.inl rfl)) (jss_one (js_set (i := 2) sc_value_in.nd rfl (Or.inl rfl) (je_bin (jo_add mok0) (je_bin jo_mulI (je_var (pv 2)) (je_var (pv 1))) (je_var (pv 3))))))
    (jss_one (js_ret (je_var (pv 2))))))
theorem ok_value_in {P : Program} {w : World} {K : PySem.W.Frag} {mg : Str → Option Value} {base : Heap} (T : Top K mg) : FnG P w K mg base CX0 1 T.f_value_in T.fd_value_in ["word", "b"] (spOf K c_value_in) :=
  fn_ok0 (k := 0) T.F_value_in sc_value_in ari_value_in (fun cdv A outer s H E G hgd hr => d_value_in T hgd hr) (w_value_in T.cl)
theorem d_figures {P : Program} {w : World} {K : PySem.W.Frag} {mg : Str → Option Value} {base : Heap} {f : Addr} {cdv : Value} {A : Around} {outer : List Env} {s : Shared} {H : Hp} {E : XK} {G : Gn} (T : Top K mg) (hgd : A.guards = some [])
    (hr : Room 0 (A.deeper (envOfC "figures" (defScope s_figures) s.heap.objs.size f cdv))) :
    JSs (cxOf CX0 P w K mg base N_figures "figures" (defScope s_figures) f cdv A outer s H E).nox G (defBody s_figures) (a_figures T.cl fun p => G.H0 p = none) :=
    (jss_cons (js_set (i := 2) sc_figures.nd rfl (Or.inl rfl) (je_lst mok1 ja_nil))
    (jss_cons (js_while PassesOwn.never (jt_cmp jo_gt (je_var (pv 0)) je_int (nomark _)) (jss_cons (js_expr (je_ml PySem.F.slot_list_append PySem.F.type_list_append jm_append (je_var (pv 2)) (ja_cons (je_bin jo_mod (je_var (pv 0)) (je_var (pv 1))) ja_nil)))
    (jss_one (js_set (i := 0) sc_figures.nd rfl (Or.inl rfl) (je_bin jo_div (je_var (pv 0)) (je_var (pv 1)))))))
    (jss_one (js_retD (je_callTy jc_tupleOf rfl T.n_tuple (by decide +kernel) (ja_cons (je_var (pv 2)) ja_nil))))))
theorem ok_figures {P : Program} {w : World} {K : PySem.W.Frag} {mg : Str → Option Value} {base : Heap} (T : Top K mg) : FnG P w K mg base CX0 1 T.f_figures T.fd_figures ["number", "b"] (spOf K c_figures) :=
  fn_ok0 (k := 0) T.F_figures sc_figures ari_figures (fun cdv A outer s H E G hgd hr => d_figures T hgd hr) (w_figures T.cl)
theorem d_raised {P : Program} {w : World} {K : PySem.W.Frag} {mg : Str → Option Value} {base : Heap} {f : Addr} {cdv : Value} {A : Around} {outer : List Env} {s : Shared} {H : Hp} {E : XK} {G : Gn} (T : Top K mg) (hgd : A.guards = some [])
    (hr : Room 0 (A.deeper (envOfC "raised" (defScope s_raised) s.heap.objs.size f cdv))) :
    JSs (cxOf CX0 P w K mg base N_raised "raised" (defScope s_raised) f cdv A outer s H E).nox G (defBody s_raised) (a_raised T.cl fun p => G.H0 p = none) :=
    (jss_cons (js_set (i := 2) sc_raised.nd rfl (Or.inl rfl) je_int)
    (jss_cons (js_for PassesOwn.never rfl (ji_range1 rfl T.n_range (ja_cons (je_var (pv 1)) ja_nil)) (jg_name (i := 3) sc_raised.nd rfl (Or.inl rfl)) (jss_one (js_set (i := 2) sc_raised.nd rfl (Or.inl rfl) (je_bin jo_mulI (je_var (pv 2)) (je_var (pv 0))))))
    (jss_one (js_ret (je_var (pv 2))))))
theorem ok_raised {P : Program} {w : World} {K : PySem.W.Frag} {mg : Str → Option Value} {base : Heap} (T : Top K mg) : FnG P w K mg base CX0 1 T.f_raised T.fd_raised ["number", "power"] (spOf K c_raised) :=
  fn_ok0 (k := 0) T.F_raised sc_raised ari_raised (fun cdv A outer s H E G hgd hr => d_raised T hgd hr) (w_raised T.cl)
theorem d_l_deck {P : Program} {w : World} {K : PySem.W.Frag} {mg : Str → Option Value} {base : Heap} {f : Addr} {cdv : Value} {A : Around} {outer : List Env} {s : Shared} {H : Hp} {E : XK} {G : Gn} (T : Top K mg) (hgd : A.guards = some [])
    (hr : Room 0 (A.deeper (envOfC "_law_deck" (defScope s_l_deck) s.heap.objs.size f cdv))) :
    JSs (cxOf CX0 P w K mg base N_l_deck "_law_deck" (defScope s_l_deck) f cdv A outer s H E).nox G (defBody s_l_deck) (a_l_deck T.cl fun p => G.H0 p = none) :=
    (jss_cons (js_set (i := 1) sc_l_deck.nd rfl (Or.inl rfl) (je_disp mok1 (jp_cons (k := (.inr "great")) pe_str (je_lst mok1 ja_nil) (jp_cons (k := (.inr "mixed")) pe_str (je_bin (jo_add mok0) je_int (je_callB jc_len rfl T.n_len (by decide +kernel) (ja_cons (je_sl mok0 (je_var (pv 0)) jp_none (jp_some je_int)) ja_nil))) (jp_cons (k := (.inr "turns")) pe_str je_int jp_nil))) rfl rfl (fun z => by cases z) (by decide)))
    (jss_cons (js_for PassesOwn.never rfl (ji_of (je_sl mok0 (je_var (pv 0)) jp_none (jp_some je_int))) (jg_name (i := 2) sc_l_deck.nd rfl (Or.inl rfl)) (jss_cons (js_set (i := 3) sc_l_deck.nd rfl (Or.inl rfl) (je_bin (jo_add mok0) (je_bin jo_mulC je_int (je_callB jc_abs rfl T.n_abs (by decide +kernel) (ja_cons (je_var (pv 2)) ja_nil))) (je_callTy jc_int rfl T.n_int (by decide +kernel) (ja_cons (je_cmp jo_lt (je_var (pv 2)) je_int (nomark _)) ja_nil))))
    (jss_cons (js_if (jt_cmp jo_ge (je_var (pv 3)) (je_bin jo_pow je_int je_int) (nomark _)) (jss_one (js_expr (je_ml PySem.F.slot_list_append PySem.F.type_list_append jm_append (je_dget hr.units (je_var (pv 1)) je_str (fun _ _ => rfl)) (ja_cons (je_var (pv 3)) ja_nil)))) jss_nil)
    (jss_one (js_dput hr.units (je_bin jo_mod (je_callTy jc_int rfl T.n_int (by decide +kernel) (ja_cons (je_bin (jo_add mok0) (je_bin (jo_add mok0) (je_bin jo_mulC (je_dget hr.units (je_var (pv 1)) je_str (fun _ _ => rfl)) je_int) (je_var (pv 3))) je_int) ja_nil)) je_int) (je_var (pv 1)) je_str)))))
    (jss_one (js_ret (je_var (pv 1))))))
theorem ok_l_deck {P : Program} {w : World} {K : PySem.W.Frag} {mg : Str → Option Value} {base : Heap} (T : Top K mg) : FnG P w K mg base CX0 1 T.f_l_deck T.fd_l_deck ["script"] (spOf K c_l_deck) :=
  fn_ok0 (k := 0) T.F_l_deck sc_l_deck ari_l_deck (fun cdv A outer s H E G hgd hr => d_l_deck T hgd hr) (w_l_deck T.cl)
theorem d_l_draw {P : Program} {w : World} {K : PySem.W.Frag} {mg : Str → Option Value} {base : Heap} {f : Addr} {cdv : Value} {A : Around} {outer : List Env} {s : Shared} {H : Hp} {E : XK} {G : Gn} (T : Top K mg) (hgd : A.guards = some [])
    (hr : Room 0 (A.deeper (envOfC "_law_draw" (defScope s_l_draw) s.heap.objs.size f cdv))) :
    JSs (cxOf CX0 P w K mg base N_l_draw "_law_draw" (defScope s_l_draw) f cdv A outer s H E).nox G (defBody s_l_draw) (a_l_draw T.cl fun p => G.H0 p = none) :=
    (jss_cons (js_if (jt_cmp jo_lt (je_var (pv 1)) je_int (nomark _)) (jss_one (js_ret je_int)) jss_nil)
    (jss_cons (js_if (jt_cmp (jo_ne hr.units) (je_dget hr.units (je_var (pv 0)) je_str (fun _ _ => rfl)) (je_lst mok0 ja_nil) (nomark _)) (jss_cons (js_set (i := 2) sc_l_draw.nd rfl (Or.inl rfl) (je_ml0 PySem.F.slot_list_pop PySem.F.type_list_pop jm_pop (je_dget hr.units (je_var (pv 0)) je_str (fun _ _ => rfl))))
    (jss_cons (js_if (jt_cmp jo_ge (je_var (pv 2)) (je_var (pv 1)) (nomark _)) (jss_one (js_expr (je_ml PySem.F.slot_list_append PySem.F.type_list_append jm_append (je_dget hr.units (je_var (pv 0)) je_str (fun _ _ => rfl)) (ja_cons (je_bin jo_div (je_var (pv 2)) (je_var (pv 1))) ja_nil)))) jss_nil)
    (jss_one (js_ret (je_bin jo_mod (je_callTy jc_int rfl T.n_int (by decide +kernel) (ja_cons (je_var (pv 2)) ja_nil)) (je_var (pv 1))))))) jss_nil)
    (jss_cons (js_dput hr.units (je_bin (jo_add mok0) (je_dget hr.units (je_var (pv 0)) je_str (fun _ _ => rfl)) je_int) (je_var (pv 0)) je_str)
    (jss_cons (js_set (i := 3) sc_l_draw.nd rfl (Or.inl rfl) (je_bin jo_mod (je_callTy jc_int rfl T.n_int (by decide +kernel) (ja_cons (je_bin (jo_add mok0) (je_dget hr.units (je_var (pv 0)) je_str (fun _ _ => rfl)) (je_bin jo_mulC je_int (je_dget hr.units (je_var (pv 0)) je_str (fun _ _ => rfl)))) ja_nil)) je_int))
    (jss_cons (js_set (i := 3) sc_l_draw.nd rfl (Or.inl rfl) (je_bin jo_mod (je_callTy jc_int rfl T.n_int (by decide +kernel) (ja_cons (je_bin (jo_add mok0) (je_bin (jo_add mok0) (je_bin jo_mulI (je_var (pv 3)) (je_var (pv 3))) (je_bin jo_mulC je_int (je_dget hr.units (je_var (pv 0)) je_str (fun _ _ => rfl)))) je_int) ja_nil)) je_int))
    (jss_cons (js_set (i := 3) sc_l_draw.nd rfl (Or.inl rfl) (je_bin jo_mod (je_callTy jc_int rfl T.n_int (by decide +kernel) (ja_cons (je_bin (jo_add mok0) (je_bin jo_mulI (je_var (pv 3)) (je_var (pv 3))) (je_bin jo_mulC (je_dget hr.units (je_var (pv 0)) je_str (fun _ _ => rfl)) je_int)) ja_nil)) je_int))
    (jss_one (js_ret (je_bin jo_mod (je_callTy jc_int rfl T.n_int (by decide +kernel) (ja_cons (je_bin jo_div (je_var (pv 3)) je_int) ja_nil)) (je_var (pv 1)))))))))))
theorem ok_l_draw {P : Program} {w : World} {K : PySem.W.Frag} {mg : Str → Option Value} {base : Heap} (T : Top K mg) : FnG P w K mg base CX0 1 T.f_l_draw T.fd_l_draw ["deck", "many"] (spOf K c_l_draw) :=
  fn_ok0 (k := 0) T.F_l_draw sc_l_draw ari_l_draw (fun cdv A outer s H E G hgd hr => d_l_draw T hgd hr) (w_l_draw T.cl)
theorem d_l_turned {P : Program} {w : World} {K : PySem.W.Frag} {mg : Str → Option Value} {base : Heap} {f : Addr} {cdv : Value} {A : Around} {outer : List Env} {s : Shared} {H : Hp} {E : XK} {G : Gn} (T : Top K mg) (hgd : A.guards = some [])
    (hr : Room 0 (A.deeper (envOfC "_law_turned" (defScope s_l_turned) s.heap.objs.size f cdv))) :
    JSs (cxOf CX0 P w K mg base N_l_turned "_law_turned" (defScope s_l_turned) f cdv A outer s H E).nox G (defBody s_l_turned) (a_l_turned T.cl fun p => G.H0 p = none) :=
    (jss_cons (js_set (i := 2) sc_l_turned.nd rfl (Or.inl rfl) je_int)
    (jss_cons (js_while PassesOwn.never (jt_cmp jo_gt (je_var (pv 1)) je_int (nomark _)) (jss_cons (js_set (i := 2) sc_l_turned.nd rfl (Or.inl rfl) (je_bin (jo_add mok0) (je_bin jo_mulI (je_var (pv 2)) (je_var (pv 0))) (je_bin jo_mod (je_callTy jc_int rfl T.n_int (by decide +kernel) (ja_cons (je_var (pv 1)) ja_nil)) (je_var (pv 0)))))
    (jss_one (js_set (i := 1) sc_l_turned.nd rfl (Or.inl rfl) (je_bin jo_div (je_var (pv 1)) (je_var (pv 0)))))))
    (jss_one (js_ret (je_var (pv 2))))))
theorem ok_l_turned {P : Program} {w : World} {K : PySem.W.Frag} {mg : Str → Option Value} {base : Heap} (T : Top K mg) : FnG P w K mg base CX0 1 T.f_l_turned T.fd_l_turned ["b", "number"] (spOf K c_l_turned) :=
  fn_ok0 (k := 0) T.F_l_turned sc_l_turned ari_l_turned (fun cdv A outer s H E G hgd hr => d_l_turned T hgd hr) (w_l_turned T.cl)
theorem d_l_never {P : Program} {w : World} {K : PySem.W.Frag} {mg : Str → Option Value} {base : Heap} {f : Addr} {cdv : Value} {A : Around} {outer : List Env} {s : Shared} {H : Hp} {E : XK} {G : Gn} (T : Top K mg) (hgd : A.guards = some [])
    (hr : Room 0 (A.deeper (envOfC "_law_never" (defScope s_l_never) s.heap.objs.size f cdv))) :
    JSs (cxOf CX0 P w K mg base N_l_never "_law_never" (defScope s_l_never) f cdv A outer s H E).nox G (defBody s_l_never) (a_l_never T.cl fun p => G.H0 p = none) :=
    (jss_cons (js_set (i := 1) sc_l_never.nd rfl (Or.inl rfl) je_int)
    (jss_cons (js_for PassesOwn.never rfl (ji_of (je_bin (jo_add mok0) (je_bin (jo_add mok0) (je_bin (jo_add mok0) (je_lst mok0 (ja_cons je_int (ja_cons je_int ja_nil))) (je_bin (jo_mul mok0) (je_lst mok0 (ja_cons je_int ja_nil)) (je_var (pv 0)))) (je_lst mok0 (ja_cons je_int (ja_cons je_int ja_nil)))) (je_bin (jo_mul mok0) (je_lst mok0 (ja_cons je_int ja_nil)) (je_var (pv 0))))) (jg_name (i := 2) sc_l_never.nd rfl (Or.inl rfl)) (jss_one (js_set (i := 1) sc_l_never.nd rfl (Or.inl rfl) (je_bin (jo_add mok0) (je_bin jo_mulC je_int (je_var (pv 1))) (je_var (pv 2))))))
    (jss_one (js_ret (je_var (pv 1))))))
theorem ok_l_never {P : Program} {w : World} {K : PySem.W.Frag} {mg : Str → Option Value} {base : Heap} (T : Top K mg) : FnG P w K mg base CX0 1 T.f_l_never T.fd_l_never ["n"] (spOf K c_l_never) :=
  fn_ok0 (k := 0) T.F_l_never sc_l_never ari_l_never (fun cdv A outer s H E G hgd hr => d_l_never T hgd hr) (w_l_never T.cl)
theorem d_l_power {P : Program} {w : World} {K : PySem.W.Frag} {mg : Str → Option Value} {base : Heap} {f : Addr} {cdv : Value} {A : Around} {outer : List Env} {s : Shared} {H : Hp} {E : XK} {G : Gn} (T : Top K mg) (hgd : A.guards = some [])
    (hr : Room 0 (A.deeper (envOfC "_law_power" (defScope s_l_power) s.heap.objs.size f cdv))) :
    JSs (cxOf CX0 P w K mg base N_l_power "_law_power" (defScope s_l_power) f cdv A outer s H E).nox G (defBody s_l_power) (a_l_power T.cl fun p => G.H0 p = none) :=
    (jss_cons (js_set (i := 2) sc_l_power.nd rfl (Or.inl rfl) je_int)
    (jss_cons (js_for PassesOwn.never rfl (ji_range1 rfl T.n_range (ja_cons (je_var (pv 1)) ja_nil)) (jg_name (i := 3) sc_l_power.nd rfl (Or.inl rfl)) (jss_one (js_set (i := 2) sc_l_power.nd rfl (Or.inl rfl) (je_bin jo_mulI (je_var (pv 2)) (je_var (pv 0))))))
    (jss_one (js_ret (je_var (pv 2))))))
theorem ok_l_power {P : Program} {w : World} {K : PySem.W.Frag} {mg : Str → Option Value} {base : Heap} (T : Top K mg) : FnG P w K mg base CX0 1 T.f_l_power T.fd_l_power ["b", "often"] (spOf K c_l_power) :=
  fn_ok0 (k := 0) T.F_l_power sc_l_power ari_l_power (fun cdv A outer s H E G hgd hr => d_l_power T hgd hr) (w_l_power T.cl)
theorem d_l_mirror {P : Program} {w : World} {K : PySem.W.Frag} {mg : Str → Option Value} {base : Heap} {f : Addr} {cdv : Value} {A : Around} {outer : List Env} {s : Shared} {H : Hp} {E : XK} {G : Gn} (T : Top K mg) (hgd : A.guards = some [])
    (hr : Room 0 (A.deeper (envOfC "_law_mirror" (defScope s_l_mirror) s.heap.objs.size f cdv))) :
    JSs (cxOf CX0 P w K mg base N_l_mirror "_law_mirror" (defScope s_l_mirror) f cdv A outer s H E).nox G (defBody s_l_mirror) (a_l_mirror T.cl fun p => G.H0 p = none) :=
    (jss_cons (js_par2 (i := 3) (j := 4) rfl sc_l_mirror.nd rfl rfl (by decide) rfl rfl (ja_cons (je_var (pv 1)) (ja_cons (je_join (je_if (jt_cmp (jo_eq hr.units) (je_bin jo_mod (je_callTy jc_int rfl T.n_int (by decide +kernel) (ja_cons (je_var (pv 2)) ja_nil)) je_int) je_int (nomark _)) (je_bin jo_div (je_var (pv 1)) (je_var (pv 0))) (je_var (pv 1)))) ja_nil)) rfl)
    (jss_cons (js_for PassesOwn.never rfl (ji_range1 rfl T.n_range (ja_cons (je_bin jo_div (je_var (pv 2)) je_int) ja_nil)) (jg_name (i := 5) sc_l_mirror.nd rfl (Or.inl rfl)) (jss_cons (js_set (i := 3) sc_l_mirror.nd rfl (Or.inl rfl) (je_bin (jo_add mok0) (je_bin jo_mulI (je_var (pv 3)) (je_var (pv 0))) (je_bin jo_mod (je_callTy jc_int rfl T.n_int (by decide +kernel) (ja_cons (je_var (pv 4)) ja_nil)) (je_var (pv 0)))))
    (jss_one (js_set (i := 4) sc_l_mirror.nd rfl (Or.inl rfl) (je_bin jo_div (je_var (pv 4)) (je_var (pv 0)))))))
    (jss_one (js_ret (je_var (pv 3))))))
theorem ok_l_mirror {P : Program} {w : World} {K : PySem.W.Frag} {mg : Str → Option Value} {base : Heap} (T : Top K mg) : FnG P w K mg base CX0 1 T.f_l_mirror T.fd_l_mirror ["b", "half", "size"] (spOf K c_l_mirror) :=
  fn_ok0 (k := 0) T.F_l_mirror sc_l_mirror ari_l_mirror (fun cdv A outer s H E G hgd hr => d_l_mirror T hgd hr) (w_l_mirror T.cl)
theorem d_turned_number {P : Program} {w : World} {K : PySem.W.Frag} {mg : Str → Option Value} {base : Heap} {f : Addr} {cdv : Value} {A : Around} {outer : List Env} {s : Shared} {H : Hp} {E : XK} {G : Gn} (T : Top K mg) (hgd : A.guards = some [])
    (hr : Room 1 (A.deeper (envOfC "turned_number" (defScope s_turned_number) s.heap.objs.size f cdv))) :
    JSs (cxOf CX0 P w K mg base N_turned_number "turned_number" (defScope s_turned_number) f cdv A outer s H E).nox G (defBody s_turned_number) (a_turned_number T.cl fun p => G.H0 p = none) :=
    (jss_one (js_ret (je_call (ok_value_in T) (hr.mono (by decide)) hgd rfl T.m_value_in T.F_value_in.kp (b_value_in T) (fun _ => passAt0) (@xok0 _ _ _) (ja_cons (je_rev2 mok0 (je_call (ok_figures T) (hr.mono (by decide)) hgd rfl T.m_figures T.F_figures.kp (b_figures T) (fun _ => passAt0) (@xok0 _ _ _) (ja_cons (je_var (pv 1)) (ja_cons (je_var (pv 0)) ja_nil)))) (ja_cons (je_var (pv 0)) ja_nil)))))
theorem ok_turned_number {P : Program} {w : World} {K : PySem.W.Frag} {mg : Str → Option Value} {base : Heap} (T : Top K mg) : FnG P w K mg base CX0 2 T.f_turned_number T.fd_turned_number ["b", "number"] (spOf K c_turned_number) :=
  fn_ok0 (k := 1) T.F_turned_number sc_turned_number ari_turned_number (fun cdv A outer s H E G hgd hr => d_turned_number T hgd hr) (w_turned_number T.cl)
theorem d_never_number {P : Program} {w : World} {K : PySem.W.Frag} {mg : Str → Option Value} {base : Heap} {f : Addr} {cdv : Value} {A : Around} {outer : List Env} {s : Shared} {H : Hp} {E : XK} {G : Gn} (T : Top K mg) (hgd : A.guards = some [])
    (hr : Room 1 (A.deeper (envOfC "never_number" (defScope s_never_number) s.heap.objs.size f cdv))) :
    JSs (cxOf CX0 P w K mg base N_never_number "never_number" (defScope s_never_number) f cdv A outer s H E).nox G (defBody s_never_number) (a_never_number T.cl fun p => G.H0 p = none) :=
    (jss_one (js_ret (je_call (ok_value_in T) (hr.mono (by decide)) hgd rfl T.m_value_in T.F_value_in.kp (b_value_in T) (fun _ => passAt0) (@xok0 _ _ _) (ja_cons (je_bin (jo_add mok0) (je_bin (jo_add mok0) (je_bin (jo_add mok0) (je_bin (jo_mul mok0) (je_tup (ja_cons je_int ja_nil)) (je_var (pv 0))) (je_tup (ja_cons je_int (ja_cons je_int ja_nil)))) (je_bin (jo_mul mok0) (je_tup (ja_cons je_int ja_nil)) (je_var (pv 0)))) (je_tup (ja_cons je_int (ja_cons je_int ja_nil)))) (ja_cons je_int ja_nil)))))
theorem ok_never_number {P : Program} {w : World} {K : PySem.W.Frag} {mg : Str → Option Value} {base : Heap} (T : Top K mg) : FnG P w K mg base CX0 2 T.f_never_number T.fd_never_number ["n"] (spOf K c_never_number) :=
  fn_ok0 (k := 1) T.F_never_number sc_never_number ari_never_number (fun cdv A outer s H E G hgd hr => d_never_number T hgd hr) (w_never_number T.cl)
theorem d_mirrored_count {P : Program} {w : World} {K : PySem.W.Frag} {mg : Str → Option Value} {base : Heap} {f : Addr} {cdv : Value} {A : Around} {outer : List Env} {s : Shared} {H : Hp} {E : XK} {G : Gn} (T : Top K mg) (hgd : A.guards = some [])
    (hr : Room 1 (A.deeper (envOfC "mirrored_count" (defScope s_mirrored_count) s.heap.objs.size f cdv))) :
    JSs (cxOf CX0 P w K mg base N_mirrored_count "mirrored_count" (defScope s_mirrored_count) f cdv A outer s H E).nox G (defBody s_mirrored_count) (a_mirrored_count T.cl fun p => G.H0 p = none) :=
    (jss_one (js_ret (je_if (jt_cmp jo_gt (je_var (pv 1)) je_int (nomark _)) (je_bin jo_mulI (je_bin jo_sub (je_var (pv 0)) je_int) (je_call (ok_raised T) (hr.mono (by decide)) hgd rfl T.m_raised T.F_raised.kp (b_raised T) (fun _ => passAt0) (@xok0 _ _ _) (ja_cons (je_var (pv 0)) (ja_cons (je_bin jo_div (je_bin jo_sub (je_var (pv 1)) je_int) je_int) ja_nil)))) je_int)))
theorem ok_mirrored_count {P : Program} {w : World} {K : PySem.W.Frag} {mg : Str → Option Value} {base : Heap} (T : Top K mg) : FnG P w K mg base CX0 2 T.f_mirrored_count T.fd_mirrored_count ["b", "size"] (spOf K c_mirrored_count) :=
  fn_ok0 (k := 1) T.F_mirrored_count sc_mirrored_count ari_mirrored_count (fun cdv A outer s H E G hgd hr => d_mirrored_count T hgd hr) (w_mirrored_count T.cl)
theorem d_mirrored_of_half {P : Program} {w : World} {K : PySem.W.Frag} {mg : Str → Option Value} {base : Heap} {f : Addr} {cdv : Value} {A : Around} {outer : List Env} {s : Shared} {H : Hp} {E : XK} {G : Gn} (T : Top K mg) (hgd : A.guards = some [])
    (hr : Room 1 (A.deeper (envOfC "mirrored_of_half" (defScope s_mirrored_of_half) s.heap.objs.size f cdv))) :
    JSs (cxOf CX0 P w K mg base N_mirrored_of_half "mirrored_of_half" (defScope s_mirrored_of_half) f cdv A outer s H E).nox G (defBody s_mirrored_of_half) (a_mirrored_of_half T.cl fun p => G.H0 p = none) :=
    (jss_cons (js_set (i := 3) sc_mirrored_of_half.nd rfl (Or.inl rfl) (je_call (ok_figures T) (hr.mono (by decide)) hgd rfl T.m_figures T.F_figures.kp (b_figures T) (fun _ => passAt0) (@xok0 _ _ _) (ja_cons (je_var (pv 2)) (ja_cons (je_var (pv 0)) ja_nil))))
    (jss_one (js_ret (je_call (ok_value_in T) (hr.mono (by decide)) hgd rfl T.m_value_in T.F_value_in.kp (b_value_in T) (fun _ => passAt0) (@xok0 _ _ _) (ja_cons (je_if (jt_cmp (jo_eq hr.units) (je_bin jo_and (je_var (pv 1)) je_int) je_int (nomark _)) (je_bin (jo_add mok0) (je_rev2 mok0 (je_var (pv 3))) (je_var (pv 3))) (je_bin (jo_add mok0) (je_rev2 mok0 (je_var (pv 3))) (je_sl mok0 (je_var (pv 3)) (jp_some je_int) jp_none))) (ja_cons (je_var (pv 0)) ja_nil))))))
theorem ok_mirrored_of_half {P : Program} {w : World} {K : PySem.W.Frag} {mg : Str → Option Value} {base : Heap} (T : Top K mg) : FnG P w K mg base CX0 2 T.f_mirrored_of_half T.fd_mirrored_of_half ["b", "size", "half"] (spOf K c_mirrored_of_half) :=
  fn_ok0 (k := 1) T.F_mirrored_of_half sc_mirrored_of_half ari_mirrored_of_half (fun cdv A outer s H E G hgd hr => d_mirrored_of_half T hgd hr) (w_mirrored_of_half T.cl)
theorem d_l_pick {P : Program} {w : World} {K : PySem.W.Frag} {mg : Str → Option Value} {base : Heap} {f : Addr} {cdv : Value} {A : Around} {outer : List Env} {s : Shared} {H : Hp} {E : XK} {G : Gn} (T : Top K mg) (hgd : A.guards = some [])
    (hr : Room 1 (A.deeper (envOfC "_law_pick" (defScope s_l_pick) s.heap.objs.size f cdv))) :
    JSs (cxOf CX0 P w K mg base N_l_pick "_law_pick" (defScope s_l_pick) f cdv A outer s H E).nox G (defBody s_l_pick) (a_l_pick T.cl fun p => G.H0 p = none) :=
    (jss_one (js_ret (je_ix jx_seq (je_var (pv 1)) (je_call (ok_l_draw T) (hr.mono (by decide)) hgd rfl T.m_l_draw T.F_l_draw.kp (b_l_draw T) (fun _ => passAt0) (@xok0 _ _ _) (ja_cons (je_var (pv 0)) (ja_cons (je_callB jc_len rfl T.n_len (by decide +kernel) (ja_cons (je_var (pv 1)) ja_nil)) ja_nil))) (fun _ _ => rfl))))
theorem ok_l_pick {P : Program} {w : World} {K : PySem.W.Frag} {mg : Str → Option Value} {base : Heap} (T : Top K mg) : FnG P w K mg base CX0 2 T.f_l_pick T.fd_l_pick ["deck", "row"] (spOf K c_l_pick) :=
  fn_ok0 (k := 1) T.F_l_pick sc_l_pick ari_l_pick (fun cdv A outer s H E G hgd hr => d_l_pick T hgd hr) (w_l_pick T.cl)
theorem d_l_walk {P : Program} {w : World} {K : PySem.W.Frag} {mg : Str → Option Value} {base : Heap} {f : Addr} {cdv : Value} {A : Around} {outer : List Env} {s : Shared} {H : Hp} {E : XK} {G : Gn} (T : Top K mg) (hgd : A.guards = some [])
    (hr : Room 1 (A.deeper (envOfC "_law_walk" (defScope s_l_walk) s.heap.objs.size f cdv))) :
    JSs (cxOf CX0 P w K mg base N_l_walk "_law_walk" (defScope s_l_walk) f cdv A outer s H E).nox G (defBody s_l_walk) (a_l_walk T.cl fun p => G.H0 p = none) :=
    (jss_cons (js_set (i := 3) sc_l_walk.nd rfl (Or.inl rfl) (je_lst mok1 (ja_cons (je_var (pv 1)) ja_nil)))
    (jss_cons (js_for PassesOwn.never rfl (ji_range1 rfl T.n_range (ja_cons (je_var (pv 2)) ja_nil)) (jg_name (i := 4) sc_l_walk.nd rfl (Or.inl rfl)) (jss_cons (js_set (i := 5) sc_l_walk.nd rfl (Or.inl rfl) (je_call (ok_l_turned T) (hr.mono (by decide)) hgd rfl T.m_l_turned T.F_l_turned.kp (b_l_turned T) (fun _ => passAt0) (@xok0 _ _ _) (ja_cons (je_var (pv 0)) (ja_cons (je_ix jx_seq (je_var (pv 3)) (je_un ju_neg je_int) (fun _ _ => rfl)) ja_nil))))
    (jss_cons (js_if (jt_cmp (jo_eq hr.units) (je_var (pv 5)) (je_ix jx_seq (je_var (pv 3)) (je_un ju_neg je_int) (fun _ _ => rfl)) (nomark _)) (jss_one (js_retD (je_callTy jc_tupleOf rfl T.n_tuple (by decide +kernel) (ja_cons (je_var (pv 3)) ja_nil)))) jss_nil)
    (jss_one (js_expr (je_ml PySem.F.slot_list_append PySem.F.type_list_append jm_append (je_var (pv 3)) (ja_cons (je_bin (jo_add mok0) (je_ix jx_seq (je_var (pv 3)) (je_un ju_neg je_int) (fun _ _ => rfl)) (je_var (pv 5))) ja_nil)))))))
    (jss_one (js_retD (je_callTy jc_tupleOf rfl T.n_tuple (by decide +kernel) (ja_cons (je_var (pv 3)) ja_nil))))))
theorem ok_l_walk {P : Program} {w : World} {K : PySem.W.Frag} {mg : Str → Option Value} {base : Heap} (T : Top K mg) : FnG P w K mg base CX0 2 T.f_l_walk T.fd_l_walk ["b", "number", "steps"] (spOf K c_l_walk) :=
  fn_ok0 (k := 1) T.F_l_walk sc_l_walk ari_l_walk (fun cdv A outer s H E G hgd hr => d_l_walk T hgd hr) (w_l_walk T.cl)
theorem d_l_at {P : Program} {w : World} {K : PySem.W.Frag} {mg : Str → Option Value} {base : Heap} {f : Addr} {cdv : Value} {A : Around} {outer : List Env} {s : Shared} {H : Hp} {E : XK} {G : Gn} (T : Top K mg) (hgd : A.guards = some [])
    (hr : Room 1 (A.deeper (envOfC "_law_at" (defScope s_l_at) s.heap.objs.size f cdv))) :
    JSs (cxOf CX0 P w K mg base N_l_at "_law_at" (defScope s_l_at) f cdv A outer s H E).nox G (defBody s_l_at) (a_l_at T.cl fun p => G.H0 p = none) :=
    (jss_cons (js_if (jt_cmp (jo_eq hr.units) (je_var (pv 1)) je_int (nomark _)) (jss_one (js_ret je_int)) jss_nil)
    (jss_cons (js_par3 (i := 2) (j := 3) (l := 4) rfl sc_l_at.nd rfl rfl rfl (by decide) (by decide) (by decide) rfl rfl rfl (ja_cons (je_bin jo_sub (je_var (pv 1)) je_int) (ja_cons je_int (ja_cons je_int ja_nil))) rfl)
    (jss_cons (js_while PassesOwn.never (jt_cmp jo_ge (je_var (pv 2)) (je_bin jo_mulI (je_bin jo_sub (je_var (pv 0)) je_int) (je_var (pv 4))) (nomark _)) (jss_cons (js_par2 (i := 2) (j := 3) rfl sc_l_at.nd rfl rfl (by decide) rfl rfl (ja_cons (je_bin jo_sub (je_var (pv 2)) (je_bin jo_mulI (je_bin jo_sub (je_var (pv 0)) je_int) (je_var (pv 4)))) (ja_cons (je_bin (jo_add mok0) (je_var (pv 3)) je_int) ja_nil)) rfl)
    (jss_one (js_set (i := 4) sc_l_at.nd rfl (Or.inl rfl) (je_join (je_if (jt_cmp (jo_eq hr.units) (je_bin jo_mod (je_callTy jc_int rfl T.n_int (by decide +kernel) (ja_cons (je_var (pv 3)) ja_nil)) je_int) je_int (nomark _)) (je_bin jo_mulI (je_var (pv 4)) (je_var (pv 0))) (je_var (pv 4))))))))
    (jss_one (js_ret (je_call (ok_l_mirror T) (hr.mono (by decide)) hgd rfl T.m_l_mirror T.F_l_mirror.kp (b_l_mirror T) (fun _ => passAt0) (@xok0 _ _ _) (ja_cons (je_var (pv 0)) (ja_cons (je_bin (jo_add mok0) (je_var (pv 4)) (je_var (pv 2))) (ja_cons (je_var (pv 3)) ja_nil)))))))))
theorem ok_l_at {P : Program} {w : World} {K : PySem.W.Frag} {mg : Str → Option Value} {base : Heap} (T : Top K mg) : FnG P w K mg base CX0 2 T.f_l_at T.fd_l_at ["b", "place"] (spOf K c_l_at) :=
  fn_ok0 (k := 1) T.F_l_at sc_l_at ari_l_at (fun cdv A outer s H E G hgd hr => d_l_at T hgd hr) (w_l_at T.cl)
theorem d_is_mirrored {P : Program} {w : World} {K : PySem.W.Frag} {mg : Str → Option Value} {base : Heap} {f : Addr} {cdv : Value} {A : Around} {outer : List Env} {s : Shared} {H : Hp} {E : XK} {G : Gn} (T : Top K mg) (hgd : A.guards = some [])
    (hr : Room 2 (A.deeper (envOfC "is_mirrored" (defScope s_is_mirrored) s.heap.objs.size f cdv))) :
    JSs (cxOf CX0 P w K mg base N_is_mirrored "is_mirrored" (defScope s_is_mirrored) f cdv A outer s H E).nox G (defBody s_is_mirrored) (a_is_mirrored T.cl fun p => G.H0 p = none) :=
    (jss_one (js_ret (je_cmp (jo_eq hr.units) (je_call (ok_turned_number T) (hr.mono (by decide)) hgd rfl T.m_turned_number T.F_turned_number.kp (b_turned_number T) (fun _ => passAt0) (@xok0 _ _ _) (ja_cons (je_var (pv 0)) (ja_cons (je_var (pv 1)) ja_nil))) (je_var (pv 1)) (nomark _))))
theorem ok_is_mirrored {P : Program} {w : World} {K : PySem.W.Frag} {mg : Str → Option Value} {base : Heap} (T : Top K mg) : FnG P w K mg base CX0 3 T.f_is_mirrored T.fd_is_mirrored ["b", "number"] (spOf K c_is_mirrored) :=
  fn_ok0 (k := 2) T.F_is_mirrored sc_is_mirrored ari_is_mirrored (fun cdv A outer s H E G hgd hr => d_is_mirrored T hgd hr) (w_is_mirrored T.cl)
theorem d_mirrored_at {P : Program} {w : World} {K : PySem.W.Frag} {mg : Str → Option Value} {base : Heap} {f : Addr} {cdv : Value} {A : Around} {outer : List Env} {s : Shared} {H : Hp} {E : XK} {G : Gn} (T : Top K mg) (hgd : A.guards = some [])
    (hr : Room 2 (A.deeper (envOfC "mirrored_at" (defScope s_mirrored_at) s.heap.objs.size f cdv))) :
    JSs (cxOf CX0 P w K mg base N_mirrored_at "mirrored_at" (defScope s_mirrored_at) f cdv A outer s H E).nox G (defBody s_mirrored_at) (a_mirrored_at T.cl fun p => G.H0 p = none) :=
    (jss_cons (js_par2 (i := 2) (j := 3) rfl sc_mirrored_at.nd rfl rfl (by decide) rfl rfl (ja_cons je_int (ja_cons (je_var (pv 1)) ja_nil)) rfl)
    (jss_cons (js_while PassesOwn.never (jt_cmp jo_ge (je_var (pv 3)) (je_call (ok_mirrored_count T) (hr.mono (by decide)) hgd rfl T.m_mirrored_count T.F_mirrored_count.kp (b_mirrored_count T) (fun _ => passAt0) (@xok0 _ _ _) (ja_cons (je_var (pv 0)) (ja_cons (je_var (pv 2)) ja_nil))) (nomark _)) (jss_cons (js_set (i := 3) sc_mirrored_at.nd rfl (Or.inl rfl) (je_bin jo_sub (je_var (pv 3)) (je_call (ok_mirrored_count T) (hr.mono (by decide)) hgd rfl T.m_mirrored_count T.F_mirrored_count.kp (b_mirrored_count T) (fun _ => passAt0) (@xok0 _ _ _) (ja_cons (je_var (pv 0)) (ja_cons (je_var (pv 2)) ja_nil)))))
    (jss_one (js_set (i := 2) sc_mirrored_at.nd rfl (Or.inl rfl) (je_bin (jo_add mok0) (je_var (pv 2)) je_int)))))
    (jss_cons (js_if (jt_cmp (jo_eq hr.units) (je_var (pv 2)) je_int (nomark _)) (jss_one (js_ret je_int)) jss_nil)
    (jss_one (js_ret (je_call (ok_mirrored_of_half T) (hr.mono (by decide)) hgd rfl T.m_mirrored_of_half T.F_mirrored_of_half.kp (b_mirrored_of_half T) (fun _ => passAt0) (@xok0 _ _ _) (ja_cons (je_var (pv 0)) (ja_cons (je_var (pv 2)) (ja_cons (je_bin (jo_add mok0) (je_call (ok_raised T) (hr.mono (by decide)) hgd rfl T.m_raised T.F_raised.kp (b_raised T) (fun _ => passAt0) (@xok0 _ _ _) (ja_cons (je_var (pv 0)) (ja_cons (je_bin jo_div (je_bin jo_sub (je_var (pv 2)) je_int) je_int) ja_nil))) (je_var (pv 3))) ja_nil)))))))))
theorem ok_mirrored_at {P : Program} {w : World} {K : PySem.W.Frag} {mg : Str → Option Value} {base : Heap} (T : Top K mg) : FnG P w K mg base CX0 3 T.f_mirrored_at T.fd_mirrored_at ["b", "place"] (spOf K c_mirrored_at) :=
  fn_ok0 (k := 2) T.F_mirrored_at sc_mirrored_at ari_mirrored_at (fun cdv A outer s H E G hgd hr => d_mirrored_at T hgd hr) (w_mirrored_at T.cl)
theorem d_l_number {P : Program} {w : World} {K : PySem.W.Frag} {mg : Str → Option Value} {base : Heap} {f : Addr} {cdv : Value} {A : Around} {outer : List Env} {s : Shared} {H : Hp} {E : XK} {G : Gn} (T : Top K mg) (hgd : A.guards = some [])
    (hr : Room 2 (A.deeper (envOfC "_law_number" (defScope s_l_number) s.heap.objs.size f cdv))) :
    JSs (cxOf CX0 P w K mg base N_l_number "_law_number" (defScope s_l_number) f cdv A outer s H E).nox G (defBody s_l_number) (a_l_number T.cl fun p => G.H0 p = none) :=
    (jss_cons (js_set (i := 1) sc_l_number.nd rfl (Or.inl rfl) (je_call (ok_l_draw T) (hr.mono (by decide)) hgd rfl T.m_l_draw T.F_l_draw.kp (b_l_draw T) (fun _ => passAt0) (@xok0 _ _ _) (ja_cons (je_var (pv 0)) (ja_cons je_int ja_nil))))
    (jss_cons (js_if (jt_cmp jo_lt (je_var (pv 1)) je_int (nomark _)) (jss_one (js_ret (je_call (ok_l_draw T) (hr.mono (by decide)) hgd rfl T.m_l_draw T.F_l_draw.kp (b_l_draw T) (fun _ => passAt0) (@xok0 _ _ _) (ja_cons (je_var (pv 0)) (ja_cons je_int ja_nil))))) jss_nil)
    (jss_cons (js_if (jt_cmp jo_lt (je_var (pv 1)) je_int (nomark _)) (jss_one (js_ret (je_call (ok_l_draw T) (hr.mono (by decide)) hgd rfl T.m_l_draw T.F_l_draw.kp (b_l_draw T) (fun _ => passAt0) (@xok0 _ _ _) (ja_cons (je_var (pv 0)) (ja_cons je_int ja_nil))))) jss_nil)
    (jss_cons (js_set (i := 2) sc_l_number.nd rfl (Or.inl rfl) (je_lst mok0 (ja_cons (je_bin jo_pow je_int je_int) (ja_cons (je_call (ok_l_draw T) (hr.mono (by decide)) hgd rfl T.m_l_draw T.F_l_draw.kp (b_l_draw T) (fun _ => passAt0) (@xok0 _ _ _) (ja_cons (je_var (pv 0)) (ja_cons (je_bin jo_pow je_int je_int) ja_nil))) (ja_cons (je_bin jo_sub (je_bin jo_pow je_int je_int) (je_call (ok_l_draw T) (hr.mono (by decide)) hgd rfl T.m_l_draw T.F_l_draw.kp (b_l_draw T) (fun _ => passAt0) (@xok0 _ _ _) (ja_cons (je_var (pv 0)) (ja_cons je_int ja_nil)))) (ja_cons (je_call (ok_l_draw T) (hr.mono (by decide)) hgd rfl T.m_l_draw T.F_l_draw.kp (b_l_draw T) (fun _ => passAt0) (@xok0 _ _ _) (ja_cons (je_var (pv 0)) (ja_cons (je_bin jo_pow je_int je_int) ja_nil))) ja_nil))))))
    (jss_one (js_ret (je_call (ok_l_pick T) (hr.mono (by decide)) hgd rfl T.m_l_pick T.F_l_pick.kp (b_l_pick T) (fun _ => passAt0) (@xok0 _ _ _) (ja_cons (je_var (pv 0)) (ja_cons (je_var (pv 2)) ja_nil)))))))))
theorem ok_l_number {P : Program} {w : World} {K : PySem.W.Frag} {mg : Str → Option Value} {base : Heap} (T : Top K mg) : FnG P w K mg base CX0 3 T.f_l_number T.fd_l_number ["deck"] (spOf K c_l_number) :=
  fn_ok0 (k := 2) T.F_l_number sc_l_number ari_l_number (fun cdv A outer s H E G hgd hr => d_l_number T hgd hr) (w_l_number T.cl)
theorem d_turned_walk {P : Program} {w : World} {K : PySem.W.Frag} {mg : Str → Option Value} {base : Heap} {f : Addr} {cdv : Value} {A : Around} {outer : List Env} {s : Shared} {H : Hp} {E : XK} {G : Gn} (T : Top K mg) (hgd : A.guards = some [])
    (hr : Room 3 (A.deeper (envOfC "turned_walk" (defScope s_turned_walk) s.heap.objs.size f cdv))) :
    JSs (cxOf CX0 P w K mg base N_turned_walk "turned_walk" (defScope s_turned_walk) f cdv A outer s H E).nox G (defBody s_turned_walk) (a_turned_walk T.cl fun p => G.H0 p = none) :=
    (jss_cons (js_set (i := 3) sc_turned_walk.nd rfl (Or.inl rfl) (je_lst mok1 (ja_cons (je_var (pv 1)) ja_nil)))
    (jss_cons (js_while PassesOwn.never (jw_pt (jw_and (jt_cmp jo_le (je_callB jc_len rfl T.n_len (by decide +kernel) (ja_cons (je_var (pv 3)) ja_nil)) (je_var (pv 2)) (nomark _)) (jw_and1 (jt_not (jt_of (je_call (ok_is_mirrored T) (hr.mono (by decide)) hgd rfl T.m_is_mirrored T.F_is_mirrored.kp (b_is_mirrored T) (fun _ => passAt0) (@xok0 _ _ _) (ja_cons (je_var (pv 0)) (ja_cons (je_ix jx_seq (je_var (pv 3)) (je_un ju_neg je_int) (fun _ _ => rfl)) ja_nil)))))))) (jss_one (js_expr (je_ml PySem.F.slot_list_append PySem.F.type_list_append jm_append (je_var (pv 3)) (ja_cons (je_bin (jo_add mok0) (je_ix jx_seq (je_var (pv 3)) (je_un ju_neg je_int) (fun _ _ => rfl)) (je_call (ok_turned_number T) (hr.mono (by decide)) hgd rfl T.m_turned_number T.F_turned_number.kp (b_turned_number T) (fun _ => passAt0) (@xok0 _ _ _) (ja_cons (je_var (pv 0)) (ja_cons (je_ix jx_seq (je_var (pv 3)) (je_un ju_neg je_int) (fun _ _ => rfl)) ja_nil)))) ja_nil)))))
    (jss_one (js_retD (je_callTy jc_tupleOf rfl T.n_tuple (by decide +kernel) (ja_cons (je_var (pv 3)) ja_nil))))))
theorem ok_turned_walk {P : Program} {w : World} {K : PySem.W.Frag} {mg : Str → Option Value} {base : Heap} (T : Top K mg) : FnG P w K mg base CX0 4 T.f_turned_walk T.fd_turned_walk ["b", "number", "steps"] (spOf K c_turned_walk) :=
  fn_ok0 (k := 3) T.F_turned_walk sc_turned_walk ari_turned_walk (fun cdv A outer s H E G hgd hr => d_turned_walk T hgd hr) (w_turned_walk T.cl)
theorem d_mirrored_place {P : Program} {w : World} {K : PySem.W.Frag} {mg : Str → Option Value} {base : Heap} {f : Addr} {cdv : Value} {A : Around} {outer : List Env} {s : Shared} {H : Hp} {E : XK} {G : Gn} (T : Top K mg) (hgd : A.guards = some [])
    (hr : Room 3 (A.deeper (envOfC "mirrored_place" (defScope s_mirrored_place) s.heap.objs.size f cdv))) {Ξ : XA} (hX : ∀ {x : XI} {Ω : Om} {P' F H : Hp} {cls : Value} {d : Option Addr}, Ξ x Ω → Ok ⟨G, K⟩ P' F H Ω → RpX K F H cls d x → E cls d H) :
    JSs (cxOf (L2N.CX P w) P w K mg base N_mirrored_place "mirrored_place" (defScope s_mirrored_place) f cdv A outer s H E) G (defBody s_mirrored_place) (a_mirrored_place T.cl (fun p => G.H0 p = none) Ξ) :=
    (jss_cons (js_if (jt_not (jt_of (je_call (ok_is_mirrored T) (hr.mono (by decide)) hgd rfl T.m_is_mirrored T.F_is_mirrored.kp (b_is_mirrored T) (fun _ => passAt0) (@xok0 _ _ _) (ja_cons (je_var (pv 0)) (ja_cons (je_var (pv 1)) ja_nil))))) (jss_one (js_raise rfl (L2N.takes_of rfl rfl rfl rfl) (xok_of hX) (mk_own0 PySem.F.excBase_ValueError T.xi_Unfit T.g_Unfit T.kp_Unfit (raises_own T.be_Unfit T.ty_Unfit) rfl))) jss_nil)
    (jss_cons (js_set (i := 2) sc_mirrored_place.nd rfl (Or.inl rfl) (je_call (ok_figures T) (hr.mono (by decide)) hgd rfl T.m_figures T.F_figures.kp (b_figures T) (fun _ => passAt0) (@xok0 _ _ _) (ja_cons (je_var (pv 1)) (ja_cons (je_var (pv 0)) ja_nil))))
    (jss_cons (js_set (i := 3) sc_mirrored_place.nd rfl (Or.inl rfl) (je_callB jc_len rfl T.n_len (by decide +kernel) (ja_cons (je_var (pv 2)) ja_nil)))
    (jss_cons (js_if (jt_cmp (jo_eq hr.units) (je_var (pv 3)) je_int (nomark _)) (jss_one (js_ret je_int)) jss_nil)
    (jss_cons (js_set (i := 4) sc_mirrored_place.nd rfl (Or.inl rfl) (je_callB (jc_sum rfl) rfl T.n_sum (by decide +kernel) (ja_cons (lc2 (je_lc mok0 rfl sc_mirrored_place.nd (ji_range1 rfl T.n_range (ja_cons (je_var (pv 3)) ja_nil)) (blkOk_by (own := [("own", 5)]) (N := N_mirrored_place) (sc := defScope s_mirrored_place) (by decide +kernel)) (fun _ => (jgo_name (i := 5) (by first | decide | simp) sc_mirrored_place.nd rfl (Or.inl rfl))) (fun _ => jts_nil) (fun _ => (je_call (ok_mirrored_count T) (hr.mono (by decide)) hgd rfl T.m_mirrored_count T.F_mirrored_count.kp (b_mirrored_count T) (fun _ => passAt0) (@xok0 _ _ _) (ja_cons (je_var (pv 0)) (ja_cons (je_var (pv 5)) ja_nil)))) (own := [("own", 5)]))) ja_nil)))
    (jss_one (js_ret (je_bin jo_sub (je_bin (jo_add mok0) (je_var (pv 4)) (je_call (ok_value_in T) (hr.mono (by decide)) hgd rfl T.m_value_in T.F_value_in.kp (b_value_in T) (fun _ => passAt0) (@xok0 _ _ _) (ja_cons (je_sl mok0 (je_var (pv 2)) (jp_some (je_bin jo_div (je_var (pv 3)) je_int)) jp_none) (ja_cons (je_var (pv 0)) ja_nil)))) (je_call (ok_raised T) (hr.mono (by decide)) hgd rfl T.m_raised T.F_raised.kp (b_raised T) (fun _ => passAt0) (@xok0 _ _ _) (ja_cons (je_var (pv 0)) (ja_cons (je_bin jo_div (je_bin jo_sub (je_var (pv 3)) je_int) je_int) ja_nil)))))))))))
theorem ok_mirrored_place {P : Program} {w : World} {K : PySem.W.Frag} {mg : Str → Option Value} {base : Heap} (T : Top K mg) : FnG P w K mg base (L2N.CX P w) 4 T.f_mirrored_place T.fd_mirrored_place ["b", "number"] (spOf K (c_mirrored_place T.cl)) :=
  fn_ok (k := 3) (as := fun Fr Ξ => a_mirrored_place T.cl Fr Ξ) T.F_mirrored_place sc_mirrored_place (ari_mirrored_place T.cl) (fun cdv A outer s H E G Ξ hgd hr hX => d_mirrored_place T hgd hr hX) (w_mirrored_place T.cl)
theorem d_l_heard {P : Program} {w : World} {K : PySem.W.Frag} {mg : Str → Option Value} {base : Heap} {f : Addr} {cdv : Value} {A : Around} {outer : List Env} {s : Shared} {H : Hp} {E : XK} {G : Gn} (T : Top K mg) (hgd : A.guards = some [])
    (hr : Room 4 (A.deeper (envOfC "_law_heard" (defScope s_l_heard) s.heap.objs.size f cdv))) :
    JSs (cxOf CX0 P w K mg base N_l_heard "_law_heard" (defScope s_l_heard) f cdv A outer s H E).nox G (defBody s_l_heard) (a_l_heard T.cl fun p => G.H0 p = none) :=
    (jss_one (js_tryAs (i := 3) (cls := .ref T.cl.Unfit) rfl rfl sc_l_heard.nd rfl rfl ⟨rfl, by decide, Or.inl T.g_Unfit⟩ T.ex_Unfit_Unfit (fun G' Ξ1 W pn xe hg hx tk po => (jss_one (js_ret (je_lst mok0 (ja_cons je_str (ja_cons (je_if (jt_of (je_var (pv 2))) (je_callK0 (ks := ["number", "b"]) (ok_mirrored_place T) (hr.mono (by decide)) hgd rfl T.m_mirrored_place T.F_mirrored_place.kp (kargs T.F_mirrored_place (ps := ["b", "number"]) (ks := ["number", "b"]) (n := 0) (π := [1, 0]) fun _ _ _ _ _ _ us ws h1 h2 => match us, ws, h1, h2 with | [], [_, _], _, _ => rfl) (by decide) (fun σ => L2N.passAt tk σ) hx (jk_cons (je_var (pv 1)) (jk_cons (je_var (pv 0)) jk_nil))) (je_call (ok_mirrored_place T) (hr.mono (by decide)) hgd rfl T.m_mirrored_place T.F_mirrored_place.kp (b_mirrored_place T) (fun σ => L2N.passAt tk σ) hx (ja_cons (je_var (pv 0)) (ja_cons (je_var (pv 1)) ja_nil)))) ja_nil)))))) (fun e1 oe pn hz hf => (jss_one (js_ret (je_lst mok0 (ja_cons je_str (ja_cons (je_callB (jc_isE List.mem_cons_self T.ec_Unfit hz hf is_ref T.is_Unfit_BaseError) rfl T.n_isinstance (by decide +kernel) (ja_cons (je_var (pv 3)) (ja_cons (je_raw (v := .ref T.cl.BaseError) (pe_glob rfl T.g_BaseError rfl)) ja_nil))) ja_nil))))))))
theorem ok_l_heard {P : Program} {w : World} {K : PySem.W.Frag} {mg : Str → Option Value} {base : Heap} (T : Top K mg) : FnG P w K mg base CX0 5 T.f_l_heard T.fd_l_heard ["b", "number", "is_named"] (spOf K c_l_heard) :=
  fn_ok0 (k := 4) T.F_l_heard sc_l_heard ari_l_heard (fun cdv A outer s H E G hgd hr => d_l_heard T hgd hr) (w_l_heard T.cl)
theorem d_law {P : Program} {w : World} {K : PySem.W.Frag} {mg : Str → Option Value} {base : Heap} {f : Addr} {cdv : Value} {A : Around} {outer : List Env} {s : Shared} {H : Hp} {E : XK} {G : Gn} (T : Top K mg) (hgd : A.guards = some [])
    (hr : Room 5 (A.deeper (envOfC "law" (defScope s_law) s.heap.objs.size f cdv))) :
    JSs (cxOf CX0 P w K mg base N_law "law" (defScope s_law) f cdv A outer s H E).nox G (defBody s_law) (a_law T.cl fun p => G.H0 p = none) :=
    (jss_cons (js_set (i := 1) sc_law.nd rfl (Or.inl rfl) (je_call (ok_l_deck T) (hr.mono (by decide)) hgd rfl T.m_l_deck T.F_l_deck.kp (b_l_deck T) (fun _ => passAt0) (@xok0 _ _ _) (ja_cons (je_var (pv 0)) ja_nil)))
    (jss_cons (js_for PassesOwn.never rfl (ji_range1 rfl T.n_range (ja_cons je_int ja_nil)) (jg_name (i := 2) sc_law.nd rfl (Or.inl rfl)) (jss_cons (js_asg (je_tup (ja_cons (je_call (ok_l_pick T) (hr.mono (by decide)) hgd rfl T.m_l_pick T.F_l_pick.kp (b_l_pick T) (fun _ => passAt0) (@xok0 _ _ _) (ja_cons (je_var (pv 1)) (ja_cons (je_lst mok0 (ja_cons je_int (ja_cons je_int (ja_cons je_int (ja_cons je_int (ja_cons je_int (ja_cons je_int (ja_cons je_int (ja_cons je_int ja_nil))))))))) ja_nil))) (ja_cons (je_call (ok_l_number T) (hr.mono (by decide)) hgd rfl T.m_l_number T.F_l_number.kp (b_l_number T) (fun _ => passAt0) (@xok0 _ _ _) (ja_cons (je_var (pv 1)) ja_nil)) ja_nil))) (jg_tup rfl (jgs1 (jg_name (i := 3) sc_law.nd rfl (Or.inr rfl)) (jgs1 (jg_name (i := 4) sc_law.nd rfl (Or.inl rfl)) jgs0))))
    (jss_cons (js_set (i := 5) sc_law.nd rfl (Or.inl rfl) (je_call (ok_l_turned T) (hr.mono (by decide)) hgd rfl T.m_l_turned T.F_l_turned.kp (b_l_turned T) (fun _ => passAt0) (@xok0 _ _ _) (ja_cons (je_var (pv 3)) (ja_cons (je_var (pv 4)) ja_nil))))
    (jss_cons (js_set (i := 6) sc_law.nd rfl (Or.inl rfl) (je_lst mok0 (ja_cons (je_call (ok_turned_number T) (hr.mono (by decide)) hgd rfl T.m_turned_number T.F_turned_number.kp (b_turned_number T) (fun _ => passAt0) (@xok0 _ _ _) (ja_cons (je_var (pv 3)) (ja_cons (je_var (pv 4)) ja_nil))) (ja_cons (je_callK0 (ks := ["number", "b"]) (ok_turned_number T) (hr.mono (by decide)) hgd rfl T.m_turned_number T.F_turned_number.kp (kargs T.F_turned_number (ps := ["b", "number"]) (ks := ["number", "b"]) (n := 0) (π := [1, 0]) fun _ _ _ _ _ _ us ws h1 h2 => match us, ws, h1, h2 with | [], [_, _], _, _ => rfl) (by decide) (fun _ => passAt0) (@xok0 _ _ _) (jk_cons (je_var (pv 4)) (jk_cons (je_var (pv 3)) jk_nil))) (ja_cons (je_call (ok_is_mirrored T) (hr.mono (by decide)) hgd rfl T.m_is_mirrored T.F_is_mirrored.kp (b_is_mirrored T) (fun _ => passAt0) (@xok0 _ _ _) (ja_cons (je_var (pv 3)) (ja_cons (je_var (pv 4)) ja_nil))) ja_nil)))))
    (jss_cons (js_if (jt_cmp (jo_ne hr.units) (je_callB (jc_repr hr.units hgd) rfl T.n_repr (by decide +kernel) (ja_cons (je_bin (jo_add mok0) (je_var (pv 6)) (je_lst mok0 (ja_cons (je_callK0 (ks := ["number", "b"]) (ok_is_mirrored T) (hr.mono (by decide)) hgd rfl T.m_is_mirrored T.F_is_mirrored.kp (kargs T.F_is_mirrored (ps := ["b", "number"]) (ks := ["number", "b"]) (n := 0) (π := [1, 0]) fun _ _ _ _ _ _ us ws h1 h2 => match us, ws, h1, h2 with | [], [_, _], _, _ => rfl) (by decide) (fun _ => passAt0) (@xok0 _ _ _) (jk_cons (je_var (pv 4)) (jk_cons (je_var (pv 3)) jk_nil))) ja_nil))) ja_nil)) (je_callB (jc_repr hr.units hgd) rfl T.n_repr (by decide +kernel) (ja_cons (je_lst mok0 (ja_cons (je_var (pv 5)) (ja_cons (je_var (pv 5)) (ja_cons (je_cmp (jo_eq hr.units) (je_var (pv 5)) (je_var (pv 4)) (nomark _)) (ja_cons (je_cmp (jo_eq hr.units) (je_var (pv 5)) (je_var (pv 4)) (nomark _)) ja_nil))))) ja_nil)) (nomark _)) (jss_one (js_ret je_bl)) jss_nil)
    (jss_cut (js_if (jt_cmp (jo_ne hr.units) (je_cmp (jo_eq hr.units) (je_call (ok_turned_number T) (hr.mono (by decide)) hgd rfl T.m_turned_number T.F_turned_number.kp (b_turned_number T) (fun _ => passAt0) (@xok0 _ _ _) (ja_cons (je_var (pv 3)) (ja_cons (je_var (pv 5)) ja_nil))) (je_var (pv 4)) (nomark _)) (je_or (je_cmp (jo_eq hr.units) (je_var (pv 4)) je_int (nomark _)) (je_one (je_cmp (jo_ne hr.units) (je_bin jo_mod (je_callTy jc_int rfl T.n_int (by decide +kernel) (ja_cons (je_var (pv 4)) ja_nil)) (je_var (pv 3))) je_int (nomark _)))) (nomark _)) (jss_one (js_ret je_bl)) jss_nil)
    (jss_cons (js_set (i := 7) sc_law.nd rfl (Or.inl rfl) (je_call (ok_l_pick T) (hr.mono (by decide)) hgd rfl T.m_l_pick T.F_l_pick.kp (b_l_pick T) (fun _ => passAt0) (@xok0 _ _ _) (ja_cons (je_var (pv 1)) (ja_cons (je_lst mok0 (ja_cons je_int (ja_cons je_int (ja_cons je_int (ja_cons je_int (ja_cons je_int ja_nil)))))) ja_nil))))
    (jss_cons (js_set (i := 8) sc_law.nd rfl (Or.inl rfl) (je_call (ok_l_walk T) (hr.mono (by decide)) hgd rfl T.m_l_walk T.F_l_walk.kp (b_l_walk T) (fun _ => passAt0) (@xok0 _ _ _) (ja_cons (je_var (pv 3)) (ja_cons (je_var (pv 4)) (ja_cons (je_var (pv 7)) ja_nil)))))
    (jss_cons (js_if (jt_cmp (jo_ne hr.units) (je_callB (jc_repr hr.units hgd) rfl T.n_repr (by decide +kernel) (ja_cons (je_lst mok0 (ja_cons (je_call (ok_turned_walk T) (hr.mono (by decide)) hgd rfl T.m_turned_walk T.F_turned_walk.kp (b_turned_walk T) (fun _ => passAt0) (@xok0 _ _ _) (ja_cons (je_var (pv 3)) (ja_cons (je_var (pv 4)) (ja_cons (je_var (pv 7)) ja_nil)))) (ja_cons (je_callK0 (ks := ["steps", "number", "b"]) (ok_turned_walk T) (hr.mono (by decide)) hgd rfl T.m_turned_walk T.F_turned_walk.kp (kargs T.F_turned_walk (ps := ["b", "number", "steps"]) (ks := ["steps", "number", "b"]) (n := 0) (π := [2, 1, 0]) fun _ _ _ _ _ _ us ws h1 h2 => match us, ws, h1, h2 with | [], [_, _, _], _, _ => rfl) (by decide) (fun _ => passAt0) (@xok0 _ _ _) (jk_cons (je_var (pv 7)) (jk_cons (je_var (pv 4)) (jk_cons (je_var (pv 3)) jk_nil)))) ja_nil))) ja_nil)) (je_callB (jc_repr hr.units hgd) rfl T.n_repr (by decide +kernel) (ja_cons (je_lst mok0 (ja_cons (je_var (pv 8)) (ja_cons (je_var (pv 8)) ja_nil))) ja_nil)) (nomark _)) (jss_one (js_ret je_bl)) jss_nil)
    (jss_cons (js_set (i := 9) sc_law.nd rfl (Or.inl rfl) (je_call (ok_l_pick T) (hr.mono (by decide)) hgd rfl T.m_l_pick T.F_l_pick.kp (b_l_pick T) (fun _ => passAt0) (@xok0 _ _ _) (ja_cons (je_var (pv 1)) (ja_cons (je_lst mok0 (ja_cons (je_call (ok_l_draw T) (hr.mono (by decide)) hgd rfl T.m_l_draw T.F_l_draw.kp (b_l_draw T) (fun _ => passAt0) (@xok0 _ _ _) (ja_cons (je_var (pv 1)) (ja_cons je_int ja_nil))) (ja_cons (je_call (ok_l_number T) (hr.mono (by decide)) hgd rfl T.m_l_number T.F_l_number.kp (b_l_number T) (fun _ => passAt0) (@xok0 _ _ _) (ja_cons (je_var (pv 1)) ja_nil)) (ja_cons (je_call (ok_l_draw T) (hr.mono (by decide)) hgd rfl T.m_l_draw T.F_l_draw.kp (b_l_draw T) (fun _ => passAt0) (@xok0 _ _ _) (ja_cons (je_var (pv 1)) (ja_cons (je_bin jo_pow je_int je_int) ja_nil))) ja_nil)))) ja_nil))))
    (jss_cons (js_set (i := 10) sc_law.nd rfl (Or.inl rfl) (je_call (ok_l_at T) (hr.mono (by decide)) hgd rfl T.m_l_at T.F_l_at.kp (b_l_at T) (fun _ => passAt0) (@xok0 _ _ _) (ja_cons (je_var (pv 3)) (ja_cons (je_var (pv 9)) ja_nil))))
    (jss_cons (js_if (jt_cmp (jo_ne hr.units) (je_callB (jc_repr hr.units hgd) rfl T.n_repr (by decide +kernel) (ja_cons (je_lst mok0 (ja_cons (je_call (ok_mirrored_at T) (hr.mono (by decide)) hgd rfl T.m_mirrored_at T.F_mirrored_at.kp (b_mirrored_at T) (fun _ => passAt0) (@xok0 _ _ _) (ja_cons (je_var (pv 3)) (ja_cons (je_var (pv 9)) ja_nil))) (ja_cons (je_callK0 (ks := ["place", "b"]) (ok_mirrored_at T) (hr.mono (by decide)) hgd rfl T.m_mirrored_at T.F_mirrored_at.kp (kargs T.F_mirrored_at (ps := ["b", "place"]) (ks := ["place", "b"]) (n := 0) (π := [1, 0]) fun _ _ _ _ _ _ us ws h1 h2 => match us, ws, h1, h2 with | [], [_, _], _, _ => rfl) (by decide) (fun _ => passAt0) (@xok0 _ _ _) (jk_cons (je_var (pv 9)) (jk_cons (je_var (pv 3)) jk_nil))) ja_nil))) ja_nil)) (je_callB (jc_repr hr.units hgd) rfl T.n_repr (by decide +kernel) (ja_cons (je_lst mok0 (ja_cons (je_var (pv 10)) (ja_cons (je_var (pv 10)) ja_nil))) ja_nil)) (nomark _)) (jss_one (js_ret je_bl)) jss_nil)
    (jss_cut (js_if (jw_pt (jw_and (jt_not (jt_cmp jo_gt (je_call (ok_mirrored_at T) (hr.mono (by decide)) hgd rfl T.m_mirrored_at T.F_mirrored_at.kp (b_mirrored_at T) (fun _ => passAt0) (@xok0 _ _ _) (ja_cons (je_var (pv 3)) (ja_cons (je_if (jt_cmp jo_lt (je_var (pv 9)) (je_bin jo_pow je_int je_int) (nomark _)) (je_bin (jo_add mok0) (je_var (pv 9)) je_int) (je_var (pv 9))) ja_nil))) (je_var (pv 10)) (nomark _))) (jw_and1 (jt_cmp jo_lt (je_var (pv 9)) (je_bin jo_pow je_int je_int) (nomark _))))) (jss_one (js_ret je_bl)) jss_nil)
    (jss_cons (js_for PassesOwn.never rfl (ji_of (je_tup (ja_cons (je_var (pv 10)) (ja_cons (je_var (pv 4)) ja_nil)))) (jg_name (i := 11) sc_law.nd rfl (Or.inl rfl)) (jss_cons (js_set (i := 8) sc_law.nd rfl (Or.inl rfl) (je_join (je_if (jt_cmp (jo_eq hr.units) (je_var (pv 11)) (je_var (pv 10)) (nomark _)) (je_lst mok0 (ja_cons je_str (ja_cons (je_var (pv 9)) ja_nil))) (je_lst mok0 (ja_cons je_str (ja_cons je_bl ja_nil))))))
    (jss_cons (js_if (jw_pt (jw_and (jt_cmp (jo_ne hr.units) (je_var (pv 11)) (je_var (pv 10)) (nomark _)) (jw_and1 (jt_cmp (jo_eq hr.units) (je_var (pv 5)) (je_var (pv 4)) (nomark _))))) (jss_one (js_set (i := 8) sc_law.nd rfl (Or.inl rfl) je_non)) jss_nil)
    (jss_one (js_if (jw_pt (jw_and (jt_cmp jo_isnot (je_var (pv 8)) je_non (nomark _)) (jw_and1 (jt_cmp (jo_ne hr.units) (je_callB (jc_repr hr.units hgd) rfl T.n_repr (by decide +kernel) (ja_cons (je_lst mok0 (ja_cons (je_call (ok_l_heard T) (hr.mono (by decide)) hgd rfl T.m_l_heard T.F_l_heard.kp (b_l_heard T) (fun _ => passAt0) (@xok0 _ _ _) (ja_cons (je_var (pv 3)) (ja_cons (je_var (pv 11)) (ja_cons je_bl ja_nil)))) (ja_cons (je_call (ok_l_heard T) (hr.mono (by decide)) hgd rfl T.m_l_heard T.F_l_heard.kp (b_l_heard T) (fun _ => passAt0) (@xok0 _ _ _) (ja_cons (je_var (pv 3)) (ja_cons (je_var (pv 11)) (ja_cons je_bl ja_nil)))) ja_nil))) ja_nil)) (je_callB (jc_repr hr.units hgd) rfl T.n_repr (by decide +kernel) (ja_cons (je_lst mok0 (ja_cons (je_var (pv 8)) (ja_cons (je_var (pv 8)) ja_nil))) ja_nil)) (nomark _))))) (jss_one (js_ret je_bl)) jss_nil)))))
    (jss_cons (js_set (i := 12) sc_law.nd rfl (Or.inl rfl) (je_call (ok_l_draw T) (hr.mono (by decide)) hgd rfl T.m_l_draw T.F_l_draw.kp (b_l_draw T) (fun _ => passAt0) (@xok0 _ _ _) (ja_cons (je_var (pv 1)) (ja_cons je_int ja_nil))))
    (jss_cons (js_set (i := 13) sc_law.nd rfl (Or.inl rfl) (je_join (je_if (jt_cmp jo_gt (je_var (pv 12)) je_int (nomark _)) (je_bin jo_mulI (je_bin jo_sub (je_var (pv 3)) je_int) (je_call (ok_l_power T) (hr.mono (by decide)) hgd rfl T.m_l_power T.F_l_power.kp (b_l_power T) (fun _ => passAt0) (@xok0 _ _ _) (ja_cons (je_var (pv 3)) (ja_cons (je_bin jo_div (je_bin jo_sub (je_var (pv 12)) je_int) je_int) ja_nil)))) je_int)))
    (jss_one (js_if (jt_cmp (jo_ne hr.units) (je_callB (jc_repr hr.units hgd) rfl T.n_repr (by decide +kernel) (ja_cons (je_lst mok0 (ja_cons (je_call (ok_mirrored_count T) (hr.mono (by decide)) hgd rfl T.m_mirrored_count T.F_mirrored_count.kp (b_mirrored_count T) (fun _ => passAt0) (@xok0 _ _ _) (ja_cons (je_var (pv 3)) (ja_cons (je_var (pv 12)) ja_nil))) (ja_cons (je_callK0 (ks := ["size", "b"]) (ok_mirrored_count T) (hr.mono (by decide)) hgd rfl T.m_mirrored_count T.F_mirrored_count.kp (kargs T.F_mirrored_count (ps := ["b", "size"]) (ks := ["size", "b"]) (n := 0) (π := [1, 0]) fun _ _ _ _ _ _ us ws h1 h2 => match us, ws, h1, h2 with | [], [_, _], _, _ => rfl) (by decide) (fun _ => passAt0) (@xok0 _ _ _) (jk_cons (je_var (pv 12)) (jk_cons (je_var (pv 3)) jk_nil))) ja_nil))) ja_nil)) (je_callB (jc_repr hr.units hgd) rfl T.n_repr (by decide +kernel) (ja_cons (je_lst mok0 (ja_cons (je_var (pv 13)) (ja_cons (je_var (pv 13)) ja_nil))) ja_nil)) (nomark _)) (jss_one (js_ret je_bl)) jss_nil))))))))))))))))))
    (jss_cons (js_set (i := 14) sc_law.nd rfl (Or.inl rfl) (je_call (ok_l_pick T) (hr.mono (by decide)) hgd rfl T.m_l_pick T.F_l_pick.kp (b_l_pick T) (fun _ => passAt0) (@xok0 _ _ _) (ja_cons (je_var (pv 1)) (ja_cons (je_lst mok0 (ja_cons (je_bin (jo_add mok0) je_int (je_call (ok_l_draw T) (hr.mono (by decide)) hgd rfl T.m_l_draw T.F_l_draw.kp (b_l_draw T) (fun _ => passAt0) (@xok0 _ _ _) (ja_cons (je_var (pv 1)) (ja_cons je_int ja_nil)))) (ja_cons (je_bin (jo_add mok0) je_int (je_call (ok_l_draw T) (hr.mono (by decide)) hgd rfl T.m_l_draw T.F_l_draw.kp (b_l_draw T) (fun _ => passAt0) (@xok0 _ _ _) (ja_cons (je_var (pv 1)) (ja_cons je_int ja_nil)))) (ja_cons je_int ja_nil)))) ja_nil))))
    (jss_cons (js_set (i := 8) sc_law.nd rfl (Or.inl rfl) (je_call (ok_l_never T) (hr.mono (by decide)) hgd rfl T.m_l_never T.F_l_never.kp (b_l_never T) (fun _ => passAt0) (@xok0 _ _ _) (ja_cons (je_var (pv 14)) ja_nil)))
    (jss_cons (js_if (jt_cmp (jo_ne hr.units) (je_callB (jc_repr hr.units hgd) rfl T.n_repr (by decide +kernel) (ja_cons (je_lst mok0 (ja_cons (je_call (ok_never_number T) (hr.mono (by decide)) hgd rfl T.m_never_number T.F_never_number.kp (b_never_number T) (fun _ => passAt0) (@xok0 _ _ _) (ja_cons (je_var (pv 14)) ja_nil)) (ja_cons (je_callK0 (ks := ["n"]) (ok_never_number T) (hr.mono (by decide)) hgd rfl T.m_never_number T.F_never_number.kp (kargs T.F_never_number (ps := ["n"]) (ks := ["n"]) (n := 0) (π := [0]) fun _ _ _ _ _ _ us ws h1 h2 => match us, ws, h1, h2 with | [], [_], _, _ => rfl) (by decide) (fun _ => passAt0) (@xok0 _ _ _) (jk_cons (je_var (pv 14)) jk_nil)) ja_nil))) ja_nil)) (je_callB (jc_repr hr.units hgd) rfl T.n_repr (by decide +kernel) (ja_cons (je_lst mok0 (ja_cons (je_var (pv 8)) (ja_cons (je_var (pv 8)) ja_nil))) ja_nil)) (nomark _)) (jss_one (js_ret je_bl)) jss_nil)
    (jss_cons (js_set (i := 15) sc_law.nd rfl (Or.inl rfl) (je_call (ok_l_walk T) (hr.mono (by decide)) hgd rfl T.m_l_walk T.F_l_walk.kp (b_l_walk T) (fun _ => passAt0) (@xok0 _ _ _) (ja_cons je_int (ja_cons (je_var (pv 8)) (ja_cons je_int ja_nil)))))
    (jss_cut (js_if (jw_pt (jw_or (jt_cmp (jo_ne hr.units) (je_callB jc_len rfl T.n_len (by decide +kernel) (ja_cons (je_var (pv 15)) ja_nil)) je_int (nomark _)) (jw_or (jt_cmp (jo_ne hr.units) (je_ix jx_seq (je_var (pv 15)) (je_un ju_neg je_int) (fun _ _ => rfl)) (je_call (ok_l_never T) (hr.mono (by decide)) hgd rfl T.m_l_never T.F_l_never.kp (b_l_never T) (fun _ => passAt0) (@xok0 _ _ _) (ja_cons (je_bin (jo_add mok0) (je_var (pv 14)) je_int) ja_nil)) (nomark _)) (jw_or1 (jw_pt (jw_and (jt_cmp jo_lt (je_var (pv 14)) je_int (nomark _)) (jw_and1 (jt_cmp (jo_ne hr.units) (je_call (ok_turned_walk T) (hr.mono (by decide)) hgd rfl T.m_turned_walk T.F_turned_walk.kp (b_turned_walk T) (fun _ => passAt0) (@xok0 _ _ _) (ja_cons je_int (ja_cons (je_var (pv 8)) (ja_cons je_int ja_nil)))) (je_var (pv 15)) (nomark _))))))))) (jss_one (js_ret je_bl)) jss_nil)
    (jss_cons (js_asg (je_tup (ja_cons (je_call (ok_l_pick T) (hr.mono (by decide)) hgd rfl T.m_l_pick T.F_l_pick.kp (b_l_pick T) (fun _ => passAt0) (@xok0 _ _ _) (ja_cons (je_var (pv 1)) (ja_cons (je_lst mok0 (ja_cons je_int (ja_cons je_int (ja_cons je_int ja_nil)))) ja_nil))) (ja_cons (je_call (ok_l_draw T) (hr.mono (by decide)) hgd rfl T.m_l_draw T.F_l_draw.kp (b_l_draw T) (fun _ => passAt0) (@xok0 _ _ _) (ja_cons (je_var (pv 1)) (ja_cons je_int ja_nil))) ja_nil))) (jg_tup rfl (jgs1 (jg_name (i := 3) sc_law.nd rfl (Or.inr rfl)) (jgs1 (jg_name (i := 16) sc_law.nd rfl (Or.inl rfl)) jgs0))))
    (jss_cons (lc2s (js_setLc mok0 rfl sc_law.nd rfl rfl (sw_true rfl rfl rfl (by decide +kernel)) (ji_range1 rfl T.n_range (ja_cons (je_bin (jo_add mok0) (je_var (pv 16)) je_int) ja_nil)) (blkOk_by (own := [("own", 11)]) (N := N_law) (sc := defScope s_law) (by decide +kernel)) (fun _ => (jgo_name (i := 11) (by first | decide | simp) sc_law.nd rfl (Or.inl rfl))) (fun _ => (jts_one (jt_cmp (jo_eq hr.units) (je_call (ok_l_turned T) (hr.mono (by decide)) hgd rfl T.m_l_turned T.F_l_turned.kp (b_l_turned T) (fun _ => passAt0) (@xok0 _ _ _) (ja_cons (je_var (pv 3)) (ja_cons (je_var (pv 11)) ja_nil))) (je_var (pv 11)) (nomark _)))) (fun _ => (je_var (pv 11))) (own := [("own", 11)])))
    (jss_cons (js_if (jt_cmp (jo_ne hr.units) (lc2 (je_lc mok0 rfl sc_law.nd (ji_range1 rfl T.n_range (ja_cons (je_callB jc_len rfl T.n_len (by decide +kernel) (ja_cons (je_var (pv 17)) ja_nil)) ja_nil)) (blkOk_by (own := [("place", 9)]) (N := N_law) (sc := defScope s_law) (by decide +kernel)) (fun _ => (jgo_name (i := 9) (by first | decide | simp) sc_law.nd rfl (Or.inl rfl))) (fun _ => jts_nil) (fun _ => (je_call (ok_mirrored_at T) (hr.mono (by decide)) hgd rfl T.m_mirrored_at T.F_mirrored_at.kp (b_mirrored_at T) (fun _ => passAt0) (@xok0 _ _ _) (ja_cons (je_var (pv 3)) (ja_cons (je_var (pv 9)) ja_nil)))) (own := [("place", 9)]))) (je_var (pv 17)) (nomark _)) (jss_one (js_ret je_bl)) jss_nil)
    (jss_one (js_ret (je_and (je_cmp (jo_eq hr.units) (je_call (ok_l_heard T) (hr.mono (by decide)) hgd rfl T.m_l_heard T.F_l_heard.kp (b_l_heard T) (fun _ => passAt0) (@xok0 _ _ _) (ja_cons (je_var (pv 3)) (ja_cons (je_ix jx_seq (je_var (pv 17)) (je_un ju_neg je_int) (fun _ _ => rfl)) (ja_cons je_bl ja_nil)))) (je_lst mok0 (ja_cons je_str (ja_cons (je_bin jo_sub (je_callB jc_len rfl T.n_len (by decide +kernel) (ja_cons (je_var (pv 17)) ja_nil)) je_int) ja_nil))) (nomark _)) (je_one (je_cmp (jo_eq hr.units) (je_callB jc_len rfl T.n_len (by decide +kernel) (ja_cons (je_call (ok_turned_walk T) (hr.mono (by decide)) hgd rfl T.m_turned_walk T.F_turned_walk.kp (b_turned_walk T) (fun _ => passAt0) (@xok0 _ _ _) (ja_cons je_int (ja_cons je_int (ja_cons je_int ja_nil)))) ja_nil)) je_int (nomark _))))))))))))))))
theorem ok_law {P : Program} {w : World} {K : PySem.W.Frag} {mg : Str → Option Value} {base : Heap} (T : Top K mg) : FnG P w K mg base CX0 6 T.f_law T.fd_law ["script"] (spOf K c_law) :=
  fn_ok0 (k := 5) T.F_law sc_law ari_law (fun cdv A outer s H E G hgd hr => d_law T hgd hr) (w_law T.cl)
theorem all_mk {l : PySem.W.OpenLaw} {w : World} {K : PySem.W.Frag} {h : Heap} {mg : Str → Option Value} {fa : Addr} (X : K.In h) (G : h.Ns mainGlobals mg) (hfa : mg "law" = some (.ref fa))
    {f0 : Addr} {od0 an0 : Option Addr} {sl0 : Array (Option Value)} {oc0 kV0 dc0 pm0 cd0 ct0 : Value} {f1 : Addr} {od1 an1 : Option Addr} {sl1 : Array (Option Value)} {oc1 kV1 dc1 pm1 cd1 ct1 : Value} {f2 : Addr} {od2 an2 : Option Addr} {sl2 : Array (Option Value)} {oc2 kV2 dc2 pm2 cd2 ct2 : Value} {f3 : Addr} {od3 an3 : Option Addr} {sl3 : Array (Option Value)} {oc3 kV3 dc3 pm3 cd3 ct3 : Value} {f4 : Addr} {od4 an4 : Option Addr} {sl4 : Array (Option Value)} {oc4 kV4 dc4 pm4 cd4 ct4 : Value} {f5 : Addr} {od5 an5 : Option Addr} {sl5 : Array (Option Value)} {oc5 kV5 dc5 pm5 cd5 ct5 : Value} {f6 : Addr} {od6 an6 : Option Addr} {sl6 : Array (Option Value)} {oc6 kV6 dc6 pm6 cd6 ct6 : Value} {f7 : Addr} {od7 an7 : Option Addr} {sl7 : Array (Option Value)} {oc7 kV7 dc7 pm7 cd7 ct7 : Value} {f8 : Addr} {od8 an8 : Option Addr} {sl8 : Array (Option Value)} {oc8 kV8 dc8 pm8 cd8 ct8 : Value} {f9 : Addr} {od9 an9 : Option Addr} {sl9 : Array (Option Value)} {oc9 kV9 dc9 pm9 cd9 ct9 : Value} {f10 : Addr} {od10 an10 : Option Addr} {sl10 : Array (Option Value)} {oc10 kV10 dc10 pm10 cd10 ct10 : Value} {f11 : Addr} {od11 an11 : Option Addr} {sl11 : Array (Option Value)} {oc11 kV11 dc11 pm11 cd11 ct11 : Value} {f12 : Addr} {od12 an12 : Option Addr} {sl12 : Array (Option Value)} {oc12 kV12 dc12 pm12 cd12 ct12 : Value} {f13 : Addr} {od13 an13 : Option Addr} {sl13 : Array (Option Value)} {oc13 kV13 dc13 pm13 cd13 ct13 : Value} {f14 : Addr} {od14 an14 : Option Addr} {sl14 : Array (Option Value)} {oc14 kV14 dc14 pm14 cd14 ct14 : Value} {f15 : Addr} {od15 an15 : Option Addr} {sl15 : Array (Option Value)} {oc15 kV15 dc15 pm15 cd15 ct15 : Value} {f16 : Addr} {od16 an16 : Option Addr} {sl16 : Array (Option Value)} {oc16 kV16 dc16 pm16 cd16 ct16 : Value} {f17 : Addr} {od17 an17 : Option Addr} {sl17 : Array (Option Value)} {oc17 kV17 dc17 pm17 cd17 ct17 : Value} {f18 : Addr} {od18 an18 : Option Addr} {sl18 : Array (Option Value)} {oc18 kV18 dc18 pm18 cd18 ct18 : Value} {f19 : Addr} {od19 an19 : Option Addr} {sl19 : Array (Option Value)} {oc19 kV19 dc19 pm19 cd19 ct19 : Value} {f20 : Addr} {od20 an20 : Option Addr} {sl20 : Array (Option Value)} {oc20 kV20 dc20 pm20 cd20 ct20 : Value} {f21 : Addr} {od21 an21 : Option Addr} {sl21 : Array (Option Value)} {oc21 kV21 dc21 pm21 cd21 ct21 : Value} {f22 : Addr} {od22 an22 : Option Addr} {sl22 : Array (Option Value)} {oc22 kV22 dc22 pm22 cd22 ct22 : Value} {C_BaseError : Addr} {C_Unfit : Addr} 
    (a0 : PySem.W.nsIn K mainGlobals "value_in" = some (some (.ref f0))) (l0 : K.lookup f0 = some ⟨oc0, od0, .func (PySem.W.fnOf "value_in" "value_in" (defArgs s_value_in) (defBody s_value_in) (defScope s_value_in) .none kV0 dc0 pm0 an0 cd0 ct0), sl0⟩) (c0 : PySem.W.codeIn K cd0 "value_in" = true) (k0 : PySem.W.keepIn K (.ref f0) = true)
    (a1 : PySem.W.nsIn K mainGlobals "figures" = some (some (.ref f1))) (l1 : K.lookup f1 = some ⟨oc1, od1, .func (PySem.W.fnOf "figures" "figures" (defArgs s_figures) (defBody s_figures) (defScope s_figures) .none kV1 dc1 pm1 an1 cd1 ct1), sl1⟩) (c1 : PySem.W.codeIn K cd1 "figures" = true) (k1 : PySem.W.keepIn K (.ref f1) = true)
    (a2 : PySem.W.nsIn K mainGlobals "raised" = some (some (.ref f2))) (l2 : K.lookup f2 = some ⟨oc2, od2, .func (PySem.W.fnOf "raised" "raised" (defArgs s_raised) (defBody s_raised) (defScope s_raised) .none kV2 dc2 pm2 an2 cd2 ct2), sl2⟩) (c2 : PySem.W.codeIn K cd2 "raised" = true) (k2 : PySem.W.keepIn K (.ref f2) = true)
    (a3 : PySem.W.nsIn K mainGlobals "turned_number" = some (some (.ref f3))) (l3 : K.lookup f3 = some ⟨oc3, od3, .func (PySem.W.fnOf "turned_number" "turned_number" (defArgs s_turned_number) (defBody s_turned_number) (defScope s_turned_number) .none kV3 dc3 pm3 an3 cd3 ct3), sl3⟩) (c3 : PySem.W.codeIn K cd3 "turned_number" = true) (k3 : PySem.W.keepIn K (.ref f3) = true)
    (a4 : PySem.W.nsIn K mainGlobals "is_mirrored" = some (some (.ref f4))) (l4 : K.lookup f4 = some ⟨oc4, od4, .func (PySem.W.fnOf "is_mirrored" "is_mirrored" (defArgs s_is_mirrored) (defBody s_is_mirrored) (defScope s_is_mirrored) .none kV4 dc4 pm4 an4 cd4 ct4), sl4⟩) (c4 : PySem.W.codeIn K cd4 "is_mirrored" = true) (k4 : PySem.W.keepIn K (.ref f4) = true)
    (a5 : PySem.W.nsIn K mainGlobals "turned_walk" = some (some (.ref f5))) (l5 : K.lookup f5 = some ⟨oc5, od5, .func (PySem.W.fnOf "turned_walk" "turned_walk" (defArgs s_turned_walk) (defBody s_turned_walk) (defScope s_turned_walk) .none kV5 dc5 pm5 an5 cd5 ct5), sl5⟩) (c5 : PySem.W.codeIn K cd5 "turned_walk" = true) (k5 : PySem.W.keepIn K (.ref f5) = true)
    (a6 : PySem.W.nsIn K mainGlobals "never_number" = some (some (.ref f6))) (l6 : K.lookup f6 = some ⟨oc6, od6, .func (PySem.W.fnOf "never_number" "never_number" (defArgs s_never_number) (defBody s_never_number) (defScope s_never_number) .none kV6 dc6 pm6 an6 cd6 ct6), sl6⟩) (c6 : PySem.W.codeIn K cd6 "never_number" = true) (k6 : PySem.W.keepIn K (.ref f6) = true)
    (a7 : PySem.W.nsIn K mainGlobals "mirrored_count" = some (some (.ref f7))) (l7 : K.lookup f7 = some ⟨oc7, od7, .func (PySem.W.fnOf "mirrored_count" "mirrored_count" (defArgs s_mirrored_count) (defBody s_mirrored_count) (defScope s_mirrored_count) .none kV7 dc7 pm7 an7 cd7 ct7), sl7⟩) (c7 : PySem.W.codeIn K cd7 "mirrored_count" = true) (k7 : PySem.W.keepIn K (.ref f7) = true)
    (a8 : PySem.W.nsIn K mainGlobals "mirrored_of_half" = some (some (.ref f8))) (l8 : K.lookup f8 = some ⟨oc8, od8, .func (PySem.W.fnOf "mirrored_of_half" "mirrored_of_half" (defArgs s_mirrored_of_half) (defBody s_mirrored_of_half) (defScope s_mirrored_of_half) .none kV8 dc8 pm8 an8 cd8 ct8), sl8⟩) (c8 : PySem.W.codeIn K cd8 "mirrored_of_half" = true) (k8 : PySem.W.keepIn K (.ref f8) = true)
    (a9 : PySem.W.nsIn K mainGlobals "mirrored_at" = some (some (.ref f9))) (l9 : K.lookup f9 = some ⟨oc9, od9, .func (PySem.W.fnOf "mirrored_at" "mirrored_at" (defArgs s_mirrored_at) (defBody s_mirrored_at) (defScope s_mirrored_at) .none kV9 dc9 pm9 an9 cd9 ct9), sl9⟩) (c9 : PySem.W.codeIn K cd9 "mirrored_at" = true) (k9 : PySem.W.keepIn K (.ref f9) = true)
    (a10 : PySem.W.nsIn K mainGlobals "mirrored_place" = some (some (.ref f10))) (l10 : K.lookup f10 = some ⟨oc10, od10, .func (PySem.W.fnOf "mirrored_place" "mirrored_place" (defArgs s_mirrored_place) (defBody s_mirrored_place) (defScope s_mirrored_place) .none kV10 dc10 pm10 an10 cd10 ct10), sl10⟩) (c10 : PySem.W.codeIn K cd10 "mirrored_place" = true) (k10 : PySem.W.keepIn K (.ref f10) = true)
    (a11 : PySem.W.nsIn K mainGlobals "_law_deck" = some (some (.ref f11))) (l11 : K.lookup f11 = some ⟨oc11, od11, .func (PySem.W.fnOf "_law_deck" "_law_deck" (defArgs s_l_deck) (defBody s_l_deck) (defScope s_l_deck) .none kV11 dc11 pm11 an11 cd11 ct11), sl11⟩) (c11 : PySem.W.codeIn K cd11 "_law_deck" = true) (k11 : PySem.W.keepIn K (.ref f11) = true)
    (a12 : PySem.W.nsIn K mainGlobals "_law_draw" = some (some (.ref f12))) (l12 : K.lookup f12 = some ⟨oc12, od12, .func (PySem.W.fnOf "_law_draw" "_law_draw" (defArgs s_l_draw) (defBody s_l_draw) (defScope s_l_draw) .none kV12 dc12 pm12 an12 cd12 ct12), sl12⟩) (c12 : PySem.W.codeIn K cd12 "_law_draw" = true) (k12 : PySem.W.keepIn K (.ref f12) = true)
    (a13 : PySem.W.nsIn K mainGlobals "_law_pick" = some (some (.ref f13))) (l13 : K.lookup f13 = some ⟨oc13, od13, .func (PySem.W.fnOf "_law_pick" "_law_pick" (defArgs s_l_pick) (defBody s_l_pick) (defScope s_l_pick) .none kV13 dc13 pm13 an13 cd13 ct13), sl13⟩) (c13 : PySem.W.codeIn K cd13 "_law_pick" = true) (k13 : PySem.W.keepIn K (.ref f13) = true)
    (a14 : PySem.W.nsIn K mainGlobals "_law_number" = some (some (.ref f14))) (l14 : K.lookup f14 = some ⟨oc14, od14, .func (PySem.W.fnOf "_law_number" "_law_number" (defArgs s_l_number) (defBody s_l_number) (defScope s_l_number) .none kV14 dc14 pm14 an14 cd14 ct14), sl14⟩) (c14 : PySem.W.codeIn K cd14 "_law_number" = true) (k14 : PySem.W.keepIn K (.ref f14) = true)
    (a15 : PySem.W.nsIn K mainGlobals "_law_turned" = some (some (.ref f15))) (l15 : K.lookup f15 = some ⟨oc15, od15, .func (PySem.W.fnOf "_law_turned" "_law_turned" (defArgs s_l_turned) (defBody s_l_turned) (defScope s_l_turned) .none kV15 dc15 pm15 an15 cd15 ct15), sl15⟩) (c15 : PySem.W.codeIn K cd15 "_law_turned" = true) (k15 : PySem.W.keepIn K (.ref f15) = true)
    (a16 : PySem.W.nsIn K mainGlobals "_law_walk" = some (some (.ref f16))) (l16 : K.lookup f16 = some ⟨oc16, od16, .func (PySem.W.fnOf "_law_walk" "_law_walk" (defArgs s_l_walk) (defBody s_l_walk) (defScope s_l_walk) .none kV16 dc16 pm16 an16 cd16 ct16), sl16⟩) (c16 : PySem.W.codeIn K cd16 "_law_walk" = true) (k16 : PySem.W.keepIn K (.ref f16) = true)
    (a17 : PySem.W.nsIn K mainGlobals "_law_never" = some (some (.ref f17))) (l17 : K.lookup f17 = some ⟨oc17, od17, .func (PySem.W.fnOf "_law_never" "_law_never" (defArgs s_l_never) (defBody s_l_never) (defScope s_l_never) .none kV17 dc17 pm17 an17 cd17 ct17), sl17⟩) (c17 : PySem.W.codeIn K cd17 "_law_never" = true) (k17 : PySem.W.keepIn K (.ref f17) = true)
    (a18 : PySem.W.nsIn K mainGlobals "_law_power" = some (some (.ref f18))) (l18 : K.lookup f18 = some ⟨oc18, od18, .func (PySem.W.fnOf "_law_power" "_law_power" (defArgs s_l_power) (defBody s_l_power) (defScope s_l_power) .none kV18 dc18 pm18 an18 cd18 ct18), sl18⟩) (c18 : PySem.W.codeIn K cd18 "_law_power" = true) (k18 : PySem.W.keepIn K (.ref f18) = true)
    (a19 : PySem.W.nsIn K mainGlobals "_law_mirror" = some (some (.ref f19))) (l19 : K.lookup f19 = some ⟨oc19, od19, .func (PySem.W.fnOf "_law_mirror" "_law_mirror" (defArgs s_l_mirror) (defBody s_l_mirror) (defScope s_l_mirror) .none kV19 dc19 pm19 an19 cd19 ct19), sl19⟩) (c19 : PySem.W.codeIn K cd19 "_law_mirror" = true) (k19 : PySem.W.keepIn K (.ref f19) = true)
    (a20 : PySem.W.nsIn K mainGlobals "_law_at" = some (some (.ref f20))) (l20 : K.lookup f20 = some ⟨oc20, od20, .func (PySem.W.fnOf "_law_at" "_law_at" (defArgs s_l_at) (defBody s_l_at) (defScope s_l_at) .none kV20 dc20 pm20 an20 cd20 ct20), sl20⟩) (c20 : PySem.W.codeIn K cd20 "_law_at" = true) (k20 : PySem.W.keepIn K (.ref f20) = true)
    (a21 : PySem.W.nsIn K mainGlobals "_law_heard" = some (some (.ref f21))) (l21 : K.lookup f21 = some ⟨oc21, od21, .func (PySem.W.fnOf "_law_heard" "_law_heard" (defArgs s_l_heard) (defBody s_l_heard) (defScope s_l_heard) .none kV21 dc21 pm21 an21 cd21 ct21), sl21⟩) (c21 : PySem.W.codeIn K cd21 "_law_heard" = true) (k21 : PySem.W.keepIn K (.ref f21) = true)
    (a22 : PySem.W.nsIn K mainGlobals "law" = some (some (.ref f22))) (l22 : K.lookup f22 = some ⟨oc22, od22, .func (PySem.W.fnOf "law" "law" (defArgs s_law) (defBody s_law) (defScope s_law) .none kV22 dc22 pm22 an22 cd22 ct22), sl22⟩) (c22 : PySem.W.codeIn K cd22 "law" = true) (k22 : PySem.W.keepIn K (.ref f22) = true)
    (n_abs : PySem.W.nsIn K mainGlobals "abs" = some none)
    (n_int : PySem.W.nsIn K mainGlobals "int" = some none)
    (n_isinstance : PySem.W.nsIn K mainGlobals "isinstance" = some none)
    (n_len : PySem.W.nsIn K mainGlobals "len" = some none)
    (n_range : PySem.W.nsIn K mainGlobals "range" = some none)
    (n_repr : PySem.W.nsIn K mainGlobals "repr" = some none)
    (n_sum : PySem.W.nsIn K mainGlobals "sum" = some none)
    (n_tuple : PySem.W.nsIn K mainGlobals "tuple" = some none)
    (g_BaseError : PySem.W.nsIn K mainGlobals "BaseError" = some (some (.ref C_BaseError)))
    (be_BaseError : PySem.W.subIn K (.ref C_BaseError) (.type "BaseException") = some true)
    (hd_BaseError : PySem.W.hasDictIn K C_BaseError = true)
    (ty_BaseError : PySem.W.typeIn K (.ref C_BaseError) = some (.type "type"))
    (g_Unfit : PySem.W.nsIn K mainGlobals "Unfit" = some (some (.ref C_Unfit)))
    (be_Unfit : PySem.W.subIn K (.ref C_Unfit) (.type "BaseException") = some true)
    (hd_Unfit : PySem.W.hasDictIn K C_Unfit = true)
    (ty_Unfit : PySem.W.typeIn K (.ref C_Unfit) = some (.type "type"))
    (xi_Unfit : PySem.W.excIn K C_Unfit [.type "ValueError", .type "Exception", .type "BaseException", .type "object"] "ValueError.__new__" = true)
    (kp_Unfit : PySem.W.keepIn K (.ref C_Unfit) = true)
    (e1_Unfit : PySem.W.findIn K (.ref C_Unfit) "__getattribute__" = some (some (.builtin "BaseException.__getattribute__")))
    (e2_Unfit : PySem.W.findIn K (.ref C_Unfit) "__getattr__" = some none)
    (e3_Unfit : PySem.W.findIn K (.ref C_Unfit) "__class__" = some (some (.builtin "object.__class__")))
    (e4_Unfit : PySem.W.mroIn K C_Unfit (.type "object") = some true)
    (sb_Unfit_Unfit : PySem.W.subIn K (.ref C_Unfit) (.ref C_Unfit) = some true)
    (e5 : PySem.W.specialIn K (.builtin "object.__class__") "__get__" = some (some (.builtin "getset_descriptor.__get__")))
    (e6 : PySem.W.takesIn K (.builtin "object.__class__") = some true)
    (is_Unfit_BaseError : PySem.W.kitOne K (.ref C_Unfit) (.ref C_BaseError) = some true) :
    ∃ fd : FuncData, (∀ (s : Shared) (v : Value), BindsTo s fd ⟨[v], []⟩ [("script", v)]) ∧ ∀ base : Heap, K.In base → base.Ns mainGlobals mg → FnG l.prog w K mg base CX0 6 fa fd ["script"] (spOf K c_law) := by
  have e := (PySem.W.mg_of X G a22).symm.trans hfa
  cases e
  let T : Top K mg := {
    cl := ⟨C_BaseError, C_Unfit⟩,
    g_BaseError := PySem.W.mg_of X G g_BaseError,
    g_Unfit := PySem.W.mg_of X G g_Unfit,
    xi_Unfit := xi_Unfit, kp_Unfit := kp_Unfit, be_Unfit := be_Unfit, ty_Unfit := ty_Unfit, ec_Unfit := ⟨e1_Unfit, e2_Unfit, be_Unfit, hd_Unfit, e3_Unfit, e5, e6, e4_Unfit⟩,
    ex_Unfit_Unfit := PySem.W.exm_ref be_Unfit hd_Unfit ty_Unfit sb_Unfit_Unfit,
    is_Unfit_BaseError := is_Unfit_BaseError,
    f_value_in := f0, fd_value_in := _, F_value_in := fun_mk (st := s_value_in) l0 c0 k0, m_value_in := PySem.W.mg_of X G a0,
    f_figures := f1, fd_figures := _, F_figures := fun_mk (st := s_figures) l1 c1 k1, m_figures := PySem.W.mg_of X G a1,
    f_raised := f2, fd_raised := _, F_raised := fun_mk (st := s_raised) l2 c2 k2, m_raised := PySem.W.mg_of X G a2,
    f_turned_number := f3, fd_turned_number := _, F_turned_number := fun_mk (st := s_turned_number) l3 c3 k3, m_turned_number := PySem.W.mg_of X G a3,
    f_is_mirrored := f4, fd_is_mirrored := _, F_is_mirrored := fun_mk (st := s_is_mirrored) l4 c4 k4, m_is_mirrored := PySem.W.mg_of X G a4,
    f_turned_walk := f5, fd_turned_walk := _, F_turned_walk := fun_mk (st := s_turned_walk) l5 c5 k5, m_turned_walk := PySem.W.mg_of X G a5,
    f_never_number := f6, fd_never_number := _, F_never_number := fun_mk (st := s_never_number) l6 c6 k6, m_never_number := PySem.W.mg_of X G a6,
    f_mirrored_count := f7, fd_mirrored_count := _, F_mirrored_count := fun_mk (st := s_mirrored_count) l7 c7 k7, m_mirrored_count := PySem.W.mg_of X G a7,
    f_mirrored_of_half := f8, fd_mirrored_of_half := _, F_mirrored_of_half := fun_mk (st := s_mirrored_of_half) l8 c8 k8, m_mirrored_of_half := PySem.W.mg_of X G a8,
    f_mirrored_at := f9, fd_mirrored_at := _, F_mirrored_at := fun_mk (st := s_mirrored_at) l9 c9 k9, m_mirrored_at := PySem.W.mg_of X G a9,
    f_mirrored_place := f10, fd_mirrored_place := _, F_mirrored_place := fun_mk (st := s_mirrored_place) l10 c10 k10, m_mirrored_place := PySem.W.mg_of X G a10,
    f_l_deck := f11, fd_l_deck := _, F_l_deck := fun_mk (st := s_l_deck) l11 c11 k11, m_l_deck := PySem.W.mg_of X G a11,
    f_l_draw := f12, fd_l_draw := _, F_l_draw := fun_mk (st := s_l_draw) l12 c12 k12, m_l_draw := PySem.W.mg_of X G a12,
    f_l_pick := f13, fd_l_pick := _, F_l_pick := fun_mk (st := s_l_pick) l13 c13 k13, m_l_pick := PySem.W.mg_of X G a13,
    f_l_number := f14, fd_l_number := _, F_l_number := fun_mk (st := s_l_number) l14 c14 k14, m_l_number := PySem.W.mg_of X G a14,
    f_l_turned := f15, fd_l_turned := _, F_l_turned := fun_mk (st := s_l_turned) l15 c15 k15, m_l_turned := PySem.W.mg_of X G a15,
    f_l_walk := f16, fd_l_walk := _, F_l_walk := fun_mk (st := s_l_walk) l16 c16 k16, m_l_walk := PySem.W.mg_of X G a16,
    f_l_never := f17, fd_l_never := _, F_l_never := fun_mk (st := s_l_never) l17 c17 k17, m_l_never := PySem.W.mg_of X G a17,
    f_l_power := f18, fd_l_power := _, F_l_power := fun_mk (st := s_l_power) l18 c18 k18, m_l_power := PySem.W.mg_of X G a18,
    f_l_mirror := f19, fd_l_mirror := _, F_l_mirror := fun_mk (st := s_l_mirror) l19 c19 k19, m_l_mirror := PySem.W.mg_of X G a19,
    f_l_at := f20, fd_l_at := _, F_l_at := fun_mk (st := s_l_at) l20 c20 k20, m_l_at := PySem.W.mg_of X G a20,
    f_l_heard := f21, fd_l_heard := _, F_l_heard := fun_mk (st := s_l_heard) l21 c21 k21, m_l_heard := PySem.W.mg_of X G a21,
    f_law := fa, fd_law := _, F_law := fun_mk (st := s_law) l22 c22 k22, m_law := PySem.W.mg_of X G a22,
    n_abs := PySem.W.mg_none_of X G n_abs,
    n_int := PySem.W.mg_none_of X G n_int,
    n_isinstance := PySem.W.mg_none_of X G n_isinstance,
    n_len := PySem.W.mg_none_of X G n_len,
    n_range := PySem.W.mg_none_of X G n_range,
    n_repr := PySem.W.mg_none_of X G n_repr,
    n_sum := PySem.W.mg_none_of X G n_sum,
    n_tuple := PySem.W.mg_none_of X G n_tuple }
  exact ⟨T.fd_law, fun s v => .of_eq rfl, fun base _ _ => ok_law T⟩
end KK
open PySem PySem.W PyProof.Rows in
set_option maxRecDepth 100000 in
set_option maxHeartbeats 0 in
theorem PySem.Challenge.cw_manybases_k77_whole_main_mirrored_number_holds : PySem.Challenge.rw_manybases_k77_whole_main_mirrored_number.Holds := by
  w_on; o_law; k_head; (case hw => w_witness2)
  k_fill
  refine Z.walk (l := PySem.Challenge.rw_manybases_k77_whole_main_mirrored_number) (n := 63) (k := 6) (x := "script") rfl rfl (fun w h Y => PySem.W.kIn_of Y) ⟨rfl, by decide +kernel, by decide +kernel⟩ (by decide) ?F
  case F =>
    intro w mg fa h KX G hmg
    refine' KK.all_mk KX G hmg ?a0 ?l0 ?c0 ?k0 ?a1 ?l1 ?c1 ?k1 ?a2 ?l2 ?c2 ?k2 ?a3 ?l3 ?c3 ?k3 ?a4 ?l4 ?c4 ?k4 ?a5 ?l5 ?c5 ?k5 ?a6 ?l6 ?c6 ?k6 ?a7 ?l7 ?c7 ?k7 ?a8 ?l8 ?c8 ?k8 ?a9 ?l9 ?c9 ?k9 ?a10 ?l10 ?c10 ?k10 ?a11 ?l11 ?c11 ?k11 ?a12 ?l12 ?c12 ?k12 ?a13 ?l13 ?c13 ?k13 ?a14 ?l14 ?c14 ?k14 ?a15 ?l15 ?c15 ?k15 ?a16 ?l16 ?c16 ?k16 ?a17 ?l17 ?c17 ?k17 ?a18 ?l18 ?c18 ?k18 ?a19 ?l19 ?c19 ?k19 ?a20 ?l20 ?c20 ?k20 ?a21 ?l21 ?c21 ?k21 ?a22 ?l22 ?c22 ?k22 ?n_abs ?n_int ?n_isinstance ?n_len ?n_range ?n_repr ?n_sum ?n_tuple ?g_BaseError ?be_BaseError ?hd_BaseError ?ty_BaseError ?g_Unfit ?be_Unfit ?hd_Unfit ?ty_Unfit ?xi_Unfit ?kp_Unfit ?e1_Unfit ?e2_Unfit ?e3_Unfit ?e4_Unfit ?sb_Unfit_Unfit ?e5 ?e6 ?is_Unfit_BaseError
    (case a0 => k_is)
    (case l0 => k_is)
    (case c0 => k_is)
    (case k0 => k_is)
    (case a1 => k_is)
    (case l1 => k_is)
    (case c1 => k_is)
    (case k1 => k_is)
    (case a2 => k_is)
    (case l2 => k_is)
    (case c2 => k_is)
    (case k2 => k_is)
    (case a3 => k_is)
    (case l3 => k_is)
    (case c3 => k_is)
    (case k3 => k_is)
    (case a4 => k_is)
    (case l4 => k_is)
    (case c4 => k_is)
    (case k4 => k_is)
    (case a5 => k_is)
    (case l5 => k_is)
    (case c5 => k_is)
    (case k5 => k_is)
    (case a6 => k_is)
    (case l6 => k_is)
    (case c6 => k_is)
    (case k6 => k_is)
    (case a7 => k_is)
    (case l7 => k_is)
    (case c7 => k_is)
    (case k7 => k_is)
    (case a8 => k_is)
    (case l8 => k_is)
    (case c8 => k_is)
    (case k8 => k_is)
    (case a9 => k_is)
    (case l9 => k_is)
    (case c9 => k_is)
    (case k9 => k_is)
    (case a10 => k_is)
    (case l10 => k_is)
    (case c10 => k_is)
    (case k10 => k_is)
    (case a11 => k_is)
    (case l11 => k_is)
    (case c11 => k_is)
    (case k11 => k_is)
    (case a12 => k_is)
    (case l12 => k_is)
    (case c12 => k_is)
    (case k12 => k_is)
    (case a13 => k_is)
    (case l13 => k_is)
    (case c13 => k_is)
    (case k13 => k_is)
    (case a14 => k_is)
    (case l14 => k_is)
    (case c14 => k_is)
    (case k14 => k_is)
    (case a15 => k_is)
    (case l15 => k_is)
    (case c15 => k_is)
    (case k15 => k_is)
    (case a16 => k_is)
    (case l16 => k_is)
    (case c16 => k_is)
    (case k16 => k_is)
    (case a17 => k_is)
    (case l17 => k_is)
    (case c17 => k_is)
    (case k17 => k_is)
    (case a18 => k_is)
    (case l18 => k_is)
    (case c18 => k_is)
    (case k18 => k_is)
    (case a19 => k_is)
    (case l19 => k_is)
    (case c19 => k_is)
    (case k19 => k_is)
    (case a20 => k_is)
    (case l20 => k_is)
    (case c20 => k_is)
    (case k20 => k_is)
    (case a21 => k_is)
    (case l21 => k_is)
    (case c21 => k_is)
    (case k21 => k_is)
    (case a22 => k_is)
    (case l22 => k_is)
    (case c22 => k_is)
    (case k22 => k_is)
    (case n_abs => k_is)
    (case n_int => k_is)
    (case n_isinstance => k_is)
    (case n_len => k_is)
    (case n_range => k_is)
    (case n_repr => k_is)
    (case n_sum => k_is)
    (case n_tuple => k_is)
    (case g_BaseError => k_is)
    (case be_BaseError => k_is)
    (case hd_BaseError => k_is)
    (case ty_BaseError => k_is)
    (case g_Unfit => k_is)
    (case be_Unfit => k_is)
    (case hd_Unfit => k_is)
    (case ty_Unfit => k_is)
    (case xi_Unfit => k_exc)
    (case kp_Unfit => k_is)
    (case e1_Unfit => k_is)
    (case e2_Unfit => k_is)
    (case e3_Unfit => k_is)
    (case e4_Unfit => k_is)
    (case sb_Unfit_Unfit => first | rfl | k_is)
    (case e5 => k_is)
    (case e6 => k_is)
    (case is_Unfit_BaseError => first | k_is | rfl)
